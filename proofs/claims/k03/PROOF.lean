import PyProof.Rows.All
import Wide.All
import OpenK.AllK
import Wide.FinOn
import HandS.ForMost
import HandS.ForExc
import HandS.TupAny
import HandS.TupMul
import HandS.Wide
import HandS.IsInst
import HandS.SortInts
import HandS.Zip
import HandS.Conv
import HandS.WideBits
import HandS.Style
import HandS.Walk
import HandS.ExcOwn
import KE.GoesEnum
import HandS.TupLe
import HandS.SetFor
import KE.OsArith
import KE.BitLaws
import KE.KSort
import PySem.Challenge.RW_enoughchecks_k03_whole_ways_judged_and_p
set_option Elab.async false
set_option linter.all false
set_option maxRecDepth 100000
set_option maxHeartbeats 4000000
/-! EC0: data without the heap, what stands for it, steps. -/
namespace EC
open PySem PySem.Spec PyProof.Rows L2
abbrev Fg := PySem.W.Frag
/-- the written part, and the class objects by numbers of our own -/
structure Kc where
  K : Fg
  cl : Nat → Addr
inductive D where
  | non | bl (b : Bool) | int (i : Int) | str (s : Str)
  | tup (ds : List D) | lst (ds : List D)
  | ins (c : Nat) (fs : List (Str × D))
  | scr (ns : List Int)
  | dic (ks : List (Key × D))
/-- what a field of an instance of one's own holds -/
inductive O where
  | fr (d : D)
  | ol (ds : List D)
  | o2 (dss : List (List D))
/-- what a slot holds: data that never changes, or a list of its own (lent: of a caller's), a list of lists, an instance -/
inductive T where
  | fr (d : D)
  | ow (l : Bool) (ds : List D)
  | o2 (dss : List (List D))
  | oi (l : Bool) (c : Nat) (fs : List (Str × O))
/-- lent: of which kind -/
def T.kind : T → Option (Option Nat)
  | .ow true _ => some none
  | .oi true c _ => some (some c)
  | _ => none
def O.frz : O → D
  | .fr d => d
  | .ol ds => .lst ds
  | .o2 dss => .lst (dss.map .lst)
abbrev Env := List (Option T)
/-- an exception: its class, its fields -/
structure Exn where
  c : Nat
  fs : List (Str × D)
/-! ### heaps -/
/-- what stands in A stands in B -/
def Ex (A B : Hp) : Prop := ∀ p u, A p = some u → B p = some u
theorem Ex.refl (A : Hp) : Ex A A := fun _ _ k => k
theorem Ex.trans {A B C : Hp} (j : Ex A B) (k : Ex B C) : Ex A C := fun p u z => k p u (j p u z)
theorem Ex.new {A : Hp} {p : Addr} {o : HO} (free : A p = none) : Ex A (upd A p o) := fun q v z => by
  rw [upd_ne (ne_of_none z free)]
  exact z
theorem Ex.rd {H H' : Hp} {a : Addr} {u : HO} (e : Ex H H') (h : Rd H a u) : Rd H' a u := by
  rcases h with h | ⟨o, h⟩
  · exact Or.inl (e a _ h)
  · exact Or.inr ⟨o, e a _ h⟩
theorem Ex.l {K : Fg} {H H' : Hp} {a : Addr} {xs : List V} (e : Ex H H') (h : SqL K H a xs) : SqL K H' a xs := by
  rcases h with h | h
  · exact Or.inl (e.rd h)
  · exact Or.inr h
theorem Ex.t {K : Fg} {H H' : Hp} {a : Addr} {xs : List V} (e : Ex H H') (h : SqT K H a xs) : SqT K H' a xs := by
  rcases h with h | h
  · exact Or.inl (e.rd h)
  · exact Or.inr h
theorem Ex.back {H H' : Hp} {p : Addr} (e : Ex H H') (h : H' p = none) : H p = none := by
  cases h1 : H p with
  | none => rfl
  | some o =>
    rw [e p o h1] at h
    cases h
/-! ### what stands for data -/
mutual
inductive Dn (K : Kc) (B : Hp) : V → D → Prop
  | non : Dn K B .non .non
  | bl (b : Bool) : Dn K B (.bl b) (.bl b)
  | int (i : Int) : Dn K B (.int i) (.int i)
  | str (x : Str) : Dn K B (.str x) (.str x)
  | lst {a : Addr} {xs : List V} {ds : List D} : B a = some (.lst xs) → DnL K B xs ds → Dn K B (.ref a) (.lst ds)
  | tup {a : Addr} {xs : List V} {ds : List D} : B a = some (.tup xs) → DnL K B xs ds → Dn K B (.ref a) (.tup ds)
  | ins {a dx : Addr} {c : Nat} {fs : List (Str × V)} {es : List (Str × D)} : B a = some (.ins (K.cl c) dx fs) → DnF K B fs es → Dn K B (.ref a) (.ins c es)
  | scr {a : Addr} {ns : List Int} : SqL K.K B a (ns.map V.int) → Dn K B (.ref a) (.scr ns)
  | dic {a : Addr} {kvs : List (Key × V)} {ks : List (Key × D)} : B a = some (.dK kvs) → DnM K B kvs ks → Dn K B (.ref a) (.dic ks)
inductive DnL (K : Kc) (B : Hp) : List V → List D → Prop
  | nil : DnL K B [] []
  | cons {v : V} {vs : List V} {d : D} {ds : List D} : Dn K B v d → DnL K B vs ds → DnL K B (v :: vs) (d :: ds)
inductive DnF (K : Kc) (B : Hp) : List (Str × V) → List (Str × D) → Prop
  | nil : DnF K B [] []
  | cons {f : Str} {v : V} {vs : List (Str × V)} {d : D} {ds : List (Str × D)} : Dn K B v d → DnF K B vs ds → DnF K B ((f, v) :: vs) ((f, d) :: ds)
inductive DnM (K : Kc) (B : Hp) : List (Key × V) → List (Key × D) → Prop
  | nil : DnM K B [] []
  | cons {f : Key} {v : V} {vs : List (Key × V)} {d : D} {ds : List (Key × D)} : Dn K B v d → DnM K B vs ds → DnM K B ((f, v) :: vs) ((f, d) :: ds)
end
mutual
theorem Dn.mono {K : Kc} {B B' : Hp} (e : Ex B B') : ∀ {v : V} {d : D}, Dn K B v d → Dn K B' v d
  | _, _, .non => .non
  | _, _, .bl b => .bl b
  | _, _, .int i => .int i
  | _, _, .str x => .str x
  | _, _, .lst h r => .lst (e _ _ h) (DnL.mono e r)
  | _, _, .tup h r => .tup (e _ _ h) (DnL.mono e r)
  | _, _, .ins h r => .ins (e _ _ h) (DnF.mono e r)
  | _, _, .scr h => .scr (e.l h)
  | _, _, .dic h r => .dic (e _ _ h) (DnM.mono e r)
theorem DnL.mono {K : Kc} {B B' : Hp} (e : Ex B B') : ∀ {v : List V} {d : List D}, DnL K B v d → DnL K B' v d
  | _, _, .nil => .nil
  | _, _, .cons h r => .cons (Dn.mono e h) (DnL.mono e r)
theorem DnF.mono {K : Kc} {B B' : Hp} (e : Ex B B') : ∀ {v : List (Str × V)} {d : List (Str × D)}, DnF K B v d → DnF K B' v d
  | _, _, .nil => .nil
  | _, _, .cons h r => .cons (Dn.mono e h) (DnF.mono e r)
theorem DnM.mono {K : Kc} {B B' : Hp} (e : Ex B B') : ∀ {v : List (Key × V)} {d : List (Key × D)}, DnM K B v d → DnM K B' v d
  | _, _, .nil => .nil
  | _, _, .cons h r => .cons (Dn.mono e h) (DnM.mono e r)
end
section
variable {K : Kc} {B : Hp}
theorem DnL.length : ∀ {vs : List V} {ds : List D}, DnL K B vs ds → vs.length = ds.length
  | _, _, .nil => rfl
  | _, _, .cons _ r => congrArg (· + 1) (DnL.length r)
theorem DnL.append : ∀ {vs us : List V} {ds es : List D}, DnL K B vs ds → DnL K B us es → DnL K B (vs ++ us) (ds ++ es)
  | _, _, _, _, .nil, s => s
  | _, _, _, _, .cons h r, s => .cons h (DnL.append r s)
theorem DnL.get : ∀ {vs : List V} {ds : List D} {i : Nat} {d : D}, DnL K B vs ds → ds[i]? = some d → ∃ v, vs[i]? = some v ∧ Dn K B v d
  | _, _, _, _, .nil, e => absurd e (by simp)
  | _, _, 0, _, .cons h _, e => by
    simp at e
    subst e
    exact ⟨_, rfl, h⟩
  | _, _, i + 1, d, .cons _ r, e => by
    obtain ⟨v, h1, h2⟩ := DnL.get (i := i) (d := d) r (by simpa using e)
    exact ⟨v, by simpa using h1, h2⟩
theorem DnL.getV : ∀ {vs : List V} {ds : List D} {i : Nat} {v : V}, DnL K B vs ds → vs[i]? = some v → ∃ d, ds[i]? = some d ∧ Dn K B v d
  | _, _, _, _, .nil, e => absurd e (by simp)
  | _, _, 0, _, .cons h _, e => by
    simp at e
    subst e
    exact ⟨_, rfl, h⟩
  | _, _, i + 1, d, .cons _ r, e => by
    obtain ⟨v, h1, h2⟩ := DnL.getV (i := i) (v := d) r (by simpa using e)
    exact ⟨v, by simpa using h1, h2⟩
theorem DnL.set {v : V} {d : D} (h : Dn K B v d) : ∀ {vs : List V} {ds : List D} (i : Nat), DnL K B vs ds → DnL K B (vs.set i v) (ds.set i d)
  | _, _, _, .nil => .nil
  | _, _, 0, .cons _ r => .cons h r
  | _, _, i + 1, .cons q r => .cons q (DnL.set h i r)
theorem DnL.erase : ∀ {vs : List V} {ds : List D} (i : Nat), DnL K B vs ds → DnL K B (vs.eraseIdx i) (ds.eraseIdx i)
  | _, _, _, .nil => .nil
  | _, _, 0, .cons _ r => r
  | _, _, i + 1, .cons q r => .cons q (DnL.erase i r)
theorem DnL.take : ∀ {vs : List V} {ds : List D} (n : Nat), DnL K B vs ds → DnL K B (vs.take n) (ds.take n)
  | _, _, 0, _ => .nil
  | _, _, _ + 1, .nil => .nil
  | _, _, n + 1, .cons r t => .cons r (DnL.take n t)
theorem DnL.drop : ∀ {vs : List V} {ds : List D} (n : Nat), DnL K B vs ds → DnL K B (vs.drop n) (ds.drop n)
  | _, _, 0, r => r
  | _, _, _ + 1, .nil => .nil
  | _, _, n + 1, .cons _ t => DnL.drop n t
theorem DnL.reverse {vs : List V} {ds : List D} (h : DnL K B vs ds) : DnL K B vs.reverse ds.reverse := by
  induction h using DnL.rec (motive_1 := fun _ _ _ => True) (motive_3 := fun _ _ _ => True) (motive_4 := fun _ _ _ => True) with
  | nil => exact .nil
  | cons h r _ ih =>
    rw [List.reverse_cons, List.reverse_cons]
    exact ih.append (.cons h .nil)
  | _ => trivial
theorem DnL.rep {vs : List V} {ds : List D} (h : DnL K B vs ds) : ∀ k : Nat, DnL K B (List.replicate k vs).flatten (List.replicate k ds).flatten
  | 0 => .nil
  | k + 1 => by
    rw [List.replicate_succ, List.replicate_succ, List.flatten_cons, List.flatten_cons]
    exact h.append (DnL.rep h k)
theorem DnL.ints : ∀ {vs : List V} {ns : List Int}, DnL K B vs (ns.map D.int) → vs = ns.map V.int
  | [], [], _ => rfl
  | _ :: _, _ :: _, .cons h r => by
    cases h
    rw [DnL.ints r] <;> rfl
theorem DnL.ofInts : ∀ ns : List Int, DnL K B (ns.map V.int) (ns.map D.int)
  | [] => .nil
  | n :: r => .cons (.int n) (DnL.ofInts r)
theorem DnL.bls : ∀ {vs : List V} {ns : List Bool}, DnL K B vs (ns.map D.bl) → vs = ns.map V.bl
  | [], [], _ => rfl
  | _ :: _, _ :: _, .cons h r => by
    cases h
    rw [DnL.bls r] <;> rfl
theorem DnF.look : ∀ {vs : List (Str × V)} {ds : List (Str × D)} {f : Str} {d : D}, DnF K B vs ds → ds.lookup f = some d → ∃ v, vs.lookup f = some v ∧ Dn K B v d
  | _, _, _, _, .nil, e => absurd e (by simp)
  | (g, v) :: vs, (_, d') :: ds, f, d, .cons h r, e => by
    rw [List.lookup_cons] at e ⊢
    cases q : f == g with
    | true =>
      rw [q] at e
      have e' : d' = d := Option.some.inj e
      subst e'
      exact ⟨v, rfl, h⟩
    | false =>
      rw [q] at e
      exact DnF.look r e
theorem DnF.lookN : ∀ {vs : List (Str × V)} {ds : List (Str × D)} {f : Str}, DnF K B vs ds → ds.lookup f = none → vs.lookup f = none
  | _, _, _, .nil, e => rfl
  | (g, v) :: vs, (_, d') :: ds, f, .cons h r, e => by
    rw [List.lookup_cons] at e ⊢
    cases q : f == g with
    | true =>
      rw [q] at e
      cases e
    | false =>
      rw [q] at e
      exact DnF.lookN r e
end
/-! ### what a slot holds -/
inductive LL (K : Kc) (B H : Hp) : List Addr → List (List D) → Prop
  | nil : LL K B H [] []
  | cons {r : Addr} {rs : List Addr} {xs : List V} {ds : List D} {dss : List (List D)} : H r = some (.lst xs) → DnL K B xs ds → LL K B H rs dss → LL K B H (r :: rs) (ds :: dss)
inductive OwO (K : Kc) (B H : Hp) : V → O → List Addr → Prop
  | fr {v : V} {d : D} : Dn K B v d → OwO K B H v (.fr d) []
  | ol {p : Addr} {xs : List V} {ds : List D} : H p = some (.lst xs) → DnL K B xs ds → OwO K B H (.ref p) (.ol ds) [p]
  | o2 {p : Addr} {rs : List Addr} {dss : List (List D)} : H p = some (.lst (rs.map .ref)) → LL K B H rs dss → OwO K B H (.ref p) (.o2 dss) (p :: rs)
inductive OwF (K : Kc) (B H : Hp) : List (Str × V) → List (Str × O) → List Addr → Prop
  | nil : OwF K B H [] [] []
  | cons {n : Str} {v : V} {o : O} {f g : List Addr} {vs : List (Str × V)} {os : List (Str × O)} : OwO K B H v o f → OwF K B H vs os g → OwF K B H ((n, v) :: vs) ((n, o) :: os) (f ++ g)
inductive Ow (K : Kc) (B H : Hp) : V → T → List Addr → Prop
  | fr {v : V} {d : D} : Dn K B v d → Ow K B H v (.fr d) []
  | ow {p : Addr} {xs : List V} {ds : List D} {l : Bool} : H p = some (.lst xs) → DnL K B xs ds → Ow K B H (.ref p) (.ow l ds) [p]
  | o2 {p : Addr} {rs : List Addr} {dss : List (List D)} : H p = some (.lst (rs.map .ref)) → LL K B H rs dss → Ow K B H (.ref p) (.o2 dss) (p :: rs)
  | oi {p dx : Addr} {c : Nat} {l : Bool} {vs : List (Str × V)} {fs : List (Str × O)} {f : List Addr} : H p = some (.ins (K.cl c) dx vs) → OwF K B H vs fs f → Ow K B H (.ref p) (.oi l c fs) (p :: f)
inductive Sl (K : Kc) (B H : Hp) : L2.St → Env → List Addr → Prop
  | nil : Sl K B H [] [] []
  | non {o : Option V} {σ : L2.St} {τ : Env} {F : List Addr} : Sl K B H σ τ F → Sl K B H (o :: σ) (none :: τ) F
  | cons {v : V} {t : T} {f : List Addr} {σ : L2.St} {τ : Env} {F : List Addr} : Ow K B H v t f → Sl K B H σ τ F → Sl K B H (some v :: σ) (some t :: τ) (f ++ F)
section
variable {K : Kc} {B B' H H' : Hp} {σ : L2.St} {τ : Env} {F f : List Addr} {v : V} {t : T}
theorem LL.mono (e : Ex B B') {rs : List Addr} {dss : List (List D)} (h : LL K B H rs dss) : (∀ a ∈ rs, H' a = H a) → LL K B' H' rs dss := by
  induction h with
  | nil => exact fun _ => .nil
  | cons h1 r _ ih => exact fun k => .cons ((k _ List.mem_cons_self).trans h1) (r.mono e) (ih fun a z => k a (List.mem_cons_of_mem _ z))
theorem LL.there {rs : List Addr} {dss : List (List D)} (h : LL K B H rs dss) : ∀ a ∈ rs, ∃ o, H a = some o := by
  induction h with
  | nil => exact fun _ z => nomatch z
  | cons h1 r _ ih => exact fun a z => (List.mem_cons.mp z).elim (fun e => e ▸ ⟨_, h1⟩) (ih a)
theorem OwO.mono {o : O} (e : Ex B B') (k : ∀ a ∈ f, H' a = H a) (h : OwO K B H v o f) : OwO K B' H' v o f := by
  cases h with
  | fr h => exact .fr (h.mono e)
  | ol h r => exact .ol ((k _ List.mem_cons_self).trans h) (r.mono e)
  | o2 h r => exact .o2 ((k _ List.mem_cons_self).trans h) (r.mono e fun a z => k a (List.mem_cons_of_mem _ z))
theorem OwO.there {o : O} (h : OwO K B H v o f) : ∀ a ∈ f, ∃ o, H a = some o := by
  cases h with
  | fr h => exact fun _ z => nomatch z
  | ol h r => exact fun a z => (List.mem_singleton.mp z) ▸ ⟨_, h⟩
  | o2 h r => exact fun a z => (List.mem_cons.mp z).elim (fun e => e ▸ ⟨_, h⟩) (r.there a)
theorem OwF.mono {vs : List (Str × V)} {os : List (Str × O)} (e : Ex B B') (h : OwF K B H vs os f) : (∀ a ∈ f, H' a = H a) → OwF K B' H' vs os f := by
  induction h with
  | nil => exact fun _ => .nil
  | cons o _ ih => exact fun k => .cons (o.mono e fun a z => k a (List.mem_append_left _ z)) (ih fun a z => k a (List.mem_append_right _ z))
theorem OwF.there {vs : List (Str × V)} {os : List (Str × O)} (h : OwF K B H vs os f) : ∀ a ∈ f, ∃ o, H a = some o := by
  induction h with
  | nil => exact fun _ z => nomatch z
  | cons o _ ih => exact fun a z => (List.mem_append.mp z).elim (o.there a) (ih a)
theorem Ow.mono (e : Ex B B') (k : ∀ a ∈ f, H' a = H a) (h : Ow K B H v t f) : Ow K B' H' v t f := by
  cases h with
  | fr h => exact .fr (h.mono e)
  | ow h r => exact .ow ((k _ List.mem_cons_self).trans h) (r.mono e)
  | o2 h r => exact .o2 ((k _ List.mem_cons_self).trans h) (r.mono e fun a z => k a (List.mem_cons_of_mem _ z))
  | oi h r => exact .oi ((k _ List.mem_cons_self).trans h) (r.mono e fun a z => k a (List.mem_cons_of_mem _ z))
theorem Ow.there (h : Ow K B H v t f) : ∀ a ∈ f, ∃ o, H a = some o := by
  cases h with
  | fr h => exact fun _ z => nomatch z
  | ow h r => exact fun a z => (List.mem_singleton.mp z) ▸ ⟨_, h⟩
  | o2 h r => exact fun a z => (List.mem_cons.mp z).elim (fun e => e ▸ ⟨_, h⟩) (r.there a)
  | oi h r => exact fun a z => (List.mem_cons.mp z).elim (fun e => e ▸ ⟨_, h⟩) (r.there a)
/-! ### shut: what is held becomes data -/
def frz : T → D
  | .fr d => d
  | .ow _ ds => .lst ds
  | .o2 dss => .lst (dss.map .lst)
  | .oi _ c fs => .ins c (fs.map fun p => (p.1, p.2.frz))
/-- B with the cells f of H -/
def shutB (B H : Hp) (f : List Addr) : Hp := fun a => if a ∈ f then H a else B a
theorem shutB_ex (df : ∀ a ∈ f, B a = none) : Ex B (shutB B H f) := fun a o h => by
  unfold shutB
  rw [if_neg fun z => by rw [df a z] at h; cases h]
  exact h
theorem shutB_le (e : Ex B H) : Ex (shutB B H f) H := fun a o h => by
  unfold shutB at h
  split at h
  · exact h
  · exact e a o h
theorem shutB_at {a : Addr} (h : a ∈ f) : shutB B H f a = H a := if_pos h
theorem LL.dn {G : Hp} (e : Ex B G) {rs : List Addr} {dss : List (List D)} (h : LL K B H rs dss) : (∀ a ∈ rs, G a = H a) → DnL K G (rs.map .ref) (dss.map .lst) := by
  induction h with
  | nil => exact fun _ => .nil
  | cons h1 r _ ih => exact fun k => .cons (.lst ((k _ List.mem_cons_self).trans h1) (r.mono e)) (ih fun a z => k a (List.mem_cons_of_mem _ z))
theorem OwO.dn {G : Hp} {o : O} (e : Ex B G) (h : OwO K B H v o f) (k : ∀ a ∈ f, G a = H a) : Dn K G v o.frz := by
  cases h with
  | fr h => exact h.mono e
  | ol h r => exact .lst ((k _ List.mem_cons_self).trans h) (r.mono e)
  | o2 h r => exact .lst ((k _ List.mem_cons_self).trans h) (r.dn e fun a z => k a (List.mem_cons_of_mem _ z))
theorem OwF.dn {G : Hp} {vs : List (Str × V)} {os : List (Str × O)} (e : Ex B G) (h : OwF K B H vs os f) : (∀ a ∈ f, G a = H a) → DnF K G vs (os.map fun p => (p.1, p.2.frz)) := by
  induction h with
  | nil => exact fun _ => .nil
  | cons o _ ih => exact fun k => .cons (o.dn e fun a z => k a (List.mem_append_left _ z)) (ih fun a z => k a (List.mem_append_right _ z))
theorem Ow.dn {G : Hp} (e : Ex B G) (h : Ow K B H v t f) (k : ∀ a ∈ f, G a = H a) : Dn K G v (frz t) := by
  cases h with
  | fr h => exact h.mono e
  | ow h r => exact .lst ((k _ List.mem_cons_self).trans h) (r.mono e)
  | o2 h r => exact .lst ((k _ List.mem_cons_self).trans h) (r.dn e fun a z => k a (List.mem_cons_of_mem _ z))
  | oi h r => exact .ins ((k _ List.mem_cons_self).trans h) (r.dn e fun a z => k a (List.mem_cons_of_mem _ z))
theorem Sl.mono (e : Ex B B') (h : Sl K B H σ τ F) : (∀ a ∈ F, H' a = H a) → Sl K B' H' σ τ F := by
  induction h with
  | nil => exact fun _ => .nil
  | non _ ih => exact fun k => .non (ih k)
  | cons o _ ih => exact fun k => .cons (o.mono e fun a z => k a (List.mem_append_left _ z)) (ih fun a z => k a (List.mem_append_right _ z))
theorem Sl.there (h : Sl K B H σ τ F) : ∀ a ∈ F, ∃ o, H a = some o := by
  induction h with
  | nil => exact fun _ z => nomatch z
  | non _ ih => exact ih
  | cons o _ ih =>
    intro a ha
    rcases List.mem_append.mp ha with z | z
    · exact o.there a z
    · exact ih a z
theorem Sl.len (h : Sl K B H σ τ F) : σ.length = τ.length := by
  induction h with
  | nil => rfl
  | non _ ih => exact congrArg (· + 1) ih
  | cons o _ ih => exact congrArg (· + 1) ih
/-- slot i, apart from the others -/
theorem Sl.focus (h : Sl K B H σ τ F) : ∀ {i : Nat} {t : T}, τ[i]? = some (some t) → ∃ v F1 f F2, σ[i]? = some (some v) ∧ Ow K B H v t f ∧ F = F1 ++ (f ++ F2) ∧
    ∀ (B' H' : Hp) (o : Option V) (t' : Option T) (f' : List Addr), Ex B B' → (∀ a ∈ F1 ++ F2, H' a = H a) → ((t' = none ∧ f' = []) ∨ ∃ v' u, o = some v' ∧ t' = some u ∧ Ow K B' H' v' u f') → Sl K B' H' (σ.set i o) (τ.set i t') (F1 ++ (f' ++ F2)) := by
  induction h with
  | nil => intro i t e; simp at e
  | @non o σ τ F h ih =>
    intro i t e
    cases i with
    | zero => simp at e
    | succ i =>
      obtain ⟨v, F1, f, F2, h1, h2, h3, h4⟩ := ih (i := i) (t := t) (by simpa using e)
      exact ⟨v, F1, f, F2, by simpa using h1, h2, h3, fun B' H' o' t' f' e k w => .non (h4 B' H' o' t' f' e k w)⟩
  | @cons v0 t0 f0 σ τ F o0 h ih =>
    intro i t e
    cases i with
    | zero =>
      have e' : t0 = t := by simpa using e
      subst e'
      refine ⟨v0, [], f0, F, rfl, o0, rfl, fun B' H' o' t' f' e k w => ?_⟩
      have hs : Sl K B' H' σ τ F := h.mono e fun a z => k a (by simpa using z)
      rcases w with ⟨rfl, rfl⟩ | ⟨v', u, rfl, rfl, w⟩
      · exact .non hs
      · show Sl K B' H' _ _ (f' ++ F)
        exact .cons w hs
    | succ i =>
      obtain ⟨v, F1, f, F2, h1, h2, h3, h4⟩ := ih (i := i) (t := t) (by simpa using e)
      refine ⟨v, f0 ++ F1, f, F2, by simpa using h1, h2, by rw [h3, List.append_assoc], fun B' H' o' t' f' e k w => ?_⟩
      rw [List.append_assoc]
      exact .cons (o0.mono e fun a z => k a (List.mem_append_left _ (List.mem_append_left _ z))) (h4 B' H' o' t' f' e (fun a z => k a (by
        rcases List.mem_append.mp z with z | z
        · exact List.mem_append_left _ (List.mem_append_right _ z)
        · exact List.mem_append_right _ z)) w)
/-- .. also where the slot holds nothing that is told -/
theorem Sl.focusN (h : Sl K B H σ τ F) : ∀ {i : Nat}, i < τ.length → ∃ F1 f F2, F = F1 ++ (f ++ F2) ∧ ((τ[i]? = some none ∧ f = []) ∨ ∃ v t, σ[i]? = some (some v) ∧ τ[i]? = some (some t) ∧ Ow K B H v t f) ∧
    ∀ (B' H' : Hp) (o : Option V) (t' : Option T) (f' : List Addr), Ex B B' → (∀ a ∈ F1 ++ F2, H' a = H a) → ((t' = none ∧ f' = []) ∨ ∃ v' u, o = some v' ∧ t' = some u ∧ Ow K B' H' v' u f') → Sl K B' H' (σ.set i o) (τ.set i t') (F1 ++ (f' ++ F2)) := by
  induction h with
  | nil => intro i e; simp at e
  | @non o σ τ F h ih =>
    intro i e
    cases i with
    | zero =>
      refine ⟨[], [], F, rfl, .inl ⟨rfl, rfl⟩, fun B' H' o' t' f' e k w => ?_⟩
      have hs : Sl K B' H' σ τ F := h.mono e fun a z => k a (by simpa using z)
      rcases w with ⟨rfl, rfl⟩ | ⟨v', u, rfl, rfl, w⟩
      · exact .non hs
      · show Sl K B' H' _ _ (f' ++ F)
        exact .cons w hs
    | succ i =>
      obtain ⟨F1, f, F2, h1, h2, h4⟩ := ih (i := i) (by simpa using e)
      exact ⟨F1, f, F2, h1, by simpa using h2, fun B' H' o' t' f' e k w => .non (h4 B' H' o' t' f' e k w)⟩
  | @cons v0 t0 f0 σ τ F o0 h ih =>
    intro i e
    cases i with
    | zero =>
      refine ⟨[], f0, F, rfl, .inr ⟨v0, t0, rfl, rfl, o0⟩, fun B' H' o' t' f' e k w => ?_⟩
      have hs : Sl K B' H' σ τ F := h.mono e fun a z => k a (by simpa using z)
      rcases w with ⟨rfl, rfl⟩ | ⟨v', u, rfl, rfl, w⟩
      · exact .non hs
      · show Sl K B' H' _ _ (f' ++ F)
        exact .cons w hs
    | succ i =>
      obtain ⟨F1, f, F2, h1, h2, h4⟩ := ih (i := i) (by simpa using e)
      refine ⟨f0 ++ F1, f, F2, by rw [h1, List.append_assoc], by simpa using h2, fun B' H' o' t' f' e k w => ?_⟩
      rw [List.append_assoc]
      exact .cons (o0.mono e fun a z => k a (List.mem_append_left _ (List.mem_append_left _ z))) (h4 B' H' o' t' f' e (fun a z => k a (by
        rcases List.mem_append.mp z with z | z
        · exact List.mem_append_left _ (List.mem_append_right _ z)
        · exact List.mem_append_right _ z)) w)
end
/-! ### a state; a step of it -/
structure Rel (K : Kc) (B H : Hp) (σ : L2.St) (τ : Env) (F : List Addr) : Prop where
  ex : Ex B H
  sl : Sl K B H σ τ F
  nd : F.Nodup
  df : ∀ a ∈ F, B a = none
structure Stp (B H : Hp) (F : List Addr) (B' H' : Hp) (F' : List Addr) : Prop where
  b : Ex B B'
  h : ∀ a o, H a = some o → a ∉ F → H' a = some o
  f : ∀ a ∈ F', a ∈ F ∨ H a = none
  n : ∀ a o, B' a = some o → (∃ u, B a = some u) ∨ a ∈ F ∨ H a = none
structure Lent (σ : L2.St) (τ : Env) (σ' : L2.St) (τ' : Env) : Prop where
  len : τ'.length = τ.length
  at_ : ∀ (i : Nat) t k, τ[i]? = some (some t) → t.kind = some k → σ'[i]? = σ[i]? ∧ ∃ t', τ'[i]? = some (some t') ∧ t'.kind = some k
theorem Lent.refl (σ : L2.St) (τ : Env) : Lent σ τ σ τ := ⟨rfl, fun i t k h e => ⟨rfl, t, h, e⟩⟩
theorem Lent.trans {σ σ1 σ2 : L2.St} {τ τ1 τ2 : Env} (a : Lent σ τ σ1 τ1) (b : Lent σ1 τ1 σ2 τ2) : Lent σ τ σ2 τ2 := ⟨b.len.trans a.len, fun i t k h e => by
  obtain ⟨e1, t1, h1, k1⟩ := a.at_ i t k h e
  obtain ⟨e2, t2, h2, k2⟩ := b.at_ i t1 k h1 k1
  exact ⟨e2.trans e1, t2, h2, k2⟩⟩
/-- a slot that is not lent, or keeps its kind -/
theorem Lent.set {σ : L2.St} {τ : Env} {i : Nat} {o : Option V} {t0 t : Option T} (h : τ[i]? = some t0) (hk : ∀ u k, t0 = some u → u.kind = some k → σ[i]? = some o ∧ ∃ u', t = some u' ∧ u'.kind = some k) : Lent σ τ (σ.set i o) (τ.set i t) :=
  ⟨List.length_set, fun j u k hj e => by
    by_cases hij : i = j
    · subst hij
      rw [h] at hj
      cases hj
      obtain ⟨h1, u', h2, h3⟩ := hk u k rfl e
      subst h2
      refine ⟨?_, u', by rw [List.getElem?_set_self (List.getElem?_eq_some_iff.mp h).1], h3⟩
      rw [h1, List.getElem?_set_self (List.getElem?_eq_some_iff.mp h1).1]
    · rw [List.getElem?_set_ne hij, List.getElem?_set_ne hij]
      exact ⟨rfl, u, hj, e⟩⟩
theorem Stp.refl {B H : Hp} {F : List Addr} : Stp B H F B H F := ⟨Ex.refl B, fun _ _ h _ => h, fun _ h => .inl h, fun a o h => .inl ⟨o, h⟩⟩
theorem Stp.trans {B H B1 H1 B2 H2 : Hp} {F F1 F2 : List Addr} (x : Stp B H F B1 H1 F1) (y : Stp B1 H1 F1 B2 H2 F2) : Stp B H F B2 H2 F2 := by
  have free : ∀ a, H1 a = none → a ∈ F ∨ H a = none := fun a h => by
    by_cases ha : a ∈ F
    · exact .inl ha
    · cases q : H a with
      | none => exact .inr rfl
      | some o =>
        rw [x.h a o q ha] at h
        cases h
  refine ⟨x.b.trans y.b, fun a o h hf => ?_, fun a h => ?_, fun a o h => ?_⟩
  · refine y.h a o (x.h a o h hf) fun z => ?_
    rcases x.f a z with z | z
    · exact hf z
    · rw [h] at z
      cases z
  · rcases y.f a h with z | z
    · exact x.f a z
    · exact free a z
  · rcases y.n a o h with ⟨u, z⟩ | z | z
    · exact x.n a u z
    · exact .inr (x.f a z)
    · exact .inr (free a z)
/-- fewer of one's own behind -/
theorem Stp.less {B H B' H' : Hp} {F F' G : List Addr} (x : Stp B H F B' H' F') (h : ∀ a ∈ G, a ∈ F') : Stp B H F B' H' G := ⟨x.b, x.h, fun a z => x.f a (h a z), x.n⟩
theorem Stp.more {B H B' H' : Hp} {F F' G : List Addr} (x : Stp B H F B' H' F') (h : ∀ a ∈ F, a ∈ G) : Stp B H G B' H' F' :=
  ⟨x.b, fun a o e z => x.h a o e fun y => z (h a y), fun a z => (x.f a z).imp_left (h a), fun a o z => (x.n a o z).imp_right (Or.imp_left (h a))⟩
/-- what is of others stays, and stays of others -/
theorem Stp.frame {B H B' H' : Hp} {F F' G : List Addr} (x : Stp B H F B' H' F') (there : ∀ a ∈ G, ∃ o, H a = some o) (apart : ∀ a ∈ G, a ∉ F) (df : ∀ a ∈ G, B a = none) :
    (∀ a ∈ G, H' a = H a) ∧ (∀ a ∈ G, a ∉ F') ∧ ∀ a ∈ G, B' a = none := by
  refine ⟨fun a ha => ?_, fun a ha z => ?_, fun a ha => ?_⟩
  · obtain ⟨o, e⟩ := there a ha
    rw [x.h a o e (apart a ha), e]
  · obtain ⟨o, e⟩ := there a ha
    rcases x.f a z with z | z
    · exact apart a ha z
    · rw [e] at z
      cases z
  · cases q : B' a with
    | none => rfl
    | some o =>
      obtain ⟨o', e⟩ := there a ha
      rcases x.n a o q with ⟨u, z⟩ | z | z
      · rw [df a ha] at z
        cases z
      · exact absurd z (apart a ha)
      · rw [e] at z
        cases z
/-- a step: from (B, H, σ, τ, F) to (B', H', σ', τ', F'), f besides -/
structure Nx (K : Kc) (B H : Hp) (σ : L2.St) (τ : Env) (F : List Addr) (B' H' : Hp) (σ' : L2.St) (τ' : Env) (F' f : List Addr) : Prop where
  rel : Rel K B' H' σ' τ' F'
  stp : Stp B H F B' H' (F' ++ f)
  len : Lent σ τ σ' τ'
section
variable {K : Kc} {B H B1 H1 B2 H2 : Hp} {σ σ1 σ2 : L2.St} {τ τ1 τ2 : Env} {F F1 F2 f : List Addr}
theorem Nx.refl (r : Rel K B H σ τ F) : Nx K B H σ τ F B H σ τ F [] := ⟨r, by rw [List.append_nil]; exact Stp.refl, Lent.refl _ _⟩
theorem Nx.trans (x : Nx K B H σ τ F B1 H1 σ1 τ1 F1 []) (y : Nx K B1 H1 σ1 τ1 F1 B2 H2 σ2 τ2 F2 f) : Nx K B H σ τ F B2 H2 σ2 τ2 F2 f := by
  have x' := x.stp
  rw [List.append_nil] at x'
  exact ⟨y.rel, x'.trans y.stp, x.len.trans y.len⟩
theorem Nx.s (x : Nx K B H σ τ F B1 H1 σ1 τ1 F1 []) : Stp B H F B1 H1 F1 := by
  have x' := x.stp
  rw [List.append_nil] at x'
  exact x'
theorem Nx.drop (x : Nx K B H σ τ F B1 H1 σ1 τ1 F1 f) : Nx K B H σ τ F B1 H1 σ1 τ1 F1 [] := ⟨x.rel, x.stp.less fun a z => by rw [List.append_nil] at z; exact List.mem_append_left _ z, x.len⟩
end
end EC
/-! EC1: contexts, judgements, the first expressions. -/
namespace EC
open PySem PySem.Spec PyProof.Rows L2
/-- what is known of where code runs -/
structure Gm where
  P : Program
  w : World
  K : Kc
  mg : Str → Option Value
  base : Heap
  N : List Str
  sc : Scope
  k : Nat
  calm : Bool
  own : Str → Bool
  W : WX
structure In (Γ : Gm) (X : Cx) : Prop where
  P : X.prog = Γ.P
  w : X.w = Γ.w
  K : X.K = Γ.K.K
  mg : X.mg = Γ.mg
  base : X.base = Γ.base
  N : X.N = Γ.N
  sc : X.env.scope = Γ.sc
  room : Γ.calm = true → Room Γ.k X.A
  calm : Γ.calm = true → X.calm = true
  nd : X.N.Nodup
  fn : ∀ x, Γ.own x = true → X.fn x = true
  tk : Takes X Γ.W
/-- a frame's own code -/
structure InS (Γ : Gm) (X : Cx) : Prop extends In Γ X where
  stk : X.stack = X.env :: X.outer
  fra : X.env.frame = some X.env.locals
  fnA : ∀ x, X.fn x = true
  pass : PassesOwn (model X.prog X.w) X.A X.env X.xe
def We (Γ : Gm) (e : Expr) : TE := fun σ H Q => ∃ te, (∀ X, In Γ X → PE X e te) ∧ te σ H Q
theorem We.pe {Γ : Gm} {e : Expr} {X : Cx} (h : In Γ X) : PE X e (We Γ e) := ⟨fun pins s σ H Q I ⟨_, k, q⟩ => (k X h).run pins s σ H Q I q⟩
def Wc (Γ : Gm) (e : Expr) : TT := fun σ H Q => ∃ te, (∀ X, In Γ X → PT X e te) ∧ te σ H Q
theorem Wc.pt {Γ : Gm} {e : Expr} {X : Cx} (h : In Γ X) : PT X e (Wc Γ e) := ⟨fun pins s σ H Q I ⟨_, k, q⟩ => (k X h).run pins s σ H Q I q⟩
def Ww (Γ : Gm) (e : Expr) : TT := fun σ H Q => ∃ te, (∀ X, In Γ X → PW X e te) ∧ te σ H Q
theorem Ww.pw {Γ : Gm} {e : Expr} {X : Cx} (h : In Γ X) : PW X e (Ww Γ e) := ⟨fun wh pins s σ H Q I ⟨_, k, q⟩ => (k X h).run wh pins s σ H Q I q⟩
def Wa (Γ : Gm) (es : List Expr) : TA := fun σ H Q => ∃ te, (∀ X, In Γ X → PA X es te) ∧ te σ H Q
theorem Wa.pa {Γ : Gm} {es : List Expr} {X : Cx} (h : In Γ X) : PA X es (Wa Γ es) := ⟨fun pos pins s σ H Q I ⟨_, k, q⟩ => (k X h).run pos pins s σ H Q I q⟩
def Wo (Γ : Gm) (e : Option Expr) : TO := fun σ H Q => ∃ te, (∀ X, In Γ X → PO X e te) ∧ te σ H Q
def Ws (Γ : Gm) (st : Stmt) : TS := fun D σ H => ∃ te, (∀ X, InS Γ X → PS X st te) ∧ te D σ H
theorem Ws.ps {Γ : Gm} {e : Stmt} {X : Cx} (h : InS Γ X) : PS X e (Ws Γ e) := ⟨fun pins s σ H D I ⟨_, k, q⟩ => (k X h).run pins s σ H D I q⟩
def Wb (Γ : Gm) (st : List Stmt) : TS := fun D σ H => ∃ te, (∀ X, InS Γ X → PSs X st te) ∧ te D σ H
theorem Wb.ps {Γ : Gm} {e : List Stmt} {X : Cx} (h : InS Γ X) : PSs X e (Wb Γ e) := ⟨fun pins s σ H D I ⟨_, k, q⟩ => (k X h).run pins s σ H D I q⟩
def Wg (Γ : Gm) (e : Expr) : TG := fun v σ H Q => ∃ te, (∀ X, In Γ X → PG X e te) ∧ te v σ H Q
theorem Wg.pg {Γ : Gm} {e : Expr} {X : Cx} (h : In Γ X) : PG X e (Wg Γ e) := ⟨fun pins s σ H v u Q I r ⟨_, k, q⟩ => (k X h).run pins s σ H v u Q I r q⟩
def Wgs (Γ : Gm) (e : List Expr) : TGs := fun v σ H Q => ∃ te, (∀ X, In Γ X → PGs X e te) ∧ te v σ H Q
theorem Wgs.pg {Γ : Gm} {e : List Expr} {X : Cx} (h : In Γ X) : PGs X e (Wgs Γ e) := ⟨fun pins s σ H v u Q I r ⟨_, k, q⟩ => (k X h).run pins s σ H v u Q I r q⟩
/-! ### data-level transformers -/
abbrev RX := Exn → Env → Prop
abbrev DE := Env → (D → Env → Prop) → RX → Prop
abbrev DT := Env → (T → Env → Prop) → RX → Prop
abbrev DC := Env → (Bool → Env → Prop) → RX → Prop
abbrev DA := Env → (List D → Env → Prop) → RX → Prop
structure DEnds where
  nx : Env → Prop
  rt : T → Env → Prop
  bk : Env → Prop
  ct : Env → Prop
  ex : RX
abbrev DS := DEnds → Env → Prop
abbrev DG := D → Env → (Env → Prop) → Prop
abbrev DGs := List D → Env → (Env → Prop) → Prop
def XRel (K : Kc) (B : Hp) (cls : Value) (dx : Option Addr) (x : Exn) : Prop := cls = .ref (K.cl x.c) ∧ ((dx = none ∧ x.fs = []) ∨ ∃ a vs, dx = some a ∧ B a = some (.xd vs) ∧ DnF K B vs x.fs)
section
variable (K : Kc) (B H : Hp) (σ : L2.St) (τ : Env) (F : List Addr)
def OkD (Q : D → Env → Prop) (QV : VK) : Prop := ∀ v d B' H' τ' F', Q d τ' → Nx K B H σ τ F B' H' σ τ' F' [] → Dn K B' v d → QV v H'
def OkT (Q : T → Env → Prop) (QV : VK) : Prop := ∀ v t f B' H' τ' F', Q t τ' → Nx K B H σ τ F B' H' σ τ' F' f → Ow K B' H' v t f → (F' ++ f).Nodup → (∀ a ∈ f, B' a = none) → QV v H'
def OkC (Q : Bool → Env → Prop) (QV : Bool → Hp → Prop) : Prop := ∀ b B' H' τ' F', Q b τ' → Nx K B H σ τ F B' H' σ τ' F' [] → QV b H'
def OkA (Q : List D → Env → Prop) (QV : List V → Hp → Prop) : Prop := ∀ v d B' H' τ' F', Q d τ' → Nx K B H σ τ F B' H' σ τ' F' [] → DnL K B' v d → QV v H'
def OkR (R : RX) (W : WX) : Prop := ∀ x cls dx B' H' σ' τ' F', R x τ' → Nx K B H σ τ F B' H' σ' τ' F' [] → XRel K B' cls dx x → W cls dx σ' H'
structure OkS (E : DEnds) (D : Ends) : Prop where
  nx : ∀ B' H' σ' τ' F', E.nx τ' → Nx K B H σ τ F B' H' σ' τ' F' [] → D.nx σ' H'
  rt : ∀ v t f B' H' σ' τ' F', E.rt t τ' → Nx K B H σ τ F B' H' σ' τ' F' f → Ow K B' H' v t f → (F' ++ f).Nodup → (∀ a ∈ f, B' a = none) → D.rt v H'
  bk : ∀ B' H' σ' τ' F', E.bk τ' → Nx K B H σ τ F B' H' σ' τ' F' [] → D.bk σ' H'
  ct : ∀ B' H' σ' τ' F', E.ct τ' → Nx K B H σ τ F B' H' σ' τ' F' [] → D.ct σ' H'
end
section
variable {K : Kc} {B H B1 H1 : Hp} {σ σ1 : L2.St} {τ τ1 : Env} {F F1 : List Addr}
theorem OkR.after {R : RX} {W : WX} (h : OkR K B H σ τ F R W) (n : Nx K B H σ τ F B1 H1 σ1 τ1 F1 []) : OkR K B1 H1 σ1 τ1 F1 R W := fun x cls dx B' H' σ' τ' F' q m r => h x cls dx B' H' σ' τ' F' q (n.trans m) r
theorem OkS.after {E : DEnds} {D : Ends} (h : OkS K B H σ τ F E D) (n : Nx K B H σ τ F B1 H1 σ1 τ1 F1 []) : OkS K B1 H1 σ1 τ1 F1 E D :=
  ⟨fun B' H' σ' τ' F' q m => h.nx B' H' σ' τ' F' q (n.trans m), fun v t f B' H' σ' τ' F' q m => h.rt v t f B' H' σ' τ' F' q (n.trans m), fun B' H' σ' τ' F' q m => h.bk B' H' σ' τ' F' q (n.trans m), fun B' H' σ' τ' F' q m => h.ct B' H' σ' τ' F' q (n.trans m)⟩
end
def SE (Γ : Gm) (e : Expr) (t : DE) : Prop := ∀ ⦃B H : Hp⦄ ⦃σ : L2.St⦄ ⦃τ : Env⦄ ⦃F : List Addr⦄ ⦃Q : D → Env → Prop⦄ ⦃R : RX⦄, Rel Γ.K B H σ τ F → t τ Q R → ∀ QV : VK, OkD Γ.K B H σ τ F Q QV → OkR Γ.K B H σ τ F R Γ.W → We Γ e σ H QV
def ST (Γ : Gm) (e : Expr) (t : DT) : Prop := ∀ ⦃B H : Hp⦄ ⦃σ : L2.St⦄ ⦃τ : Env⦄ ⦃F : List Addr⦄ ⦃Q : T → Env → Prop⦄ ⦃R : RX⦄, Rel Γ.K B H σ τ F → t τ Q R → ∀ QV : VK, OkT Γ.K B H σ τ F Q QV → OkR Γ.K B H σ τ F R Γ.W → We Γ e σ H QV
def SC (Γ : Gm) (e : Expr) (t : DC) : Prop := ∀ ⦃B H : Hp⦄ ⦃σ : L2.St⦄ ⦃τ : Env⦄ ⦃F : List Addr⦄ ⦃Q : Bool → Env → Prop⦄ ⦃R : RX⦄, Rel Γ.K B H σ τ F → t τ Q R → ∀ QV : Bool → Hp → Prop, OkC Γ.K B H σ τ F Q QV → OkR Γ.K B H σ τ F R Γ.W → Wc Γ e σ H QV
def SW (Γ : Gm) (e : Expr) (t : DC) : Prop := ∀ ⦃B H : Hp⦄ ⦃σ : L2.St⦄ ⦃τ : Env⦄ ⦃F : List Addr⦄ ⦃Q : Bool → Env → Prop⦄ ⦃R : RX⦄, Rel Γ.K B H σ τ F → t τ Q R → ∀ QV : Bool → Hp → Prop, OkC Γ.K B H σ τ F Q QV → OkR Γ.K B H σ τ F R Γ.W → Ww Γ e σ H QV
def SA (Γ : Gm) (es : List Expr) (t : DA) : Prop := ∀ ⦃B H : Hp⦄ ⦃σ : L2.St⦄ ⦃τ : Env⦄ ⦃F : List Addr⦄ ⦃Q : List D → Env → Prop⦄ ⦃R : RX⦄, Rel Γ.K B H σ τ F → t τ Q R → ∀ QV : List V → Hp → Prop, OkA Γ.K B H σ τ F Q QV → OkR Γ.K B H σ τ F R Γ.W → Wa Γ es σ H QV
def SS (Γ : Gm) (st : Stmt) (t : DS) : Prop := ∀ ⦃B H : Hp⦄ ⦃σ : L2.St⦄ ⦃τ : Env⦄ ⦃F : List Addr⦄ ⦃E : DEnds⦄, Rel Γ.K B H σ τ F → t E τ → ∀ D : Ends, OkS Γ.K B H σ τ F E D → OkR Γ.K B H σ τ F E.ex Γ.W → Ws Γ st D σ H
def SB (Γ : Gm) (st : List Stmt) (t : DS) : Prop := ∀ ⦃B H : Hp⦄ ⦃σ : L2.St⦄ ⦃τ : Env⦄ ⦃F : List Addr⦄ ⦃E : DEnds⦄, Rel Γ.K B H σ τ F → t E τ → ∀ D : Ends, OkS Γ.K B H σ τ F E D → OkR Γ.K B H σ τ F E.ex Γ.W → Wb Γ st D σ H
/-! ### what only makes new things -/
structure Gr (B H B' H' : Hp) : Prop where
  ex : Ex B' H'
  stp : Stp B H [] B' H' []
section
variable {K : Kc} {B H B1 H1 : Hp} {σ : L2.St} {τ : Env} {F : List Addr}
theorem Gr.refl (e : Ex B H) : Gr B H B H := ⟨e, Stp.refl⟩
theorem Gr.trans {B2 H2 : Hp} (a : Gr B H B1 H1) (b : Gr B1 H1 B2 H2) : Gr B H B2 H2 := ⟨b.ex, a.stp.trans b.stp⟩
theorem Gr.exH (g : Gr B H B1 H1) : Ex H H1 := fun a o h => g.stp.h a o h (by simp)
theorem Gr.new {p : Addr} {o : HO} (e : Ex B H) (h : H p = none) : Gr B H (upd B p o) (upd H p o) := by
  have hb := e.back h
  refine ⟨fun a u q => ?_, Ex.new hb, fun a u q _ => Ex.new h a u q, fun _ z => (nomatch z), fun a u q => ?_⟩
  · by_cases ha : a = p
    · subst ha
      rw [upd_same] at q ⊢
      exact q
    · rw [upd_ne ha] at q ⊢
      exact e a u q
  · by_cases ha : a = p
    · subst ha
      exact .inr (.inr h)
    · rw [upd_ne ha] at q
      exact .inl ⟨u, q⟩
theorem Rel.grow (r : Rel K B H σ τ F) (g : Gr B H B1 H1) : Nx K B H σ τ F B1 H1 σ τ F [] := by
  obtain ⟨k1, k2, k3⟩ := g.stp.frame (G := F) r.sl.there (fun _ _ z => nomatch z) r.df
  refine ⟨⟨g.ex, r.sl.mono g.stp.b k1, r.nd, k3⟩, ?_, Lent.refl _ _⟩
  rw [List.append_nil]
  exact ⟨g.stp.b, fun a o h _ => g.exH a o h, fun a h => .inl h, fun a o h => (g.stp.n a o h).imp_right fun z => z.elim (fun y => nomatch y) .inr⟩
/-- a new object of one's own -/
theorem Rel.own {p : Addr} {xs : List V} {ds : List D} {l : Bool} (r : Rel K B H σ τ F) (h : H p = none) (d : DnL K B xs ds) :
    Nx K B H σ τ F B (upd H p (.lst xs)) σ τ F [p] ∧ Ow K B (upd H p (.lst xs)) (.ref p) (.ow l ds) [p] ∧ (F ++ [p]).Nodup ∧ ∀ a ∈ [p], B a = none := by
  have hb := r.ex.back h
  have hp : p ∉ F := fun z => by
    obtain ⟨o, e⟩ := r.sl.there p z
    rw [h] at e
    cases e
  refine ⟨⟨⟨r.ex.trans (Ex.new h), r.sl.mono (Ex.refl _) fun a z => upd_ne fun e => hp (e ▸ z), r.nd, r.df⟩, ⟨Ex.refl _, fun a o q _ => Ex.new h a o q, fun a z => ?_, fun a o q => .inl ⟨o, q⟩⟩, Lent.refl _ _⟩, .ow upd_same d, ?_, ?_⟩
  · rcases List.mem_append.mp z with z | z
    · exact .inl z
    · have e := List.mem_singleton.mp z
      subst e
      exact .inr h
  · rw [List.nodup_append]
    refine ⟨r.nd, by simp, fun a ha b hb' e => ?_⟩
    have e2 := List.mem_singleton.mp hb'
    subst e2
    subst e
    exact hp ha
  · intro a z
    have e := List.mem_singleton.mp z
    subst e
    exact hb
end
/-! ### from data to what is held, and back -/
def dFr (t : DE) : DT := fun τ Q R => t τ (fun d τ' => Q (.fr d) τ') R
def dFz (t : DT) : DE := fun τ Q R => t τ (fun u τ' => Q (frz u) τ') R
section
variable {Γ : Gm} {e : Expr}
theorem ST.fr {t : DE} (h : SE Γ e t) : ST Γ e (dFr t) := fun B H σ τ F Q R r q QV hq hR =>
  h r q QV (fun v d B' H' τ' F' q' n d' => hq v (.fr d) [] B' H' τ' F' q' n (.fr d') (by rw [List.append_nil]; exact n.rel.nd) (fun _ z => nomatch z)) hR
/-- shutting what is besides -/
theorem shut_ok {K : Kc} {B H : Hp} {σ : L2.St} {τ : Env} {F : List Addr} {B' H' : Hp} {σ' : L2.St} {τ' : Env} {F' f : List Addr} {v : V} {t : T} (n : Nx K B H σ τ F B' H' σ' τ' F' f) (o : Ow K B' H' v t f) (nd : (F' ++ f).Nodup) (df : ∀ a ∈ f, B' a = none) :
    Nx K B H σ τ F (shutB B' H' f) H' σ' τ' F' [] ∧ Dn K (shutB B' H' f) v (frz t) := by
  have eb : Ex B' (shutB B' H' f) := shutB_ex df
  have apart : ∀ a ∈ F', a ∉ f := fun a ha hf => (List.nodup_append.mp nd).2.2 a ha a hf rfl
  refine ⟨⟨⟨shutB_le n.rel.ex, n.rel.sl.mono eb fun _ _ => rfl, n.rel.nd, fun a z => ?_⟩, ⟨n.stp.b.trans eb, n.stp.h, fun a z => ?_, fun a u w => ?_⟩, n.len⟩, o.dn eb fun a z => shutB_at z⟩
  · unfold shutB
    rw [if_neg (apart a z)]
    exact n.rel.df a z
  · rw [List.append_nil] at z
    exact n.stp.f a (List.mem_append_left _ z)
  · unfold shutB at w
    split at w
    · rename_i ha
      exact .inr (n.stp.f a (List.mem_append_right _ ha))
    · exact n.stp.n a u w
theorem SE.fz {t : DT} (h : ST Γ e t) : SE Γ e (dFz t) := fun B H σ τ F Q R r q QV hq hR =>
  h r q QV (fun v t f B' H' τ' F' q' n o nd df => by
    obtain ⟨n2, d⟩ := shut_ok n o nd df
    exact hq v _ _ H' τ' F' q' n2 d) hR
end
/-! ### names, constants -/
/-- the value of slot i; what is one's own is shut by it -/
def dVar (i : Nat) : DE := fun τ Q _ => match τ[i]? with
  | some (some (.fr d)) => Q d τ
  | some (some t) => t.kind = none ∧ Q (frz t) (τ.set i (some (.fr (frz t))))
  | _ => False
def dC (d : D) : DE := fun τ Q _ => Q d τ
section
variable {Γ : Gm} {e : Expr}
theorem set_same {α : Type} : ∀ {l : List α} {i : Nat} {x : α}, l[i]? = some x → l.set i x = l
  | [], _, _, h => by simp at h
  | a :: l, 0, x, h => by
    have e : a = x := by simpa using h
    rw [e] <;> rfl
  | a :: l, i + 1, x, h => by
    rw [List.set_cons_succ, set_same (by simpa using h)]
/-- what is one's own, shut -/
theorem Rel.shut {K : Kc} {B H : Hp} {σ : L2.St} {τ : Env} {F : List Addr} {i : Nat} {t : T} (r : Rel K B H σ τ F) (h : τ[i]? = some (some t)) (hk : t.kind = none) :
    ∃ v B' F', σ[i]? = some (some v) ∧ Nx K B H σ τ F B' H σ (τ.set i (some (.fr (frz t)))) F' [] ∧ Dn K B' v (frz t) := by
  obtain ⟨v, F1, f, F2, h1, h2, h3, h4⟩ := r.sl.focus h
  subst h3
  have nd := r.nd
  have df : ∀ a ∈ f, B a = none := fun a z => r.df a (by simp [z])
  have eb : Ex B (shutB B H f) := shutB_ex df
  have sub : ∀ a ∈ F1 ++ ([] ++ F2), a ∈ F1 ++ (f ++ F2) := fun a z => by
    simp only [List.mem_append, List.nil_append] at z ⊢
    rcases z with z | z
    · exact .inl z
    · exact .inr (.inr z)
  have apart : ∀ a ∈ F1 ++ F2, a ∉ f := fun a z y => by
    simp only [List.nodup_append, List.mem_append] at nd z
    rcases z with z | z
    · exact nd.2.2 a z a (.inl y) rfl
    · exact nd.2.1.2.2 a y a z rfl
  have dn : Dn K (shutB B H f) v (frz t) := h2.dn eb fun a z => shutB_at z
  refine ⟨v, shutB B H f, F1 ++ ([] ++ F2), h1, ⟨⟨shutB_le r.ex, ?_, ?_, fun a z => ?_⟩, ⟨eb, fun a o w _ => w, fun a z => ?_, fun a u w => ?_⟩, ?_⟩, dn⟩
  · have := h4 (shutB B H f) H (some v) (some (.fr (frz t))) [] eb (fun _ _ => rfl) (.inr ⟨_, _, rfl, rfl, .fr dn⟩)
    rw [set_same h1] at this
    exact this
  · simp only [List.nodup_append, List.nil_append, List.mem_append] at nd ⊢
    exact ⟨nd.1, nd.2.1.2.1, fun a ha b hb => nd.2.2 a ha b (.inr hb)⟩
  · unfold shutB
    rw [if_neg (apart a (by simpa using z))]
    exact r.df a (sub a z)
  · rw [List.append_nil] at z
    exact .inl (sub a z)
  · unfold shutB at w
    split at w
    · rename_i ha
      exact .inr (.inl (by simp [ha]))
    · exact .inl ⟨u, w⟩
  · have l := Lent.set (σ := σ) (o := some v) (t := some (.fr (frz t))) h fun u k e1 e2 => by
      cases e1
      rw [hk] at e2
      cases e2
    rw [set_same h1] at l
    exact l
theorem SE.var {i : Nat} {x : Str} {pos : Pos} (hN : Γ.N[i]? = some x := by rfl) (hv : Vis Γ.sc x := by first | exact Or.inl rfl | exact Or.inr (Or.inl rfl) | exact Or.inr (Or.inr rfl)) (hd : (x == ("__debug__" : Str)) = false := by decide) (hcd : (x == ("__classdict__" : Str)) = false := by decide) : SE Γ (.Name x pos) (dVar i) := by
  intro B H σ τ F Q R r q QV hq hR
  refine ⟨tVar i, fun X hX => pe_var (by rw [hX.N]; exact hN) (by rw [hX.sc]; exact hv) hd hcd, ?_⟩
  unfold dVar at q
  split at q
  · rename_i d h
    obtain ⟨v, F1, f, F2, h1, h2, h3, h4⟩ := r.sl.focus h
    cases h2 with
    | fr d' => exact ⟨v, h1, hq v d B H τ F q (Nx.refl r) d'⟩
  · rename_i t _ h
    obtain ⟨v, B', F', h1, n, d'⟩ := r.shut h q.1
    exact ⟨v, h1, hq v _ B' H _ F' q.2 n d'⟩
  · exact q.elim
theorem SE.int {i j pos} : SE Γ (.Constant (.int i) j pos) (dC (.int i)) := fun B H σ τ F Q R r q QV hq hR =>
  ⟨tC (.int i), fun _ _ => pe_int, hq _ _ B H τ F q (Nx.refl r) (.int i)⟩
theorem SE.bl {b j pos} : SE Γ (.Constant (.bool b) j pos) (dC (.bl b)) := fun B H σ τ F Q R r q QV hq hR =>
  ⟨tC (.bl b), fun _ _ => pe_bl, hq _ _ B H τ F q (Nx.refl r) (.bl b)⟩
theorem SE.non {j pos} : SE Γ (.Constant .none j pos) (dC .non) := fun B H σ τ F Q R r q QV hq hR =>
  ⟨tC .non, fun _ _ => pe_non, hq _ _ B H τ F q (Nx.refl r) .non⟩
theorem SE.str {x j pos} : SE Γ (.Constant (.str x) j pos) (dC (.str x)) := fun B H σ τ F Q R r q QV hq hR =>
  ⟨tC (.str x), fun _ _ => pe_str, hq _ _ B H τ F q (Nx.refl r) (.str x)⟩
/-- a global name's place in a context -/
def GlS (sc : Scope) (x : Str) : Prop := sc.names.lookup x = some .globalImplicit
theorem In.gl {X : Cx} (h : In Γ X) {x : Str} (g : GlS Γ.sc x) : Gl X x := by
  show X.env.scope.names.lookup x = some .globalImplicit
  rw [h.sc]
  exact g
theorem SE.glob {x : Str} {n : Int} {pos : Pos} (hm : ∃ t, Γ.mg x = some (.int n t)) (hg : GlS Γ.sc x := by rfl) (hd : (x == ("__debug__" : Str)) = false := by decide) : SE Γ (.Name x pos) (dC (.int n)) :=
  fun B H σ τ F Q R r q QV hq hR => ⟨tC (.int n), fun X hX => let ⟨t, hm⟩ := hm; pe_glob (hX.gl hg) (by rw [hX.mg]; exact hm) ⟨t, rfl⟩ hd, hq _ _ B H τ F q (Nx.refl r) (.int n)⟩
end
end EC
/-! EC2: operators, comparisons, tests, displays, subscripts, fields. -/
namespace EC
open PySem PySem.Spec PyProof.Rows L2
abbrev D2 := D → D → (D → Prop) → Prop
def OpD (Γ : Gm) (f : Value → Value → Sem Value) (r : D2) : Prop := ∀ ⦃B H : Hp⦄ ⦃x y : V⦄ ⦃u v : D⦄ ⦃q : D → Prop⦄, Ex B H → Dn Γ.K B x u → Dn Γ.K B y v → r u v q →
  ∀ QV : VK, (∀ z d B' H', q d → Gr B H B' H' → Dn Γ.K B' z d → QV z H') → ∃ rr, (∀ X, In Γ X → OpR X f rr) ∧ rr x y H QV
def dOp (r : D2) (ta tb : DE) : DE := fun τ Q R => ta τ (fun x τ1 => tb τ1 (fun y τ2 => r x y fun z => Q z τ2) R) R
section
variable {Γ : Gm} {a b c : Expr} {pos : Pos} {ta tb tc : DE} {r : D2}
theorem any_op {f : Value → Value → Sem Value} {X : Cx} (hX : In Γ X) : OpR X f (fun x y H Q => ∃ rr, (∀ X, In Γ X → OpR X f rr) ∧ rr x y H Q) := fun pins s σ H x y v u Q I rx ry ⟨_, k, q⟩ => k X hX pins s σ H x y v u Q I rx ry q
theorem SE.op {op : Operator} (ho : OpD Γ (binaryOp op) r) (ha : SE Γ a ta) (hb : SE Γ b tb) : SE Γ (.BinOp a op b pos) (dOp r ta tb) := by
  intro B H σ τ F Q R hr ht QV hq hR
  refine ⟨tOp (fun x y H Q => ∃ rr, (∀ X, In Γ X → OpR X (binaryOp op) rr) ∧ rr x y H Q) (We Γ a) (We Γ b), fun X hX => pe_op (any_op hX) (We.pe hX) (We.pe hX), ?_⟩
  refine ha hr ht _ (fun x u B1 H1 τ1 F1 q1 n1 d1 => ?_) hR
  refine hb n1.rel q1 _ (fun y v B2 H2 τ2 F2 q2 n2 d2 => ?_) (hR.after n1)
  exact ho n2.rel.ex (d1.mono n2.s.b) d2 q2 _ fun z d B' H' qd g dz => hq z d B' H' τ2 F2 qd ((n1.trans n2).trans (n2.rel.grow g)) dz
theorem SE.cmp {op : CmpOp} (ho : OpD Γ (compareOp op) r) (ha : SE Γ a ta) (hb : SE Γ b tb) (hm : behindInMarks op b = false := by first | exact nomark _ | rfl) : SE Γ (.Compare a [op] [b] pos) (dOp r ta tb) := by
  intro B H σ τ F Q R hr ht QV hq hR
  refine ⟨tOp (fun x y H Q => ∃ rr, (∀ X, In Γ X → OpR X (compareOp op) rr) ∧ rr x y H Q) (We Γ a) (We Γ b), fun X hX => pe_cmpR (any_op hX) (We.pe hX) (We.pe hX) hm, ?_⟩
  refine ha hr ht _ (fun x u B1 H1 τ1 F1 q1 n1 d1 => ?_) hR
  refine hb n1.rel q1 _ (fun y v B2 H2 τ2 F2 q2 n2 d2 => ?_) (hR.after n1)
  exact ho n2.rel.ex (d1.mono n2.s.b) d2 q2 _ fun z d B' H' qd g dz => hq z d B' H' τ2 F2 qd ((n1.trans n2).trans (n2.rel.grow g)) dz
/-- a value that is a bool, as a test -/
def dB (t : DE) : DC := fun τ Q R => t τ (fun d τ' => match d with
  | .bl b => Q b τ'
  | _ => False) R
theorem SC.cmp {op : CmpOp} (ho : OpD Γ (compareOp op) r) (ha : SE Γ a ta) (hb : SE Γ b tb) (hm : behindInMarks op b = false := by first | exact nomark _ | rfl) : SC Γ (.Compare a [op] [b] pos) (dB (dOp r ta tb)) := by
  intro B H σ τ F Q R hr ht QV hq hR
  refine ⟨tTest (tOp (fun x y H Q => ∃ rr, (∀ X, In Γ X → OpR X (compareOp op) rr) ∧ rr x y H Q) (We Γ a) (We Γ b)), fun X hX => pt_cmpR (any_op hX) (We.pe hX) (We.pe hX) hm, ?_⟩
  refine ha hr ht _ (fun x u B1 H1 τ1 F1 q1 n1 d1 => ?_) hR
  refine hb n1.rel q1 _ (fun y v B2 H2 τ2 F2 q2 n2 d2 => ?_) (hR.after n1)
  refine ho n2.rel.ex (d1.mono n2.s.b) d2 q2 _ fun z d B' H' qd g dz => ?_
  cases dz with
  | bl b => exact ⟨b, rfl, hq b B' H' τ2 F2 qd ((n1.trans n2).trans (n2.rel.grow g))⟩
  | _ => exact qd.elim
theorem SC.val {t : DE} (h : SE Γ a t) (he : ∀ (X : Cx) whole, isTrue a X.env whole = (do let v ← whole; standAt a.pos; holding [v] (truthy v)) := by intros; rfl) : SC Γ a (dB t) := by
  intro B H σ τ F Q R hr ht QV hq hR
  refine ⟨L2.tB (We Γ a), fun X hX => pt_val (We.pe hX) (he X), ?_⟩
  refine h hr ht _ (fun x u B1 H1 τ1 F1 q1 n1 d1 => ?_) hR
  cases d1 with
  | bl b => exact ⟨b, rfl, hq b B1 H1 τ1 F1 q1 n1⟩
  | _ => exact q1.elim
/-- a op b op' c -/
def dChain (r r' : D2) (ta tb tc : DE) : DE := fun τ Q R => ta τ (fun x τ1 => tb τ1 (fun y τ2 => r x y fun z => match z with
  | .bl true => tc τ2 (fun w τ3 => r' y w fun z => Q z τ3) R
  | .bl false => Q (.bl false) τ2
  | _ => False) R) R
theorem chain_read {op op' : CmpOp} {r r' : D2} (ho : OpD Γ (compareOp op) r) (ho' : OpD Γ (compareOp op') r') (ha : SE Γ a ta) (hb : SE Γ b tb) (hc : SE Γ c tc)
    {B H : Hp} {σ : L2.St} {τ : Env} {F : List Addr} {Q : D → Env → Prop} {R : RX} (hr : Rel Γ.K B H σ τ F) (ht : dChain r r' ta tb tc τ Q R) {QV : VK} (hq : OkD Γ.K B H σ τ F Q QV) (hR : OkR Γ.K B H σ τ F R Γ.W) :
    tChain (fun x y H Q => ∃ rr, (∀ X, In Γ X → OpR X (compareOp op) rr) ∧ rr x y H Q) (fun x y H Q => ∃ rr, (∀ X, In Γ X → OpR X (compareOp op') rr) ∧ rr x y H Q) (We Γ a) (We Γ b) (We Γ c) σ H QV := by
  refine ha hr ht _ (fun x u B1 H1 τ1 F1 q1 n1 d1 => ?_) hR
  refine hb n1.rel q1 _ (fun y v B2 H2 τ2 F2 q2 n2 d2 => ?_) (hR.after n1)
  refine ho n2.rel.ex (d1.mono n2.s.b) d2 q2 _ fun z d B3 H3 qd g dz => ?_
  have n3 := (n1.trans n2).trans (n2.rel.grow g)
  cases dz with
  | bl k =>
    cases k with
    | false => exact ⟨false, rfl, hq _ _ B3 H3 τ2 F2 qd n3 (.bl false)⟩
    | true =>
      refine ⟨true, rfl, ?_⟩
      refine hc n3.rel qd _ (fun w e B4 H4 τ4 F4 q4 n4 d4 => ?_) (hR.after n3)
      exact ho' n4.rel.ex ((d2.mono g.stp.b).mono n4.s.b) d4 q4 _ fun z d B' H' qd g dz => hq z d B' H' τ4 F4 qd ((n3.trans n4).trans (n4.rel.grow g)) dz
  | _ => exact qd.elim
theorem SE.chain {op op' : CmpOp} {r r' : D2} (ho : OpD Γ (compareOp op) r) (ho' : OpD Γ (compareOp op') r') (ha : SE Γ a ta) (hb : SE Γ b tb) (hc : SE Γ c tc) (hm : lastMarks [op, op'] [b, c] = false := by with_unfolding_all rfl) :
    SE Γ (.Compare a [op, op'] [b, c] pos) (dChain r r' ta tb tc) := fun B H σ τ F Q R hr ht QV hq hR =>
  ⟨_, fun X hX => pe_chain (any_op hX) (any_op hX) (We.pe hX) (We.pe hX) (We.pe hX) hm, chain_read ho ho' ha hb hc hr ht hq hR⟩
theorem SC.chain {op op' : CmpOp} {r r' : D2} (ho : OpD Γ (compareOp op) r) (ho' : OpD Γ (compareOp op') r') (ha : SE Γ a ta) (hb : SE Γ b tb) (hc : SE Γ c tc) (hm : lastMarks [op, op'] [b, c] = false := by with_unfolding_all rfl) :
    SC Γ (.Compare a [op, op'] [b, c] pos) (dB (dChain r r' ta tb tc)) := fun B H σ τ F Q R hr ht QV hq hR =>
  ⟨_, fun X hX => pt_chain (any_op hX) (any_op hX) (We.pe hX) (We.pe hX) (We.pe hX) hm, chain_read ho ho' ha hb hc hr ht (fun v d B' H' τ' F' q n dv => by
    cases dv with
    | bl b => exact ⟨b, rfl, hq b B' H' τ' F' q n⟩
    | _ => exact q.elim) hR⟩
/-! ### and, or, not -/
def dAnd (t u : DC) : DC := fun τ Q R => t τ (fun b τ1 => match b with
  | true => u τ1 Q R
  | false => Q false τ1) R
def dOr (t u : DC) : DC := fun τ Q R => t τ (fun b τ1 => match b with
  | true => Q true τ1
  | false => u τ1 Q R) R
def dNot (t : DC) : DC := fun τ Q R => t τ (fun b τ1 => Q (!b) τ1) R
variable {t u : DC} {rest : List Expr}
theorem SW.and1 (h : SC Γ a t) : SW Γ (.BoolOp .And [a] pos) t := fun B H σ τ F Q R hr ht QV hq hR => ⟨_, fun X hX => pw_and1 (Wc.pt hX), h hr ht QV hq hR⟩
theorem SW.or1 (h : SC Γ a t) : SW Γ (.BoolOp .Or [a] pos) t := fun B H σ τ F Q R hr ht QV hq hR => ⟨_, fun X hX => pw_or1 (Wc.pt hX), h hr ht QV hq hR⟩
theorem SW.and (h : SC Γ a t) (h2 : SW Γ (.BoolOp .And (b :: rest) pos) u) : SW Γ (.BoolOp .And (a :: b :: rest) pos) (dAnd t u) := fun B H σ τ F Q R hr ht QV hq hR =>
  ⟨_, fun X hX => pw_and (Wc.pt hX) (Ww.pw hX), h hr ht _ (fun k B1 H1 τ1 F1 q1 n1 => by
    cases k with
    | true =>
      rw [if_pos rfl]
      exact h2 n1.rel q1 _ (fun k' B' H' τ' F' q n => hq k' B' H' τ' F' q (n1.trans n)) (hR.after n1)
    | false => exact hq false B1 H1 τ1 F1 q1 n1) hR⟩
theorem SW.or (h : SC Γ a t) (h2 : SW Γ (.BoolOp .Or (b :: rest) pos) u) : SW Γ (.BoolOp .Or (a :: b :: rest) pos) (dOr t u) := fun B H σ τ F Q R hr ht QV hq hR =>
  ⟨_, fun X hX => pw_or (Wc.pt hX) (Ww.pw hX), h hr ht _ (fun k B1 H1 τ1 F1 q1 n1 => by
    cases k with
    | false =>
      rw [if_neg Bool.false_ne_true]
      exact h2 n1.rel q1 _ (fun k' B' H' τ' F' q n => hq k' B' H' τ' F' q (n1.trans n)) (hR.after n1)
    | true => exact hq true B1 H1 τ1 F1 q1 n1) hR⟩
theorem SC.w (h : SW Γ a t) : SC Γ a t := fun B H σ τ F Q R hr ht QV hq hR => ⟨_, fun X hX => (Ww.pw hX).pt, h hr ht QV hq hR⟩
theorem SC.not (h : SC Γ a t) : SC Γ (.UnaryOp .Not a pos) (dNot t) := fun B H σ τ F Q R hr ht QV hq hR =>
  ⟨_, fun X hX => pt_not (Wc.pt hX), h hr ht _ (fun k B' H' τ' F' q n => hq (!k) B' H' τ' F' q n) hR⟩
/-- .. as values -/
def dAndV (t : DE) (u : DE) : DE := fun τ Q R => t τ (fun b τ1 => match b with
  | .bl true => u τ1 Q R
  | .bl false => Q (.bl false) τ1
  | _ => False) R
def dOrV (t : DE) (u : DE) : DE := fun τ Q R => t τ (fun b τ1 => match b with
  | .bl true => Q (.bl true) τ1
  | .bl false => u τ1 Q R
  | _ => False) R
def dNotV (t : DE) : DE := fun τ Q R => t τ (fun b τ1 => match b with
  | .bl b => Q (.bl (!b)) τ1
  | _ => False) R
theorem SE.one {op} (h : SE Γ a ta) : SE Γ (.BoolOp op [a] pos) ta := fun B H σ τ F Q R hr ht QV hq hR => ⟨_, fun X hX => pe_one (We.pe hX), h hr ht QV hq hR⟩
theorem SE.and (h : SE Γ a ta) (h2 : SE Γ (.BoolOp .And (b :: rest) pos) tb) : SE Γ (.BoolOp .And (a :: b :: rest) pos) (dAndV ta tb) := fun B H σ τ F Q R hr ht QV hq hR =>
  ⟨_, fun X hX => pe_and (We.pe hX) (We.pe hX), h hr ht _ (fun x d B1 H1 τ1 F1 q1 n1 d1 => by
    cases d1 with
    | bl k =>
      refine ⟨k, rfl, ?_⟩
      cases k with
      | true =>
        rw [if_pos rfl]
        exact h2 n1.rel q1 _ (fun x' k' B' H' τ' F' q n => hq x' k' B' H' τ' F' q (n1.trans n)) (hR.after n1)
      | false => exact hq _ _ B1 H1 τ1 F1 q1 n1 (.bl false)
    | _ => exact q1.elim) hR⟩
theorem SE.or (h : SE Γ a ta) (h2 : SE Γ (.BoolOp .Or (b :: rest) pos) tb) : SE Γ (.BoolOp .Or (a :: b :: rest) pos) (dOrV ta tb) := fun B H σ τ F Q R hr ht QV hq hR =>
  ⟨_, fun X hX => pe_or (We.pe hX) (We.pe hX), h hr ht _ (fun x d B1 H1 τ1 F1 q1 n1 d1 => by
    cases d1 with
    | bl k =>
      refine ⟨k, rfl, ?_⟩
      cases k with
      | false =>
        rw [if_neg Bool.false_ne_true]
        exact h2 n1.rel q1 _ (fun x' k' B' H' τ' F' q n => hq x' k' B' H' τ' F' q (n1.trans n)) (hR.after n1)
      | true => exact hq _ _ B1 H1 τ1 F1 q1 n1 (.bl true)
    | _ => exact q1.elim) hR⟩
theorem SE.not (h : SE Γ a ta) : SE Γ (.UnaryOp .Not a pos) (dNotV ta) := fun B H σ τ F Q R hr ht QV hq hR =>
  ⟨_, fun X hX => pe_not (We.pe hX), h hr ht _ (fun x d B1 H1 τ1 F1 q1 n1 d1 => by
    cases d1 with
    | bl k => exact ⟨k, rfl, hq _ _ B1 H1 τ1 F1 q1 n1 (.bl _)⟩
    | _ => exact q1.elim) hR⟩
def dIf (c : DC) (ta tb : DE) : DE := fun τ Q R => c τ (fun b τ1 => match b with
  | true => ta τ1 Q R
  | false => tb τ1 Q R) R
theorem SE.ifExp (hc : SC Γ c t) (ha : SE Γ a ta) (hb : SE Γ b tb) : SE Γ (.IfExp c a b pos) (dIf t ta tb) := fun B H σ τ F Q R hr ht QV hq hR =>
  ⟨_, fun X hX => pe_ifExp (Wc.pt hX) (We.pe hX) (We.pe hX), hc hr ht _ (fun k B1 H1 τ1 F1 q1 n1 => by
    cases k with
    | true =>
      rw [if_pos rfl]
      exact ha n1.rel q1 _ (fun x' k' B' H' τ' F' q n => hq x' k' B' H' τ' F' q (n1.trans n)) (hR.after n1)
    | false =>
      rw [if_neg Bool.false_ne_true]
      exact hb n1.rel q1 _ (fun x' k' B' H' τ' F' q n => hq x' k' B' H' τ' F' q (n1.trans n)) (hR.after n1)) hR⟩
end
/-! ### the operators -/
def rAdd : D2 := fun u v q => match u, v with
  | .int i, .int j => q (.int (i + j))
  | .str x, .str y => x.length + y.length ≤ sizeLine ∧ q (.str (x ++ y))
  | .tup a, .tup b => a.length + b.length ≤ 1000000 ∧ q (.tup (a ++ b))
  | .lst a, .lst b => a.length + b.length ≤ 1000000 ∧ q (.lst (a ++ b))
  | _, _ => False
def rSub : D2 := fun u v q => match u, v with
  | .int i, .int j => q (.int (i - j))
  | _, _ => False
def rMul : D2 := fun u v q => match u, v with
  | .int i, .int j => (CMul i j ∨ CMulW i j) ∧ q (.int (i * j))
  | .tup a, .int k => a ≠ [] ∧ 2 ≤ k ∧ k ≤ 1000 ∧ a.length ≤ 1000 ∧ q (.tup (List.replicate k.toNat a).flatten)
  | .lst a, .int k => -1000000 ≤ k ∧ k ≤ 1000000 ∧ a.length * k.toNat ≤ 1000000 ∧ q (.lst (List.replicate k.toNat a).flatten)
  | _, _ => False
def rMod : D2 := fun u v q => match u, v with
  | .int i, .int j => 0 < j ∧ q (.int (i % j))
  | _, _ => False
def rDiv : D2 := fun u v q => match u, v with
  | .int i, .int j => (CDiv i j ∨ CDivW i j) ∧ q (.int (i / j))
  | _, _ => False
def rPow : D2 := fun u v q => match u, v with
  | .int i, .int j => CPow i j ∧ q (.int (i ^ j.toNat))
  | _, _ => False
def rShl : D2 := fun u v q => match u, v with
  | .int i, .int j => CPow i j ∧ q (.int (i * 2 ^ j.toNat))
  | _, _ => False
def rShr : D2 := fun u v q => match u, v with
  | .int i, .int j => 0 ≤ j ∧ q (.int (i / 2 ^ j.toNat))
  | _, _ => False
def rBand : D2 := fun u v q => match u, v with
  | .int i, .int j => q (.int (Builtin.bitAnd i j))
  | _, _ => False
def rBor : D2 := fun u v q => match u, v with
  | .int i, .int j => q (.int (Builtin.bitOr i j))
  | _, _ => False
def rLt : D2 := fun u v q => match u, v with
  | .int i, .int j => q (.bl (decide (i < j)))
  | _, _ => False
def rLe : D2 := fun u v q => match u, v with
  | .int i, .int j => q (.bl (decide (i ≤ j)))
  | _, _ => False
def rGt : D2 := fun u v q => match u, v with
  | .int i, .int j => q (.bl (decide (j < i)))
  | _, _ => False
def rGe : D2 := fun u v q => match u, v with
  | .int i, .int j => q (.bl (decide (j ≤ i)))
  | _, _ => False
/-! data as the library's -/
mutual
def D.py : D → Option PyData
  | .non => some .none
  | .bl b => some (.bool b)
  | .int i => some (.int i)
  | .str x => some (.str x)
  | .tup ds => (D.pyL ds).map .tuple
  | .lst ds => (D.pyL ds).map .list
  | _ => none
def D.pyL : List D → Option (List PyData)
  | [] => some []
  | d :: ds => match d.py, D.pyL ds with
    | some p, some r => some (p :: r)
    | _, _ => none
end
theorem dn_pys {K : Kc} {B H : Hp} (e : Ex B H) {v : V} {d : D} (h : Dn K B v d) : ∀ p, d.py = some p → Dp K.K H v p := by
  refine Dn.rec (motive_1 := fun v d _ => ∀ p, d.py = some p → Dp K.K H v p) (motive_2 := fun xs ds _ => ∀ ps, D.pyL ds = some ps → DpAll K.K H xs ps) (motive_3 := fun _ _ _ => True) (motive_4 := fun _ _ _ => True) ?_ ?_ ?_ ?_ ?_ ?_ ?_ ?_ ?_ ?_ ?_ ?_ ?_ ?_ ?_ h
  · intro p q; cases q; exact .non
  · intro b p q; cases q; exact .bl b
  · intro b p q; cases q; exact .int b
  · intro b p q; cases q; exact .str b
  · intro a xs ds h1 r ih p q
    have q' : (D.pyL ds).map PyData.list = some p := by rw [← q]; unfold D.py; rfl
    obtain ⟨ps, z, rfl⟩ := Option.map_eq_some_iff.mp q'
    exact .lst (.of (e _ _ h1)) (ih ps z)
  · intro a xs ds h1 r ih p q
    have q' : (D.pyL ds).map PyData.tuple = some p := by rw [← q]; unfold D.py; rfl
    obtain ⟨ps, z, rfl⟩ := Option.map_eq_some_iff.mp q'
    exact .tup (.of (e _ _ h1)) (ih ps z)
  · intro _ _ _ _ _ _ _ _ p q; cases q
  · intro _ _ _ p q; cases q
  · intro _ _ _ _ _ _ p q; cases q
  · intro ps q; cases q; exact .nil
  · intro v vs d ds h1 r ih1 ih2 ps q
    have q' : (match d.py, D.pyL ds with | some p, some r => some (p :: r) | _, _ => none) = some ps := by rw [← q]; rw [D.pyL]
    split at q'
    · rename_i p r' z1 z2
      cases q'
      exact .cons (ih1 p z1) (ih2 r' z2)
    · cases q'
  · exact True.intro
  · intros; exact True.intro
  · exact True.intro
  · intros; exact True.intro
theorem dn_py {K : Kc} {B H : Hp} (e : Ex B H) {v : V} {d : D} {p : PyData} (h : Dn K B v d) (q : d.py = some p) : Dp K.K H v p := dn_pys e h p q
def rEq : D2 := fun u v q => match u.py, v.py with
  | some p, some p' => SeqAt.shaped p = true ∧ SeqAt.shaped p' = true ∧ q (.bl (PyData.eqv p p'))
  | _, _ => False
def rNe : D2 := fun u v q => match u.py, v.py with
  | some p, some p' => SeqAt.shaped p = true ∧ SeqAt.shaped p' = true ∧ q (.bl (!PyData.eqv p p'))
  | _, _ => False
/-- flat data -/
def flatD : D → Bool
  | .non => true
  | .bl _ => true
  | .int _ => true
  | .str _ => true
  | _ => false
def eqFlat : D → D → Bool
  | .non, .non => true
  | .bl a, .bl b => a == b
  | .bl a, .int j => (if a then 1 else 0) == j
  | .int i, .bl b => i == (if b then 1 else 0)
  | .int i, .int j => i == j
  | .str x, .str y => x == y
  | _, _ => false
def inFlat (x : D) (ds : List D) : Bool := ds.any fun y => eqFlat y x
def rIn : D2 := fun u v q => match v with
  | .lst ds => flatD u = true ∧ ds.all flatD = true ∧ q (.bl (inFlat u ds))
  | .tup ds => flatD u = true ∧ ds.all flatD = true ∧ q (.bl (inFlat u ds))
  | _ => False
def rNotIn : D2 := fun u v q => match v with
  | .lst ds => flatD u = true ∧ ds.all flatD = true ∧ q (.bl (!inFlat u ds))
  | .tup ds => flatD u = true ∧ ds.all flatD = true ∧ q (.bl (!inFlat u ds))
  | _ => False
def isNon : D → Bool
  | .non => true
  | _ => false
def rIs : D2 := fun u v q => match v with
  | .non => q (.bl (isNon u))
  | _ => False
def rIsNot : D2 := fun u v q => match v with
  | .non => q (.bl (!isNon u))
  | _ => False
section
variable {Γ : Gm}
theorem opII {f : Value → Value → Sem Value} {C : Int → Int → Prop} {g : Int → Int → D} {gv : Int → Int → V} {rr : R2} {r : D2} (hr : ∀ X, In Γ X → OpR X f rr)
    (hi : ∀ u v q, r u v q → ∃ i j, u = .int i ∧ v = .int j ∧ C i j ∧ q (g i j)) (hg : ∀ i j K B, Dn K B (gv i j) (g i j)) (hrr : ∀ i j H Q, C i j → Q (gv i j) H → rr (.int i) (.int j) H Q) : OpD Γ f r := by
  intro B H x y u v q e dx dy h QV k
  obtain ⟨i, j, rfl, rfl, c, hq⟩ := hi u v q h
  cases dx
  cases dy
  exact ⟨rr, hr, hrr i j H QV c (k _ _ B H hq (.refl e) (hg i j _ _))⟩
theorem opAdd : OpD Γ (binaryOp .Add) rAdd := by
  intro B H x y u v q e dx dy h QV k
  cases dx <;> cases dy <;> (try exact False.elim h)
  · exact ⟨_, fun X _ => op_add, _, _, rfl, rfl, k _ _ B H h (.refl e) (.int _)⟩
  · exact ⟨_, fun X _ => op_add_str, _, _, rfl, rfl, h.1, k _ _ B H h.2 (.refl e) (.str _)⟩
  · rename_i a xs ds h1 r1 b ys es h2 r2
    have hz : xs.length + ys.length ≤ sizeLine := by
      rw [r1.length, r2.length, sizeLine_eq]
      have := h.1
      omega
    refine ⟨rCat, fun X _ => op_cat, _, _, _, _, rfl, rfl, e _ _ h1, e _ _ h2, hz, fun p hp => ?_⟩
    exact k _ _ (upd B p (.lst (xs ++ ys))) _ h.2 (.new e hp) (.lst upd_same ((r1.append r2).mono (Ex.new (e.back hp))))
  · rename_i a xs ds h1 r1 b ys es h2 r2
    have hz : xs.length + ys.length ≤ sizeLine := by
      rw [r1.length, r2.length, sizeLine_eq]
      have := h.1
      omega
    refine ⟨rCatA Γ.K.K, fun X hX => by rw [← hX.K]; exact op_catA, _, _, _, _, rfl, rfl, .of (e _ _ h1), .of (e _ _ h2), hz, fun ex => ?_, fun _ ey => ?_, fun _ _ p hp => ?_⟩
    · subst ex
      cases r1
      exact k _ _ B H h.2 (.refl e) (.tup h2 r2)
    · subst ey
      cases r2
      have hq := h.2
      rw [List.append_nil] at hq
      exact k _ _ B H hq (.refl e) (.tup h1 r1)
    · exact k _ _ (upd B p (.tup (xs ++ ys))) _ h.2 (.new e hp) (.tup upd_same ((r1.append r2).mono (Ex.new (e.back hp))))
theorem opSub : OpD Γ (binaryOp .Sub) rSub := by
  intro B H x y u v q e dx dy h QV k
  cases dx <;> cases dy <;> (try exact False.elim h)
  exact ⟨_, fun X _ => op_sub, _, _, rfl, rfl, k _ _ B H h (.refl e) (.int _)⟩
theorem opMul : OpD Γ (binaryOp .Mult) rMul := by
  intro B H x y u v q e dx dy h QV k
  cases dx <;> cases dy <;> (try exact False.elim h)
  · rcases h with ⟨h | h, hq⟩
    · exact ⟨_, fun X _ => op_mul, _, _, rfl, rfl, h, k _ _ B H hq (.refl e) (.int _)⟩
    · exact ⟨_, fun X _ => op_mulW, _, _, rfl, rfl, h, k _ _ B H hq (.refl e) (.int _)⟩
  · rename_i a xs ds h1 r1 i
    obtain ⟨c1, c2, c3, hq⟩ := h
    refine ⟨rRep, fun X _ => op_rep, _, _, _, rfl, rfl, e _ _ h1, by omega, by omega, ?_, fun p hp => ?_⟩
    · rw [r1.length, sizeLine_eq]
      omega
    · exact k _ _ (upd B p (.lst _)) _ hq (.new e hp) (.lst upd_same ((r1.rep i.toNat).mono (Ex.new (e.back hp))))
  · rename_i a xs ds h1 r1 i
    obtain ⟨c0, c1, c2, c3, hq⟩ := h
    refine ⟨rRepT Γ.K.K, fun X hX => by rw [← hX.K]; exact op_repT, _, _, _, rfl, rfl, .of (e _ _ h1), fun z => c0 ?_, c1, c2, by rw [r1.length]; exact c3, fun p hp => ?_⟩
    · have z2 := r1.length
      rw [z] at z2
      exact List.length_eq_zero_iff.mp z2.symm
    · exact k _ _ (upd B p (.tup _)) _ hq (.new e hp) (.tup upd_same ((r1.rep i.toNat).mono (Ex.new (e.back hp))))
theorem opMod : OpD Γ (binaryOp .Mod) rMod := by
  intro B H x y u v q e dx dy h QV k
  cases dx <;> cases dy <;> (try exact False.elim h)
  exact ⟨_, fun X _ => op_mod, _, _, rfl, rfl, h.1, k _ _ B H h.2 (.refl e) (.int _)⟩
theorem opDiv : OpD Γ (binaryOp .FloorDiv) rDiv := by
  intro B H x y u v q e dx dy h QV k
  cases dx <;> cases dy <;> (try exact False.elim h)
  rcases h with ⟨h | h, hq⟩
  · exact ⟨_, fun X _ => op_fdiv, _, _, rfl, rfl, h, k _ _ B H hq (.refl e) (.int _)⟩
  · exact ⟨_, fun X _ => op_fdivW, _, _, rfl, rfl, h, k _ _ B H hq (.refl e) (.int _)⟩
theorem opPow : OpD Γ (binaryOp .Pow) rPow := by
  intro B H x y u v q e dx dy h QV k
  cases dx <;> cases dy <;> (try exact False.elim h)
  exact ⟨_, fun X _ => op_pow, _, _, rfl, rfl, h.1, k _ _ B H h.2 (.refl e) (.int _)⟩
theorem opShl : OpD Γ (binaryOp .LShift) rShl := by
  intro B H x y u v q e dx dy h QV k
  cases dx <;> cases dy <;> (try exact False.elim h)
  exact ⟨_, fun X _ => op_shl, _, _, rfl, rfl, h.1, k _ _ B H h.2 (.refl e) (.int _)⟩
theorem opShr : OpD Γ (binaryOp .RShift) rShr := by
  intro B H x y u v q e dx dy h QV k
  cases dx <;> cases dy <;> (try exact False.elim h)
  exact ⟨_, fun X _ => op_shr, _, _, rfl, rfl, h.1, k _ _ B H h.2 (.refl e) (.int _)⟩
theorem opBand : OpD Γ (binaryOp .BitAnd) rBand := by
  intro B H x y u v q e dx dy h QV k
  cases dx <;> cases dy <;> (try exact False.elim h)
  exact ⟨_, fun X _ => op_and, _, _, rfl, rfl, k _ _ B H h (.refl e) (.int _)⟩
theorem opBor : OpD Γ (binaryOp .BitOr) rBor := by
  intro B H x y u v q e dx dy h QV k
  cases dx <;> cases dy <;> (try exact False.elim h)
  exact ⟨_, fun X _ => op_or, _, _, rfl, rfl, k _ _ B H h (.refl e) (.int _)⟩
theorem opLt : OpD Γ (compareOp .Lt) rLt := by
  intro B H x y u v q e dx dy h QV k
  cases dx <;> cases dy <;> (try exact False.elim h)
  exact ⟨_, fun X _ => op_lt, _, _, rfl, rfl, k _ _ B H h (.refl e) (.bl _)⟩
theorem opLe : OpD Γ (compareOp .LtE) rLe := by
  intro B H x y u v q e dx dy h QV k
  cases dx <;> cases dy <;> (try exact False.elim h)
  exact ⟨_, fun X _ => op_le, _, _, rfl, rfl, k _ _ B H h (.refl e) (.bl _)⟩
theorem opGt : OpD Γ (compareOp .Gt) rGt := by
  intro B H x y u v q e dx dy h QV k
  cases dx <;> cases dy <;> (try exact False.elim h)
  exact ⟨_, fun X _ => op_gt, _, _, rfl, rfl, k _ _ B H h (.refl e) (.bl _)⟩
theorem opGe : OpD Γ (compareOp .GtE) rGe := by
  intro B H x y u v q e dx dy h QV k
  cases dx <;> cases dy <;> (try exact False.elim h)
  exact ⟨_, fun X _ => op_ge, _, _, rfl, rfl, k _ _ B H h (.refl e) (.bl _)⟩
theorem opEq (hc : Γ.calm = true) : OpD Γ (compareOp .Eq) rEq := by
  intro B H x y u v q e dx dy h QV k
  unfold rEq at h
  split at h
  · rename_i p p' h1 h2
    exact ⟨rEqD Γ.K.K, fun X hX => by rw [← hX.K]; exact op_eqD (hX.room hc).units, p, p', dn_py e dx h1, dn_py e dy h2, h.1, h.2.1, k _ _ B H h.2.2 (.refl e) (.bl _)⟩
  · exact h.elim
theorem opNe (hc : Γ.calm = true) : OpD Γ (compareOp .NotEq) rNe := by
  intro B H x y u v q e dx dy h QV k
  unfold rNe at h
  split at h
  · rename_i p p' h1 h2
    exact ⟨rNeD Γ.K.K, fun X hX => by rw [← hX.K]; exact op_neD (hX.room hc).units, p, p', dn_py e dx h1, dn_py e dy h2, h.1, h.2.1, k _ _ B H h.2.2 (.refl e) (.bl _)⟩
  · exact h.elim
theorem dn_flat {K : Kc} {B : Hp} {x : V} {d : D} (h : Dn K B x d) (f : flatD d = true) : flatV x = true := by
  cases h <;> first | rfl | cases f
theorem dn_flatL {K : Kc} {B : Hp} : ∀ {xs : List V} {ds : List D}, DnL K B xs ds → ds.all flatD = true → xs.all flatV = true
  | _, _, .nil, _ => rfl
  | _, _, .cons h r, f => by
    rw [List.all_cons, Bool.and_eq_true] at f ⊢
    exact ⟨dn_flat h f.1, dn_flatL r f.2⟩
theorem eq_flat {K : Kc} {B : Hp} {x y : V} {d e : D} (h : Dn K B x d) (h' : Dn K B y e) (f : flatD d = true) (f' : flatD e = true) : eqV x y = eqFlat d e := by
  cases h <;> (first | cases f | skip) <;> cases h' <;> (first | cases f' | skip) <;> first | rfl | simp [eqV, eqFlat]
theorem in_flat {K : Kc} {B : Hp} {x : V} {d : D} (h : Dn K B x d) (f : flatD d = true) : ∀ {xs : List V} {ds : List D}, DnL K B xs ds → ds.all flatD = true → inV x xs = inFlat d ds
  | _, _, .nil, _ => rfl
  | _, _, .cons h' r, g => by
    rw [List.all_cons, Bool.and_eq_true] at g
    have e1 := eq_flat h' h g.1 f
    have e2 := in_flat h f r g.2
    unfold inV inFlat at e2 ⊢
    rw [List.any_cons, List.any_cons, e1, e2]
theorem opIn : OpD Γ (compareOp .In) rIn := by
  intro B H x y u v q e dx dy h QV k
  cases dy <;> (try exact False.elim h)
  · rename_i a xs ds h1 r1
    refine ⟨L2.rIn Γ.K.K false, fun X hX => by rw [← hX.K]; exact op_in_seq, _, _, rfl, .inl (.of (e _ _ h1)), dn_flat dx h.1, dn_flatL r1 h.2.1, ?_⟩
    rw [in_flat dx h.1 r1 h.2.1]
    exact k _ _ B H h.2.2 (.refl e) (.bl _)
  · rename_i a xs ds h1 r1
    refine ⟨L2.rIn Γ.K.K false, fun X hX => by rw [← hX.K]; exact op_in_seq, _, _, rfl, .inr (.of (e _ _ h1)), dn_flat dx h.1, dn_flatL r1 h.2.1, ?_⟩
    rw [in_flat dx h.1 r1 h.2.1]
    exact k _ _ B H h.2.2 (.refl e) (.bl _)
theorem opNotIn : OpD Γ (compareOp .NotIn) rNotIn := by
  intro B H x y u v q e dx dy h QV k
  cases dy <;> (try exact False.elim h)
  · rename_i a xs ds h1 r1
    refine ⟨L2.rIn Γ.K.K true, fun X hX => by rw [← hX.K]; exact op_notIn_seq, _, _, rfl, .inl (.of (e _ _ h1)), dn_flat dx h.1, dn_flatL r1 h.2.1, ?_⟩
    rw [in_flat dx h.1 r1 h.2.1]
    exact k _ _ B H h.2.2 (.refl e) (.bl _)
  · rename_i a xs ds h1 r1
    refine ⟨L2.rIn Γ.K.K true, fun X hX => by rw [← hX.K]; exact op_notIn_seq, _, _, rfl, .inr (.of (e _ _ h1)), dn_flat dx h.1, dn_flatL r1 h.2.1, ?_⟩
    rw [in_flat dx h.1 r1 h.2.1]
    exact k _ _ B H h.2.2 (.refl e) (.bl _)
theorem is_non {K : Kc} {B : Hp} {x : V} {d : D} (h : Dn K B x d) : decide (x = .non) = isNon d := by
  cases h <;> first | rfl | simp [isNon]
theorem opIs : OpD Γ (compareOp .Is) rIs := by
  intro B H x y u v q e dx dy h QV k
  cases dy <;> (try exact False.elim h)
  refine ⟨_, fun X _ => op_isN, rfl, ?_⟩
  rw [is_non dx]
  exact k _ _ B H h (.refl e) (.bl _)
theorem opIsNot : OpD Γ (compareOp .IsNot) rIsNot := by
  intro B H x y u v q e dx dy h QV k
  cases dy <;> (try exact False.elim h)
  refine ⟨_, fun X _ => op_notN, rfl, ?_⟩
  rw [is_non dx]
  exact k _ _ B H h (.refl e) (.bl _)
end
end EC
/-! EC3: arguments, displays, subscripts, slices, fields, calls of built-ins. -/
namespace EC
open PySem PySem.Spec PyProof.Rows L2
/-! ### arguments, displays -/
def dNil : DA := fun τ Q _ => Q [] τ
def dCons (t : DE) (r : DA) : DA := fun τ Q R => t τ (fun d τ1 => r τ1 (fun ds τ2 => Q (d :: ds) τ2) R) R
def dTup (t : DA) : DE := fun τ Q R => t τ (fun ds τ1 => ds.length ≤ 1000000 ∧ Q (.tup ds) τ1) R
def dLst (t : DA) : DT := fun τ Q R => t τ (fun ds τ1 => ds.length ≤ 1000000 ∧ Q (.ow false ds) τ1) R
theorem millLine {n : Nat} (h : n ≤ 1000000) : n ≤ sizeLine := by
  rw [sizeLine_eq]
  omega
section
variable {Γ : Gm} {e : Expr} {es : List Expr} {t : DE} {r : DA} {pos : Pos}
theorem SA.nil : SA Γ [] dNil := fun B H σ τ F Q R hr ht QV hq hR => ⟨tNil, fun X hX => pa_nil, hq _ _ B H τ F ht (Nx.refl hr) .nil⟩
theorem SA.cons (h : SE Γ e t) (h2 : SA Γ es r) (hs : ∀ env : PySem.Env, starEach (e :: es) env = (false, eval e env) :: starEach es env := by intros; rfl) : SA Γ (e :: es) (dCons t r) := fun B H σ τ F Q R hr ht QV hq hR =>
  ⟨tCons (We Γ e) (Wa Γ es), fun X hX => pa_cons (We.pe hX) (Wa.pa hX) (hs _), h hr ht _ (fun x d B1 H1 τ1 F1 q1 n1 d1 =>
    h2 n1.rel q1 _ (fun xs ds B2 H2 τ2 F2 q2 n2 d2 => hq _ _ B2 H2 τ2 F2 q2 (n1.trans n2) (.cons (d1.mono n2.s.b) d2)) (hR.after n1)) hR⟩
theorem SE.tup {k : Nat} (h : SA Γ es r) : SE Γ (.Tuple es k pos) (dTup r) := fun B H σ τ F Q R hr ht QV hq hR =>
  ⟨tTup (Wa Γ es), fun X hX => pe_tup (Wa.pa hX), h hr ht _ (fun xs ds B1 H1 τ1 F1 q1 n1 d1 => ⟨by rw [d1.length]; exact millLine q1.1, fun p hp =>
    hq _ _ (upd B1 p (.tup xs)) _ τ1 F1 q1.2 (n1.trans (n1.rel.grow (.new n1.rel.ex hp))) (.tup upd_same (d1.mono (Ex.new (n1.rel.ex.back hp))))⟩) hR⟩
/-- what comes of an owned new list -/
theorem OkT.own {K : Kc} {B H : Hp} {σ : L2.St} {τ : Env} {F : List Addr} {Q : T → Env → Prop} {QV : VK} (hq : OkT K B H σ τ F Q QV) {B1 H1 : Hp} {τ1 : Env} {F1 : List Addr} (n : Nx K B H σ τ F B1 H1 σ τ1 F1 []) {p : Addr} {xs : List V} {ds : List D}
    (hp : H1 p = none) (d : DnL K B1 xs ds) (q : Q (.ow false ds) τ1) : QV (.ref p) (upd H1 p (.lst xs)) := by
  obtain ⟨n2, o, nd, df⟩ := n.rel.own (l := false) hp d
  exact hq _ _ [p] B1 _ τ1 F1 q (n.trans n2) o nd df
theorem OkT.fr {K : Kc} {B H : Hp} {σ : L2.St} {τ : Env} {F : List Addr} {Q : T → Env → Prop} {QV : VK} (hq : OkT K B H σ τ F Q QV) {B1 H1 : Hp} {τ1 : Env} {F1 : List Addr} (n : Nx K B H σ τ F B1 H1 σ τ1 F1 []) {x : V} {d : D}
    (h : Dn K B1 x d) (q : Q (.fr d) τ1) : QV x H1 := hq _ _ [] B1 _ τ1 F1 q n (.fr h) (by rw [List.append_nil]; exact n.rel.nd) (fun _ z => (nomatch z))
theorem ST.lst (h : SA Γ es r) : ST Γ (.List es pos) (dLst r) := fun B H σ τ F Q R hr ht QV hq hR =>
  ⟨tLst (Wa Γ es), fun X hX => pe_lst (Wa.pa hX), h hr ht _ (fun xs ds B1 H1 τ1 F1 q1 n1 d1 => ⟨by rw [d1.length]; exact millLine q1.1, fun p hp => hq.own n1 hp d1 q1.2⟩) hR⟩
end
/-! ### subscripts -/
def atD (ds : List D) (i : Int) : Option D := atI ds i
def rIx : D2 := fun u v q => match u, v with
  | .lst ds, .int i => match atD ds i with
    | some d => q d
    | none => False
  | .tup ds, .int i => match atD ds i with
    | some d => q d
    | none => False
  | .str z, .int i => z.length ≤ sizeLine ∧ match atI z.cps.toList i with
    | some c => q (.str ⟨#[c]⟩)
    | none => False
  | _, _ => False
section
variable {Γ : Gm} {a b e : Expr} {ta tb : DE} {pos : Pos}
theorem dn_at {K : Kc} {B : Hp} {xs : List V} {ds : List D} (h : DnL K B xs ds) {i : Int} {d : D} (e : atD ds i = some d) : ∃ v, atI xs i = some v ∧ Dn K B v d := by
  unfold atD atI at *
  rw [h.length]
  cases z : ixN ds.length i with
  | none => rw [z] at e; cases e
  | some j =>
    rw [z] at e
    exact h.get e
theorem ix_core {K : Kc} {B H : Hp} {x y : V} {u v : D} {q : D → Prop} {QV : VK} (ex : Ex B H) (d1 : Dn K B x u ∨ ∃ p xs ds, x = .ref p ∧ u = .lst ds ∧ H p = some (.lst xs) ∧ DnL K B xs ds) (d2 : Dn K B y v)
    (q2 : rIx u v q) (k : ∀ z d, q d → Dn K B z d → QV z H) : L2.rIx K.K x y H QV := by
  have lst : ∀ {p : Addr} {xs : List V} {ds : List D} {i : Int}, H p = some (.lst xs) → DnL K B xs ds → rIx (.lst ds) (.int i) q → L2.rIx K.K (.ref p) (.int i) H QV := fun {p xs ds i} h1 r1 q2 => by
    unfold rIx at q2
    dsimp only at q2
    split at q2
    · rename_i d hd
      obtain ⟨v, h2, h3⟩ := dn_at r1 hd
      exact .inl ⟨p, xs, i, v, rfl, rfl, .of h1, h2, k _ _ q2 h3⟩
    · exact q2.elim
  rcases d1 with d1 | ⟨p, xs, ds, rfl, rfl, h1, r1⟩
  · cases d1 <;> cases d2 <;> (try exact False.elim q2)
    · rename_i z i
      unfold rIx at q2
      obtain ⟨hz, q2⟩ := q2
      split at q2
      · rename_i c hc
        exact .inr (.inr ⟨z, i, c, rfl, rfl, hz, hc, k _ _ q2 (.str _)⟩)
      · exact q2.elim
    · rename_i h1 r1 i
      exact lst (ex _ _ h1) r1 q2
    · rename_i p xs ds h1 r1 i
      unfold rIx at q2
      dsimp only at q2
      split at q2
      · rename_i d hd
        obtain ⟨v, h2, h3⟩ := dn_at r1 hd
        exact .inr (.inl ⟨p, xs, i, v, rfl, rfl, .of (ex _ _ h1), h2, k _ _ q2 h3⟩)
      · exact q2.elim
  · cases d2 <;> (try exact False.elim q2)
    exact lst h1 r1 q2
theorem SE.ix (ha : SE Γ a ta) (hb : SE Γ b tb) (hs : ∀ o i, subscripted b false o i = operate [o, i] (getItem o i) := by intros; rfl) : SE Γ (.Subscript a b pos) (dOp rIx ta tb) := by
  intro B H σ τ F Q R hr ht QV hq hR
  refine ⟨tOp (L2.rIx Γ.K.K) (We Γ a) (We Γ b), fun X hX => by rw [← hX.K]; exact pe_ix ix_seq (We.pe hX) (We.pe hX) hs, ?_⟩
  refine ha hr ht _ (fun x u B1 H1 τ1 F1 q1 n1 d1 => ?_) hR
  refine hb n1.rel q1 _ (fun y v B2 H2 τ2 F2 q2 n2 d2 => ?_) (hR.after n1)
  exact ix_core n2.rel.ex (.inl (d1.mono n2.s.b)) d2 q2 fun z d qd dz => hq _ _ B2 H2 τ2 F2 qd (n1.trans n2) dz
/-- what slot i shows to a reader -/
def peek (τ : Env) (i : Nat) : Option D := match τ[i]? with
  | some (some (.fr d)) => some d
  | some (some (.ow _ ds)) => some (.lst ds)
  | _ => none
/-- a slot's value as it stands -/
theorem Rel.peek {K : Kc} {B H : Hp} {σ : L2.St} {τ : Env} {F : List Addr} (r : Rel K B H σ τ F) {i : Nat} {d : D} (h : peek τ i = some d) :
    ∃ v, σ[i]? = some (some v) ∧ (Dn K B v d ∨ ∃ p xs ds, v = .ref p ∧ d = .lst ds ∧ H p = some (.lst xs) ∧ DnL K B xs ds) := by
  unfold EC.peek at h
  split at h
  · rename_i d' h0
    cases h
    obtain ⟨v, F1, f, F2, h1, h2, h3, h4⟩ := r.sl.focus h0
    cases h2 with
    | fr d2 => exact ⟨v, h1, .inl d2⟩
  · rename_i l ds h0
    cases h
    obtain ⟨v, F1, f, F2, h1, h2, h3, h4⟩ := r.sl.focus h0
    cases h2 with
    | @ow p xs _ _ hp d' => exact ⟨.ref p, h1, .inr ⟨p, xs, ds, rfl, rfl, hp, d'⟩⟩
  · cases h
/-- x[e], x a slot -/
def dIxV (i : Nat) (tb : DE) : DE := fun τ Q R => (peek τ i).isSome = true ∧ tb τ (fun v τ1 => match peek τ1 i with
  | some u => rIx u v fun z => Q z τ1
  | none => False) R
theorem SE.ixV {i : Nat} {x : Str} {pos' : Pos} (hb : SE Γ b tb) (hN : Γ.N[i]? = some x := by rfl) (hv : Vis Γ.sc x := by first | exact Or.inl rfl | exact Or.inr (Or.inl rfl) | exact Or.inr (Or.inr rfl)) (hs : ∀ o i, subscripted b false o i = operate [o, i] (getItem o i) := by intros; rfl) (hd : (x == ("__debug__" : Str)) = false := by decide) (hcd : (x == ("__classdict__" : Str)) = false := by decide) : SE Γ (.Subscript (.Name x pos') b pos) (dIxV i tb) := by
  intro B H σ τ F Q R hr ht QV hq hR
  refine ⟨tOp (L2.rIx Γ.K.K) (tVar i) (We Γ b), fun X hX => by rw [← hX.K]; exact pe_ix ix_seq (pe_var (by rw [hX.N]; exact hN) (by rw [hX.sc]; exact hv) hd hcd) (We.pe hX) hs, ?_⟩
  obtain ⟨ht0, ht⟩ := ht
  obtain ⟨u0, hu0⟩ := Option.isSome_iff_exists.mp ht0
  obtain ⟨x0, hx0, _⟩ := hr.peek hu0
  refine ⟨x0, hx0, ?_⟩
  refine hb hr ht _ (fun y v B2 H2 τ2 F2 q2 n2 d2 => ?_) hR
  dsimp only at q2
  split at q2
  · rename_i u hu
    obtain ⟨v', h1, h2⟩ := n2.rel.peek hu
    rw [hx0] at h1
    cases h1
    exact ix_core n2.rel.ex h2 d2 q2 fun z d qd dz => hq _ _ B2 H2 τ2 F2 qd n2 dz
  · exact q2.elim
/-- e in x, x a slot -/
def dInV (neg : Bool) (i : Nat) (ta : DE) : DE := fun τ Q R => ta τ (fun u τ1 => match peek τ1 i with
  | some (.lst ds) => flatD u = true ∧ ds.all flatD = true ∧ Q (.bl (if neg then !inFlat u ds else inFlat u ds)) τ1
  | some (.tup ds) => flatD u = true ∧ ds.all flatD = true ∧ Q (.bl (if neg then !inFlat u ds else inFlat u ds)) τ1
  | _ => False) R
theorem inV_read {i : Nat} {x : Str} (neg : Bool) (ha : SE Γ a ta) {B H : Hp} {σ : L2.St} {τ : Env} {F : List Addr} {Q : D → Env → Prop} {R : RX} (hr : Rel Γ.K B H σ τ F) (ht : dInV neg i ta τ Q R) {QV : VK} (hq : OkD Γ.K B H σ τ F Q QV)
    (hR : OkR Γ.K B H σ τ F R Γ.W) : tOp (L2.rIn Γ.K.K neg) (We Γ a) (tVar i) σ H QV := by
  refine ha hr ht _ (fun y v B2 H2 τ2 F2 q2 n2 d2 => ?_) hR
  dsimp only at q2
  split at q2
  · rename_i ds hu
    obtain ⟨v', h1, h2⟩ := n2.rel.peek hu
    refine ⟨v', h1, ?_⟩
    obtain ⟨p, xs, rfl, h3, r3⟩ : ∃ p xs, v' = .ref p ∧ H2 p = some (.lst xs) ∧ DnL Γ.K B2 xs ds := by
      rcases h2 with h2 | ⟨p, xs, ds', h3, h4, h5, h6⟩
      · cases h2 with
        | lst h r => exact ⟨_, _, rfl, n2.rel.ex _ _ h, r⟩
      · cases h4
        exact ⟨p, xs, h3, h5, h6⟩
    refine ⟨p, xs, rfl, .inl (.of h3), dn_flat d2 q2.1, dn_flatL r3 q2.2.1, ?_⟩
    rw [in_flat d2 q2.1 r3 q2.2.1]
    exact hq _ _ B2 H2 τ2 F2 q2.2.2 n2 (.bl _)
  · rename_i ds hu
    obtain ⟨v', h1, h2⟩ := n2.rel.peek hu
    refine ⟨v', h1, ?_⟩
    obtain ⟨p, xs, rfl, h3, r3⟩ : ∃ p xs, v' = .ref p ∧ H2 p = some (.tup xs) ∧ DnL Γ.K B2 xs ds := by
      rcases h2 with h2 | ⟨p, xs, ds', h3, h4, h5, h6⟩
      · cases h2 with
        | tup h r => exact ⟨_, _, rfl, n2.rel.ex _ _ h, r⟩
      · cases h4
    refine ⟨p, xs, rfl, .inr (.of h3), dn_flat d2 q2.1, dn_flatL r3 q2.2.1, ?_⟩
    rw [in_flat d2 q2.1 r3 q2.2.1]
    exact hq _ _ B2 H2 τ2 F2 q2.2.2 n2 (.bl _)
  · exact q2.elim
theorem SE.inV {i : Nat} {x : Str} {pos' : Pos} (ha : SE Γ a ta) (hN : Γ.N[i]? = some x := by rfl) (hv : Vis Γ.sc x := by first | exact Or.inl rfl | exact Or.inr (Or.inl rfl) | exact Or.inr (Or.inr rfl)) (hd : (x == ("__debug__" : Str)) = false := by decide) (hcd : (x == ("__classdict__" : Str)) = false := by decide) : SE Γ (.Compare a [.In] [.Name x pos'] pos) (dInV false i ta) := fun B H σ τ F Q R hr ht QV hq hR =>
  ⟨tOp (L2.rIn Γ.K.K false) (We Γ a) (tVar i), fun X hX => by rw [← hX.K]; exact pe_cmpR op_in_seq (We.pe hX) (pe_var (by rw [hX.N]; exact hN) (by rw [hX.sc]; exact hv) hd hcd) rfl, inV_read (x := x) false ha hr ht hq hR⟩
theorem SE.notInV {i : Nat} {x : Str} {pos' : Pos} (ha : SE Γ a ta) (hN : Γ.N[i]? = some x := by rfl) (hv : Vis Γ.sc x := by first | exact Or.inl rfl | exact Or.inr (Or.inl rfl) | exact Or.inr (Or.inr rfl)) (hd : (x == ("__debug__" : Str)) = false := by decide) (hcd : (x == ("__classdict__" : Str)) = false := by decide) : SE Γ (.Compare a [.NotIn] [.Name x pos'] pos) (dInV true i ta) := fun B H σ τ F Q R hr ht QV hq hR =>
  ⟨tOp (L2.rIn Γ.K.K true) (We Γ a) (tVar i), fun X hX => by rw [← hX.K]; exact pe_cmpR op_notIn_seq (We.pe hX) (pe_var (by rw [hX.N]; exact hN) (by rw [hX.sc]; exact hv) hd hcd) rfl, inV_read (x := x) true ha hr ht hq hR⟩
theorem okTest {B H : Hp} {σ : L2.St} {τ : Env} {F : List Addr} {Q : Bool → Env → Prop} {QV : Bool → Hp → Prop} {K : Kc} (hq : OkC K B H σ τ F Q QV) : OkD K B H σ τ F (fun d τ' => match d with
  | .bl b => Q b τ'
  | _ => False) (fun x H' => ∃ k, x = .bl k ∧ QV k H') := fun v d B' H' τ' F' q n dv => by
  cases dv with
  | bl b => exact ⟨b, rfl, hq b B' H' τ' F' q n⟩
  | _ => exact q.elim
theorem SC.inV {i : Nat} {x : Str} {pos' : Pos} (ha : SE Γ a ta) (hN : Γ.N[i]? = some x := by rfl) (hv : Vis Γ.sc x := by first | exact Or.inl rfl | exact Or.inr (Or.inl rfl) | exact Or.inr (Or.inr rfl)) (hd : (x == ("__debug__" : Str)) = false := by decide) (hcd : (x == ("__classdict__" : Str)) = false := by decide) : SC Γ (.Compare a [.In] [.Name x pos'] pos) (dB (dInV false i ta)) := fun B H σ τ F Q R hr ht QV hq hR =>
  ⟨tTest (tOp (L2.rIn Γ.K.K false) (We Γ a) (tVar i)), fun X hX => by rw [← hX.K]; exact pt_cmpR op_in_seq (We.pe hX) (pe_var (by rw [hX.N]; exact hN) (by rw [hX.sc]; exact hv) hd hcd) rfl, inV_read (x := x) false ha hr ht (okTest hq) hR⟩
theorem SC.notInV {i : Nat} {x : Str} {pos' : Pos} (ha : SE Γ a ta) (hN : Γ.N[i]? = some x := by rfl) (hv : Vis Γ.sc x := by first | exact Or.inl rfl | exact Or.inr (Or.inl rfl) | exact Or.inr (Or.inr rfl)) (hd : (x == ("__debug__" : Str)) = false := by decide) (hcd : (x == ("__classdict__" : Str)) = false := by decide) : SC Γ (.Compare a [.NotIn] [.Name x pos'] pos) (dB (dInV true i ta)) := fun B H σ τ F Q R hr ht QV hq hR =>
  ⟨tTest (tOp (L2.rIn Γ.K.K true) (We Γ a) (tVar i)), fun X hX => by rw [← hX.K]; exact pt_cmpR op_notIn_seq (We.pe hX) (pe_var (by rw [hX.N]; exact hN) (by rw [hX.sc]; exact hv) hd hcd) rfl, inV_read (x := x) true ha hr ht (okTest hq) hR⟩
end
/-! ### slices -/
abbrev DO := Env → (Option Int → Env → Prop) → RX → Prop
def dNoPart : DO := fun τ Q _ => Q none τ
def dPart (t : DE) : DO := fun τ Q R => t τ (fun d τ' => match d with
  | .int i => Q (some i) τ'
  | _ => False) R
section
variable {Γ : Gm} {a e : Expr} {ta t : DE} {pos p2 : Pos} {lo hi : Option Expr} {tl th : DO}
theorem Wo.po {e : Option Expr} {X : Cx} (h : In Γ X) : PO X e (Wo Γ e) := ⟨fun pins s σ H Q I ⟨_, k, q⟩ => (k X h).run pins s σ H Q I q⟩
def SO (Γ : Gm) (e : Option Expr) (t : DO) : Prop := ∀ ⦃B H : Hp⦄ ⦃σ : L2.St⦄ ⦃τ : Env⦄ ⦃F : List Addr⦄ ⦃Q : Option Int → Env → Prop⦄ ⦃R : RX⦄, Rel Γ.K B H σ τ F → t τ Q R → ∀ QV : Option Int → Hp → Prop,
  (∀ o B' H' τ' F', Q o τ' → Nx Γ.K B H σ τ F B' H' σ τ' F' [] → QV o H') → OkR Γ.K B H σ τ F R Γ.W → Wo Γ e σ H QV
theorem SO.none : SO Γ none dNoPart := fun B H σ τ F Q R hr ht QV hq hR => ⟨tNoPart, fun X hX => po_none, hq _ B H τ F ht (Nx.refl hr)⟩
theorem SO.some (h : SE Γ e t) : SO Γ (some e) (dPart t) := fun B H σ τ F Q R hr ht QV hq hR => ⟨tPart (We Γ e), fun X hX => po_some (We.pe hX), h hr ht _ (fun x d B1 H1 τ1 F1 q1 n1 d1 => by
  cases d1 with
  | int i => exact ⟨i, rfl, hq _ B1 H1 τ1 F1 q1 n1⟩
  | _ => exact q1.elim) hR⟩
def cutD {α : Type} (ds : List α) (lo hi : Option Int) : List α := (ds.drop (HT.sIx ds.length 0 lo)).take (HT.sIx ds.length ds.length hi - HT.sIx ds.length 0 lo)
theorem cut_dn {K : Kc} {B : Hp} {xs : List V} {ds : List D} (h : DnL K B xs ds) (lo hi : Option Int) : DnL K B (cutV xs lo hi) (cutD ds lo hi) := by
  unfold cutV cutD
  rw [h.length]
  exact (h.drop _).take _
def rCut (u : D) (lo hi : Option Int) (q : T → Prop) : Prop := match u with
  | .lst ds => q (.ow false (cutD ds lo hi))
  | .tup ds => q (.fr (.tup (cutD ds lo hi)))
  | .scr ns => q (.ow false ((cutD ns lo hi).map .int))
  | _ => False
def dCut (ta : DE) (tl th : DO) : DT := fun τ Q R => ta τ (fun u τ1 => tl τ1 (fun lo τ2 => th τ2 (fun hi τ3 => rCut u lo hi fun t => Q t τ3) R) R) R
theorem cut_whole {α : Type} {ds : List α} {lo hi : Option Int} (h : HT.sIx ds.length 0 lo = 0 ∧ HT.sIx ds.length ds.length hi = ds.length) : cutD ds lo hi = ds := by
  unfold cutD
  rw [h.1, h.2, List.drop_zero, Nat.sub_zero]
  exact List.take_length
theorem ST.cut (ha : SE Γ a ta) (hl : SO Γ lo tl) (hh : SO Γ hi th) : ST Γ (.Subscript a (.Slice lo hi none p2) pos) (dCut ta tl th) := by
  intro B H σ τ F Q R hr ht QV hq hR
  refine ⟨tSl (fun x lo hi H Q => rSlL Γ.K.K x lo hi H Q ∨ rSlA Γ.K.K x lo hi H Q) (We Γ a) (Wo Γ lo) (Wo Γ hi), fun X hX => by rw [← hX.K]; exact pe_slice (sl_list.or sl_tupA) (We.pe hX) (Wo.po hX) (Wo.po hX), ?_⟩
  refine ha hr ht _ (fun x u B1 H1 τ1 F1 q1 n1 d1 => ?_) hR
  refine hl n1.rel q1 _ (fun lo B2 H2 τ2 F2 q2 n2 => ?_) (hR.after n1)
  refine hh n2.rel q2 _ (fun hi B3 H3 τ3 F3 q3 n3 => ?_) ((hR.after n1).after n2)
  have n := (n1.trans n2).trans n3
  have d3 := d1.mono (n2.trans n3).s.b
  cases d3 <;> (try exact False.elim q3)
  · rename_i p xs ds h1 r1
    exact .inl ⟨p, xs, rfl, .of (n3.rel.ex _ _ h1), fun l hl => hq.own n hl (cut_dn r1 lo hi) q3⟩
  · rename_i p xs ds h1 r1
    refine .inr ⟨p, xs, rfl, .of (n3.rel.ex _ _ h1), fun w => ?_, fun w l hl => ?_⟩
    · rw [r1.length] at w
      have q3' : Q (.fr (.tup (cutD ds lo hi))) τ3 := q3
      rw [cut_whole w] at q3'
      exact hq.fr n (.tup h1 r1) q3'
    · have g := Gr.new (o := .tup (cutV xs lo hi)) n3.rel.ex hl
      exact hq.fr (n.trans (n3.rel.grow g)) (.tup upd_same ((cut_dn r1 lo hi).mono g.stp.b)) q3
  · rename_i p ns h1
    refine .inl ⟨p, _, rfl, n3.rel.ex.l h1, fun l hl => ?_⟩
    have e : cutV (ns.map V.int) lo hi = (cutD ns lo hi).map V.int := by
      unfold cutV cutD
      rw [List.length_map, List.map_take, List.map_drop]
    rw [e]
    exact hq.own n hl (DnL.ofInts _) q3
end
/-! ### fields -/
/-- what the written part says of the classes: codes c of P have the field f -/
structure HasF (K : Kc) (P : Nat → Prop) (f : Str) : Prop where
  cls : ∀ c, P c → Cls K.K (K.cl c)
  non : ∀ c, P c → NoAttr K.K (K.cl c) f
def dFld (P : Nat → Prop) (f : Str) (t : DE) : DE := fun τ Q R => t τ (fun d τ' => match d with
  | .ins c fs => P c ∧ match fs.lookup f with
    | some d => Q d τ'
    | none => False
  | _ => False) R
section
variable {Γ : Gm} {e : Expr} {t : DE} {pos : Pos} {f : Str} {P : Nat → Prop}
theorem SE.fld (hf : HasF Γ.K P f) (he : SE Γ e t) (hb : ∀ env : PySem.Env, attributeBase e f env (eval e env) = eval e env := by intros; rfl) : SE Γ (.Attribute e f pos) (dFld P f t) := by
  intro B H σ τ F Q R hr ht QV hq hR
  refine ⟨tFld Γ.K.K (We Γ e) f, fun X hX => by rw [← hX.K]; exact pe_fld (We.pe hX) (hb _), ?_⟩
  refine he hr ht _ (fun x u B1 H1 τ1 F1 q1 n1 d1 => ?_) hR
  cases d1 <;> (try exact False.elim q1)
  rename_i a dx c fs es h1 r1
  dsimp only at q1
  obtain ⟨hc, q1⟩ := q1
  split at q1
  · rename_i d hd
    obtain ⟨v, h2, h3⟩ := r1.look hd
    exact ⟨a, _, dx, fs, v, rfl, n1.rel.ex _ _ h1, hf.cls c hc, hf.non c hc, h2, hq _ _ B1 H1 τ1 F1 q1 n1 h3⟩
  · exact q1.elim
end
end EC
/-! EC4: calls of built-ins, isinstance, calls of defs. -/
namespace EC
open PySem PySem.Spec PyProof.Rows L2
abbrev DCall := List D → (T → Prop) → Prop
def OpC (Γ : Gm) (f : Value) (r : DCall) : Prop := ∀ ⦃B H : Hp⦄ ⦃xs : List V⦄ ⦃ds : List D⦄ ⦃q : T → Prop⦄, Ex B H → DnL Γ.K B xs ds → r ds q → ∀ QV : VK, (∀ z d B' H', q (.fr d) → Gr B H B' H' → Dn Γ.K B' z d → QV z H') →
  (∀ p ys es, q (.ow false es) → H p = none → DnL Γ.K B ys es → QV (.ref p) (upd H p (.lst ys))) → ∃ rr, (∀ X, In Γ X → CallR X f rr) ∧ rr xs H QV
def dCallB (r : DCall) (ta : DA) : DT := fun τ Q R => ta τ (fun ds τ1 => r ds fun t => Q t τ1) R
section
variable {Γ : Gm} {e : Expr} {es : List Expr} {ta : DA} {r : DCall} {x : Str} {p pos : Pos} {bid : String}
theorem any_call {f : Value} {X : Cx} (hX : In Γ X) : CallR X f (fun xs H Q => ∃ rr, (∀ X, In Γ X → CallR X f rr) ∧ rr xs H Q) := fun pins s σ H xs us Q I r ⟨_, k, q⟩ => k X hX pins s σ H xs us Q I r q
theorem callB_read {f : Value} (ho : OpC Γ f r) (ha : SA Γ (e :: es) ta) {B H : Hp} {σ : L2.St} {τ : Env} {F : List Addr} {Q : T → Env → Prop} {R : RX} (hr : Rel Γ.K B H σ τ F) (ht : dCallB r ta τ Q R) {QV : VK} (hq : OkT Γ.K B H σ τ F Q QV)
    (hR : OkR Γ.K B H σ τ F R Γ.W) : tCB (fun xs H Q => ∃ rr, (∀ X, In Γ X → CallR X f rr) ∧ rr xs H Q) (Wa Γ (e :: es)) σ H QV :=
  ha hr ht _ (fun xs ds B1 H1 τ1 F1 q1 n1 d1 => ho n1.rel.ex d1 q1 _ (fun z d B' H' qd g dz => hq.fr (n1.trans (n1.rel.grow g)) dz qd) fun p ys es qd hp dd => hq.own n1 hp dd qd) hR
theorem ST.callB (ho : OpC Γ (.builtin bid) r) (hm : Γ.mg x = none) (ha : SA Γ (e :: es) ta) (hg : GlS Γ.sc x := by rfl) (hv : bootBuiltins x = some (.builtin bid) := by decide +kernel) (he : ∀ env : PySem.Env, starEach (e :: es) env = (false, eval e env) :: starEach es env := by intros; rfl) (hpl : ∀ env : PySem.Env, (backTo pos (starEach es env)).any (·.1) = false := by intros; rfl) (hn : x ≠ "__name__" := by decide) (hdb : (x == ("__debug__" : Str)) = false := by decide) : ST Γ (.Call (.Name x p) (e :: es) [] pos) (dCallB r ta) := fun B H σ τ F Q R hr ht QV hq hR =>
  ⟨_, fun X hX => pe_callB (any_call hX) (hX.gl hg) (by rw [hX.mg]; exact hm) hv (Wa.pa hX) hn hdb (he _) (hpl _), callB_read ho ha hr ht hq hR⟩
theorem ST.callTy {T : String} (ho : OpC Γ (.type T) r) (hm : Γ.mg x = none) (ha : SA Γ (e :: es) ta) (hg : GlS Γ.sc x := by rfl) (hv : bootBuiltins x = some (.type T) := by decide +kernel) (he : ∀ env : PySem.Env, starEach (e :: es) env = (false, eval e env) :: starEach es env := by intros; rfl) (hpl : ∀ env : PySem.Env, (backTo pos (starEach es env)).any (·.1) = false := by intros; rfl) (hn : x ≠ "__name__" := by decide) (hdb : (x == ("__debug__" : Str)) = false := by decide) : ST Γ (.Call (.Name x p) (e :: es) [] pos) (dCallB r ta) := fun B H σ τ F Q R hr ht QV hq hR =>
  ⟨_, fun X hX => pe_callTy (any_call hX) (hX.gl hg) (by rw [hX.mg]; exact hm) hv (Wa.pa hX) hn hdb (he _) (hpl _), callB_read ho ha hr ht hq hR⟩
/-! ### the built-ins -/
def cLen : DCall := fun ds q => match ds with
  | [.lst es] => q (.fr (.int es.length))
  | [.tup es] => q (.fr (.int es.length))
  | [.scr es] => q (.fr (.int es.length))
  | [.str z] => z.length ≤ sizeLine ∧ q (.fr (.int z.length))
  | _ => False
def cInt : DCall := fun ds q => match ds with
  | [.int i] => q (.fr (.int i))
  | [.bl b] => q (.fr (.int (if b then 1 else 0)))
  | _ => False
def cAbs : DCall := fun ds q => match ds with
  | [.int i] => q (.fr (.int (if i < 0 then -i else i)))
  | _ => False
def cMax : DCall := fun ds q => match ds with
  | [.int i, .int j] => q (.fr (.int (if j > i then j else i)))
  | [.lst es] => ∃ ns : List Int, es = ns.map .int ∧ 0 < ns.length ∧ ∀ m, m ∈ ns → (∀ y, y ∈ ns → y ≤ m) → q (.fr (.int m))
  | _ => False
def cMin : DCall := fun ds q => match ds with
  | [.int i, .int j] => q (.fr (.int (if j < i then j else i)))
  | [.lst es] => ∃ ns : List Int, es = ns.map .int ∧ 0 < ns.length ∧ ∀ m, m ∈ ns → (∀ y, y ∈ ns → m ≤ y) → q (.fr (.int m))
  | _ => False
def cSum : DCall := fun ds q => match ds with
  | [.lst es] => ∃ ns : List Int, es = ns.map .int ∧ q (.fr (.int ns.sum))
  | _ => False
def cAll : DCall := fun ds q => match ds with
  | [.lst es] => ∃ bs : List Bool, es = bs.map .bl ∧ q (.fr (.bl (bs.all id)))
  | _ => False
def cAny : DCall := fun ds q => match ds with
  | [.lst es] => ∃ bs : List Bool, es = bs.map .bl ∧ q (.fr (.bl (bs.any id)))
  | _ => False
def cTuple : DCall := fun ds q => match ds with
  | [.lst es] => q (.fr (.tup es))
  | [.tup es] => q (.fr (.tup es))
  | _ => False
def cList : DCall := fun ds q => match ds with
  | [.lst es] => q (.ow false es)
  | [.tup es] => q (.ow false es)
  | _ => False
def cSorted : DCall := fun ds q => match ds with
  | [.lst es] => ∃ ns : List Int, es = ns.map .int ∧ ∀ ns' : List Int, ns'.Perm ns → ns'.Pairwise (· ≤ ·) → q (.ow false (ns'.map .int))
  | _ => False
theorem oneD {K : Kc} {B : Hp} {xs : List V} {d : D} (h : DnL K B xs [d]) : ∃ x, xs = [x] ∧ Dn K B x d := by
  cases h with
  | cons h r =>
    cases r
    exact ⟨_, rfl, h⟩
theorem twoD {K : Kc} {B : Hp} {xs : List V} {d e : D} (h : DnL K B xs [d, e]) : ∃ x y, xs = [x, y] ∧ Dn K B x d ∧ Dn K B y e := by
  cases h with
  | cons h r =>
    obtain ⟨y, rfl, h2⟩ := oneD r
    exact ⟨_, y, rfl, h, h2⟩
theorem ocLen : OpC Γ (.builtin "len") cLen := by
  intro B H xs ds q e d h QV k _
  refine ⟨fun xs H Q => ∃ x n, xs = [x] ∧ LenV Γ.K.K x H n ∧ Q (.int n) H, fun X hX => by rw [← hX.K]; exact call_len, ?_⟩
  revert d h
  match ds with
  | [] => exact fun _ h => h.elim
  | u :: _ :: _ =>
    intro _ h
    cases u <;> exact False.elim h
  | [u] =>
    intro d h
    obtain ⟨x, rfl, dx⟩ := oneD d
    cases dx <;> (try exact False.elim h)
    · exact ⟨_, _, rfl, ⟨h.1, rfl⟩, k _ _ B H h.2 (.refl e) (.int _)⟩
    · rename_i p ys es h1 r1
      exact ⟨_, es.length, rfl, .inl ⟨_, .of (e _ _ h1), r1.length.symm⟩, k _ _ B H h (.refl e) (.int _)⟩
    · rename_i p ys es h1 r1
      exact ⟨_, es.length, rfl, .inr ⟨_, .of (e _ _ h1), r1.length.symm⟩, k _ _ B H h (.refl e) (.int _)⟩
    · rename_i p ns h1
      exact ⟨_, ns.length, rfl, .inl ⟨_, e.l h1, (List.length_map _).symm⟩, k _ _ B H h (.refl e) (.int _)⟩
theorem ocInt : OpC Γ (.type "int") cInt := by
  intro B H xs ds q e d h QV k _
  refine ⟨_, fun X hX => call_int1, ?_⟩
  revert d h
  match ds with
  | [] => exact fun _ h => h.elim
  | u :: _ :: _ =>
    intro _ h
    cases u <;> exact False.elim h
  | [u] =>
    intro d h
    obtain ⟨x, rfl, dx⟩ := oneD d
    cases dx <;> (try exact False.elim h)
    · exact .inr ⟨_, rfl, k _ _ B H h (.refl e) (.int _)⟩
    · exact .inl ⟨_, rfl, k _ _ B H h (.refl e) (.int _)⟩
theorem ocAbs : OpC Γ (.builtin "abs") cAbs := by
  intro B H xs ds q e d h QV k _
  refine ⟨_, fun X hX => call_abs, ?_⟩
  revert d h
  match ds with
  | [] => exact fun _ h => h.elim
  | u :: _ :: _ =>
    intro _ h
    cases u <;> exact False.elim h
  | [u] =>
    intro d h
    obtain ⟨x, rfl, dx⟩ := oneD d
    cases dx <;> (try exact False.elim h)
    exact ⟨_, rfl, k _ _ B H h (.refl e) (.int _)⟩
theorem ocMax (hc : Γ.calm = true) : OpC Γ (.builtin "max") cMax := by
  intro B H xs ds q e d h QV k _
  revert d h
  match ds with
  | [] => exact fun _ h => h.elim
  | u :: v :: _ :: _ =>
    intro _ h
    cases u <;> (first | exact False.elim h | skip) <;> cases v <;> exact False.elim h
  | [u, v] =>
    intro d h
    obtain ⟨x, y, rfl, dx, dy⟩ := twoD d
    cases dx <;> (try exact False.elim h)
    cases dy <;> (try exact False.elim h)
    exact ⟨_, fun X hX => call_max2 (hX.calm hc), _, _, rfl, k _ _ B H h (.refl e) (.int _)⟩
  | [u] =>
    intro d h
    obtain ⟨x, rfl, dx⟩ := oneD d
    cases dx <;> (try exact False.elim h)
    rename_i p ys es h1 r1
    obtain ⟨ns, rfl, h0, h2⟩ := h
    have ey := r1.ints
    subst ey
    exact ⟨rMax Γ.K.K, fun X hX => by rw [← hX.K]; exact cr_max (hX.calm hc), p, ns, rfl, .of (e _ _ h1), h0, fun m hm hy => k _ _ B H (h2 m hm hy) (.refl e) (.int _)⟩
theorem ocMin (hc : Γ.calm = true) : OpC Γ (.builtin "min") cMin := by
  intro B H xs ds q e d h QV k _
  revert d h
  match ds with
  | [] => exact fun _ h => h.elim
  | u :: v :: _ :: _ =>
    intro _ h
    cases u <;> (first | exact False.elim h | skip) <;> cases v <;> exact False.elim h
  | [u, v] =>
    intro d h
    obtain ⟨x, y, rfl, dx, dy⟩ := twoD d
    cases dx <;> (try exact False.elim h)
    cases dy <;> (try exact False.elim h)
    exact ⟨_, fun X hX => call_min2 (hX.calm hc), _, _, rfl, k _ _ B H h (.refl e) (.int _)⟩
  | [u] =>
    intro d h
    obtain ⟨x, rfl, dx⟩ := oneD d
    cases dx <;> (try exact False.elim h)
    rename_i p ys es h1 r1
    obtain ⟨ns, rfl, h0, h2⟩ := h
    have ey := r1.ints
    subst ey
    exact ⟨rMin Γ.K.K, fun X hX => by rw [← hX.K]; exact cr_min (hX.calm hc), p, ns, rfl, .of (e _ _ h1), h0, fun m hm hy => k _ _ B H (h2 m hm hy) (.refl e) (.int _)⟩
theorem ocSum (hc : Γ.calm = true) : OpC Γ (.builtin "sum") cSum := by
  intro B H xs ds q e d h QV k _
  revert d h
  match ds with
  | [] => exact fun _ h => h.elim
  | u :: _ :: _ =>
    intro _ h
    cases u <;> exact False.elim h
  | [u] =>
    intro d h
    obtain ⟨x, rfl, dx⟩ := oneD d
    cases dx <;> (try exact False.elim h)
    rename_i p ys es h1 r1
    obtain ⟨ns, rfl, h2⟩ := h
    have ey := r1.ints
    subst ey
    exact ⟨rSum Γ.K.K, fun X hX => by rw [← hX.K]; exact cr_sum (hX.calm hc), p, ns, rfl, .of (e _ _ h1), k _ _ B H h2 (.refl e) (.int _)⟩
theorem ocAll (hc : Γ.calm = true) : OpC Γ (.builtin "all") cAll := by
  intro B H xs ds q e d h QV k _
  revert d h
  match ds with
  | [] => exact fun _ h => h.elim
  | u :: _ :: _ =>
    intro _ h
    cases u <;> exact False.elim h
  | [u] =>
    intro d h
    obtain ⟨x, rfl, dx⟩ := oneD d
    cases dx <;> (try exact False.elim h)
    rename_i p ys es h1 r1
    obtain ⟨ns, rfl, h2⟩ := h
    have ey := r1.bls
    subst ey
    exact ⟨rAll Γ.K.K, fun X hX => by rw [← hX.K]; exact cr_all (hX.calm hc), p, ns, rfl, .of (e _ _ h1), k _ _ B H h2 (.refl e) (.bl _)⟩
theorem ocAny (hc : Γ.calm = true) : OpC Γ (.builtin "any") cAny := by
  intro B H xs ds q e d h QV k _
  revert d h
  match ds with
  | [] => exact fun _ h => h.elim
  | u :: _ :: _ =>
    intro _ h
    cases u <;> exact False.elim h
  | [u] =>
    intro d h
    obtain ⟨x, rfl, dx⟩ := oneD d
    cases dx <;> (try exact False.elim h)
    rename_i p ys es h1 r1
    obtain ⟨ns, rfl, h2⟩ := h
    have ey := r1.bls
    subst ey
    exact ⟨rAny Γ.K.K, fun X hX => by rw [← hX.K]; exact cr_any (hX.calm hc), p, ns, rfl, .of (e _ _ h1), k _ _ B H h2 (.refl e) (.bl _)⟩
theorem ocTuple : OpC Γ (.type "tuple") cTuple := by
  intro B H xs ds q e d h QV k _
  refine ⟨fun xs H Q => ∃ a ys, xs = [.ref a] ∧ ((SqL Γ.K.K H a ys ∧ ∀ l, H l = none → Q (.ref l) (upd H l (.tup ys))) ∨ (SqT Γ.K.K H a ys ∧ Q (.ref a) H)), fun X hX => by rw [← hX.K]; exact call_tuple_of, ?_⟩
  revert d h
  match ds with
  | [] => exact fun _ h => h.elim
  | u :: _ :: _ =>
    intro _ h
    cases u <;> exact False.elim h
  | [u] =>
    intro d h
    obtain ⟨x, rfl, dx⟩ := oneD d
    cases dx <;> (try exact False.elim h)
    · rename_i p ys es h1 r1
      exact ⟨p, ys, rfl, .inl ⟨.of (e _ _ h1), fun l hl => k _ _ (upd B l (.tup ys)) _ h (.new e hl) (.tup upd_same (r1.mono (Ex.new (e.back hl))))⟩⟩
    · rename_i p ys es h1 r1
      exact ⟨p, ys, rfl, .inr ⟨.of (e _ _ h1), k _ _ B H h (.refl e) (.tup h1 r1)⟩⟩
theorem ocList : OpC Γ (.type "list") cList := by
  intro B H xs ds q e d h QV _ k
  refine ⟨fun xs H Q => ∃ p ys, xs = [.ref p] ∧ (SqL Γ.K.K H p ys ∨ SqT Γ.K.K H p ys) ∧ ∀ l, H l = none → Q (.ref l) (upd H l (.lst ys)), fun X hX => by rw [← hX.K]; exact call_list_of, ?_⟩
  revert d h
  match ds with
  | [] => exact fun _ h => h.elim
  | u :: _ :: _ =>
    intro _ h
    cases u <;> exact False.elim h
  | [u] =>
    intro d h
    obtain ⟨x, rfl, dx⟩ := oneD d
    cases dx <;> (try exact False.elim h)
    · rename_i p ys es h1 r1
      exact ⟨p, ys, rfl, .inl (.of (e _ _ h1)), fun l hl => k l ys es h hl r1⟩
    · rename_i p ys es h1 r1
      exact ⟨p, ys, rfl, .inr (.of (e _ _ h1)), fun l hl => k l ys es h hl r1⟩
theorem ocSorted : OpC Γ (.builtin "sorted") cSorted := by
  intro B H xs ds q e d h QV _ k
  refine ⟨rSortedI Γ.K.K, fun X hX => by rw [← hX.K]; exact cr_sortedI, ?_⟩
  revert d h
  match ds with
  | [] => exact fun _ h => h.elim
  | u :: _ :: _ =>
    intro _ h
    cases u <;> exact False.elim h
  | [u] =>
    intro d h
    obtain ⟨x, rfl, dx⟩ := oneD d
    cases dx <;> (try exact False.elim h)
    rename_i p ys es h1 r1
    obtain ⟨ns, rfl, h2⟩ := h
    have ey := r1.ints
    subst ey
    exact ⟨p, ns, rfl, .of (e _ _ h1), fun ns' l p1 p2 hl => k l _ _ (h2 ns' p1 p2) hl (DnL.ofInts _)⟩
/-- len(x), x a slot -/
def dLenV (i : Nat) : DE := fun τ Q _ => match peek τ i with
  | some (.lst es) => Q (.int es.length) τ
  | some (.tup es) => Q (.int es.length) τ
  | some (.str z) => z.length ≤ sizeLine ∧ Q (.int z.length) τ
  | some (.scr es) => Q (.int es.length) τ
  | _ => False
theorem SE.lenV {i : Nat} {y : Str} {pos' : Pos} (hm : Γ.mg "len" = none) (hN : Γ.N[i]? = some y := by rfl) (hv : Vis Γ.sc y := by first | exact Or.inl rfl | exact Or.inr (Or.inl rfl) | exact Or.inr (Or.inr rfl)) (hg : GlS Γ.sc "len" := by rfl) (hd : (y == ("__debug__" : Str)) = false := by decide) (hcd : (y == ("__classdict__" : Str)) = false := by decide) : SE Γ (.Call (.Name "len" p) [.Name y pos'] [] pos) (dLenV i) := by
  intro B H σ τ F Q R hr ht QV hq hR
  refine ⟨tCB (fun xs H Q => ∃ x n, xs = [x] ∧ LenV Γ.K.K x H n ∧ Q (.int n) H) (tCons (tVar i) tNil), fun X hX => by
    rw [← hX.K]
    exact pe_callB call_len (hX.gl hg) (by rw [hX.mg]; exact hm) PySem.boot_len (pa_cons (pe_var (by rw [hX.N]; exact hN) (by rw [hX.sc]; exact hv) hd hcd) pa_nil), ?_⟩
  unfold dLenV at ht
  split at ht
  · rename_i es hu
    obtain ⟨v, h1, h2⟩ := hr.peek hu
    obtain ⟨p, xs, rfl, h3, r3⟩ : ∃ p xs, v = .ref p ∧ H p = some (.lst xs) ∧ DnL Γ.K B xs es := by
      rcases h2 with h2 | ⟨p, xs, ds', h3, h4, h5, h6⟩
      · cases h2 with
        | lst h r => exact ⟨_, _, rfl, hr.ex _ _ h, r⟩
      · cases h4
        exact ⟨p, xs, h3, h5, h6⟩
    exact ⟨_, h1, _, es.length, rfl, .inl ⟨_, .of h3, r3.length.symm⟩, hq _ _ B H τ F ht (Nx.refl hr) (.int _)⟩
  · rename_i es hu
    obtain ⟨v, h1, h2⟩ := hr.peek hu
    rcases h2 with h2 | ⟨p, xs, ds', h3, h4, h5, h6⟩
    · cases h2 with
      | tup h r => exact ⟨_, h1, _, es.length, rfl, .inr ⟨_, .of (hr.ex _ _ h), r.length.symm⟩, hq _ _ B H τ F ht (Nx.refl hr) (.int _)⟩
    · cases h4
  · rename_i z hu
    obtain ⟨v, h1, h2⟩ := hr.peek hu
    rcases h2 with h2 | ⟨p, xs, ds', h3, h4, h5, h6⟩
    · cases h2
      exact ⟨_, h1, _, z.length, rfl, ⟨ht.1, rfl⟩, hq _ _ B H τ F ht.2 (Nx.refl hr) (.int _)⟩
    · cases h4
  · rename_i es hu
    obtain ⟨v, h1, h2⟩ := hr.peek hu
    rcases h2 with h2 | ⟨p, xs, ds', h3, h4, h5, h6⟩
    · cases h2 with
      | scr h => exact ⟨_, h1, _, es.length, rfl, .inl ⟨_, hr.ex.l h, (List.length_map _).symm⟩, hq _ _ B H τ F ht (Nx.refl hr) (.int _)⟩
    · cases h4
  · exact ht.elim
/-- list(range(a)), list(range(a, b)) -/
def rgD (a b : Int) : List D := (List.range (b - a).toNat).map fun i => D.int (a + (i : Nat))
theorem rg_dn {K : Kc} {B : Hp} (a b : Int) : DnL K B (rgV a b) (rgD a b) := by
  unfold rgV rgD
  generalize List.range (b - a).toNat = l
  induction l with
  | nil => exact .nil
  | cons x l ih => exact .cons (.int _) ih
def dLstRg1 (t : DE) : DT := fun τ Q R => t τ (fun d τ1 => match d with
  | .int n => n ≤ 1000000 ∧ -1000000 ≤ n ∧ Q (.ow false (rgD 0 n)) τ1
  | _ => False) R
theorem ST.lstRg1 {t : DE} {p2 pos2 : Pos} (h : SE Γ e t) (hm : Γ.mg "list" = none) (hm2 : Γ.mg "range" = none) (hc : Γ.calm = true := by rfl) (hg : GlS Γ.sc "list" := by rfl) (hg2 : GlS Γ.sc "range" := by rfl) (hs : ∀ env : PySem.Env, starEach [e] env = (false, eval e env) :: starEach [] env := by intros; rfl) : ST Γ (.Call (.Name "list" p) [.Call (.Name "range" p2) [e] [] pos2] [] pos) (dLstRg1 t) := by
  intro B H σ τ F Q R hr ht QV hq hR
  refine ⟨tLstRg (tRg1 (We Γ e)), fun X hX => pe_listRg (hX.calm hc) (hX.gl hg) (by rw [hX.mg]; exact hm) (prg_1 (hX.gl hg2) (by rw [hX.mg]; exact hm2) (We.pe hX) (hs _)), ?_⟩
  refine h hr ht _ (fun x u B1 H1 τ1 F1 q1 n1 d1 => ?_) hR
  cases d1 <;> (try exact False.elim q1)
  rename_i n
  exact ⟨n, rfl, ⟨by omega, by omega, by have := q1.1; omega, by have := q1.1; have := q1.2.1; omega, by have := q1.1; omega⟩, fun l hl => hq.own n1 hl (rg_dn _ _) q1.2.2⟩
/-- n.bit_length() -/
def dBits (t : DE) : DE := fun τ Q R => t τ (fun d τ1 => match d with
  | .int n => Q (.int (Builtin.Int.intBits n : Nat)) τ1
  | _ => False) R
theorem SE.bits {t : DE} {apos : Pos} (h : SE Γ e t) (hb : ∀ env : PySem.Env, attributeBase e "bit_length" env (eval e env) = eval e env := by intros; rfl) (hl : (apos.endLine == pos.line) = true := by rfl) : SE Γ (.Call (.Attribute e "bit_length" apos) [] [] pos) (dBits t) := fun B H σ τ F Q R hr ht QV hq hR =>
  ⟨tBits (We Γ e), fun X hX => pe_bits (We.pe hX) (hb _) hl, h hr ht _ (fun x u B1 H1 τ1 F1 q1 n1 d1 => by
    cases d1 <;> (try exact False.elim q1)
    exact ⟨_, rfl, hq _ _ B1 H1 τ1 F1 q1 n1 (.int _)⟩) hR⟩
end
end EC
/-! EC5: stores, a slot's list changed, statements, loops. -/
namespace EC
open PySem PySem.Spec PyProof.Rows L2
/-! ### stores -/
/-- slot i may be stored to -/
def setOk (τ : Env) (i : Nat) : Prop := match τ[i]? with
  | some (some t) => t.kind = none
  | some none => True
  | none => False
theorem setOk.lt {τ : Env} {i : Nat} (h : setOk τ i) : i < τ.length := by
  unfold setOk at h
  cases e : τ[i]? with
  | none => rw [e] at h; exact h.elim
  | some u => exact (List.getElem?_eq_some_iff.mp e).1
theorem setOk.not {τ : Env} {i : Nat} (h : setOk τ i) {t : T} {k : Option Nat} (hk : t.kind = some k) : τ[i]? ≠ some (some t) := fun e => by
  unfold setOk at h
  rw [e] at h
  rw [show t.kind = none from h] at hk
  cases hk
section
variable {K : Kc} {B H B1 H1 : Hp} {σ σ1 : L2.St} {τ τ1 : Env} {F F1 f : List Addr} {v : V} {t : T} {i : Nat}
theorem nodup_put {F1 f0 F2 f : List Addr} (h : ((F1 ++ (f0 ++ F2)) ++ f).Nodup) : (F1 ++ (f ++ F2)).Nodup := by
  simp only [List.nodup_append, List.mem_append] at h ⊢
  obtain ⟨⟨h1, ⟨h2, h3, h4⟩, h5⟩, h6, h7⟩ := h
  refine ⟨h1, ⟨h6, h3, fun a ha b hb e => h7 b (.inr (.inr hb)) a ha e.symm⟩, fun a ha b hb => ?_⟩
  rcases hb with hb | hb
  · exact h7 a (.inl ha) b hb
  · exact h5 a ha b (.inr hb)
theorem Nx.put (n : Nx K B H σ τ F B1 H1 σ1 τ1 F1 f) (o : Ow K B1 H1 v t f) (nd : (F1 ++ f).Nodup) (df : ∀ a ∈ f, B1 a = none) (hi : setOk τ1 i) :
    ∃ F2, Nx K B H σ τ F B1 H1 (σ1.set i (some v)) (τ1.set i (some t)) F2 [] := by
  obtain ⟨G1, f0, G2, h1, _, h4⟩ := n.rel.sl.focusN hi.lt
  subst h1
  have sub : ∀ a ∈ G1 ++ (f ++ G2), a ∈ (G1 ++ (f0 ++ G2)) ++ f := fun a z => by
    simp only [List.mem_append] at z ⊢
    rcases z with z | z | z
    · exact .inl (.inl z)
    · exact .inr z
    · exact .inl (.inr (.inr z))
  refine ⟨G1 ++ (f ++ G2), ⟨n.rel.ex, h4 B1 H1 (some v) (some t) f (Ex.refl _) (fun _ _ => rfl) (.inr ⟨v, t, rfl, rfl, o⟩), nodup_put nd, fun a z => ?_⟩, ?_, ⟨List.length_set.trans n.len.len, fun j u k hj e => ?_⟩⟩
  · rcases List.mem_append.mp (sub a z) with z | z
    · exact n.rel.df a z
    · exact df a z
  · rw [List.append_nil]
    exact n.stp.less sub
  · obtain ⟨e1, u', h', k'⟩ := n.len.at_ j u k hj e
    by_cases hij : i = j
    · subst hij
      exact absurd h' (hi.not k')
    · rw [List.getElem?_set_ne hij, List.getElem?_set_ne hij]
      exact ⟨e1, u', h', k'⟩
theorem Nx.putD (n : Nx K B H σ τ F B1 H1 σ1 τ1 F1 []) {d : D} (o : Dn K B1 v d) (hi : setOk τ1 i) : ∃ F2, Nx K B H σ τ F B1 H1 (σ1.set i (some v)) (τ1.set i (some (.fr d))) F2 [] :=
  Nx.put (f := []) n (.fr o) (by rw [List.append_nil]; exact n.rel.nd) (fun _ z => (nomatch z)) hi
/-- a slot's own list gets other items -/
theorem Rel.write {l : Bool} {ds es : List D} (r : Rel K B H σ τ F) (h : τ[i]? = some (some (.ow l ds))) :
    ∃ p xs, σ[i]? = some (some (.ref p)) ∧ H p = some (.lst xs) ∧ DnL K B xs ds ∧ ∀ ys, DnL K B ys es → Nx K B H σ τ F B (upd H p (.lst ys)) σ (τ.set i (some (.ow l es))) F [] := by
  obtain ⟨v, G1, f, G2, h1, h2, h3, h4⟩ := r.sl.focus h
  cases h2 with
  | @ow p xs _ _ hp d =>
    subst h3
    have nd := r.nd
    have hbp : B p = none := r.df p (by simp)
    have hpn : p ∉ G1 ++ G2 := fun z => by
      rw [List.nodup_append] at nd
      rcases List.mem_append.mp z with z | z
      · exact nd.2.2 p z p (by simp) rfl
      · have := nd.2.1
        simp at this
        exact this.1 z
    refine ⟨p, xs, h1, hp, d, fun ys dy => ⟨⟨fun a o w => ?_, ?_, nd, r.df⟩, ⟨Ex.refl _, fun a o w z => ?_, fun a z => ?_, fun a o w => .inl ⟨o, w⟩⟩, ?_⟩⟩
    · rw [upd_ne fun (e : a = p) => by rw [e, hbp] at w; cases w]
      exact r.ex a o w
    · have := h4 B (upd H p (.lst ys)) (some (.ref p)) (some (.ow l es)) [p] (Ex.refl _) (fun a z => upd_ne fun (e : a = p) => hpn (e ▸ z)) (.inr ⟨_, _, rfl, rfl, .ow upd_same dy⟩)
      rw [set_same h1] at this
      exact this
    · rw [upd_ne fun (e : a = p) => z (by rw [e]; simp)]
      exact w
    · rw [List.append_nil] at z
      exact .inl z
    · have l2 := Lent.set (σ := σ) (o := some (.ref p)) (t := some (.ow l es)) h fun u k e1 e2 => by
        cases e1
        refine ⟨h1, _, rfl, ?_⟩
        cases l
        · cases e2
        · exact e2
      rw [set_same h1] at l2
      exact l2
end
/-! ### a slot's list changed by its methods -/
def isOw (τ : Env) (i : Nat) : Prop := match τ[i]? with
  | some (some (.ow _ _)) => True
  | _ => False
/-- l, ds of slot i -/
def withOw (τ : Env) (i : Nat) (k : Bool → List D → Prop) : Prop := match τ[i]? with
  | some (some (.ow l ds)) => k l ds
  | _ => False
theorem withOw.get {τ : Env} {i : Nat} {k : Bool → List D → Prop} (h : withOw τ i k) : ∃ l ds, τ[i]? = some (some (.ow l ds)) ∧ k l ds := by
  unfold withOw at h
  split at h
  · rename_i l ds e
    exact ⟨l, ds, e, h⟩
  · exact h.elim
theorem isOw.get {τ : Env} {i : Nat} (h : isOw τ i) : ∃ l ds, τ[i]? = some (some (.ow l ds)) := by
  unfold isOw at h
  split at h
  · rename_i l ds e
    exact ⟨l, ds, e⟩
  · exact h.elim
def dApp (i : Nat) (te : DE) : DE := fun τ Q R => isOw τ i ∧ te τ (fun d τ1 => withOw τ1 i fun l ds => ds.length ≤ 1000000 ∧ Q .non (τ1.set i (some (.ow l (ds ++ [d]))))) R
def dExt (i : Nat) (te : DE) : DE := fun τ Q R => isOw τ i ∧ te τ (fun d τ1 => match d with
  | .lst es => withOw τ1 i fun l ds => ds.length + es.length ≤ 1000000 ∧ Q .non (τ1.set i (some (.ow l (ds ++ es))))
  | _ => False) R
def dPopAt (i : Nat) (te : DE) : DE := fun τ Q R => isOw τ i ∧ te τ (fun d τ1 => match d with
  | .int k => withOw τ1 i fun l ds => 0 ≤ k ∧ k < 1000000 ∧ match ds[k.toNat]? with
    | some d => Q d (τ1.set i (some (.ow l (ds.eraseIdx k.toNat))))
    | none => False
  | _ => False) R
section
variable {Γ : Gm} {e : Expr} {te : DE} {i : Nat} {x : Str} {p' apos pos : Pos}
theorem bm_side (hb : ∀ env : PySem.Env, attributeBase (.Name x p') "append" env (eval (.Name x p') env) = eval (.Name x p') env) : True := trivial
theorem tv_list {K : Fg} {H : Hp} {p : Addr} {xs : List V} (h : H p = some (.lst xs)) : tyV K "list" (.ref p) H := .inl ⟨rfl, _, .of h⟩
theorem SE.app (he : SE Γ e te) (hN : Γ.N[i]? = some x := by rfl) (hv : Vis Γ.sc x := by first | exact Or.inl rfl | exact Or.inr (Or.inl rfl) | exact Or.inr (Or.inr rfl)) (hs : ∀ env : PySem.Env, starEach [e] env = (false, eval e env) :: starEach [] env := by intros; rfl) (hbase : ∀ env : PySem.Env, attributeBase (.Name x p') "append" env (eval (.Name x p') env) = eval (.Name x p') env := by intros; rfl) (hline : (apos.endLine == pos.line) = true := by rfl) (hfew : ∀ env : PySem.Env, ((backTo pos (starEach [e] env)).all (fun x => !x.1) && (backToKw pos (keywordEach [] env)).all (fun x => x.1.isSome) && decide (([e] : List Expr).length + ([] : List Keyword).length + (if ([] : List Keyword).isEmpty then 0 else 1) < 30)) = true := by intros; rfl) (hd : (x == ("__debug__" : Str)) = false := by decide) (hcd : (x == ("__classdict__" : Str)) = false := by decide) :
    SE Γ (.Call (.Attribute (.Name x p') "append" apos) [e] [] pos) (dApp i te) := by
  intro B H σ τ F Q R hr ht QV hq hR
  refine ⟨tBM Γ.K.K "list" rAppend (tVar i) (tCons (We Γ e) tNil), fun X hX => by
    rw [← hX.K]
    exact pe_bm PySem.F.plainAttrs_list PySem.F.slot_list_append PySem.F.type_list_append mt_append (pe_var (by rw [hX.N]; exact hN) (by rw [hX.sc]; exact hv) hd hcd) (pa_cons (We.pe hX) pa_nil (hs _)) (hbase _) (hfew _) hline (hs _), ?_⟩
  obtain ⟨l0, ds0, h0⟩ := ht.1.get
  obtain ⟨p, xs, h1, h2, _, _⟩ := hr.write (es := []) h0
  refine ⟨_, h1, tv_list h2, ?_⟩
  refine he hr ht.2 _ (fun y d B2 H2 τ2 F2 q2 n2 d2 => ?_) hR
  obtain ⟨l, ds, h3, hz, q3⟩ := q2.get
  obtain ⟨p', ys, h4, h5, h6, h7⟩ := n2.rel.write (es := ds ++ [d]) h3
  rw [h1] at h4
  cases h4
  refine ⟨p, ys, y, rfl, rfl, h5, ?_, ?_⟩
  · rw [h6.length, sizeLine_eq]
    omega
  · exact hq _ _ B2 _ _ F2 q3 (n2.trans (h7 (ys ++ [y]) (h6.append (.cons d2 .nil)))) .non
theorem SE.ext (he : SE Γ e te) (hN : Γ.N[i]? = some x := by rfl) (hv : Vis Γ.sc x := by first | exact Or.inl rfl | exact Or.inr (Or.inl rfl) | exact Or.inr (Or.inr rfl)) (hs : ∀ env : PySem.Env, starEach [e] env = (false, eval e env) :: starEach [] env := by intros; rfl) (hbase : ∀ env : PySem.Env, attributeBase (.Name x p') "extend" env (eval (.Name x p') env) = eval (.Name x p') env := by intros; rfl) (hline : (apos.endLine == pos.line) = true := by rfl) (hfew : ∀ env : PySem.Env, ((backTo pos (starEach [e] env)).all (fun x => !x.1) && (backToKw pos (keywordEach [] env)).all (fun x => x.1.isSome) && decide (([e] : List Expr).length + ([] : List Keyword).length + (if ([] : List Keyword).isEmpty then 0 else 1) < 30)) = true := by intros; rfl) (hd : (x == ("__debug__" : Str)) = false := by decide) (hcd : (x == ("__classdict__" : Str)) = false := by decide) :
    SE Γ (.Call (.Attribute (.Name x p') "extend" apos) [e] [] pos) (dExt i te) := by
  intro B H σ τ F Q R hr ht QV hq hR
  refine ⟨tBM Γ.K.K "list" rExtend (tVar i) (tCons (We Γ e) tNil), fun X hX => by
    rw [← hX.K]
    exact pe_bm PySem.F.plainAttrs_list PySem.F.slot_list_extend PySem.F.type_list_extend mt_extend (pe_var (by rw [hX.N]; exact hN) (by rw [hX.sc]; exact hv) hd hcd) (pa_cons (We.pe hX) pa_nil (hs _)) (hbase _) (hfew _) hline (hs _), ?_⟩
  obtain ⟨l0, ds0, h0⟩ := ht.1.get
  obtain ⟨p, xs, h1, h2, _, _⟩ := hr.write (es := []) h0
  refine ⟨_, h1, tv_list h2, ?_⟩
  refine he hr ht.2 _ (fun y d B2 H2 τ2 F2 q2 n2 d2 => ?_) hR
  cases d2 <;> (try exact False.elim q2)
  rename_i b zs es hb rb
  obtain ⟨l, ds, h3, hz, q3⟩ := q2.get
  obtain ⟨p', ys, h4, h5, h6, h7⟩ := n2.rel.write (es := ds ++ es) h3
  rw [h1] at h4
  cases h4
  refine ⟨p, b, ys, zs, rfl, rfl, h5, n2.rel.ex _ _ hb, ?_, ?_⟩
  · rw [h6.length, rb.length, sizeLine_eq]
    omega
  · exact hq _ _ B2 _ _ F2 q3 (n2.trans (h7 (ys ++ zs) (h6.append rb))) .non
theorem SE.popAt (he : SE Γ e te) (hN : Γ.N[i]? = some x := by rfl) (hv : Vis Γ.sc x := by first | exact Or.inl rfl | exact Or.inr (Or.inl rfl) | exact Or.inr (Or.inr rfl)) (hs : ∀ env : PySem.Env, starEach [e] env = (false, eval e env) :: starEach [] env := by intros; rfl) (hbase : ∀ env : PySem.Env, attributeBase (.Name x p') "pop" env (eval (.Name x p') env) = eval (.Name x p') env := by intros; rfl) (hline : (apos.endLine == pos.line) = true := by rfl) (hfew : ∀ env : PySem.Env, ((backTo pos (starEach [e] env)).all (fun x => !x.1) && (backToKw pos (keywordEach [] env)).all (fun x => x.1.isSome) && decide (([e] : List Expr).length + ([] : List Keyword).length + (if ([] : List Keyword).isEmpty then 0 else 1) < 30)) = true := by intros; rfl) (hd : (x == ("__debug__" : Str)) = false := by decide) (hcd : (x == ("__classdict__" : Str)) = false := by decide) :
    SE Γ (.Call (.Attribute (.Name x p') "pop" apos) [e] [] pos) (dPopAt i te) := by
  intro B H σ τ F Q R hr ht QV hq hR
  refine ⟨tBM Γ.K.K "list" rPopAt (tVar i) (tCons (We Γ e) tNil), fun X hX => by
    rw [← hX.K]
    exact pe_bm PySem.F.plainAttrs_list PySem.F.slot_list_pop PySem.F.type_list_pop mt_popAt (pe_var (by rw [hX.N]; exact hN) (by rw [hX.sc]; exact hv) hd hcd) (pa_cons (We.pe hX) pa_nil (hs _)) (hbase _) (hfew _) hline (hs _), ?_⟩
  obtain ⟨l0, ds0, h0⟩ := ht.1.get
  obtain ⟨p, xs, h1, h2, _, _⟩ := hr.write (es := []) h0
  refine ⟨_, h1, tv_list h2, ?_⟩
  refine he hr ht.2 _ (fun y d B2 H2 τ2 F2 q2 n2 d2 => ?_) hR
  cases d2 <;> (try exact False.elim q2)
  rename_i k
  obtain ⟨l, ds, h3, hz, hz2, q3⟩ := q2.get
  split at q3
  · rename_i d hd'
    obtain ⟨p', ys, h4, h5, h6, h7⟩ := n2.rel.write (es := ds.eraseIdx k.toNat) h3
    rw [h1] at h4
    cases h4
    obtain ⟨y, hy, dy⟩ := h6.get hd'
    have hlt : k.toNat < ys.length := (List.getElem?_eq_some_iff.mp hy).1
    refine ⟨p, ys, k, k.toNat, y, rfl, rfl, h5, by omega, by omega, ?_, hy, ?_⟩
    · have := ixN_seq (n := ys.length) (i := k) (j := k.toNat) (by
        unfold ixN
        rw [if_pos hz, if_pos (by omega)])
      exact this.1
    · exact hq _ _ B2 _ _ F2 q3 (n2.trans (h7 (ys.eraseIdx k.toNat) (h6.erase k.toNat))) dy
  · exact q3.elim
end
end EC
/-! EC6: statements, targets, loops. -/
namespace EC
open PySem PySem.Spec PyProof.Rows L2
/-! ### small statements -/
def dSet (i : Nat) (t : DT) : DS := fun E τ => t τ (fun u τ1 => setOk τ1 i ∧ E.nx (τ1.set i (some u))) E.ex
def dRet (t : DT) : DS := fun E τ => t τ (fun u τ1 => E.rt u τ1) E.ex
def dRetN : DS := fun E τ => E.rt (.fr .non) τ
def dDrop (t : DT) : DS := fun E τ => t τ (fun _ τ1 => E.nx τ1) E.ex
def dIfS (c : DC) (t u : DS) : DS := fun E τ => c τ (fun b τ1 => match b with
  | true => t E τ1
  | false => u E τ1) E.ex
def dNext : DS := fun E τ => E.nx τ
def dSeq (t u : DS) : DS := fun E τ => t { E with nx := u E } τ
def dBreak : DS := fun E τ => E.bk τ
def dCont : DS := fun E τ => E.ct τ
def dNever : DS := fun _ _ => False
/-- name op= e -/
def dAug (i : Nat) (r : D2) (te : DE) : DS := fun E τ => match τ[i]? with
  | some (some (.fr d)) => te τ (fun v τ1 => r d v fun z => setOk τ1 i ∧ E.nx (τ1.set i (some (.fr z)))) E.ex
  | _ => False
section
variable {Γ : Gm} {e c : Expr} {es : List Expr} {st : Stmt} {sts a b : List Stmt} {t : DT} {te : DE} {tc : DC} {s u : DS} {i : Nat} {x : Str} {pos pos' : Pos}
theorem OkR.exp {K : Kc} {B H : Hp} {σ : L2.St} {τ : Env} {F : List Addr} {R : RX} {W : WX} (h : OkR K B H σ τ F R W) : OkR K B H σ τ F R W := h
theorem Loc.of {X : Cx} (h : In Γ X) {x : Str} (l : L2.Loc Γ.sc x) : L2.Loc X.env.scope x := by
  rw [h.sc]
  exact l
theorem In.hf {X : Cx} (h : In Γ X) {x : Str} (l : Γ.own x = true ∨ Γ.sc.names.lookup x = some .local) : X.fn x = true ∨ X.env.scope.names.lookup x = some .local := by
  rcases l with l | l
  · exact .inl (h.fn x l)
  · exact .inr (by rw [h.sc]; exact l)
theorem SS.set (he : ST Γ e t) (hN : Γ.N[i]? = some x := by rfl) (hl : L2.Loc Γ.sc x := by first | exact Or.inl rfl | exact Or.inr rfl) (hs : ∀ env : PySem.Env, swapsWith e (some (.Name x pos')) pos.line env = pure false := by intros; rfl) : SS Γ (.Assign [.Name x pos'] e pos) (dSet i t) := by
  intro B H σ τ F E hr ht D hD hR
  refine ⟨tAsg (We Γ e) (gName i), fun X hX => ps_set hX.nd (by rw [hX.N]; exact hN) (Loc.of hX.toIn hl) (We.pe hX.toIn) (hs _) (.inl (hX.fnA x)), ?_⟩
  refine he hr ht _ (fun v u f B1 H1 τ1 F1 q n o nd df => ?_) hR
  obtain ⟨F2, n2⟩ := n.put o nd df q.1
  exact hD.nx _ _ _ _ _ q.2 n2
theorem SS.ret (he : ST Γ e t) : SS Γ (.Return (some e) pos) (dRet t) := fun B H σ τ F E hr ht D hD hR =>
  ⟨tRet (We Γ e), fun X hX => ps_ret (We.pe hX.toIn), he hr ht _ (fun v u f B1 H1 τ1 F1 q n o nd df => hD.rt v u f B1 H1 σ τ1 F1 q n o nd df) hR⟩
theorem SS.retN : SS Γ (.Return none pos) dRetN := fun B H σ τ F E hr ht D hD hR =>
  ⟨tRetN, fun X hX => ps_retN, hD.rt .non (.fr .non) [] B H σ τ F ht (Nx.refl hr) (.fr .non) (by rw [List.append_nil]; exact hr.nd) (fun _ z => (nomatch z))⟩
theorem SS.expr (he : ST Γ e t) (hs : ∀ env : PySem.Env, swapsWith e none pos.line env = pure false := by intros; rfl) : SS Γ (.Expr e pos) (dDrop t) := fun B H σ τ F E hr ht D hD hR =>
  ⟨tDrop (We Γ e), fun X hX => ps_expr (We.pe hX.toIn) (hs _), he hr ht _ (fun v u f B1 H1 τ1 F1 q n o nd df => hD.nx B1 H1 σ τ1 F1 q n.drop) hR⟩
theorem SS.ifS (hc : SC Γ c tc) (ha : SB Γ a s) (hb : SB Γ b u) : SS Γ (.If c a b pos) (dIfS tc s u) := fun B H σ τ F E hr ht D hD hR =>
  ⟨tIfS (Wc Γ c) (Wb Γ a) (Wb Γ b), fun X hX => ps_if (Wc.pt hX.toIn) (Wb.ps hX) (Wb.ps hX), hc hr ht _ (fun k B1 H1 τ1 F1 q n => by
    cases k with
    | true =>
      rw [if_pos rfl]
      exact ha n.rel q D (hD.after n) (hR.after n)
    | false =>
      rw [if_neg Bool.false_ne_true]
      exact hb n.rel q D (hD.after n) (hR.after n)) hR⟩
theorem SS.never : SS Γ st dNever := fun _ _ _ _ _ _ _ h => h.elim
theorem SS.pass : SS Γ (.Pass pos) dNext := fun B H σ τ F E hr ht D hD hR => ⟨tNext, fun X hX => ps_pass, hD.nx B H σ τ F ht (Nx.refl hr)⟩
theorem SS.brk : SS Γ (.Break pos) dBreak := fun B H σ τ F E hr ht D hD hR => ⟨tBreak, fun X hX => ps_break, hD.bk B H σ τ F ht (Nx.refl hr)⟩
theorem SS.cont : SS Γ (.Continue pos) dCont := fun B H σ τ F E hr ht D hD hR => ⟨tCont, fun X hX => ps_continue, hD.ct B H σ τ F ht (Nx.refl hr)⟩
theorem SB.nil : SB Γ [] dNext := fun B H σ τ F E hr ht D hD hR => ⟨tNext, fun X hX => pss_nil, hD.nx B H σ τ F ht (Nx.refl hr)⟩
theorem SB.one (h : SS Γ st s) : SB Γ [st] s := fun B H σ τ F E hr ht D hD hR => ⟨Ws Γ st, fun X hX => pss_one (Ws.ps hX), h hr ht D hD hR⟩
theorem SB.cons (h : SS Γ st s) (h2 : SB Γ sts u) : SB Γ (st :: sts) (dSeq s u) := fun B H σ τ F E hr ht D hD hR =>
  ⟨tSeq (Ws Γ st) (Wb Γ sts), fun X hX => pss_cons (Ws.ps hX) (Wb.ps hX), h (E := { E with nx := u E }) hr ht { D with nx := Wb Γ sts D } ⟨fun B' H' σ' τ' F' q n => h2 n.rel q D (hD.after n) (hR.after n), hD.rt, hD.bk, hD.ct⟩ hR⟩
theorem pip_of {op : Operator} {X : Cx} {r : D2} (hX : In Γ X) : PIp X op (fun x y H Q => ∃ rr, (∀ X, In Γ X → OpR X (inplaceOp op) rr) ∧ rr x y H Q) := fun pins s σ H x y v u Q I rx ry ⟨_, k, q⟩ => k X hX pins s σ H x y v u Q I rx ry q
theorem SS.aug {op : Operator} {r : D2} (ho : OpD Γ (inplaceOp op) r) (he : SE Γ e te) (hN : Γ.N[i]? = some x := by rfl) (hl : L2.Loc Γ.sc x := by first | exact Or.inl rfl | exact Or.inr rfl) : SS Γ (.AugAssign (.Name x pos') op e pos) (dAug i r te) := by
  intro B H σ τ F E hr ht D hD hR
  refine ⟨tAug i (We Γ e) (fun x y H Q => ∃ rr, (∀ X, In Γ X → OpR X (inplaceOp op) rr) ∧ rr x y H Q), fun X hX => ps_aug hX.nd (by rw [hX.N]; exact hN) (Loc.of hX.toIn hl) (We.pe hX.toIn) (pip_of (r := r) hX.toIn) (.inl (hX.fnA x)), ?_⟩
  unfold dAug at ht
  split at ht
  · rename_i d h0
    obtain ⟨v, F1, f, F2, h1, h2, _, _⟩ := hr.sl.focus h0
    cases h2 with
    | fr dv =>
      refine ⟨v, h1, ?_⟩
      refine he hr ht _ (fun y w B2 H2 τ2 F2' q2 n2 d2 => ?_) hR
      refine ho n2.rel.ex (dv.mono n2.s.b) d2 q2 _ fun z d' B' H' qd g dz => ?_
      obtain ⟨F3, n3⟩ := (n2.trans (n2.rel.grow g)).putD dz qd.1
      exact hD.nx _ _ _ _ _ qd.2 n3
  · exact ht.elim
theorem ipAdd : OpD Γ (inplaceOp .Add) (fun u v q => match u, v with
    | .int i, .int j => q (.int (i + j))
    | _, _ => False) := by
  intro B H x y u v q e dx dy h QV k
  cases dx <;> cases dy <;> (try exact False.elim h)
  exact ⟨_, fun X _ => iop_add, _, _, rfl, rfl, k _ _ B H h (.refl e) (.int _)⟩
theorem ipSub : OpD Γ (inplaceOp .Sub) rSub := by
  intro B H x y u v q e dx dy h QV k
  cases dx <;> cases dy <;> (try exact False.elim h)
  exact ⟨_, fun X _ => iop_sub, _, _, rfl, rfl, k _ _ B H h (.refl e) (.int _)⟩
end
/-- int += int -/
def rAddI : D2 := fun u v q => match u, v with
  | .int i, .int j => q (.int (i + j))
  | _, _ => False
/-! ### targets -/
/-- slots outside ws are as they were -/
def Agree (ws : List Nat) (σ σ' : L2.St) : Prop := σ'.length = σ.length ∧ ∀ j, j ∉ ws → σ'[j]? = σ[j]?
def SG (Γ : Gm) (tg : Expr) (g : DG) (ws : List Nat) : Prop := ∀ ⦃B H : Hp⦄ ⦃σ : L2.St⦄ ⦃τ : Env⦄ ⦃F : List Addr⦄ ⦃v : V⦄ ⦃d : D⦄ ⦃Q : Env → Prop⦄, Rel Γ.K B H σ τ F → Dn Γ.K B v d → g d τ Q → ∀ QV : L2.St → Hp → Prop,
  (∀ B' H' σ' τ' F', Q τ' → Nx Γ.K B H σ τ F B' H' σ' τ' F' [] → Agree ws σ σ' → QV σ' H') → Wg Γ tg v σ H QV
def SGs (Γ : Gm) (tg : List Expr) (g : DGs) (ws : List Nat) : Prop := ∀ ⦃B H : Hp⦄ ⦃σ : L2.St⦄ ⦃τ : Env⦄ ⦃F : List Addr⦄ ⦃v : List V⦄ ⦃d : List D⦄ ⦃Q : Env → Prop⦄, Rel Γ.K B H σ τ F → DnL Γ.K B v d → g d τ Q → ∀ QV : L2.St → Hp → Prop,
  (∀ B' H' σ' τ' F', Q τ' → Nx Γ.K B H σ τ F B' H' σ' τ' F' [] → Agree ws σ σ' → QV σ' H') → Wgs Γ tg v σ H QV
def dgName (i : Nat) : DG := fun d τ Q => setOk τ i ∧ Q (τ.set i (some (.fr d)))
def dgNil : DGs := fun ds τ Q => match ds with
  | [] => Q τ
  | _ => False
def dgCons (g : DG) (r : DGs) : DGs := fun ds τ Q => match ds with
  | d :: ds => g d τ fun τ1 => r ds τ1 Q
  | [] => False
def dgTup (n : Nat) (g : DGs) : DG := fun d τ Q => match d with
  | .tup ds => ds.length = n ∧ g ds τ Q
  | _ => False
section
variable {Γ : Gm} {e : Expr} {es : List Expr} {i : Nat} {x : Str} {pos : Pos} {g : DG} {gs : DGs}
theorem SG.name (hN : Γ.N[i]? = some x := by rfl) (hl : L2.Loc Γ.sc x := by first | exact Or.inl rfl | exact Or.inr rfl) (ho : Γ.own x = true ∨ Γ.sc.names.lookup x = some .local := by first | exact Or.inl rfl | exact Or.inr rfl) : SG Γ (.Name x pos) (dgName i) [i] := fun B H σ τ F v d Q hr hd hg QV k =>
  ⟨gName i, fun X hX => pg_name hX.nd (by rw [hX.N]; exact hN) (Loc.of hX hl) (hX.hf ho), by
    obtain ⟨F2, n2⟩ := (Nx.refl hr).putD hd hg.1
    exact k _ _ _ _ _ hg.2 n2 ⟨List.length_set, fun j hj => List.getElem?_set_ne fun e => hj (by rw [e]; exact List.mem_cons_self)⟩⟩
theorem SGs.nil : SGs Γ [] dgNil [] := fun B H σ τ F v d Q hr hd hg QV k => ⟨gNil, fun X hX => pgs_nil, by
  cases hd with
  | nil => exact ⟨rfl, k _ _ _ _ _ hg (Nx.refl hr) ⟨rfl, fun _ _ => rfl⟩⟩
  | cons => exact hg.elim⟩
theorem SGs.cons {ws us : List Nat} (h : SG Γ e g ws) (h2 : SGs Γ es gs us) (hs : ∀ env : PySem.Env, (assignEach (e :: es) env).map (·.2) = assign e env :: (assignEach es env).map (·.2) := by intros; rfl) : SGs Γ (e :: es) (dgCons g gs) (ws ++ us) := fun B H σ τ F v d Q hr hd hg QV k =>
  ⟨gCons (Wg Γ e) (Wgs Γ es), fun X hX => pgs_cons (Wg.pg hX) (Wgs.pg hX) (hs _), by
    cases hd with
    | nil => exact hg.elim
    | cons d1 d2 => exact ⟨_, _, rfl, h hr d1 hg _ fun B1 H1 σ1 τ1 F1 q n a1 => h2 n.rel (d2.mono n.s.b) q _ fun B' H' σ' τ' F' q' n' a2 => k _ _ _ _ _ q' (n.trans n') ⟨a2.1.trans a1.1, fun j hj => (a2.2 j fun z => hj (List.mem_append_right _ z)).trans (a1.2 j fun z => hj (List.mem_append_left _ z))⟩⟩⟩
theorem SG.tup {n k : Nat} {ws : List Nat} (h : SGs Γ es gs ws) (hc : Γ.calm = true := by rfl) (hn : ∀ env : PySem.Env, (assignEach es env).length = n := by intros; rfl) (hst : ∀ env : PySem.Env, (assignEach es env).findIdx? (·.1) = none := by intros; rfl) : SG Γ (.Tuple es k pos) (dgTup n gs) ws := fun B H σ τ F v d Q hr hd hg QV kk =>
  ⟨gTup Γ.K.K n (Wgs Γ es), fun X hX => by rw [← hX.K]; exact pg_tup (hX.calm hc) (Wgs.pg hX) (hn _) (hst _), by
    cases hd <;> (try exact False.elim hg)
    rename_i a xs ds h1 r1
    exact ⟨a, xs, rfl, .of (hr.ex _ _ h1), r1.length.trans hg.1, h hr r1 hg.2 _ kk⟩⟩
/-- target = e -/
def dAsg (te : DE) (g : DG) : DS := fun E τ => te τ (fun d τ1 => g d τ1 E.nx) E.ex
theorem SS.asg {tg : Expr} {te : DE} {ws : List Nat} (he : SE Γ e te) (hg : SG Γ tg g ws) (hs : ∀ env : PySem.Env, swapsWithSole [tg] e pos.line env = pure false := by intros; rfl) (hw : ∀ env : PySem.Env, swappedStores [tg] e env = pure none := by intros; rfl) (h1 : ∀ env : PySem.Env, (assignEach [tg] env).map (·.2) = [assign tg env] := by intros; rfl) : SS Γ (.Assign [tg] e pos) (dAsg te g) := fun B H σ τ F E hr ht D hD hR =>
  ⟨tAsg (We Γ e) (Wg Γ tg), fun X hX => ps_asg (We.pe hX.toIn) (Wg.pg hX.toIn) (hs _) (hw _) (h1 _), he hr ht _ (fun v d B1 H1 τ1 F1 q n d1 => hg n.rel d1 q _ fun B' H' σ' τ' F' q' n' _ => hD.nx _ _ _ _ _ q' (n.trans n')) hR⟩
end
/-! ### what is walked -/
structure ItOk (K : Kc) (B : Hp) (J : It) (ds : List D) : Prop where
  go : ∀ B' H', Ex B B' → Ex B' H' → ∀ i d, ds[i]? = some d → J.go i H' ∧ ∀ x H'', J.yld i H' x H'' → ∃ B'', Gr B' H' B'' H'' ∧ Dn K B'' x d
  stop : ∀ B' H', Ex B B' → Ex B' H' → J.stop ds.length H'
theorem ItOk.mono {K : Kc} {B B1 : Hp} {J : It} {ds : List D} (h : ItOk K B J ds) (e : Ex B B1) : ItOk K B1 J ds := ⟨fun B' H' e1 => h.go B' H' (e.trans e1), fun B' H' e1 => h.stop B' H' (e.trans e1)⟩
def Wi (Γ : Gm) (tg iter : Expr) : TI := fun σ H R => ∃ wi, (∀ X, In Γ X → PI X tg iter wi) ∧ wi σ H R
theorem Wi.pi {Γ : Gm} {tg iter : Expr} {X : Cx} (h : In Γ X) : PI X tg iter (Wi Γ tg iter) := ⟨fun pins s σ H R I ⟨_, k, q⟩ => (k X h).run pins s σ H R I q⟩
def SI (Γ : Gm) (tg iter : Expr) (t : DA) : Prop := ∀ ⦃B H : Hp⦄ ⦃σ : L2.St⦄ ⦃τ : Env⦄ ⦃F : List Addr⦄ ⦃Q : List D → Env → Prop⦄ ⦃R : RX⦄, Rel Γ.K B H σ τ F → t τ Q R → ∀ QV : It → Hp → Prop,
  (∀ J ds B' H' τ' F', Q ds τ' → Nx Γ.K B H σ τ F B' H' σ τ' F' [] → ItOk Γ.K B' J ds → QV J H') → OkR Γ.K B H σ τ F R Γ.W → Wi Γ tg iter σ H QV
/-- the items of a list or tuple -/
def dItems (te : DE) : DA := fun τ Q R => te τ (fun d τ1 => match d with
  | .lst ds => Q ds τ1
  | .tup ds => Q ds τ1
  | _ => False) R
/-- what a walked list or tuple asks -/
def iSeq (K : Fg) (t : TE) : TI := fun σ H R => t σ H fun x H1 => (∃ a, x = .ref a ∧ (∃ xs, SqL K H1 a xs) ∧ R (Itl K a) H1) ∨ ∃ a, x = .ref a ∧ (∃ xs, SqT K H1 a xs) ∧ R (Itt K a) H1
theorem pi_seq {X : Cx} {tg l : Expr} {t : TE} (walked : PE X l t) : PI X tg l (iSeq X.K t) := by
  constructor
  intro pins s σ H R inv todo
  refine thn (walked.run pins s σ H _ inv todo) fun v s1 got => ?_
  obtain ⟨x, H1, inv1, rel, got⟩ := got
  have cell : ∀ b ∈ [s1.heap.objs.size], FpOk X pins H1 b := fun b m => by
    rw [List.mem_singleton.mp m]
    exact inv1.fpOk (Nat.le_refl _) (inv1.hok.fresh (Nat.le_refl _))
  rcases got with ⟨a, rfl, ⟨ys, sq⟩, todo⟩ | ⟨a, rfl, ⟨ys, sq⟩, todo⟩
  · cases rel
    obtain ⟨vals, _, li, _⟩ := inv1.list sq
    exact wpAny_pyIter_list li.isList ⟨_, _, _, _, H1, rfl, inv1.kept (t' := s1.toks) fun b o k => Heap.get?_push_of_some _ k, turn_list a s1.heap.objs.size, ⟨_, Heap.get?_push_size _ rfl, rfl, rfl⟩, cell, todo⟩
  · cases rel
    obtain ⟨vals, _, tup, _⟩ := inv1.tuple sq
    exact wpAny_pyIter_tuple (show s1.heap.IsTuple a vals.toArray from tup) ⟨_, _, _, _, H1, rfl, inv1.kept (t' := s1.toks) fun b o k => Heap.get?_push_of_some _ k, turn_tuple a s1.heap.objs.size, ⟨_, Heap.get?_push_size _ rfl, rfl, rfl⟩, cell, todo⟩
section
variable {Γ : Gm} {tg e : Expr} {te : DE}
theorem itl_ok {K : Kc} {B : Hp} {a : Addr} {xs : List V} {ds : List D} (h : B a = some (.lst xs)) (r : DnL K B xs ds) : ItOk K B (Itl K.K a) ds := by
  have w : Walk (Itl K.K a) xs.length (fun H => SqL K.K H a xs) (YAt xs) := walk_list
  refine ⟨fun B' H' e1 e2 i d hd => ?_, fun B' H' e1 e2 => ?_⟩
  · obtain ⟨v, hv, dv⟩ := r.get hd
    have hl : SqL K.K H' a xs := .of (e2 _ _ (e1 _ _ h))
    have hi : i < xs.length := (List.getElem?_eq_some_iff.mp hv).1
    refine ⟨w.goes i H' hi hl, fun x H'' y => ?_⟩
    obtain ⟨rfl, hx⟩ := w.yields i H' x H'' hi hl y
    rw [hv] at hx
    cases hx
    exact ⟨B', .refl e2, dv.mono e1⟩
  · rw [← r.length]
    exact w.stops H' (.of (e2 _ _ (e1 _ _ h)))
theorem itt_ok {K : Kc} {B : Hp} {a : Addr} {xs : List V} {ds : List D} (h : B a = some (.tup xs)) (r : DnL K B xs ds) : ItOk K B (Itt K.K a) ds := by
  have w : Walk (Itt K.K a) xs.length (fun H => SqT K.K H a xs) (YAt xs) := walk_tup
  refine ⟨fun B' H' e1 e2 i d hd => ?_, fun B' H' e1 e2 => ?_⟩
  · obtain ⟨v, hv, dv⟩ := r.get hd
    have hl : SqT K.K H' a xs := .of (e2 _ _ (e1 _ _ h))
    have hi : i < xs.length := (List.getElem?_eq_some_iff.mp hv).1
    refine ⟨w.goes i H' hi hl, fun x H'' y => ?_⟩
    obtain ⟨rfl, hx⟩ := w.yields i H' x H'' hi hl y
    rw [hv] at hx
    cases hx
    exact ⟨B', .refl e2, dv.mono e1⟩
  · rw [← r.length]
    exact w.stops H' (.of (e2 _ _ (e1 _ _ h)))
theorem SI.items (h : SE Γ e te) : SI Γ tg e (dItems te) := by
  intro B H σ τ F Q R hr ht QV hq hR
  refine ⟨iSeq Γ.K.K (We Γ e), fun X hX => by rw [← hX.K]; exact pi_seq (We.pe hX), ?_⟩
  refine h hr ht _ (fun x d B1 H1 τ1 F1 q n d1 => ?_) hR
  cases d1 <;> (try exact False.elim q)
  · rename_i a xs ds h1 r1
    exact .inl ⟨a, rfl, ⟨xs, .of (n.rel.ex _ _ h1)⟩, hq _ _ _ _ _ _ q n (itl_ok h1 r1)⟩
  · rename_i a xs ds h1 r1
    exact .inr ⟨a, rfl, ⟨xs, .of (n.rel.ex _ _ h1)⟩, hq _ _ _ _ _ _ q n (itt_ok h1 r1)⟩
def dRange1 (te : DE) : DA := fun τ Q R => te τ (fun d τ1 => match d with
  | .int n => -(2 ^ 60) < n ∧ n < 2 ^ 60 ∧ Q (rgD 0 n) τ1
  | _ => False) R
def dRange2 (ta tb : DE) : DA := fun τ Q R => ta τ (fun d τ1 => tb τ1 (fun e τ2 => match d, e with
  | .int a, .int b => -(2 ^ 60) < a ∧ a < 2 ^ 60 ∧ -(2 ^ 60) < b ∧ b < 2 ^ 60 ∧ Q (rgD a b) τ2
  | _, _ => False) R) R
theorem itr_ok {K : Kc} {B : Hp} {a b : Int} : ItOk K B (Itr a (b - a).toNat) (rgD a b) := by
  have w : Walk (Itr a (b - a).toNat) (b - a).toNat (fun _ => True) (YFn fun i => .int (a + i)) := walk_range
  have hlen : (rgD a b).length = (b - a).toNat := by unfold rgD; rw [List.length_map, List.length_range]
  refine ⟨fun B' H' e1 e2 i d hd => ?_, fun B' H' e1 e2 => ?_⟩
  · have hi : i < (b - a).toNat := by rw [← hlen]; exact (List.getElem?_eq_some_iff.mp hd).1
    refine ⟨w.goes i H' hi trivial, fun x H'' y => ?_⟩
    obtain ⟨rfl, hx⟩ := w.yields i H' x H'' hi trivial y
    unfold rgD at hd
    rw [List.getElem?_map, List.getElem?_range hi] at hd
    cases hd
    subst hx
    exact ⟨B', .refl e2, .int _⟩
  · rw [hlen]
    exact w.stops H' trivial
theorem SI.range1 {p pos : Pos} (h : SE Γ e te) (hm : Γ.mg "range" = none) (hg : GlS Γ.sc "range" := by rfl) (hs : ∀ env : PySem.Env, starEach [e] env = [(false, eval e env)] := by intros; rfl) (hs' : ∀ env : PySem.Env, starEach [e] env = (false, eval e env) :: starEach [] env := by intros; rfl) : SI Γ tg (.Call (.Name "range" p) [e] [] pos) (dRange1 te) := by
  intro B H σ τ F Q R hr ht QV hq hR
  refine ⟨iRng1 (tCons (We Γ e) tNil), fun X hX => pi_range1 (hX.gl hg) (by rw [hX.mg]; exact hm) (pa_cons (We.pe hX) pa_nil (hs' _)) (hs _), ?_⟩
  refine h hr ht _ (fun x d B1 H1 τ1 F1 q n d1 => ?_) hR
  cases d1 <;> (try exact False.elim q)
  rename_i k
  have o := itr_ok (K := Γ.K) (B := B1) (a := 0) (b := k)
  rw [Int.sub_zero] at o
  exact ⟨k, rfl, by omega, by omega, hq _ _ _ _ _ _ q.2.2 n o⟩
theorem SI.range2 {e2 : Expr} {te2 : DE} {p pos : Pos} (h : SE Γ e te) (h2 : SE Γ e2 te2) (hm : Γ.mg "range" = none) (hg : GlS Γ.sc "range" := by rfl) (hs : ∀ env : PySem.Env, starEach [e, e2] env = [(false, eval e env), (false, eval e2 env)] := by intros; rfl) (hs2 : ∀ env : PySem.Env, starEach [e2] env = [(false, eval e2 env)] := by intros; rfl) (hs' : ∀ env : PySem.Env, starEach [e, e2] env = (false, eval e env) :: starEach [e2] env := by intros; rfl) (hs2' : ∀ env : PySem.Env, starEach [e2] env = (false, eval e2 env) :: starEach [] env := by intros; rfl) :
    SI Γ tg (.Call (.Name "range" p) [e, e2] [] pos) (dRange2 te te2) := by
  intro B H σ τ F Q R hr ht QV hq hR
  refine ⟨iRng2 (tCons (We Γ e) (tCons (We Γ e2) tNil)), fun X hX => pi_range2 (hX.gl hg) (by rw [hX.mg]; exact hm) (pa_cons (We.pe hX) (pa_cons (We.pe hX) pa_nil (hs2' _)) (hs' _)) (hs _) (hs2 _), ?_⟩
  refine h hr ht _ (fun x d B1 H1 τ1 F1 q n d1 => ?_) hR
  refine h2 n.rel q _ (fun y d' B2 H2 τ2 F2 q2 n2 d2 => ?_) (hR.after n)
  cases d1 <;> (try exact False.elim q2)
  cases d2 <;> (try exact False.elim q2)
  rename_i a b
  exact ⟨a, b, rfl, ⟨by omega, by omega, by omega, by omega⟩, hq _ _ _ _ _ _ q2.2.2.2.2 (n.trans n2) itr_ok⟩
end
/-! ### for, while -/
@[irreducible] def ForB (ds : List D) (τ1 : Env) (g : DG) (body : DS) (E : DEnds) : Prop := ∃ I : Nat → Env → Prop, I 0 τ1 ∧
  (∀ i d τ', ds[i]? = some d → I i τ' → g d τ' fun τ2 => body { nx := I (i + 1), ct := I (i + 1), bk := E.nx, rt := E.rt, ex := E.ex } τ2) ∧ ∀ τ', I ds.length τ' → E.nx τ'
def dFor (ti : DA) (g : DG) (body : DS) : DS := fun E τ => ti τ (fun ds τ1 => ForB ds τ1 g body E) E.ex
def dWhile (c : DC) (body : DS) : DS := fun E τ => ∃ I : Nat → Env → Prop, (∃ m, I m τ) ∧ ∀ m τ', I m τ' → c τ' (fun b τ2 => match b with
  | true => body { nx := fun τ3 => ∃ m', m' < m ∧ I m' τ3, ct := fun τ3 => ∃ m', m' < m ∧ I m' τ3, bk := E.nx, rt := E.rt, ex := E.ex } τ2
  | false => E.nx τ2) E.ex
section
variable {Γ : Gm} {tg iter c : Expr} {body : List Stmt} {ti : DA} {g : DG} {tb : DS} {tc : DC} {pos : Pos}
theorem SS.for_ {ws : List Nat} (hi : SI Γ tg iter ti) (hg : SG Γ tg g ws) (hb : SB Γ body tb) (hc : Γ.calm = true := by rfl) (hs : ∀ (env : PySem.Env) x, foldedSetIterable iter env x = pure x := by intros; rfl) : SS Γ (.For tg iter body [] pos) (dFor ti g tb) := by
  intro B H σ τ F E hr ht D hD hR
  refine ⟨tFor (Wi Γ tg iter) (Wg Γ tg) (Wb Γ body), fun X hX => ps_for hX.pass (hX.calm hc) (Wi.pi hX.toIn) (Wg.pg hX.toIn) (Wb.ps hX) (hs _), ?_⟩
  refine hi hr ht _ (fun J ds B1 H1 τ1 F1 q n1 io => ?_) hR
  unfold ForB at q
  obtain ⟨I, i0, step, fin⟩ := q
  refine ⟨fun i m σ' H' => m = ds.length - i ∧ i ≤ ds.length ∧ ∃ B' τ' F', I i τ' ∧ Nx Γ.K B1 H1 σ τ1 F1 B' H' σ' τ' F' [], ⟨ds.length, by simp, Nat.zero_le _, B1, τ1, F1, i0, Nx.refl n1.rel⟩, ?_⟩
  rintro i m σ' H' ⟨rfl, hle, B', τ', F', hI, n2⟩
  have n12 := n1.trans n2
  by_cases hlt : i < ds.length
  · have hd : ds[i]? = some ds[i] := List.getElem?_eq_getElem hlt
    obtain ⟨go, yl⟩ := io.go B' H' n2.s.b n2.rel.ex i _ hd
    refine .inr ⟨go, fun σ2 H2 => ∃ B' τ' F', I (i + 1) τ' ∧ Nx Γ.K B1 H1 σ τ1 F1 B' H2 σ2 τ' F' [], fun σ2 H2 w => ⟨ds.length - (i + 1), by omega, rfl, hlt, w⟩, fun x H2 y => ?_⟩
    obtain ⟨B2, gr, dx⟩ := yl x H2 y
    have n3 := n2.rel.grow gr
    refine hg n3.rel dx (step i _ τ' hd hI) _ fun B4 H4 σ4 τ4 F4 q4 n4 _ => ?_
    have n14 := (n12.trans n3).trans n4
    have n24 := (n2.trans n3).trans n4
    exact hb n4.rel q4 _ ⟨fun B5 H5 σ5 τ5 F5 q5 n5 => ⟨B5, τ5, F5, q5, n24.trans n5⟩, (hD.after n14).rt, fun B5 H5 σ5 τ5 F5 q5 n5 => (hD.after n14).nx _ _ _ _ _ q5 n5, fun B5 H5 σ5 τ5 F5 q5 n5 => ⟨B5, τ5, F5, q5, n24.trans n5⟩⟩ (hR.after n14)
  · have e : i = ds.length := by omega
    subst e
    exact .inl ⟨io.stop B' H' n2.s.b n2.rel.ex, hD.nx _ _ _ _ _ (fin τ' hI) n12⟩
theorem SS.while_ (hc : SC Γ c tc) (hb : SB Γ body tb) : SS Γ (.While c body [] pos) (dWhile tc tb) := by
  intro B H σ τ F E hr ht D hD hR
  refine ⟨tWhile (Wc Γ c) (Wb Γ body), fun X hX => ps_while hX.pass (Wc.pt hX.toIn) (Wb.ps hX), ?_⟩
  obtain ⟨I, ⟨m0, i0⟩, step⟩ := ht
  refine ⟨fun m σ' H' => ∃ B' τ' F', I m τ' ∧ Nx Γ.K B H σ τ F B' H' σ' τ' F' [], ⟨m0, B, τ, F, i0, Nx.refl hr⟩, ?_⟩
  rintro m σ' H' ⟨B', τ', F', hI, n⟩
  refine hc n.rel (step m τ' hI) _ (fun b B2 H2 τ2 F2 q n2 => ?_) (hR.after n)
  have n12 := n.trans n2
  cases b with
  | true =>
    rw [if_pos rfl]
    refine ⟨fun σ3 H3 => ∃ m', m' < m ∧ ∃ B' τ' F', I m' τ' ∧ Nx Γ.K B H σ τ F B' H3 σ3 τ' F' [], fun σ3 H3 w => w, ?_⟩
    exact hb n2.rel q _ ⟨fun B5 H5 σ5 τ5 F5 ⟨m', hm, q5⟩ n5 => ⟨m', hm, B5, τ5, F5, q5, n12.trans n5⟩, (hD.after n12).rt, fun B5 H5 σ5 τ5 F5 q5 n5 => (hD.after n12).nx _ _ _ _ _ q5 n5, fun B5 H5 σ5 τ5 F5 ⟨m', hm, q5⟩ n5 => ⟨m', hm, B5, τ5, F5, q5, n12.trans n5⟩⟩ (hR.after n12)
  | false =>
    rw [if_neg Bool.false_ne_true]
    exact hD.nx _ _ _ _ _ q n12
end
end EC
/-! EC7: list comprehensions. -/
namespace EC
open PySem PySem.Spec PyProof.Rows L2
def Gm.blk (Γ : Gm) (scope : Scope) : Gm := { Γ with sc := relS scope Γ.sc, own := fun x => scope.names.lookup x == some .cell, W := fun _ _ _ _ => False }
theorem relabel_relS (scope : Scope) (env : PySem.Env) : relabel scope env = relS scope env.scope := rfl
theorem In.blk {Γ : Gm} {X : Cx} (h : In Γ X) (s : Shared) (H : Hp) (scope : Scope) (C : Addr) (cl : List (Str × Addr)) (fp : List Addr) : In (Γ.blk scope) (X.blk s H scope (compEnvC scope cl C X.env) fp) where
  P := h.P
  w := h.w
  K := h.K
  mg := h.mg
  base := h.base
  N := h.N
  sc := by
    show relabel scope X.env = relS scope Γ.sc
    rw [relabel_relS, h.sc]
  room := h.room
  calm := h.calm
  nd := h.nd
  fn := fun x hx => hx
  tk := takes0
def wipeT (τ : Env) : List Nat → Env
  | [] => τ
  | v :: vs => (wipeT τ vs).set v none
/-- the own slots as they were in τ0 -/
def restT (τ0 : Env) : List Nat → Env → Env
  | [], τ => τ
  | v :: vs, τ => (restT τ0 vs τ).set v (τ0.getD v none)
def noOw (τ : Env) (i : Nat) : Prop := match τ[i]? with
  | some (some (.fr _)) => True
  | some none => True
  | _ => False
def noR : RX := fun _ _ => False
@[irreducible] def LcB (ds : List D) (τ1 : Env) (g : DG) (cond : DC) (elt : DE) (vs : List Nat) (Q : T → Env → Prop) : Prop := ds.length ≤ 1000000 ∧ (∀ v ∈ vs, noOw τ1 v) ∧ ∃ I : Nat → List D → Env → Prop, I 0 [] (wipeT τ1 vs) ∧
  (∀ i d acc τ', ds[i]? = some d → I i acc τ' → g d τ' fun τ2 => cond τ2 (fun b τ3 => match b with
    | true => elt τ3 (fun y τ4 => I (i + 1) (acc ++ [y]) (wipeT τ4 vs)) noR
    | false => I (i + 1) acc (wipeT τ3 vs)) noR) ∧
  ∀ acc τ', I ds.length acc τ' → Q (.ow false acc) (restT τ1 vs τ')
def dLc (ti : DA) (g : DG) (cond : DC) (elt : DE) (vs : List Nat) : DT := fun τ Q R => ti τ (fun ds τ1 => LcB ds τ1 g cond elt vs Q) R
section
variable {K : Kc} {B B' H H' : Hp} {σ : L2.St} {τ : Env} {F : List Addr}
theorem wipeT_length (τ : Env) : ∀ vs, (wipeT τ vs).length = τ.length
  | [] => rfl
  | v :: vs => by unfold wipeT; rw [List.length_set, wipeT_length τ vs]
theorem restT_length (τ0 τ : Env) : ∀ vs, (restT τ0 vs τ).length = τ.length
  | [] => rfl
  | v :: vs => by unfold restT; rw [List.length_set, restT_length τ0 τ vs]
theorem Rel.wipe1 (r : Rel K B H σ τ F) (v : Nat) : ∃ F', Rel K B H (σ.set v none) (τ.set v none) F' ∧ ∀ a ∈ F', a ∈ F := by
  by_cases hv : v < τ.length
  · obtain ⟨F1, f, F2, h1, _, h4⟩ := r.sl.focusN hv
    subst h1
    have sub : ∀ a ∈ F1 ++ ([] ++ F2), a ∈ F1 ++ (f ++ F2) := fun a z => by
      simp only [List.mem_append, List.nil_append] at z ⊢
      rcases z with z | z
      · exact .inl z
      · exact .inr (.inr z)
    refine ⟨F1 ++ ([] ++ F2), ⟨r.ex, h4 B H none none [] (Ex.refl _) (fun _ _ => rfl) (.inl ⟨rfl, rfl⟩), ?_, fun a z => r.df a (sub a z)⟩, sub⟩
    have nd := r.nd
    simp only [List.nodup_append, List.nil_append, List.mem_append] at nd ⊢
    exact ⟨nd.1, nd.2.1.2.1, fun a ha b hb => nd.2.2 a ha b (.inr hb)⟩
  · have e1 : τ.set v none = τ := List.set_eq_of_length_le (by omega)
    have e2 : σ.set v none = σ := List.set_eq_of_length_le (by rw [r.sl.len]; omega)
    rw [e1, e2]
    exact ⟨F, r, fun a z => z⟩
theorem Rel.wipe (r : Rel K B H σ τ F) : ∀ vs : List Nat, ∃ F', Rel K B H (L2.wipe σ vs) (wipeT τ vs) F' ∧ ∀ a ∈ F', a ∈ F
  | [] => ⟨F, r, fun a z => z⟩
  | v :: vs => by
    obtain ⟨F1, r1, s1⟩ := Rel.wipe r vs
    obtain ⟨F2, r2, s2⟩ := r1.wipe1 v
    exact ⟨F2, r2, fun a z => s1 a (s2 a z)⟩
theorem wipe_get {vs : List Nat} {i : Nat} (h : i ∉ vs) : ∀ σ : L2.St, (L2.wipe σ vs)[i]? = σ[i]? := by
  induction vs with
  | nil => exact fun _ => rfl
  | cons v vs ih =>
    intro σ
    unfold L2.wipe
    rw [List.getElem?_set_ne fun e => h (by rw [e]; exact List.mem_cons_self), ih (fun z => h (List.mem_cons_of_mem _ z))]
theorem wipeT_get {vs : List Nat} {i : Nat} (h : i ∉ vs) : ∀ τ : Env, (wipeT τ vs)[i]? = τ[i]? := by
  induction vs with
  | nil => exact fun _ => rfl
  | cons v vs ih =>
    intro τ
    unfold wipeT
    rw [List.getElem?_set_ne fun e => h (by rw [e]; exact List.mem_cons_self), ih (fun z => h (List.mem_cons_of_mem _ z))]
theorem restT_get {vs : List Nat} {i : Nat} (h : i ∉ vs) : ∀ τ0 τ : Env, (restT τ0 vs τ)[i]? = τ[i]? := by
  induction vs with
  | nil => exact fun _ _ => rfl
  | cons v vs ih =>
    intro τ0 τ
    unfold restT
    rw [List.getElem?_set_ne fun e => h (by rw [e]; exact List.mem_cons_self), ih (fun z => h (List.mem_cons_of_mem _ z))]
theorem wipe_in {vs : List Nat} {i : Nat} (h : i ∈ vs) : ∀ (σ : L2.St), i < σ.length → (L2.wipe σ vs)[i]? = some none := by
  induction vs with
  | nil => exact nomatch h
  | cons v vs ih =>
    intro σ hi
    unfold L2.wipe
    by_cases e : v = i
    · subst e
      rw [List.getElem?_set_self (by rw [L2.wipe_length]; exact hi)]
    · rw [List.getElem?_set_ne e]
      exact ih ((List.mem_cons.mp h).resolve_left fun z => e z.symm) σ hi
theorem wipeT_in {vs : List Nat} {i : Nat} (h : i ∈ vs) : ∀ (σ : Env), i < σ.length → (wipeT σ vs)[i]? = some none := by
  induction vs with
  | nil => exact nomatch h
  | cons v vs ih =>
    intro σ hi
    unfold wipeT
    by_cases e : v = i
    · subst e
      rw [List.getElem?_set_self (by rw [wipeT_length]; exact hi)]
    · rw [List.getElem?_set_ne e]
      exact ih ((List.mem_cons.mp h).resolve_left fun z => e z.symm) σ hi
theorem wipe_agree {ws vs : List Nat} {σ σ' : L2.St} (a : Agree ws (L2.wipe σ vs) σ') (h : ∀ j ∈ ws, j ∈ vs) : L2.wipe σ' vs = L2.wipe σ vs := by
  have hl : σ'.length = σ.length := by rw [a.1, L2.wipe_length]
  apply List.ext_getElem?
  intro i
  by_cases hi : i ∈ vs
  · by_cases hlt : i < σ.length
    · rw [wipe_in hi σ hlt, wipe_in hi σ' (by rw [hl]; exact hlt)]
    · rw [List.getElem?_eq_none (by rw [L2.wipe_length, hl]; omega), List.getElem?_eq_none (by rw [L2.wipe_length]; omega)]
  · rw [wipe_get hi, a.2 i fun z => hi (h i z), wipe_get hi]
/-- slot v told again, by data -/
theorem Rel.again1 {o : Option T} {v : Nat} {x : Option V} (r : Rel K B H (σ.set v none) (τ.set v none) F) (hv : v < τ.length) (h : o = none ∨ ∃ y d, x = some y ∧ o = some (.fr d) ∧ Dn K B y d) : Rel K B H (σ.set v x) (τ.set v o) F := by
  have hv' : v < (τ.set v none).length := by rw [List.length_set]; exact hv
  obtain ⟨F1, f, F2, h1, h2, h4⟩ := r.sl.focusN hv'
  have hf : f = [] := by
    rcases h2 with ⟨_, h2⟩ | ⟨y, t, h2, h3, _⟩
    · exact h2
    · rw [List.getElem?_set_self hv] at h3
      cases h3
  subst hf
  have := h4 B H x o [] (Ex.refl _) (fun _ _ => rfl) (by
    rcases h with h | ⟨y, d, h5, h6, h7⟩
    · exact .inl ⟨h, rfl⟩
    · exact .inr ⟨y, _, h5, h6, .fr h7⟩)
  rw [List.set_set, List.set_set] at this
  rw [h1]
  exact ⟨r.ex, this, by rw [← h1]; exact r.nd, by rw [← h1]; exact r.df⟩
/-- V-slots given back -/
def resV (σ0 : L2.St) : List Nat → L2.St → L2.St
  | [], σ => σ
  | v :: vs, σ => (resV σ0 vs σ).set v (σ0.getD v none)
theorem resV_get {vs : List Nat} {i : Nat} (h : i ∉ vs) : ∀ σ0 σ : L2.St, (resV σ0 vs σ)[i]? = σ[i]? := by
  induction vs with
  | nil => exact fun _ _ => rfl
  | cons v vs ih =>
    intro σ0 σ
    unfold resV
    rw [List.getElem?_set_ne fun e => h (by rw [e]; exact List.mem_cons_self), ih (fun z => h (List.mem_cons_of_mem _ z))]
theorem resV_length (σ0 σ : L2.St) : ∀ vs, (resV σ0 vs σ).length = σ.length
  | [] => rfl
  | v :: vs => by unfold resV; rw [List.length_set, resV_length σ0 σ vs]
theorem resV_in {vs : List Nat} {i : Nat} (h : i ∈ vs) : ∀ σ0 σ : L2.St, i < σ.length → (resV σ0 vs σ)[i]? = some (σ0.getD i none) := by
  induction vs with
  | nil => exact nomatch h
  | cons v vs ih =>
    intro σ0 σ hi
    unfold resV
    by_cases e : v = i
    · subst e
      rw [List.getElem?_set_self (by rw [resV_length]; exact hi)]
    · rw [List.getElem?_set_ne e]
      exact ih ((List.mem_cons.mp h).resolve_left fun z => e z.symm) σ0 σ hi
theorem resV_wipe (σ : L2.St) (vs : List Nat) : resV σ vs (L2.wipe σ vs) = σ := by
  apply List.ext_getElem?
  intro i
  by_cases hi : i ∈ vs
  · by_cases hlt : i < σ.length
    · rw [resV_in hi σ _ (by rw [L2.wipe_length]; exact hlt), List.getD_eq_getElem?_getD, List.getElem?_eq_getElem hlt] <;> rfl
    · rw [List.getElem?_eq_none (by rw [resV_length, L2.wipe_length]; omega), List.getElem?_eq_none (by omega)]
  · rw [resV_get hi, wipe_get hi]
theorem rest_rel {B1 H1 : Hp} {τ1 : Env} {F1 : List Addr} {vs : List Nat} (r1 : Rel K B1 H1 σ τ1 F1) (no : ∀ v ∈ vs, noOw τ1 v) (e : Ex B1 B) : ∀ (us : List Nat), (∀ u ∈ us, u ∈ vs) → ∀ {σ0 : L2.St} {τ0 : Env}, τ0.length = τ1.length → Rel K B H σ0 τ0 F → ∃ F', Rel K B H (resV σ us σ0) (restT τ1 us τ0) F' ∧ ∀ a ∈ F', a ∈ F
  | [], _, _, _, _, r => ⟨F, r, fun _ z => z⟩
  | u :: us, h, σ0, τ0, hl, r => by
    obtain ⟨F2, r2, s2⟩ := rest_rel r1 no e us (fun x z => h x (List.mem_cons_of_mem _ z)) hl r
    obtain ⟨F3, r3, s3⟩ := r2.wipe1 u
    refine ⟨F3, ?_, fun a z => s2 a (s3 a z)⟩
    have hu := no u (h u List.mem_cons_self)
    have hlt : u < τ1.length := by
      unfold noOw at hu
      cases q : τ1[u]? with
      | none => rw [q] at hu; exact hu.elim
      | some w => exact (List.getElem?_eq_some_iff.mp q).1
    refine r3.again1 (by rw [restT_length, hl]; exact hlt) ?_
    rw [List.getD_eq_getElem?_getD, List.getD_eq_getElem?_getD, List.getElem?_eq_getElem hlt]
    cases q : τ1[u] with
    | none => exact .inl rfl
    | some t =>
      have q' : τ1[u]? = some (some t) := by rw [List.getElem?_eq_getElem hlt, q]
      obtain ⟨v, G1, f, G2, h1, h2, _, _⟩ := r1.sl.focus q'
      unfold noOw at hu
      rw [q'] at hu
      cases h2 with
      | fr d => exact .inr ⟨v, _, by rw [h1] <;> rfl, rfl, d.mono e⟩
      | _ => exact False.elim hu
end
/-! ### the tests of a comprehension -/
def Wts (Γ : Gm) (ifs : List Expr) : TT := fun σ H Q => ∃ te, (∀ X, In Γ X → PTs X ifs te) ∧ te σ H Q
theorem Wts.pts {Γ : Gm} {e : List Expr} {X : Cx} (h : In Γ X) : PTs X e (Wts Γ e) := ⟨fun pins s σ H Q I ⟨_, k, q⟩ => (k X h).run pins s σ H Q I q⟩
def SCs (Γ : Gm) (e : List Expr) (t : DC) : Prop := ∀ ⦃B H : Hp⦄ ⦃σ : L2.St⦄ ⦃τ : Env⦄ ⦃F : List Addr⦄ ⦃Q : Bool → Env → Prop⦄ ⦃R : RX⦄, Rel Γ.K B H σ τ F → t τ Q R → ∀ QV : Bool → Hp → Prop, OkC Γ.K B H σ τ F Q QV → OkR Γ.K B H σ τ F R Γ.W → Wts Γ e σ H QV
def dYes : DC := fun τ Q _ => Q true τ
theorem SCs.nil {Γ : Gm} : SCs Γ [] dYes := fun B H σ τ F Q R hr ht QV hq hR => ⟨tYes, fun X hX => pts_nil, hq _ _ _ _ _ ht (Nx.refl hr)⟩
theorem SCs.one {Γ : Gm} {c : Expr} {t : DC} (h : SC Γ c t) : SCs Γ [c] t := fun B H σ τ F Q R hr ht QV hq hR => ⟨Wc Γ c, fun X hX => pts_one (Wc.pt hX), h hr ht QV hq hR⟩
theorem okNoR {K : Kc} {B H : Hp} {σ : L2.St} {τ : Env} {F : List Addr} {W : WX} : OkR K B H σ τ F noR W := fun _ _ _ _ _ _ _ _ q _ _ => q.elim
/-- D besides -/
theorem Stp.beside {B H B' H' : Hp} {F F' : List Addr} (x : Stp B H F B' H' F') (p : Addr) : Stp B H (F ++ [p]) B' H' (F' ++ [p]) :=
  ⟨x.b, fun a o h z => x.h a o h fun y => z (List.mem_append_left _ y), fun a z => (List.mem_append.mp z).elim (fun y => (x.f a y).imp_left (List.mem_append_left _)) fun y => .inl (List.mem_append_right _ y),
    fun a o h => (x.n a o h).imp_right (Or.imp_left (List.mem_append_left _))⟩
section
variable {Γ : Gm} {tg iter elt : Expr} {ifs : List Expr} {scope : Scope} {ti : DA} {g : DG} {cond : DC} {te : DE} {own : List (Str × Nat)} {ws : List Nat}
theorem Stp.write {B H B' H' : Hp} {F F' : List Addr} (x : Stp B H F B' H' F') {p : Addr} {o : HO} (hp : p ∈ F) : Stp B H F B' (upd H' p o) F' :=
  ⟨x.b, fun a u h z => by rw [upd_ne fun (e : a = p) => z (e ▸ hp)]; exact x.h a u h z, x.f, x.n⟩
theorem Rel.side {K : Kc} {B H : Hp} {σ : L2.St} {τ : Env} {F : List Addr} (r : Rel K B H σ τ F) {p : Addr} {o : HO} (hp : p ∉ F) (hb : B p = none) : Rel K B (upd H p o) σ τ F :=
  ⟨fun a u h => by rw [upd_ne fun (e : a = p) => by rw [e, hb] at h; cases h]; exact r.ex a u h, r.sl.mono (Ex.refl _) fun a z => upd_ne fun (e : a = p) => hp (e ▸ z), r.nd, r.df⟩
/-- between two turns -/
def LcMid (K : Kc) (σ : L2.St) (vs : List Nat) (P : Addr) (B1 H1 : Hp) (τ1 : Env) (F1 : List Addr) (I : List D → Env → Prop) (i : Nat) (H' : Hp) : Prop :=
  ∃ acc xs B' τ' F', I acc (wipeT τ' vs) ∧ H' P = some (.lst xs) ∧ DnL K B' xs acc ∧ acc.length ≤ i ∧ P ∉ F' ∧ B' P = none ∧
    Rel K B' H' (L2.wipe σ vs) (wipeT τ' vs) F' ∧ Stp B1 (upd H1 P (.lst [])) (F1 ++ [P]) B' H' (F' ++ [P]) ∧ (∀ j t k, j ∉ vs → τ1[j]? = some (some t) → t.kind = some k → ∃ t', (wipeT τ' vs)[j]? = some (some t') ∧ t'.kind = some k)
theorem lc_read (hi : SI Γ tg iter ti) (hg : SG (Γ.blk scope) tg g ws) (hw : ∀ j ∈ ws, j ∈ own.map (·.2)) (hc : SCs (Γ.blk scope) ifs cond) (he : SE (Γ.blk scope) elt te) {B H : Hp} {σ : L2.St} {τ : Env} {F : List Addr} {Q : T → Env → Prop} {R : RX}
    (hr : Rel Γ.K B H σ τ F) (ht : dLc ti g cond te (own.map (·.2)) τ Q R) {QV : VK} (hq : OkT Γ.K B H σ τ F Q QV) (hR : OkR Γ.K B H σ τ F R Γ.W) :
    tLc (Wi Γ tg iter) (Wg (Γ.blk scope) tg) (Wts (Γ.blk scope) ifs) (We (Γ.blk scope) elt) (own.map (·.2)) σ H QV := by
  generalize own.map (·.2) = vs at *
  refine hi hr ht _ (fun J ds B1 H1 τ1 F1 q n1 io => ?_) hR
  unfold LcB at q
  obtain ⟨hz, no, I, i0, step, fin⟩ := q
  intro P hP
  have r1 := n1.rel
  have hPF : P ∉ F1 := fun z => by
    obtain ⟨o, e⟩ := r1.sl.there P z
    rw [hP] at e
    cases e
  have hPB := r1.ex.back hP
  obtain ⟨n2, _, _, _⟩ := r1.own (l := false) (xs := []) (ds := []) hP .nil
  obtain ⟨F2, r2, s2⟩ := n2.rel.wipe vs
  refine ⟨fun i m H' => m = ds.length - i ∧ i ≤ ds.length ∧ LcMid Γ.K σ vs P B1 H1 τ1 F1 (I i) i H',
    ⟨ds.length, by simp, Nat.zero_le _, [], [], B1, τ1, F2, i0, upd_same, .nil, Nat.zero_le _, fun z => hPF (s2 P z), hPB, r2, ⟨Ex.refl _, fun a o h _ => h, fun a z => ?_, fun a o h => .inl ⟨o, h⟩⟩, fun j t k hj h e => ⟨t, by rw [wipeT_get hj]; exact h, e⟩⟩, ?_⟩
  · rcases List.mem_append.mp z with z | z
    · exact .inl (List.mem_append_left _ (s2 a z))
    · exact .inl (List.mem_append_right _ z)
  rintro i m H' ⟨rfl, hle, acc, xs, B', τ', F', hI, hD, hda, hla, hPF', hPB', r', st, le⟩
  by_cases hlt : i < ds.length
  · have hd : ds[i]? = some ds[i] := List.getElem?_eq_getElem hlt
    obtain ⟨go, yl⟩ := io.go B' H' st.b r'.ex i _ hd
    refine .inr ⟨go, LcMid Γ.K σ vs P B1 H1 τ1 F1 (I (i + 1)) (i + 1), fun H2 w => ⟨ds.length - (i + 1), by omega, rfl, hlt, w⟩, fun x H2 y => ?_⟩
    obtain ⟨B2, gr, dx⟩ := yl x H2 y
    have n3 := r'.grow gr
    refine hg n3.rel dx (step i _ acc _ hd hI) _ fun B4 H4 σ4 τ4 F4 q4 n4 ag => ?_
    have hwp := wipe_agree ag hw
    refine ⟨hwp, ?_⟩
    have n34 := n3.trans n4
    -- what a state behind the turn's steps gives
    have mid : ∀ {B6 H6 : Hp} {τ6 : Env} {F6 : List Addr} {acc' : List D} {xs' : List V}, Nx Γ.K B' H' (L2.wipe σ vs) (wipeT τ' vs) F' B6 H6 σ4 τ6 F6 [] → I (i + 1) acc' (wipeT τ6 vs) → DnL Γ.K B6 xs' acc' → acc'.length ≤ i + 1 →
        LcMid Γ.K σ vs P B1 H1 τ1 F1 (I (i + 1)) (i + 1) (upd H6 P (.lst xs')) := fun {B6 H6 τ6 F6 acc' xs'} n6 hI6 hd6 hl6 => by
      obtain ⟨k1, k2, k3⟩ := n6.s.frame (G := [P]) (fun a z => by
        have e := List.mem_singleton.mp z
        subst e
        exact ⟨_, hD⟩) (fun a z => by
        have e := List.mem_singleton.mp z
        subst e
        exact hPF') (fun a z => by
        have e := List.mem_singleton.mp z
        subst e
        exact hPB')
      have kF := k2 P List.mem_cons_self
      have kB := k3 P List.mem_cons_self
      obtain ⟨F7, r7, s7⟩ := (n6.rel.side (o := .lst xs') kF kB).wipe vs
      rw [hwp] at r7
      refine ⟨acc', xs', B6, τ6, F7, hI6, upd_same, hd6, hl6, fun z => kF (s7 P z), kB, r7, ?_, fun j t k hj h e => ?_⟩
      · refine (Stp.write (st.trans (n6.s.beside P)) (List.mem_append_right _ List.mem_cons_self)).less fun a z => ?_
        rcases List.mem_append.mp z with z | z
        · exact List.mem_append_left _ (s7 a z)
        · exact List.mem_append_right _ z
      · obtain ⟨t', h', e'⟩ := le j t k hj h e
        obtain ⟨_, t2, h2, e2⟩ := n6.len.at_ j t' k h' e'
        exact ⟨t2, by rw [wipeT_get hj]; exact h2, e2⟩
    refine hc n34.rel q4 _ (fun b B5 H5 τ5 F5 q5 n5 => ?_) okNoR
    have n35 := n34.trans n5
    have hD5 : H5 P = some (.lst xs) := n35.s.h P _ hD hPF'
    cases b with
    | false =>
      rw [if_neg Bool.false_ne_true]
      have w := mid n35 q5 (hda.mono n35.s.b) (by omega)
      have e : upd H5 P (.lst xs) = H5 := by
        funext a
        unfold upd
        split
        · rename_i h
          rw [h, hD5]
        · rfl
      rw [e] at w
      exact w
    | true =>
      rw [if_pos rfl]
      refine he n35.rel q5 _ (fun y d B6 H6 τ6 F6 q6 n6 d6 => ?_) okNoR
      have n36 := n35.trans n6
      refine ⟨xs, n36.s.h P _ hD hPF', ?_, mid n36 q6 ((hda.mono n36.s.b).append (.cons d6 .nil)) (by rw [List.length_append, List.length_singleton]; omega)⟩
      rw [hda.length, sizeLine_eq]
      omega
  · have e : i = ds.length := by omega
    subst e
    refine .inl ⟨io.stop B' H' st.b r'.ex, ?_⟩
    have hl : (wipeT τ' vs).length = τ1.length := by
      rw [← r'.sl.len, L2.wipe_length, r1.sl.len]
    obtain ⟨F8, r8, s8⟩ := rest_rel r1 no st.b vs (fun _ z => z) hl r'
    rw [resV_wipe] at r8
    have hP8 : P ∉ F8 := fun z => hPF' (s8 P z)
    refine hq (.ref P) (.ow false acc) [P] B' H' _ F8 (fin acc _ hI) (n1.trans ⟨r8, ⟨st.b, fun a o h z => ?_, fun a z => ?_, fun a o h => ?_⟩, ⟨by rw [restT_length, hl], fun j t k h e => ⟨rfl, ?_⟩⟩⟩) (.ow hD hda) ?_ ?_
    · have hne : a ≠ P := fun e => by rw [e, hP] at h; cases h
      exact st.h a o (by rw [upd_ne hne]; exact h) fun y => (List.mem_append.mp y).elim z fun y => hne (List.mem_singleton.mp y)
    · have z' : a ∈ F' ++ [P] := (List.mem_append.mp z).elim (fun y => List.mem_append_left _ (s8 a y)) fun y => List.mem_append_right _ y
      by_cases hne : a = P
      · exact .inr (by rw [hne]; exact hP)
      · rcases st.f a z' with y | y
        · rcases List.mem_append.mp y with y | y
          · exact .inl y
          · exact absurd (List.mem_singleton.mp y) hne
        · rw [upd_ne hne] at y
          exact .inr y
    · by_cases hne : a = P
      · exact .inr (.inr (by rw [hne]; exact hP))
      · rcases st.n a o h with y | y | y
        · exact .inl y
        · rcases List.mem_append.mp y with y | y
          · exact .inr (.inl y)
          · exact absurd (List.mem_singleton.mp y) hne
        · rw [upd_ne hne] at y
          exact .inr (.inr y)
    · have hj : j ∉ vs := fun z => by
        have := no j z
        unfold noOw at this
        rw [h] at this
        cases t with
        | fr => cases e
        | _ => exact False.elim this
      obtain ⟨t', h', e'⟩ := le j t k hj h e
      exact ⟨t', by rw [restT_get hj]; exact h', e'⟩
    · rw [List.nodup_append]
      refine ⟨r8.nd, by simp, fun a ha b hb e => ?_⟩
      have e2 := List.mem_singleton.mp hb
      subst e2
      subst e
      exact hP8 ha
    · intro a z
      have e := List.mem_singleton.mp z
      subst e
      exact hPB'
theorem ST.lc {pos : Pos} (hi : SI Γ tg iter ti) (hg : SG (Γ.blk scope) tg g ws) (hc : SCs (Γ.blk scope) ifs cond) (he : SE (Γ.blk scope) elt te) (hca : Γ.calm = true := by rfl) (hw : ∀ j ∈ ws, j ∈ own.map (·.2) := by decide) (ok : blkC Γ.N Γ.sc scope own = true := by (dsimp only [Gm.blk]; decide +kernel)) (hs : ∀ (env : PySem.Env) x, foldedSetIterable iter env x = pure x := by intros; rfl) : ST Γ (.ListComp elt [⟨tg, iter, ifs, 0⟩] scope pos) (dLc ti g cond te (own.map (·.2))) := fun B H σ τ F Q R hr ht QV hq hR =>
  ⟨_, fun X hX => pe_lc (hX.calm hca) hX.nd (Wi.pi hX) (by rw [hX.N, hX.sc]; exact blkOk_by ok) (fun s H C cl fp => Wg.pg (hX.blk s H scope C cl fp)) (fun s H C cl fp => Wts.pts (hX.blk s H scope C cl fp)) (fun s H C cl fp => We.pe (hX.blk s H scope C cl fp)) (hs _),
    lc_read hi hg hw hc he hr ht hq hR⟩
theorem SS.setLc {i : Nat} {y : Str} {py pos spos : Pos} (hi : SI Γ tg iter ti) (hg : SG (Γ.blk scope) tg g ws) (hc : SCs (Γ.blk scope) ifs cond) (he : SE (Γ.blk scope) elt te) (hsw : ∀ env : PySem.Env, env.scope = Γ.sc → swapsWith (.ListComp elt [⟨tg, iter, ifs, 0⟩] scope pos) (some (.Name y py)) spos.line env = pure true := by exact fun env h => sw_true (by rw [h]; rfl) (by rw [h]; rfl) rfl (by decide +kernel)) (hca : Γ.calm = true := by rfl) (hy : Γ.N[i]? = some y := by rfl) (hyl : Γ.sc.names.lookup y = some .local := by rfl) (hfn : Γ.sc.kind = .function := by rfl) (hw : ∀ j ∈ ws, j ∈ own.map (·.2) := by decide) (ok : blkC Γ.N Γ.sc scope own = true := by (dsimp only [Gm.blk]; decide +kernel)) (hs : ∀ (env : PySem.Env) x, foldedSetIterable iter env x = pure x := by intros; rfl) :
    SS Γ (.Assign [.Name y py] (.ListComp elt [⟨tg, iter, ifs, 0⟩] scope pos) spos) (dSet i (dLc ti g cond te (own.map (·.2)))) := fun B H σ τ F E hr ht D hD hR =>
  ⟨_, fun X hX => ps_setLc (hX.calm hca) hX.nd (by rw [hX.N]; exact hy) (by rw [hX.sc]; exact hyl) (hsw _ hX.sc) (Wi.pi hX.toIn) (by rw [hX.N, hX.sc]; exact blkOk_by ok) (fun s H C cl fp => Wg.pg (hX.toIn.blk s H scope C cl fp)) (fun s H C cl fp => Wts.pts (hX.toIn.blk s H scope C cl fp))
      (fun s H C cl fp => We.pe (hX.toIn.blk s H scope C cl fp)) (hs _),
    lc_read (QV := fun x H1 => gName i x σ H1 D.nx) hi hg hw hc he hr ht (fun v u f B1 H1 τ1 F1 q n o nd df => by
      obtain ⟨F2, n2⟩ := n.put o nd df q.1
      exact hD.nx _ _ _ _ _ q.2 n2) hR⟩
end
end EC
/-! EC8: what a def promises, its proof by its body, its calls. -/
namespace EC
open PySem PySem.Spec PyProof.Rows L2
abbrev DSp := List T → (T → List T → Prop) → (Exn → List T → Prop) → Prop
/-- arguments as they come back -/
structure Shape (ts ts' : List T) : Prop where
  len : ts'.length = ts.length
  fr : ∀ (i : Nat) d, ts[i]? = some (.fr d) → ts'[i]? = some (.fr d)
  ow : ∀ (i : Nat) t k, ts[i]? = some t → t.kind = some k → ∃ t', ts'[i]? = some t' ∧ t'.kind = some k
def AllLent (ts : List T) : Prop := ∀ t, t ∈ ts → (∃ d, t = .fr d) ∨ ∃ k, t.kind = some k
def SpD (K : Kc) (ds : DSp) : Sp := fun vs H Q E => ∃ B ts F Qd Rd, Rel K B H (vs.map some) (ts.map some) F ∧ AllLent ts ∧ ds ts Qd Rd ∧
  (∀ v t f B' H' ts' F', Qd t ts' → Rel K B' H' (vs.map some) (ts'.map some) F' → Stp B H F B' H' (F' ++ f) → Ow K B' H' v t f → (F' ++ f).Nodup → (∀ a ∈ f, B' a = none) → Shape ts ts' → Q v H') ∧
  (∀ x cls dx B' H' ts' F', Rd x ts' → Rel K B' H' (vs.map some) (ts'.map some) F' → Stp B H F B' H' F' → XRel K B' cls dx x → Shape ts ts' → E cls dx H')
def exitT : List T → Env → List T
  | .fr d :: ts, _ :: τ => .fr d :: exitT ts τ
  | _ :: ts, some u :: τ => u :: exitT ts τ
  | ts, _ => ts
section
variable {K : Kc} {B B' H H' : Hp} {σ σ' : L2.St} {τ τ' : Env} {F F' : List Addr}
theorem Sl.pad (h : Sl K B H σ τ F) : ∀ n : Nat, Sl K B H (σ ++ List.replicate n none) (τ ++ List.replicate n none) F := by
  intro n
  induction h with
  | nil =>
    induction n with
    | zero => exact .nil
    | succ n ih => exact .non ih
  | non _ ih => exact .non ih
  | cons o _ ih => exact .cons o ih
theorem exit_sl (e : Ex B B') : ∀ {vs : List V} {ts : List T} {F : List Addr} {σ' : L2.St} {τ' : Env} {F' : List Addr}, Sl K B H (vs.map some) (ts.map some) F → Sl K B' H' σ' τ' F' → ts.length ≤ τ'.length →
    (∀ (i : Nat) t k, ts[i]? = some t → t.kind = some k → σ'[i]? = some vs[i]? ∧ ∃ t', τ'[i]? = some (some t') ∧ t'.kind = some k) → AllLent ts →
    ∃ F2, Sl K B' H' (vs.map some) ((exitT ts τ').map some) F2 ∧ F2.Sublist F' ∧ Shape ts (exitT ts τ')
  | [], [], _, σ', τ', F', .nil, h', _, _, _ => ⟨[], by cases τ' <;> exact .nil, List.nil_sublist _, by cases τ' <;> exact ⟨rfl, fun _ _ h => h, fun _ _ _ h => by simp at h⟩⟩
  | v :: vs, t :: ts, F, σ', τ', F', h, h', hl, lent, al => by
    generalize hF : (v :: vs).map some = VV at h
    generalize hT : (t :: ts).map some = TT at h
    cases h with
    | nil => cases hF
    | non _ => cases hT
    | @cons v0 t0 f0 σ0 τ0 F0 o hr =>
      rw [List.map_cons] at hF hT
      injection hF with hF1 hF2
      injection hT with hT1 hT2
      cases hF1
      cases hT1
      subst hF2
      subst hT2
      have al' : AllLent ts := fun u z => al u (List.mem_cons_of_mem _ z)
      have tail : ∀ {x : Option V} {u : Option T} {σr : L2.St} {τr : Env} {Fr : List Addr}, Sl K B' H' σr τr Fr → ts.length ≤ τr.length → (∀ (i : Nat) t k, ts[i]? = some t → t.kind = some k → σr[i]? = some vs[i]? ∧ ∃ t', τr[i]? = some (some t') ∧ t'.kind = some k) →
          ∃ F2, Sl K B' H' (vs.map some) ((exitT ts τr).map some) F2 ∧ F2.Sublist Fr ∧ Shape ts (exitT ts τr) := fun {x u σr τr Fr} hr' hl' l' => exit_sl e hr hr' hl' l' al'
      have shp : ∀ {t' : T} {rest : List T}, Shape ts rest → ((∃ d, t = .fr d ∧ t' = .fr d) ∨ ((∀ d, t ≠ .fr d) ∧ ∀ k, t.kind = some k → t'.kind = some k)) → Shape (t :: ts) (t' :: rest) := fun {t' rest} sh w =>
        ⟨by show _ + 1 = _ + 1; rw [sh.len], fun i d z => by
          cases i with
          | zero =>
            have z' : t = .fr d := by simpa using z
            rcases w with ⟨d', w1, w2⟩ | ⟨w1, _⟩
            · rw [z'] at w1
              cases w1
              rw [w2] <;> rfl
            · exact absurd z' (w1 d)
          | succ i => exact sh.fr i d z, fun i u k z hk => by
          cases i with
          | zero =>
            have z' : t = u := by simpa using z
            subst z'
            rcases w with ⟨d', w1, w2⟩ | ⟨_, w2⟩
            · rw [w1] at hk
              cases hk
            · exact ⟨t', rfl, w2 k hk⟩
          | succ i => exact sh.ow i u k z hk⟩
      rcases al t List.mem_cons_self with ⟨d, rfl⟩ | ⟨k, hk⟩
      · have dv : Dn K B v d := by
          cases o
          assumption
        cases h' with
        | nil => simp at hl
        | @non o' σr τr Fr hr' =>
          obtain ⟨F2, k1, k2, k3⟩ := tail (x := none) (u := none) hr' (by simpa using hl) (fun i t k z hk => by simpa using lent (i + 1) t k (by simpa using z) hk)
          exact ⟨[] ++ F2, .cons (.fr (dv.mono e)) k1, k2, shp k3 (.inl ⟨d, rfl, rfl⟩)⟩
        | @cons v' t' f' σr τr Fr o' hr' =>
          obtain ⟨F2, k1, k2, k3⟩ := tail (x := none) (u := none) hr' (by simpa using hl) (fun i t k z hk => by simpa using lent (i + 1) t k (by simpa using z) hk)
          exact ⟨[] ++ F2, .cons (.fr (dv.mono e)) k1, k2.trans (List.sublist_append_right _ _), shp k3 (.inl ⟨d, rfl, rfl⟩)⟩
      · obtain ⟨z1, u, z2, z3⟩ := lent 0 t k rfl hk
        have nf : ∀ d, t ≠ .fr d := fun d z => by rw [z] at hk; cases hk
        cases h' with
        | nil => simp at hl
        | non hr' => cases z2
        | @cons v' t' f' σr τr Fr o' hr' =>
          have e2 : t' = u := by simpa using z2
          subst e2
          have e1 : v' = v := by simpa using z1
          subst e1
          obtain ⟨F2, k1, k2, k3⟩ := tail (x := none) (u := none) hr' (by simpa using hl) (fun i t k z hk => by simpa using lent (i + 1) t k (by simpa using z) hk)
          have ee : exitT (t :: ts) (some t' :: τr) = t' :: exitT ts τr := by
            cases t with
            | fr d => exact absurd rfl (nf d)
            | _ => rfl
          rw [ee]
          refine ⟨f' ++ F2, .cons o' k1, List.Sublist.append (List.Sublist.refl _) k2, shp k3 (.inr ⟨nf, fun k' hk' => ?_⟩)⟩
          rw [hk] at hk'
          cases hk'
          exact z3
  | [], _ :: _, _, _, _, _, h, _, _, _, _ => nomatch h
  | _ :: _, [], _, _, _, _, h, _, _, _, _ => nomatch h
theorem exit_rel {vs : List V} {ts : List T} {n : Nat} (r : Rel K B H (vs.map some) (ts.map some) F) (r' : Rel K B' H' σ' τ' F') (e : Ex B B') (l : Lent (vs.map some ++ List.replicate n none) (ts.map some ++ List.replicate n none) σ' τ') (al : AllLent ts) :
    ∃ F2, Rel K B' H' (vs.map some) ((exitT ts τ').map some) F2 ∧ F2.Sublist F' ∧ Shape ts (exitT ts τ') := by
  obtain ⟨F2, k1, k2, k3⟩ := exit_sl e r.sl r'.sl (by rw [l.len, List.length_append, List.length_map]; omega) (fun i t k h hk => by
    have hi : i < ts.length := (List.getElem?_eq_some_iff.mp h).1
    have hv : vs.length = ts.length := by
      have := r.sl.len
      rw [List.length_map, List.length_map] at this
      exact this
    obtain ⟨e1, e2⟩ := l.at_ i t k (by rw [List.getElem?_append_left (by rw [List.length_map]; exact hi), List.getElem?_map, h]; rfl) hk
    refine ⟨?_, e2⟩
    rw [e1, List.getElem?_append_left (by rw [List.length_map, hv]; exact hi), List.getElem?_map, List.getElem?_eq_getElem (by rw [hv]; exact hi)]
    rfl) al
  exact ⟨F2, ⟨r'.ex, k1, k2.nodup r'.nd, fun a z => r'.df a (k2.subset z)⟩, k2, k3⟩
end
def startT (n : Nat) (ts : List T) : Env := ts.map some ++ List.replicate (n - ts.length) none
def endsOf (ts : List T) (Q : T → List T → Prop) (R : Exn → List T → Prop) : DEnds where
  nx := fun τ => Q (.fr .non) (exitT ts τ)
  rt := fun t τ => Q t (exitT ts τ)
  bk := fun _ => False
  ct := fun _ => False
  ex := fun x τ => R x (exitT ts τ)
/-- a def keeps its promise, by its body -/
theorem fn_ok {P : Program} {w : World} {K : Kc} {mg : Str → Option Value} {base : Heap} {x qual : Str} {st : Stmt} {f : Addr} {fd : FuncData} {N ps : List Str} {k : Nat} {ds : DSp} {tb : DS}
    (Fn : L2.Fun K.K x qual st f fd) (S : FnScope N ps (defScope st)) (hlen : ∀ ts Q R, ds ts Q R → ts.length = ps.length)
    (hb : ∀ W : WX, SB ⟨P, w, K, mg, base, N, defScope st, k, true, fun _ => true, W⟩ (defBody st) tb)
    (hd : ∀ ts Q R, ds ts Q R → tb (endsOf ts Q R) (startT N.length ts)) :
    FnOk P w K.K mg base (L2.CX P w) (k + 1) f fd ps (SpD K ds) := by
  refine Fn.okX S (fun vs H Q E h => ?_) (fun cdv A outer s H vs Q E hr h => ?_)
  · obtain ⟨B, ts, F, Qd, Rd, r, _, h, _⟩ := h
    have e := r.sl.len
    rw [List.length_map, List.length_map] at e
    rw [e]
    exact hlen ts Qd Rd h
  · obtain ⟨B, ts, F, Qd, Rd, r, al, h, hQ, hE⟩ := h
    have e := r.sl.len
    rw [List.length_map, List.length_map] at e
    have hX : InS ⟨P, w, K, mg, base, N, defScope st, k, true, fun _ => true, fun cls d _ H => E cls d H⟩ (cxOf (L2.CX P w) P w K.K mg base N qual (defScope st) f cdv A outer s H E) :=
      { P := rfl, w := rfl, K := rfl, mg := rfl, base := rfl, N := rfl, sc := rfl, room := fun _ => hr, calm := fun _ => rfl, nd := S.nd, fn := fun _ _ => rfl, tk := takes_of rfl rfl rfl rfl, stk := rfl, fra := rfl, fnA := fun _ => rfl, pass := passes_of rfl }
    refine ⟨_, Wb.ps hX, ?_⟩
    have r0 : Rel K B H (L2.start N vs) (startT N.length ts) F := by
      unfold L2.start startT
      rw [e]
      exact ⟨r.ex, r.sl.pad _, r.nd, r.df⟩
    have lent : ∀ {σ' : L2.St} {τ' : Env}, Lent (L2.start N vs) (startT N.length ts) σ' τ' → Lent (vs.map some ++ List.replicate (N.length - ts.length) none) (ts.map some ++ List.replicate (N.length - ts.length) none) σ' τ' := fun l => by
      unfold L2.start startT at l
      rw [e] at l
      exact l
    have ret : ∀ v t g B' H' σ' τ' F', Qd t (exitT ts τ') → Nx K B H (L2.start N vs) (startT N.length ts) F B' H' σ' τ' F' g → Ow K B' H' v t g → (F' ++ g).Nodup → (∀ a ∈ g, B' a = none) → Q v H' := fun v t g B' H' σ' τ' F' q n o nd df => by
      obtain ⟨F2, r2, s2, sh⟩ := exit_rel r n.rel n.stp.b (lent n.len) al
      refine hQ v t g B' H' _ F2 q r2 (n.stp.less fun a z => ?_) o ?_ df sh
      · rcases List.mem_append.mp z with z | z
        · exact List.mem_append_left _ (s2.subset z)
        · exact List.mem_append_right _ z
      · exact (List.Sublist.append s2 (List.Sublist.refl _)).nodup nd
    refine hb (fun cls d _ H => E cls d H) r0 (hd ts Qd Rd h) _ ⟨fun B' H' σ' τ' F' q n => ?_, fun v t g B' H' σ' τ' F' q n o nd df => ret v t g B' H' σ' τ' F' q n o nd df, fun _ _ _ _ _ q _ => q.elim, fun _ _ _ _ _ q _ => q.elim⟩ (fun x cls dx B' H' σ' τ' F' q n xr => ?_)
    · exact ret .non (.fr .non) [] B' H' σ' τ' F' q n (.fr .non) (by rw [List.append_nil]; exact n.rel.nd) (fun _ z => (nomatch z))
    · obtain ⟨F2, r2, s2, sh⟩ := exit_rel r n.rel n.stp.b (lent n.len) al
      exact hE x cls dx B' H' _ F2 q r2 (n.s.less fun a z => s2.subset z) xr sh
/-! ### calls -/
/-- a def that stands behind a global name -/
structure Df (P : Program) (w : World) (K : Kc) (mg : Str → Option Value) (base : Heap) (k : Nat) (x : Str) (ds : DSp) : Prop where
  ex : ∃ k' f fd ps, k' ≤ k ∧ FnOk P w K.K mg base (L2.CX P w) k' f fd ps (SpD K ds) ∧ mg x = some (.ref f) ∧ PySem.W.keepIn K.K (.ref f) = true ∧ L2.Binds K.K fd ps []
def dCall (ds : DSp) (ta : DA) : DT := fun τ Q R => ta τ (fun as τ1 => ds (as.map .fr) (fun t _ => Q t τ1) fun x _ => R x τ1) R
section
variable {Γ : Gm} {x : Str} {ds : DSp} {e : Expr} {es : List Expr} {ta : DA} {p pos : Pos}
theorem sl_data {K : Kc} {B H : Hp} : ∀ {vs : List V} {as : List D}, DnL K B vs as → Sl K B H (vs.map some) ((as.map T.fr).map some) []
  | _, _, .nil => .nil
  | _, _, .cons h r => .cons (f := []) (F := []) (.fr h) (sl_data r)
theorem data_lent (as : List D) : AllLent (as.map T.fr) := fun t h => by
  obtain ⟨d, _, e⟩ := List.mem_map.mp h
  exact .inl ⟨d, e.symm⟩
/-- behind a call that is given data alone -/
theorem Rel.call {K : Kc} {B H B' H' : Hp} {σ σc : L2.St} {τ τc : Env} {F Fc f : List Addr} (r : Rel K B H σ τ F) (rc : Rel K B' H' σc τc Fc) (st : Stp B H [] B' H' (Fc ++ f)) (nd : (Fc ++ f).Nodup) : Nx K B H σ τ F B' H' σ τ F f ∧ (F ++ f).Nodup := by
  obtain ⟨k1, k2, k3⟩ := st.frame (G := F) r.sl.there (fun _ _ z => nomatch z) r.df
  refine ⟨⟨⟨rc.ex, r.sl.mono st.b k1, r.nd, k3⟩, ⟨st.b, fun a o h _ => st.h a o h (by simp), fun a z => ?_, fun a o h => (st.n a o h).imp_right fun z => z.elim (fun y => nomatch y) .inr⟩, Lent.refl _ _⟩, ?_⟩
  · rcases List.mem_append.mp z with z | z
    · exact .inl z
    · exact (st.f a (List.mem_append_right _ z)).elim (fun y => nomatch y) .inr
  · rw [List.nodup_append] at nd ⊢
    exact ⟨r.nd, nd.2.1, fun a ha b hb e => k2 a ha (by rw [e]; exact List.mem_append_right _ hb)⟩
theorem ST.call (hf : Df Γ.P Γ.w Γ.K Γ.mg Γ.base Γ.k x ds) (ha : SA Γ (e :: es) ta) (hca : Γ.calm = true := by rfl) (hg : GlS Γ.sc x := by rfl) (he : ∀ env : PySem.Env, starEach (e :: es) env = (false, eval e env) :: starEach es env := by intros; rfl) (hpl : ∀ env : PySem.Env, (backTo pos (starEach es env)).any (·.1) = false := by intros; rfl) (hdb : (x == ("__debug__" : Str)) = false := by decide) : ST Γ (.Call (.Name x p) (e :: es) [] pos) (dCall ds ta) := by
  intro B H σ τ F Q R hr ht QV hq hR
  obtain ⟨k, f, fd, ps, hk, hF, hm, hkp, hb⟩ := hf.ex
  refine ⟨tCallS (SpD Γ.K ds) (fun σ cls d H => Γ.W cls d σ H) (Wa Γ (e :: es)), fun X hX => ?_, ?_⟩
  · have hF' : FnOk X.prog X.w X.K X.mg X.base (L2.CX X.prog X.w) k f fd ps (SpD Γ.K ds) := by
      rw [hX.P, hX.w, hX.K, hX.mg, hX.base]
      exact hF
    exact pe_callS hF' ((hX.room hca).mono hk) (hX.gl hg) (by rw [hX.mg]; exact hm) (by rw [hX.K]; exact hkp) (by rw [hX.K]; exact hb) (fun σ => passAt hX.tk σ) (Wa.pa hX) hdb (he _) (hpl _)
  · refine ha hr ht _ (fun xs as B1 H1 τ1 F1 q1 n1 d1 => ?_) hR
    refine ⟨B1, as.map .fr, [], fun t _ => Q t τ1, fun x _ => R x τ1, ⟨n1.rel.ex, sl_data d1, List.nodup_nil, fun _ z => (nomatch z)⟩, data_lent as, q1, fun v t f B' H' ts' F' qd rc st o nd df _ => ?_, fun x cls dx B' H' ts' F' qd rc st xr _ => ?_⟩
    · obtain ⟨n2, nd2⟩ := n1.rel.call rc st nd
      exact hq v t f B' H' τ1 F1 qd (n1.trans n2) o nd2 df
    · obtain ⟨n2, _⟩ := n1.rel.call (f := []) rc (by rw [List.append_nil]; exact st) (by rw [List.append_nil]; exact rc.nd)
      exact hR x cls dx B' H' σ τ1 F1 qd (n1.trans n2) xr
/-- lent, given back -/
def T.lend : T → T
  | .ow _ ds => .ow true ds
  | .oi _ c fs => .oi true c fs
  | t => t
def T.back (l : T) : T → T
  | .ow _ ds => (match l with
    | .ow b _ => .ow b ds
    | _ => .ow true ds)
  | .oi _ c fs => (match l with
    | .oi b _ _ => .oi b c fs
    | _ => .oi true c fs)
  | t => t
theorem Ow.lend {K : Kc} {B H : Hp} {v : V} {t : T} {f : List Addr} (h : Ow K B H v t f) : Ow K B H v t.lend f := by
  cases h with
  | fr h => exact .fr h
  | ow a b => exact .ow a b
  | o2 a b => exact .o2 a b
  | oi a b => exact .oi a b
theorem Ow.back {K : Kc} {B H : Hp} {v : V} {t l : T} {f : List Addr} (h : Ow K B H v t f) : Ow K B H v (T.back l t) f := by
  cases h with
  | fr h => exact .fr h
  | ow a b => cases l <;> exact .ow a b
  | o2 a b => exact .o2 a b
  | oi a b => cases l <;> exact .oi a b
theorem kind_back {t u : T} {k k' : Option Nat} (h : t.kind = some k) (hl : t.lend.kind = some k') (h' : u.kind = some k') : (T.back t u).kind = some k := by
  cases t with
  | fr d => cases h
  | o2 d => cases h
  | ow b ds =>
    cases b with
    | false => cases h
    | true =>
      cases h
      cases hl
      cases u with
      | fr d => cases h'
      | o2 d => cases h'
      | ow b' ds' => rfl
      | oi b' c fs =>
        cases b' with
        | false => cases h'
        | true => cases h'
  | oi b c fs =>
    cases b with
    | false => cases h
    | true =>
      cases h
      cases hl
      cases u with
      | fr d => cases h'
      | o2 d => cases h'
      | ow b' ds' =>
        cases b' with
        | false => cases h'
        | true => cases h'
      | oi b' c' fs' =>
        cases b' with
        | false => cases h'
        | true =>
          cases h'
          rfl
/-- behind a call that what slot i owns was lent to -/
theorem Rel.callL {K : Kc} {B H B' H' : Hp} {σ σc : L2.St} {τ : Env} {F Fc f f0 : List Addr} {i : Nat} {t t' : T} {v : V} {k : Option Nat} {ts : List T} (r : Rel K B H σ τ F) (h : τ[i]? = some (some t)) (hp : σ[i]? = some (some v)) (o0 : Ow K B H v t f0) (hk : t.lend.kind = some k) (hk' : t'.kind = some k)
    (rc : Rel K B' H' (some v :: σc) ((t' :: ts).map some) Fc) (st : Stp B H f0 B' H' (Fc ++ f)) (nd : (Fc ++ f).Nodup) (uni : ∀ f1, Ow K B H v t f1 → f1 = f0) : ∃ F', Nx K B H σ τ F B' H' σ (τ.set i (some (T.back t t'))) F' f ∧ (F' ++ f).Nodup := by
  obtain ⟨v', G1, f1, G2, h1, h2, h3, h4⟩ := r.sl.focus h
  rw [hp] at h1
  cases h1
  have e1 := uni f1 h2
  subst e1
  subst h3
  have nd0 := r.nd
  have inF : ∀ a ∈ G1 ++ G2, a ∈ G1 ++ (f1 ++ G2) := fun a z => by
    simp only [List.mem_append] at z ⊢
    rcases z with z | z
    · exact .inl z
    · exact .inr (.inr z)
  have apart : ∀ a ∈ G1 ++ G2, a ∉ f1 := fun a z y => by
    simp only [List.nodup_append, List.mem_append] at nd0 z
    rcases z with z | z
    · exact nd0.2.2 a z a (.inl y) rfl
    · exact nd0.2.1.2.2 a y a z rfl
  obtain ⟨k1, k2, k3⟩ := st.frame (G := G1 ++ G2) (fun a z => r.sl.there a (inF a z)) apart (fun a z => r.df a (inF a z))
  obtain ⟨fc, Fr, hFc, oc⟩ : ∃ fc Fr, Fc = fc ++ Fr ∧ Ow K B' H' v t' fc := by
    have sl := rc.sl
    rw [List.map_cons] at sl
    cases sl with
    | cons o _ => exact ⟨_, _, rfl, o⟩
  have inC : ∀ a ∈ fc, a ∈ Fc := fun a z => by rw [hFc]; exact List.mem_append_left _ z
  have sl' := h4 B' H' (some v) (some (T.back t t')) fc st.b k1 (.inr ⟨_, _, rfl, rfl, oc.back⟩)
  rw [set_same hp] at sl'
  have ndc : fc.Nodup := by
    have := rc.nd
    rw [hFc, List.nodup_append] at this
    exact this.1
  have nd1 : (G1 ++ (fc ++ G2)).Nodup := by
    simp only [List.nodup_append, List.mem_append] at nd0 ⊢
    refine ⟨nd0.1, ⟨ndc, nd0.2.1.2.1, fun a ha b hb e => k2 b (List.mem_append_right _ hb) (List.mem_append_left _ (inC b (e ▸ ha)))⟩, fun a ha b hb e => ?_⟩
    rcases hb with hb | hb
    · exact k2 a (List.mem_append_left _ ha) (List.mem_append_left _ (inC a (e ▸ hb)))
    · exact nd0.2.2 a ha b (.inr hb) e
  refine ⟨G1 ++ (fc ++ G2), ⟨⟨rc.ex, sl', nd1, fun a z => ?_⟩, ⟨st.b, fun a o ha z => st.h a o ha fun y => z (by simp [y]), fun a z => ?_, fun a o ha => (st.n a o ha).imp_right (Or.imp_left fun y => by simp [y])⟩, ?_⟩, ?_⟩
  · simp only [List.mem_append] at z
    rcases z with z | z | z
    · exact k3 a (List.mem_append_left _ z)
    · exact rc.df a (inC a z)
    · exact k3 a (List.mem_append_right _ z)
  · have own : a ∈ Fc ++ f → a ∈ G1 ++ (f1 ++ G2) ∨ H a = none := fun y => (st.f a y).imp_left fun y => by simp [y]
    simp only [List.mem_append] at z
    rcases z with (z | z | z) | z
    · exact .inl (by simp [z])
    · exact own (List.mem_append_left _ (inC a z))
    · exact .inl (by simp [z])
    · exact own (List.mem_append_right _ z)
  · have l := Lent.set (σ := σ) (o := some v) (t := some (T.back t t')) h fun u k2 e1 e2 => by
      cases e1
      exact ⟨hp, _, rfl, kind_back e2 hk hk'⟩
    rw [set_same hp] at l
    exact l
  · rw [List.nodup_append] at nd ⊢
    refine ⟨nd1, nd.2.1, fun a ha b hb e => ?_⟩
    subst e
    simp only [List.mem_append] at ha
    rcases ha with ha | ha | ha
    · exact k2 a (List.mem_append_left _ ha) (List.mem_append_right _ hb)
    · exact nd.2.2 a (inC a ha) a hb rfl
    · exact k2 a (List.mem_append_right _ ha) (List.mem_append_right _ hb)
theorem shape_head {t : T} {k : Option Nat} {as : List T} {ts' : List T} (h : Shape (t :: as) ts') (hk : t.kind = some k) : ∃ t' r, ts' = t' :: r ∧ t'.kind = some k := by
  obtain ⟨t', e, e2⟩ := h.ow 0 t k rfl hk
  cases ts' with
  | nil => cases e
  | cons u r =>
    have : u = t' := by simpa using e
    subst this
    exact ⟨u, r, rfl, e2⟩
/-- footprints are told by the heap -/
theorem LL.uni {K : Kc} {B H : Hp} {rs rs' : List Addr} (h : rs.map V.ref = rs'.map V.ref) : rs = rs' := by
  have := congrArg (List.map fun v => match v with
    | V.ref a => a
    | _ => 0) h
  simpa [Function.comp_def] using this
theorem OwO.uni {K : Kc} {B H : Hp} {v : V} {o : O} {f g : List Addr} (a : OwO K B H v o f) (b : OwO K B H v o g) : f = g := by
  cases a with
  | fr _ => cases b; rfl
  | ol _ _ => cases b; rfl
  | o2 h _ =>
    cases b with
    | o2 h' _ =>
      rw [h] at h'
      injection h' with h'
      injection h' with h'
      rw [LL.uni (K := K) (B := B) (H := H) h']
theorem OwF.uni {K : Kc} {B H : Hp} {vs : List (Str × V)} {os : List (Str × O)} {f : List Addr} (a : OwF K B H vs os f) : ∀ {g : List Addr}, OwF K B H vs os g → f = g := by
  induction a with
  | nil => intro g b; cases b; rfl
  | cons o _ ih =>
    intro g b
    cases b with
    | cons o' r' => rw [o.uni o', ih r']
theorem Ow.uni {K : Kc} {B H : Hp} {v : V} {t : T} {f g : List Addr} (a : Ow K B H v t f) (b : Ow K B H v t g) : f = g := by
  cases a with
  | fr _ => cases b; rfl
  | ow _ _ => cases b; rfl
  | o2 h _ =>
    cases b with
    | o2 h' _ =>
      rw [h] at h'
      injection h' with h'
      injection h' with h'
      rw [LL.uni (K := K) (B := B) (H := H) h']
  | oi h r =>
    cases b with
    | oi h' r' =>
      rw [h] at h'
      injection h' with h'
      injection h' with h1 h2 h3
      subst h3
      rw [r.uni r']
/-- a slot that may be lent, and what of it -/
def withT (τ : Env) (i : Nat) (k : T → Prop) : Prop := match τ[i]? with
  | some (some t) => t.lend.kind.isSome = true ∧ k t
  | _ => False
theorem withT.get {τ : Env} {i : Nat} {k : T → Prop} (h : withT τ i k) : ∃ t q, τ[i]? = some (some t) ∧ t.lend.kind = some q ∧ k t := by
  unfold withT at h
  split at h
  · rename_i t e
    obtain ⟨q, hq⟩ := Option.isSome_iff_exists.mp h.1
    exact ⟨t, q, e, hq, h.2⟩
  · exact h.elim
/-- what comes behind, by what came back -/
def lentQ (τ : Env) (i : Nat) (t : T) (Q : Env → Prop) : List T → Prop
  | t' :: _ => Q (τ.set i (some (T.back t t')))
  | [] => False
/-- f(x, ..), what slot i owns lent -/
def dCallL (i : Nat) (ds : DSp) (ta : DA) : DT := fun τ Q R => withT τ i (fun _ => True) ∧ ta τ (fun as τ1 => withT τ1 i fun t => ds (t.lend :: as.map .fr) (fun r ts' => lentQ τ1 i t (Q r) ts') fun x ts' => lentQ τ1 i t (R x) ts') R
/-- the callee's promise, met by a slot and data -/
theorem spd_lend {K : Kc} {B1 H1 : Hp} {σ : L2.St} {τ1 : Env} {F1 : List Addr} {i : Nat} {t : T} {k : Option Nat} {v : V} {as : List D} {xs : List V} {ds : DSp} {Q : T → Env → Prop} {R : RX} {QV : VK} {W : WX} {B H : Hp} {τ : Env} {F : List Addr}
    (n1 : Nx K B H σ τ F B1 H1 σ τ1 F1 []) (h2 : τ1[i]? = some (some t)) (hk : t.lend.kind = some k) (hv : σ[i]? = some (some v)) (d1 : DnL K B1 xs as) (q2 : ds (t.lend :: as.map .fr) (fun r ts' => lentQ τ1 i t (Q r) ts') fun x ts' => lentQ τ1 i t (R x) ts')
    (hq : OkT K B H σ τ F Q QV) (hR : OkR K B H σ τ F R W) : SpD K ds (v :: xs) H1 QV (fun cls d H => W cls d σ H) := by
  obtain ⟨v', G1, f0, G2, g1, g2, g3, _⟩ := n1.rel.sl.focus h2
  rw [hv] at g1
  cases g1
  have sub : ∀ a ∈ f0, a ∈ F1 := fun a z => by rw [g3]; simp [z]
  have nd0 : f0.Nodup := by
    have := n1.rel.nd
    rw [g3, List.nodup_append, List.nodup_append] at this
    exact this.2.1.1
  refine ⟨B1, t.lend :: as.map .fr, f0, _, _, ⟨n1.rel.ex, ?_, nd0, fun a z => n1.rel.df a (sub a z)⟩, ?_, q2, fun v2 r f B' H' ts' F' qd rc st o nd df sh => ?_, fun x cls dx B' H' ts' F' qd rc st xr sh => ?_⟩
  · have := Sl.cons g2.lend (sl_data (H := H1) d1)
    rw [List.append_nil] at this
    exact this
  · intro u z
    rcases List.mem_cons.mp z with z | z
    · subst z
      exact .inr ⟨k, hk⟩
    · exact data_lent as u z
  · obtain ⟨t', r', rfl, hk'⟩ := shape_head sh hk
    obtain ⟨F2, n2, nd2⟩ := n1.rel.callL h2 hv g2 hk hk' rc st nd fun f1 o1 => o1.uni g2
    exact hq v2 r f B' H' _ F2 qd (n1.trans n2) o nd2 df
  · obtain ⟨t', r', rfl, hk'⟩ := shape_head sh hk
    obtain ⟨F2, n2, _⟩ := n1.rel.callL (f := []) h2 hv g2 hk hk' rc (by rw [List.append_nil]; exact st) (by rw [List.append_nil]; exact rc.nd) fun f1 o1 => o1.uni g2
    exact hR x cls dx B' H' σ _ F2 qd (n1.trans n2) xr
theorem ST.callL {i : Nat} {y : Str} {py : Pos} (hf : Df Γ.P Γ.w Γ.K Γ.mg Γ.base Γ.k x ds) (ha : SA Γ es ta) (hca : Γ.calm = true := by rfl) (hg : GlS Γ.sc x := by rfl) (hN : Γ.N[i]? = some y := by rfl) (hv : Vis Γ.sc y := by first | exact Or.inl rfl | exact Or.inr (Or.inl rfl) | exact Or.inr (Or.inr rfl))
    (he : ∀ env : PySem.Env, starEach (.Name y py :: es) env = (false, eval (.Name y py) env) :: starEach es env := by intros; rfl) (hpl : ∀ env : PySem.Env, (backTo pos (starEach es env)).any (·.1) = false := by intros; rfl)
    (hdb : (x == ("__debug__" : Str)) = false := by decide) (hd : (y == ("__debug__" : Str)) = false := by decide) (hcd : (y == ("__classdict__" : Str)) = false := by decide) : ST Γ (.Call (.Name x p) (.Name y py :: es) [] pos) (dCallL i ds ta) := by
  intro B H σ τ F Q R hr ht QV hq hR
  obtain ⟨k, f, fd, ps, hk, hF, hm, hkp, hb⟩ := hf.ex
  refine ⟨tCallS (SpD Γ.K ds) (fun σ cls d H => Γ.W cls d σ H) (tCons (tVar i) (Wa Γ es)), fun X hX => ?_, ?_⟩
  · have hF' : FnOk X.prog X.w X.K X.mg X.base (L2.CX X.prog X.w) k f fd ps (SpD Γ.K ds) := by
      rw [hX.P, hX.w, hX.K, hX.mg, hX.base]
      exact hF
    exact pe_callS hF' ((hX.room hca).mono hk) (hX.gl hg) (by rw [hX.mg]; exact hm) (by rw [hX.K]; exact hkp) (by rw [hX.K]; exact hb) (fun σ => passAt hX.tk σ) (pa_cons (pe_var (by rw [hX.N]; exact hN) (by rw [hX.sc]; exact hv) hd hcd) (Wa.pa hX) (he _)) hdb (he _) (hpl _)
  · obtain ⟨t0, q0, h0, _, _⟩ := ht.1.get
    obtain ⟨v0, _, _, _, h1, _, _, _⟩ := hr.sl.focus h0
    refine ⟨_, h1, ?_⟩
    refine ha hr ht.2 _ (fun xs as B1 H1 τ1 F1 q1 n1 d1 => ?_) hR
    obtain ⟨t, q, h2, hk2, q2⟩ := q1.get
    exact spd_lend n1 h2 hk2 h1 d1 q2 hq hR
end
end EC
/-! EC9: isinstance, zip, stores by place. -/
namespace EC
open PySem PySem.Spec PyProof.Rows L2 RZ
/-! ### isinstance -/
def tyD : D → Option String
  | .non => some "NoneType"
  | .bl _ => some "bool"
  | .int _ => some "int"
  | .str _ => some "str"
  | .tup _ => some "tuple"
  | .lst _ => some "list"
  | .dic _ => some "dict"
  | _ => none
def isOne (s n : String) : Bool := s == n || (s == "bool" && n == "int")
def tyKnown : List String := ["NoneType", "bool", "int", "str", "tuple", "list", "dict"]
def nmKnown : List String := ["bool", "int", "str", "tuple", "list", "dict"]
theorem kit_known : ∀ s ∈ tyKnown, ∀ n ∈ nmKnown, kitB s n = some (isOne s n) := by decide +kernel
theorem dn_ty {K : Kc} {B H : Hp} {x : V} {d : D} (e : Ex B H) (h : Dn K B x d) {s : String} (hs : tyD d = some s) : TyX K.K H x (.type s) ∧ s ∈ tyKnown := by
  cases h <;> cases hs
  · exact ⟨.base .non, by decide⟩
  · exact ⟨.base (.bl _), by decide⟩
  · exact ⟨.base (.int _), by decide⟩
  · exact ⟨.base (.str _), by decide⟩
  · rename_i h1 _
    exact ⟨.base (.lst (e _ _ h1)), by decide⟩
  · rename_i h1 _
    exact ⟨.base (.tup (e _ _ h1)), by decide⟩
  · rename_i h1 _
    exact ⟨.base (.dK (e _ _ h1)), by decide⟩
def dIsi (ns : List String) (te : DE) : DE := fun τ Q R => te τ (fun d τ1 => match tyD d with
  | some s => Q (.bl (ns.any (isOne s))) τ1
  | none => False) R
/-- a built-in type's name in a context -/
structure TyN (Γ : Gm) (x : Str) (n : String) : Prop where
  g : GlS Γ.sc x
  m : Γ.mg x = none
  v : bootBuiltins x = some (.type n)
  k : n ∈ nmKnown
  n1 : x ≠ "__name__"
  n2 : (x == ("__debug__" : Str)) = false
section
variable {Γ : Gm} {e : Expr} {te : DE} {p p1 p2 pt pos : Pos} {x1 x2 : Str} {n1 n2 : String} {kt : Nat}
theorem TyN.pe {X : Cx} (h : TyN Γ x1 n1) (hX : In Γ X) : PE X (.Name x1 p1) (tC (.ty n1)) := pe_bltn (hX.gl h.g) (by rw [hX.mg]; exact h.m) h.v rfl h.n1 h.n2
theorem bootIsi : bootBuiltins "isinstance" = some (.builtin "isinstance") := by decide +kernel
theorem SE.isi (he : SE Γ e te) (ht1 : TyN Γ x1 n1) (hm : Γ.mg "isinstance" = none) (hg : GlS Γ.sc "isinstance" := by rfl) (hs : ∀ env : PySem.Env, starEach [e, .Name x1 p1] env = (false, eval e env) :: starEach [.Name x1 p1] env := by intros; rfl) :
    SE Γ (.Call (.Name "isinstance" p) [e, .Name x1 p1] [] pos) (dIsi [n1] te) := by
  intro B H σ τ F Q R hr ht QV hq hR
  refine ⟨tCB (rIsi Γ.K.K) (tCons (We Γ e) (tCons (tC (.ty n1)) tNil)), fun X hX => by rw [← hX.K]; exact pe_callB call_isi (hX.gl hg) (by rw [hX.mg]; exact hm) bootIsi (pa_cons (We.pe hX) (pa_cons (ht1.pe hX) pa_nil) (hs _)) (by decide) (by decide) (hs _) rfl, ?_⟩
  refine he hr ht _ (fun x d B1 H1 τ1 F1 q n d1 => ?_) hR
  dsimp only at q
  split at q
  · rename_i s hs'
    obtain ⟨h1, h2⟩ := dn_ty n.rel.ex d1 hs'
    have h3 := kit_known s h2 n1 ht1.k
    refine ⟨x, .ty n1, .type s, .type n1, isOne s n1, rfl, .ty n1, h1, kit_ty h3, ?_⟩
    have e1 : [n1].any (isOne s) = isOne s n1 := by simp
    rw [e1] at q
    exact hq _ _ B1 H1 τ1 F1 q n (.bl _)
  · exact q.elim
theorem SE.isi2 (he : SE Γ e te) (ht1 : TyN Γ x1 n1) (ht2 : TyN Γ x2 n2) (hm : Γ.mg "isinstance" = none) (hg : GlS Γ.sc "isinstance" := by rfl) (hs : ∀ env : PySem.Env, starEach [e, .Tuple [.Name x1 p1, .Name x2 p2] kt pt] env = (false, eval e env) :: starEach [.Tuple [.Name x1 p1, .Name x2 p2] kt pt] env := by intros; rfl) :
    SE Γ (.Call (.Name "isinstance" p) [e, .Tuple [.Name x1 p1, .Name x2 p2] kt pt] [] pos) (dIsi [n1, n2] te) := by
  intro B H σ τ F Q R hr ht QV hq hR
  refine ⟨tCB (rIsiT Γ.K.K) (tCons (We Γ e) (tCons (tTup (tCons (tC (.ty n1)) (tCons (tC (.ty n2)) tNil))) tNil)), fun X hX => by
    rw [← hX.K]
    exact pe_callB call_isiT (hX.gl hg) (by rw [hX.mg]; exact hm) bootIsi (pa_cons (We.pe hX) (pa_cons (pe_tup (pa_cons (ht1.pe hX) (pa_cons (ht2.pe hX) pa_nil))) pa_nil) (hs _)) (by decide) (by decide) (hs _) rfl, ?_⟩
  refine he hr ht _ (fun x d B1 H1 τ1 F1 q n d1 => ?_) hR
  dsimp only at q
  split at q
  · rename_i s hs'
    refine ⟨by show 2 ≤ sizeLine; decide, fun tp htp => ?_⟩
    have g := Gr.new (o := .tup [.ty n1, .ty n2]) n.rel.ex htp
    have nn := n.trans (n.rel.grow g)
    obtain ⟨h1, h2⟩ := dn_ty nn.rel.ex (d1.mono g.stp.b) hs'
    have k1 := kit_known s h2 n1 ht1.k
    have k2 := kit_known s h2 n2 ht2.k
    have e1 : [n1, n2].any (isOne s) = (isOne s n1 || isOne s n2) := by simp
    rw [e1] at q
    refine ⟨x, tp, [.ty n1, .ty n2], .type s, [.type n1, .type n2], _, rfl, upd_same, .cons (.ty n1) (.cons (.ty n2) .nil), h1, ?_, hq _ _ _ _ τ1 F1 q nn (.bl _)⟩
    refine kitAny_cons (kit_ty k1) (fun z => ?_) (fun z => ?_)
    · refine kitAny_cons (kit_ty k2) (fun z2 => ?_) (fun z2 => ?_)
      · rw [z, z2]
        exact kitAny_nil
      · rw [z, z2] <;> rfl
    · rw [z] <;> rfl
  · exact q.elim
end
/-! ### zip -/
section
variable {K : Fg} {a b : Addr} {xs ys : List V}
theorem walk_zipT {n : Nat} (len : n = min xs.length ys.length) : Walk (ItzT K a b) n (fun H => SqT K H a xs ∧ SqT K H b ys) (YPair (fun j => xs[j]?) (fun j => ys[j]?)) := by
  have both : ∀ {j : Nat}, j < n → j < xs.length ∧ j < ys.length := fun {j} k => by rw [len] at k; exact Nat.lt_min.mp k
  constructor
  · intro j H k q
    exact ⟨xs, ys, xs[j]'(both k).1, ys[j]'(both k).2, q.1, q.2, List.getElem?_eq_getElem _, List.getElem?_eq_getElem _⟩
  · intro H q
    refine ⟨xs, ys, q.1, q.2, ?_⟩
    rw [len]
    rcases Nat.le_total xs.length ys.length with z | z
    · exact .inl (Nat.le_min.mpr ⟨Nat.le_refl _, z⟩)
    · exact .inr (Nat.le_min.mpr ⟨z, Nat.le_refl _⟩)
  · intro j H u H' _ q y
    obtain ⟨c, p, r, k1, k2, k3, k4, k5⟩ := y
    exact ⟨c, p, r, k1, k2, k3, k4 xs q.1, k5 ys q.2⟩
end
def zipD (ds es : List D) : List D := (ds.zip es).map fun p => .tup [p.1, p.2]
/-- pairs that are made at each turn -/
theorem pair_ok {K : Kc} {B : Hp} {J : It} {xs ys : List V} {ds es : List D} {G : Hp → Prop} {n : Nat} {f g : Nat → Option V} (w : Walk J n G (YPair f g)) (hG : ∀ H', Ex B H' → G H')
    (ps : List D) (hn : ps.length = n) (hp : ∀ (i : Nat) d, ps[i]? = some d → ∃ d1 d2, d = .tup [d1, d2] ∧ (∀ v, f i = some v → Dn K B v d1) ∧ ∀ v, g i = some v → Dn K B v d2) : ItOk K B J ps := by
  refine ⟨fun B' H' e1 e2 i d hd => ?_, fun B' H' e1 e2 => ?_⟩
  · have hi : i < n := by rw [← hn]; exact (List.getElem?_eq_some_iff.mp hd).1
    have hg := hG H' (e1.trans e2)
    refine ⟨w.goes i H' hi hg, fun x H'' y => ?_⟩
    obtain ⟨T, v1, v2, rfl, hT, rfl, h1, h2⟩ := w.yields i H' x H'' hi hg y
    obtain ⟨d1, d2, rfl, q1, q2⟩ := hp i d hd
    have eb := Ex.new (o := .tup [v1, v2]) (e2.back hT)
    exact ⟨upd B' T (.tup [v1, v2]), .new e2 hT, .tup upd_same (.cons ((q1 v1 h1).mono (e1.trans eb)) (.cons ((q2 v2 h2).mono (e1.trans eb)) .nil))⟩
  · rw [hn]
    exact w.stops H' (hG H' (e1.trans e2))
def dZip (ta tb : DE) : DA := fun τ Q R => ta τ (fun d τ1 => tb τ1 (fun e τ2 => match d, e with
  | .lst ds, .lst es => Q (zipD ds es) τ2
  | .tup ds, .tup es => Q (zipD ds es) τ2
  | _, _ => False) R) R
theorem zip_get {K : Kc} {B : Hp} {xs ys : List V} {ds es : List D} (r1 : DnL K B xs ds) (r2 : DnL K B ys es) (i : Nat) (d : D) (h : (zipD ds es)[i]? = some d) :
    ∃ d1 d2, d = .tup [d1, d2] ∧ (∀ v, xs[i]? = some v → Dn K B v d1) ∧ ∀ v, ys[i]? = some v → Dn K B v d2 := by
  unfold zipD at h
  rw [List.getElem?_map] at h
  obtain ⟨p, hp, rfl⟩ := Option.map_eq_some_iff.mp h
  obtain ⟨d1, d2⟩ := p
  obtain ⟨z1, z2⟩ := List.getElem?_zip_eq_some.mp hp
  refine ⟨d1, d2, rfl, fun v hv => ?_, fun v hv => ?_⟩
  · obtain ⟨v', e1, e2⟩ := r1.get z1
    rw [hv] at e1
    cases e1
    exact e2
  · obtain ⟨v', e1, e2⟩ := r2.get z2
    rw [hv] at e1
    cases e1
    exact e2
section
variable {Γ : Gm} {e e2 : Expr} {ta tb : DE} {p pos tpos : Pos} {elts : List Expr} {kk : Nat}
theorem SI.zip (h : SE Γ e ta) (h2 : SE Γ e2 tb) (hm : Γ.mg "zip" = none) (hg : GlS Γ.sc "zip" := by rfl) (hs : ∀ env : PySem.Env, starEach [e, e2] env = (false, eval e env) :: starEach [e2] env := by intros; rfl) (hs2 : ∀ env : PySem.Env, starEach [e2] env = (false, eval e2 env) :: starEach [] env := by intros; rfl) (hpl : ∀ env : PySem.Env, (backTo pos (starEach [e2] env)).any (·.1) = false := by intros; rfl) : SI Γ (.Tuple elts kk tpos) (.Call (.Name "zip" p) [e, e2] [] pos) (dZip ta tb) := by
  intro B H σ τ F Q R hr ht QV hq hR
  refine ⟨iZipA Γ.K.K (tCons (We Γ e) (tCons (We Γ e2) tNil)), fun X hX => by rw [← hX.K]; exact pi_zipA (hX.gl hg) (by rw [hX.mg]; exact hm) (pa_cons (We.pe hX) (pa_cons (We.pe hX) pa_nil (hs2 _)) (hs _)) (hs _) (hpl _), ?_⟩
  refine h hr ht _ (fun x d B1 H1 τ1 F1 q n d1 => ?_) hR
  refine h2 n.rel q _ (fun y d' B2 H2 τ2 F2 q2 n2 d2 => ?_) (hR.after n)
  have d1' := d1.mono n2.s.b
  have hl : ∀ {ds es : List D}, (zipD ds es).length = min ds.length es.length := fun {ds es} => by
    unfold zipD
    rw [List.length_map, List.length_zip]
  cases d1' <;> (try exact False.elim q2) <;> cases d2 <;> (try exact False.elim q2)
  · rename_i a xs ds g1 r1 b ys es g2 r2
    exact ⟨a, b, xs, ys, rfl, .inl ⟨.of (n2.rel.ex _ _ g1), .of (n2.rel.ex _ _ g2), hq _ _ _ _ _ _ q2 (n.trans n2) (pair_ok (xs := xs) (ys := ys) (ds := ds) (es := es) (walk_zip rfl) (fun H' e => ⟨.of (e _ _ g1), .of (e _ _ g2)⟩) _ (by rw [hl, r1.length, r2.length]) (zip_get r1 r2))⟩⟩
  · rename_i a xs ds g1 r1 b ys es g2 r2
    exact ⟨a, b, xs, ys, rfl, .inr ⟨.of (n2.rel.ex _ _ g1), .of (n2.rel.ex _ _ g2), hq _ _ _ _ _ _ q2 (n.trans n2) (pair_ok (xs := xs) (ys := ys) (ds := ds) (es := es) (walk_zipT rfl) (fun H' e => ⟨.of (e _ _ g1), .of (e _ _ g2)⟩) _ (by rw [hl, r1.length, r2.length]) (zip_get r1 r2))⟩⟩
end
/-! ### x[i] = e -/
def dSetIx (i : Nat) (te tj : DE) : DS := fun E τ => te τ (fun d τ1 => isOw τ1 i ∧ tj τ1 (fun j τ2 => match j with
  | .int k => withOw τ2 i fun l ds => 0 ≤ k ∧ k.toNat < ds.length ∧ E.nx (τ2.set i (some (.ow l (ds.set k.toNat d))))
  | _ => False) E.ex) E.ex
section
variable {Γ : Gm} {e j : Expr} {te tj : DE} {i : Nat} {x : Str} {p' pos' pos : Pos}
theorem SS.setIx (he : SE Γ e te) (hj : SE Γ j tj) (hN : Γ.N[i]? = some x := by rfl) (hv : Vis Γ.sc x := by first | exact Or.inl rfl | exact Or.inr (Or.inl rfl) | exact Or.inr (Or.inr rfl)) (hs : ∀ env : PySem.Env, swapsWithSole [.Subscript (.Name x p') j pos'] e pos.line env = pure false := by intros; rfl) (hw : ∀ env : PySem.Env, swappedStores [.Subscript (.Name x p') j pos'] e env = pure none := by intros; rfl) (h1 : ∀ env : PySem.Env, (assignEach [.Subscript (.Name x p') j pos'] env).map (·.2) = [assign (.Subscript (.Name x p') j pos') env] := by intros; rfl) (ha : ∀ (env : PySem.Env) v, assign (.Subscript (.Name x p') j pos') env v = (do
      let ov ← holding [v] (eval (.Name x p') env)
      let iv ← holding [v, ov] (eval j env)
      standAt pos'; holding [v, ov, iv] (setItem ov iv v)
      release [v, ov, iv] []) := by intros; rfl) (hd : (x == ("__debug__" : Str)) = false := by decide) (hcd : (x == ("__classdict__" : Str)) = false := by decide) : SS Γ (.Assign [.Subscript (.Name x p') j pos'] e pos) (dSetIx i te tj) := by
  intro B H σ τ F E hr ht D hD hR
  refine ⟨tAsg (We Γ e) (gSub (tVar i) (We Γ j) rSetL), fun X hX => ps_asg (We.pe hX.toIn) (pg_sub (pe_var (by rw [hX.N]; exact hN) (by rw [hX.sc]; exact hv) hd hcd) (We.pe hX.toIn) set_list (ha _)) (hs _) (hw _) (h1 _), ?_⟩
  refine he hr ht _ (fun v d B1 H1 τ1 F1 q n d1 => ?_) hR
  obtain ⟨l0, ds0, h0⟩ := q.1.get
  obtain ⟨p, xs, h2, _, _, _⟩ := n.rel.write (es := []) h0
  refine ⟨_, h2, ?_⟩
  refine hj n.rel q.2 _ (fun w k B2 H2 τ2 F2 q2 n2 d2 => ?_) (hR.after n)
  cases d2 <;> (try exact False.elim q2)
  rename_i k
  obtain ⟨l, ds, h3, hz, hz2, q3⟩ := q2.get
  obtain ⟨p2, ys, h4, h5, h6, h7⟩ := n2.rel.write (es := ds.set k.toNat d) h3
  rw [h2] at h4
  cases h4
  refine ⟨p, ys, k, k.toNat, rfl, rfl, h5, ?_, ?_⟩
  · unfold ixN
    rw [if_pos hz, h6.length, if_pos (by omega)]
  · exact hD.nx _ _ _ _ _ q3 ((n.trans n2).trans (h7 _ (h6.set (d1.mono n2.s.b) k.toNat)))
end
end EC
/-! EC10: -a, xs[::-1], enumerate, x[i] op= e. -/
namespace EC
open PySem PySem.Spec PyProof.Rows L2 RZ
section
variable {Γ : Gm} {e a : Expr} {t ta : DE} {p pos : Pos}
def dNeg (ta : DE) : DE := fun τ Q R => ta τ (fun d τ1 => match d with
  | .int i => Q (.int (-i)) τ1
  | _ => False) R
theorem SE.neg (ha : SE Γ a ta) : SE Γ (.UnaryOp .USub a pos) (dNeg ta) := fun B H σ τ F Q R hr ht QV hq hR =>
  ⟨_, fun X hX => pe_un un_neg (We.pe hX), ha hr ht _ (fun v d B1 H1 τ1 F1 q n d1 => by
    cases d1 <;> (try exact False.elim q)
    exact ⟨_, rfl, hq _ _ _ _ _ _ q n (.int _)⟩) hR⟩
def dRev (ta : DE) : DT := fun τ Q R => ta τ (fun d τ1 => match d with
  | .lst ds => Q (.ow false ds.reverse) τ1
  | _ => False) R
theorem ST.rev {k : Nat} {p1 p2 p3 : Pos} (ha : SE Γ e ta) : ST Γ (.Subscript e (.Slice none none (some (.UnaryOp .USub (.Constant (.int 1) k p1) p2)) p3) pos) (dRev ta) := fun B H σ τ F Q R hr ht QV hq hR =>
  ⟨tRevL Γ.K.K (We Γ e), fun X hX => by rw [← hX.K]; exact pe_revL (We.pe hX), ha hr ht _ (fun v d B1 H1 τ1 F1 q n d1 => by
    cases d1 <;> (try exact False.elim q)
    rename_i a xs ds h1 r1
    refine ⟨a, xs, rfl, .of (n.rel.ex _ _ h1), fun p hp => ?_⟩
    obtain ⟨n2, o, nd, df⟩ := n.rel.own (l := false) hp r1.reverse
    exact hq _ _ _ _ _ _ _ q (n.trans n2) o nd df) hR⟩
end
/-! ### enumerate of a list or a tuple -/
/-- pairs of the number of a turn and the item of the tuple at A -/
def IteT (K : PySem.W.Frag) (A : Addr) : It where
  go i H := ∃ ys y, SqT K H A ys ∧ ys[i]? = some y
  yld i H u H' := ∃ c y, u = .ref c ∧ H c = none ∧ H' = upd H c (.tup [.int (i : Nat), y]) ∧ ∀ ys, SqT K H A ys → ys[i]? = some y
  stop i H := ∃ ys : List V, SqT K H A ys ∧ ys.length ≤ i
/-- what the walker's two cells are at turn i -/
def EnumSt (A E I : Addr) (i : Nat) (h : Heap) : Prop := E ≠ I ∧ h.IsTupleIter I A i ∧ ∃ last, IsEnum h E I ((i : Nat) : Int) last
theorem two_mem {a b c : Addr} (h : a ∈ [b, c]) : a = b ∨ a = c := by simpa using h
theorem EnumSt.lt {A E I : Addr} {i : Nat} {h : Heap} (z : EnumSt A E I i h) : ∀ b ∈ [E, I], b < h.objs.size := fun b m => by
  obtain ⟨_, ⟨ob, f1, _, _⟩, last, f2⟩ := z
  rcases two_mem m with y | y
  · subst y
    exact Heap.lt_size f2
  · subst y
    exact Heap.lt_size f1
theorem turn_enumT {P : Program} {w : World} {K : PySem.W.Frag} {es : List Expr} {n : Nat} {tp : Pos} (A E I : Addr) (ai : A ≠ I) (ea : E ≠ A) : Turn P w K (.Tuple es n tp) (IteT K A) [E, I] E (EnumSt A E I) where
  mem := List.mem_cons_self
  obj := fun i h z b m => by
    obtain ⟨_, ⟨ob, f1, _, f3⟩, last, f2⟩ := z
    rcases two_mem m with y | y
    · subst y
      exact ⟨_, f2, fun _ y => nomatch y⟩
    · subst y
      exact ⟨ob, f1, fun _ y => by rw [f3] at y; cases y⟩
  keep := fun i h h' z k => by
    obtain ⟨ne, f1, last, f2⟩ := z
    exact ⟨ne, f1.at fun ob y => k I (by simp) ob y, last, k E (by simp) _ f2⟩
  item := by
    intro X e1 e2 e3 calm i pins s σ H Ex' inv fresh st ready
    subst e1 e2 e3
    have lt := st.lt
    obtain ⟨ne, f1, last, f2⟩ := st
    obtain ⟨ys, y, sq, hy⟩ := ready
    obtain ⟨vals, rel, tup, _⟩ := inv.tuple sq
    obtain ⟨val, hval, rval⟩ := rel.get hy
    have hi : i < vals.toArray.size := by
      rw [List.size_toArray]
      exact (List.getElem?_eq_some_iff.mp hval).1
    have apart : E ∉ [I, A] := fun m => (two_mem m).elim ne ea
    refine wpAny_pyNext_enum_itemD (Draws.tuple (by exact inv.ok.hd calm) I A ai vals.toArray) f2 ⟨f1, tup⟩ hi ne apart fun val2 h2 tok has out st2 cell _ kept => ?_
    have same : val2 = val := by
      have k1 : vals.toArray[i]? = some val := by rw [List.getElem?_toArray]; exact hval
      have k2 : vals.toArray[i]? = some val2 := has
      exact Option.some.inj (k2.symm.trans k1)
    subst same
    refine ⟨_, rfl, wpAny_letOwnedTupleGo_enum (s := { s with heap := h2, toks := tok + 1 }) out fun h3 f4 but => ?_⟩
    have old : ∀ b, b < s.heap.objs.size → b ≠ s.heap.objs.size := fun b q => Nat.ne_of_lt q
    have cell3 := (but.2 _ (Nat.ne_of_gt (lt E (by simp)))).trans cell
    have made : ObjOk X.prog X.w (upd H s.heap.objs.size (.tup [.int (i : Nat), y])) h3 s.heap.objs.size (.tup [.int (i : Nat), y]) := by
      refine ⟨by show 2 ≤ sizeLine; decide, [.int i tok, val2], .cons ⟨tok, rfl⟩ (.cons rval .nil), ?_⟩
      exact ⟨_, cell3, rfl, _, rfl⟩
    have inv2 : Inv X pins σ (upd H s.heap.objs.size (.tup [.int (i : Nat), y])) { s with heap := h3, toks := tok + 1 } := by
      refine inv.turnedNew (ch := [E, I]) (fun b ob out1 at1 => ?_) fresh (Nat.le_refl _) made
      have b1 : b ≠ E := fun q => out1 (by simp [q])
      have b2 : b ≠ I := fun q => out1 (by simp [q])
      exact (but.2 b b1).trans (kept b ob b1 b2 at1)
    refine ⟨.ref s.heap.objs.size, _, inv2, rfl, ⟨_, y, rfl, inv.hok.fresh (Nat.le_refl _), rfl, fun zs hz => ?_⟩, ⟨ne, st2.1.at fun ob q => (but.2 I ne.symm).trans q, val2, ?_⟩, fun b m => ?_⟩
    · rw [inv.tuple_inj hz sq]
      exact hy
    · rw [show ((i + 1 : Nat) : Int) = (i : Int) + 1 by omega]
      exact f4
    · rw [upd_ne (old b (lt b m))]
      exact (fresh b m).1
  done := by
    intro X e1 e2 e3 calm i pins s σ H Ex' inv fresh st ended
    subst e1 e2 e3
    obtain ⟨_, f1, last, f2⟩ := st
    obtain ⟨ys, sq, hi⟩ := ended
    obtain ⟨vals, rel, tup, _⟩ := inv.tuple sq
    have len := rel.length
    obtain ⟨g0, g1, _, g3, g4, g5⟩ := fresh I (by simp)
    have ty : s.TypeIs (.ref E) "enumerate" := ⟨_, f2, rfl⟩
    unfold pyNext
    refine wpAny_bind (wpAny_attempt ?_)
    refine wpAny_callSpecial?_slot (name := Str.ofString "__next__") ty F.slot_enumerate_next (wpAny_call_entry F.slot_enumerate_next ty F.entry_enumerate_next ?_ (F.args_enumerate_next_1 _))
    refine wpAny_bind (m := field (.ref E) 2) (wpAny_field f2 rfl (x := .ref I) rfl ?_)
    refine wpAny_bind (wpAny_nextOf_tuple_end (by exact inv.ok.hd calm) f1 tup (by rw [List.getElem?_toArray]; exact List.getElem?_eq_none (by omega)) fun h2 exc but cls => ?_)
    obtain ⟨ob, k1, k2⟩ := cls
    refine wpAny_bind (wpAny_isInstance (T := "StopIteration") (b := true) ⟨ob, k1, k2⟩ isSubtype_stop (wpAny_pure ⟨rfl, ?_⟩))
    exact inv.turned (t' := s.toks) (fun b o m q => but b o m q) g0 g1 g3 g4 g5
  self := fun _ _ _ _ _ st k => wpAny_pyIter_enum st.2.2.choose_spec k
theorem meets_enumT {v : Value} {o : Obj} {St : Heap → Prop} (B : Begins v o St) : Meets (Builtin.«enumerate.__new__» ⟨[.type "enumerate", v], []⟩) (fun _ R s => St s.heap ∧ R (.ok (.ret (.ref (s.heap.push o).objs.size)))
      { s with heap := (s.heap.push o).push { cls := .type "enumerate", data := .fields #[.none, .bool false, .ref s.heap.objs.size, rawInt 0, .none, .none] } }) :=
  .of_wp fun prog w A R s pre => by
    obtain ⟨hp, gl, dp, tk, os⟩ := s
    obtain ⟨pre1, goal⟩ := pre
    have sub := sub_enumerate
    have begins : ∀ {A' : Around} {E Q : Value → Shared → Prop}, Q (.ref hp.objs.size) ⟨hp.push o, gl, dp, tk, os⟩ → wpAny (model prog w) A' (pyIter v) Q E ⟨hp, gl, dp, tk, os⟩ := fun q => B.iter prog w _ _ ⟨hp, gl, dp, tk, os⟩ _ pre1 q
    wp_walk using begins
    refine wpAny_stack_any fun st => wpAny_pure ?_
    split
    · rename_i c _ _ _ _ _
      by_cases hc : (c == Value.type "enumerate") = true
      · rw [hc]
        wp_walk using begins
        exact ⟨_, rfl, goal⟩
      · rw [eq_false_of_ne_true hc]
        wp_walk using begins
        exact ⟨_, rfl, goal⟩
    · wp_walk using begins
      exact ⟨_, rfl, goal⟩
theorem call_enumB {prog : Program} {w : World} {A : Around} {E Q : Value → Shared → Prop} {s : Shared} {v : Value} {o : Obj} {St : Heap → Prop} (B : Begins v o St) (pre : St s.heap)
    (goal : ∀ h', IsEnum h' (s.heap.objs.size + 1) s.heap.objs.size 0 .none → h'.get? s.heap.objs.size = some o → (∀ b u, s.heap.get? b = some u → h'.get? b = some u) → Q (.ref (s.heap.objs.size + 1)) { s with heap := h' }) :
    wpAny (model prog w) A (call (.type "enumerate") [v]) Q E s := by
  have sz : (s.heap.push o).objs.size = s.heap.objs.size + 1 := by rw [Heap.size_push]
  refine callType_new F.called_enumerate (by decide) (F.typeCall_enumerate_1 _) (F.newCall_enumerate_1 _) (fun obj => F.args_object_init_2 obj _) F.entry_enumerate_new (meets_enumT B) ⟨pre, ?_⟩
  have cell := Heap.get?_push_size (s.heap.push o) (o := { cls := .type "enumerate", data := .fields #[.none, .bool false, .ref s.heap.objs.size, rawInt 0, .none, .none] }) rfl
  rw [sz] at cell
  show _ ∧ _
  rw [sz]
  exact ⟨⟨_, cell, rfl⟩, goal _ cell (Heap.get?_push_of_some _ (Heap.get?_push_size _ B.free)) fun b u q => Heap.get?_push_of_some _ (Heap.get?_push_of_some _ q)⟩
def iEnumA (K : PySem.W.Frag) (ta : TA) : TI := fun σ H R => ta σ H fun vs H1 => ∃ A ys, vs = [.ref A] ∧ ((SqL K H1 A ys ∧ R (Ite K A) H1) ∨ (SqT K H1 A ys ∧ R (IteT K A) H1))
theorem pi_enumA {X : Cx} {e : Expr} {ta : TA} {p pos tp : Pos} {es : List Expr} {n : Nat} (gl : Gl X "enumerate") (no : X.mg "enumerate" = none) (args : PA X [e] ta) (one : starEach [e] X.env = [(false, eval e X.env)] := by rfl) :
    PI X (.Tuple es n tp) (.Call (.Name "enumerate" p) [e] [] pos) (iEnumA X.K ta) := by
  constructor
  intro pins s σ H R inv todo
  refine Call_ (ld_blt inv gl no boot_enumerate (callWith_type1 (thn (args.run pos pins s σ H _ inv todo) fun us s1 got => ?_) one rfl))
  obtain ⟨vs, H1, inv1, rel, A, ys, rfl, got⟩ := got
  cases rel with
  | cons r0 r1 =>
    cases r1
    cases r0
    have free : ∀ b ∈ [s1.heap.objs.size + 1, s1.heap.objs.size], FpOk X pins H1 b := fun b m => by
      have le : s1.heap.objs.size ≤ b := by
        rcases two_mem m with q | q
        · exact q ▸ Nat.le_succ _
        · exact Nat.le_of_eq q.symm
      exact inv1.fpOk le (inv1.hok.fresh le)
    rcases got with ⟨sq, todo⟩ | ⟨sq, todo⟩
    · obtain ⟨vals, _, li, _⟩ := inv1.list sq
      refine call_enumerate_list li.isList fun h2 f2 f1 _ kept => wpAny_pyIter_enum f2 ?_
      exact ⟨_, _, _, _, H1, rfl, inv1.kept (t' := s1.toks) kept, turn_enum A (s1.heap.objs.size + 1) s1.heap.objs.size, ⟨⟨.none, f2⟩, f1, Nat.succ_ne_self _⟩, free, todo⟩
    · obtain ⟨vals, _, tup, _⟩ := inv1.tuple sq
      have lt : A < s1.heap.objs.size := by
        obtain ⟨ob, k, _⟩ := id tup
        exact Heap.lt_size k
      refine call_enumB (begins_tuple A vals.toArray) tup fun h2 f2 f1 kept => wpAny_pyIter_enum f2 ?_
      exact ⟨_, _, _, _, H1, rfl, inv1.kept (t' := s1.toks) kept, turn_enumT A (s1.heap.objs.size + 1) s1.heap.objs.size (Nat.ne_of_lt lt) (Nat.ne_of_gt (Nat.lt_succ_of_lt lt)), ⟨Nat.succ_ne_self _, ⟨_, f1, rfl, rfl⟩, .none, f2⟩, free, todo⟩
def enumD (ds : List D) : List D := ds.zipIdx.map fun q => .tup [.int (q.2 : Nat), q.1]
theorem walk_enumT {K : Fg} {A : Addr} {ys : List V} : Walk (IteT K A) ys.length (fun H => SqT K H A ys) (YPair (fun i => some (.int (i : Nat))) (fun i => ys[i]?)) := by
  constructor
  · intro i H hi q
    exact ⟨ys, ys[i], q, List.getElem?_eq_getElem hi⟩
  · intro H q
    exact ⟨ys, q, Nat.le_refl _⟩
  · intro i H v H' hi q y
    obtain ⟨T, x, k1, k2, k3, k4⟩ := y
    exact ⟨T, _, x, k1, k2, k3, rfl, k4 ys q⟩
def dEnum (ta : DE) : DA := fun τ Q R => ta τ (fun d τ1 => match d with
  | .lst ds => Q (enumD ds) τ1
  | .tup ds => Q (enumD ds) τ1
  | _ => False) R
theorem enumD_length (ds : List D) : (enumD ds).length = ds.length := by
  unfold enumD
  rw [List.length_map, List.length_zipIdx]
theorem enumD_get {ds : List D} {i : Nat} {d : D} (h : (enumD ds)[i]? = some d) : ∃ x, ds[i]? = some x ∧ d = .tup [.int (i : Nat), x] := by
  unfold enumD at h
  rw [List.getElem?_map, List.getElem?_zipIdx] at h
  cases q : ds[i]? with
  | none =>
    rw [q] at h
    cases h
  | some x =>
    rw [q] at h
    refine ⟨x, rfl, ?_⟩
    have h' : D.tup [.int ((0 + i : Nat) : Nat), x] = d := Option.some.inj h
    rw [← h', Nat.zero_add]
theorem enum_get {K : Kc} {B : Hp} {xs : List V} {ds : List D} (r : DnL K B xs ds) (i : Nat) (d : D) (h : (enumD ds)[i]? = some d) :
    ∃ d1 d2, d = .tup [d1, d2] ∧ (∀ v, some (V.int (i : Nat)) = some v → Dn K B v d1) ∧ ∀ v, xs[i]? = some v → Dn K B v d2 := by
  obtain ⟨x, h1, rfl⟩ := enumD_get h
  refine ⟨_, _, rfl, fun v hv => ?_, fun v hv => ?_⟩
  · cases hv
    exact .int _
  · obtain ⟨v', e1, e2⟩ := r.get h1
    rw [hv] at e1
    cases e1
    exact e2
section
variable {Γ : Gm} {e : Expr} {ta : DE} {p pos tpos : Pos} {elts : List Expr} {kk : Nat}
theorem SI.enum (h : SE Γ e ta) (hm : Γ.mg "enumerate" = none) (hg : GlS Γ.sc "enumerate" := by rfl) (hs : ∀ env : PySem.Env, starEach [e] env = (false, eval e env) :: starEach [] env := by intros; rfl) : SI Γ (.Tuple elts kk tpos) (.Call (.Name "enumerate" p) [e] [] pos) (dEnum ta) := by
  intro B H σ τ F Q R hr ht QV hq hR
  refine ⟨iEnumA Γ.K.K (tCons (We Γ e) tNil), fun X hX => by rw [← hX.K]; exact pi_enumA (hX.gl hg) (by rw [hX.mg]; exact hm) (pa_cons (We.pe hX) pa_nil (hs _)) (hs _), ?_⟩
  refine h hr ht _ (fun x d B1 H1 τ1 F1 q n d1 => ?_) hR
  cases d1 <;> (try exact False.elim q)
  · rename_i a xs ds g1 r1
    exact ⟨a, xs, rfl, .inl ⟨.of (n.rel.ex _ _ g1), hq _ _ _ _ _ _ q n (pair_ok (xs := xs) (ys := xs) (ds := ds) (es := ds) (walk_enum (xs := xs)) (fun H' e => .of (e _ _ g1)) _ (by rw [enumD_length, r1.length]) (enum_get r1))⟩⟩
  · rename_i a xs ds g1 r1
    exact ⟨a, xs, rfl, .inr ⟨.of (n.rel.ex _ _ g1), hq _ _ _ _ _ _ q n (pair_ok (xs := xs) (ys := xs) (ds := ds) (es := ds) (walk_enumT (ys := xs)) (fun H' e => .of (e _ _ g1)) _ (by rw [enumD_length, r1.length]) (enum_get r1))⟩⟩
end
/-! ### x[i] op= e -/
/-- o[k] of a list, k from the front -/
def rGetL (K : Fg) (o i : V) (H : Hp) (Q : VK) : Prop := ∃ a ys k y, o = .ref a ∧ i = .int k ∧ SqL K H a ys ∧ 0 ≤ k ∧ ys[k.toNat]? = some y ∧ Q y H
theorem get_listF {X : Cx} : PGet X (rGetL X.K) := by
  intro pins s σ H o i ov iv Q inv ro ri got
  obtain ⟨a, ys, k, y, rfl, rfl, sq, k0, hy, todo⟩ := got
  cases ro
  obtain ⟨tok, rfl⟩ := ri
  obtain ⟨vals, rel, li, most⟩ := inv.list sq
  obtain ⟨val, hv, rv⟩ := rel.get hy
  have lt := (List.getElem?_eq_some_iff.mp hy).1
  have big := line63
  exact wpAny_getItem_list li.isList k0 (by omega) (by rw [List.getElem?_toArray]; exact hv) ⟨y, H, inv, rv, todo⟩
def dAugIx (i : Nat) (tj : DE) (r : D2) (te : DE) : DS := fun E τ => isOw τ i ∧ tj τ (fun j τ1 => match j with
  | .int k => 0 ≤ k ∧ withOw τ1 i fun _ ds => match ds[k.toNat]? with
    | some d => te τ1 (fun v τ2 => r d v fun z => withOw τ2 i fun l es => k.toNat < es.length ∧ E.nx (τ2.set i (some (.ow l (es.set k.toNat z))))) E.ex
    | none => False
  | _ => False) E.ex
section
variable {Γ : Gm} {e j : Expr} {te tj : DE} {i : Nat} {x : Str} {p' pos' pos : Pos}
theorem SS.augIx {op : Operator} {r : D2} (ho : OpD Γ (inplaceOp op) r) (hj : SE Γ j tj) (he : SE Γ e te) (hN : Γ.N[i]? = some x := by rfl) (hv : Vis Γ.sc x := by first | exact Or.inl rfl | exact Or.inr (Or.inl rfl) | exact Or.inr (Or.inr rfl)) (ha : ∀ ov iv new, augStore j ov iv new = (do holding [new, ov, iv] (setItem ov iv new); release [new, ov, iv] []; pure .next) := by intros; rfl) (hd : (x == ("__debug__" : Str)) = false := by decide) (hcd : (x == ("__classdict__" : Str)) = false := by decide) : SS Γ (.AugAssign (.Subscript (.Name x p') j pos') op e pos) (dAugIx i tj r te) := by
  intro B H σ τ F E hr ht D hD hR
  refine ⟨tAugS (tVar i) (We Γ j) (We Γ e) (rGetL Γ.K.K) (fun x y H Q => ∃ rr, (∀ X, In Γ X → OpR X (inplaceOp op) rr) ∧ rr x y H Q) rSetL, fun X hX => by
    rw [← hX.K]
    exact ps_augS (pe_var (by rw [hX.N]; exact hN) (by rw [hX.sc]; exact hv) hd hcd) (We.pe hX.toIn) get_listF (We.pe hX.toIn) (pip_of (r := r) hX.toIn) set_list ha, ?_⟩
  obtain ⟨l0, ds0, h0⟩ := ht.1.get
  obtain ⟨p, xs, h2, _, _, _⟩ := hr.write (es := []) h0
  refine ⟨_, h2, ?_⟩
  refine hj hr ht.2 _ (fun w k B2 H2 τ2 F2 q2 n2 d2 => ?_) hR
  cases d2 <;> (try exact False.elim q2)
  rename_i k
  obtain ⟨k0, q2⟩ := q2
  obtain ⟨l, ds, h3, q3⟩ := q2.get
  split at q3
  · rename_i d hd
    obtain ⟨p2, ys, h4, h5, h6, _⟩ := n2.rel.write (es := []) h3
    rw [h2] at h4
    cases h4
    obtain ⟨y, hy, dy⟩ := h6.get hd
    refine ⟨p, ys, k, y, rfl, rfl, .of h5, k0, hy, ?_⟩
    refine he n2.rel q3 _ (fun u v B4 H4 τ4 F4 q4 n4 d4 => ?_) (hR.after n2)
    refine ho n4.rel.ex (dy.mono n4.s.b) d4 q4 _ fun z d' B' H' qd g dz => ?_
    have n5 := (n2.trans n4).trans (n4.rel.grow g)
    obtain ⟨l', es, h7, lt, q5⟩ := qd.get
    obtain ⟨p3, zs, h8, h9, h10, h11⟩ := n5.rel.write (es := es.set k.toNat d') h7
    rw [h2] at h8
    cases h8
    refine ⟨p, zs, k, k.toNat, rfl, rfl, h9, ?_, hD.nx _ _ _ _ _ q5 (n5.trans (h11 _ (h10.set dz k.toNat)))⟩
    unfold ixN
    rw [if_pos k0, h10.length, if_pos (by omega)]
  · exact q3.elim
end
end EC
/-! EC11: a list of new lists by a comprehension; x[i].append(e). -/
namespace EC
open PySem PySem.Spec PyProof.Rows L2 RZ
@[irreducible] def LcOB (ds : List D) (τ1 : Env) (g : DG) (elt : DT) (vs : List Nat) (Q : T → Env → Prop) : Prop := ds.length ≤ 1000000 ∧ (∀ v ∈ vs, noOw τ1 v) ∧ ∃ I : Nat → List (List D) → Env → Prop, I 0 [] (wipeT τ1 vs) ∧
  (∀ i d acc τ', ds[i]? = some d → I i acc τ' → g d τ' fun τ2 => elt τ2 (fun u τ3 => ∃ es, u = .ow false es ∧ I (i + 1) (acc ++ [es]) (wipeT τ3 vs)) noR) ∧
  ∀ acc τ', I ds.length acc τ' → Q (.o2 acc) (restT τ1 vs τ')
def dLcO (ti : DA) (g : DG) (elt : DT) (vs : List Nat) : DT := fun τ Q R => ti τ (fun ds τ1 => LcOB ds τ1 g elt vs Q) R
theorem LL.snoc {K : Kc} {B H : Hp} {rs : List Addr} {dss : List (List D)} {r : Addr} {xs : List V} {ds : List D} (h : LL K B H rs dss) (h1 : H r = some (.lst xs)) (h2 : DnL K B xs ds) : LL K B H (rs ++ [r]) (dss ++ [ds]) := by
  induction h with
  | nil => exact .cons h1 h2 .nil
  | cons k1 k2 _ ih => exact .cons k1 k2 ih
theorem LL.length {K : Kc} {B H : Hp} {rs : List Addr} {dss : List (List D)} (h : LL K B H rs dss) : rs.length = dss.length := by
  induction h with
  | nil => rfl
  | cons _ _ _ ih => exact congrArg (· + 1) ih
section
variable {Γ : Gm} {tg iter elt : Expr} {scope : Scope} {ti : DA} {g : DG} {te : DT} {own : List (Str × Nat)} {ws : List Nat}
/-- between two turns: the lists made so far lie at rs -/
structure LcO (K : Kc) (σ : L2.St) (vs : List Nat) (P : Addr) (B1 H1 : Hp) (τ1 : Env) (F1 : List Addr) (I : List (List D) → Env → Prop) (i : Nat) (H' : Hp) (dss : List (List D)) (rs : List Addr) (B' : Hp) (τ' : Env) (F' : List Addr) : Prop where
  inv : I dss τ'
  at_ : H' P = some (.lst (rs.map .ref))
  ll : LL K B' H' rs dss
  le : dss.length ≤ i
  nd : (F' ++ P :: rs).Nodup
  df : ∀ a ∈ P :: rs, B' a = none
  rel : Rel K B' H' (L2.wipe σ vs) τ' F'
  stp : Stp B1 (upd H1 P (.lst [])) (F1 ++ [P]) B' H' (F' ++ P :: rs)
  lent : ∀ j t k, j ∉ vs → τ1[j]? = some (some t) → t.kind = some k → ∃ t', τ'[j]? = some (some t') ∧ t'.kind = some k
theorem lcO_read (hi : SI Γ tg iter ti) (hg : SG (Γ.blk scope) tg g ws) (hw : ∀ j ∈ ws, j ∈ own.map (·.2)) (he : ST (Γ.blk scope) elt te) {B H : Hp} {σ : L2.St} {τ : Env} {F : List Addr} {Q : T → Env → Prop} {R : RX}
    (hr : Rel Γ.K B H σ τ F) (ht : dLcO ti g te (own.map (·.2)) τ Q R) {QV : VK} (hq : OkT Γ.K B H σ τ F Q QV) (hR : OkR Γ.K B H σ τ F R Γ.W) :
    tLc (Wi Γ tg iter) (Wg (Γ.blk scope) tg) tYes (We (Γ.blk scope) elt) (own.map (·.2)) σ H QV := by
  generalize own.map (·.2) = vs at *
  refine hi hr ht _ (fun J ds B1 H1 τ1 F1 q n1 io => ?_) hR
  unfold LcOB at q
  obtain ⟨hz, no, I, i0, step, fin⟩ := q
  intro P hP
  have r1 := n1.rel
  have hPF : P ∉ F1 := fun z => by
    obtain ⟨o, e⟩ := r1.sl.there P z
    rw [hP] at e
    cases e
  have hPB := r1.ex.back hP
  obtain ⟨n2, _, _, _⟩ := r1.own (l := false) (xs := []) (ds := []) hP .nil
  obtain ⟨F2, r2, s2⟩ := n2.rel.wipe vs
  have start : LcO Γ.K σ vs P B1 H1 τ1 F1 (I 0) 0 (upd H1 P (.lst [])) [] [] B1 (wipeT τ1 vs) F2 := {
    inv := i0
    at_ := upd_same
    ll := .nil
    le := Nat.le_refl _
    nd := by
      rw [List.nodup_append]
      exact ⟨r2.nd, by simp, fun a ha b hb e => hPF (s2 P (by rw [List.mem_singleton.mp hb] at e; exact e ▸ ha))⟩
    df := fun a z => by rw [List.mem_singleton.mp z]; exact hPB
    rel := r2
    stp := ⟨Ex.refl _, fun a o h _ => h, fun a z => by
      rcases List.mem_append.mp z with z | z
      · exact .inl (List.mem_append_left _ (s2 a z))
      · exact .inl (List.mem_append_right _ z), fun a o h => .inl ⟨o, h⟩⟩
    lent := fun j t k hj h e => ⟨t, by rw [wipeT_get hj]; exact h, e⟩ }
  refine ⟨fun i m H' => m = ds.length - i ∧ i ≤ ds.length ∧ ∃ dss rs B' τ' F', LcO Γ.K σ vs P B1 H1 τ1 F1 (I i) i H' dss rs B' τ' F',
    ⟨ds.length, by simp, Nat.zero_le _, [], [], B1, _, F2, start⟩, ?_⟩
  rintro i m H' ⟨rfl, hle, dss, rs, B', τ', F', c⟩
  have r' := c.rel
  have hPF' : P ∉ F' := fun z => by
    have := (List.nodup_append.mp c.nd).2.2 P z P List.mem_cons_self
    exact this rfl
  by_cases hlt : i < ds.length
  · have hd : ds[i]? = some ds[i] := List.getElem?_eq_getElem hlt
    obtain ⟨go, yl⟩ := io.go B' H' c.stp.b r'.ex i _ hd
    refine .inr ⟨go, fun H2 => ∃ dss rs B' τ' F', LcO Γ.K σ vs P B1 H1 τ1 F1 (I (i + 1)) (i + 1) H2 dss rs B' τ' F', fun H2 w => ⟨ds.length - (i + 1), by omega, rfl, hlt, w⟩, fun x H2 y => ?_⟩
    obtain ⟨B2, gr, dx⟩ := yl x H2 y
    have n3 := r'.grow gr
    refine hg n3.rel dx (step i _ dss _ hd c.inv) _ fun B4 H4 σ4 τ4 F4 q4 n4 ag => ?_
    have hwp := wipe_agree ag hw
    refine ⟨hwp, ?_⟩
    have n34 := n3.trans n4
    unfold L2.tYes
    simp only [if_true]
    refine he n34.rel q4 _ (fun v u f B6 H6 τ6 F6 q6 n6 o6 nd6 df6 => ?_) okNoR
    obtain ⟨es, rfl, hI6⟩ := q6
    have n36 := n34.trans n6
    cases o6 with
    | @ow r xs _ _ hr6 dx6 =>
    obtain ⟨k1, k2, k3⟩ := n36.stp.frame (G := P :: rs) (fun a z => by
      rcases List.mem_cons.mp z with z | z
      · exact ⟨_, z ▸ c.at_⟩
      · exact c.ll.there a z) (fun a z y => (List.nodup_append.mp c.nd).2.2 a y a z rfl) c.df
    have kP := k1 P List.mem_cons_self
    have hPn : P ∉ rs := by
      have := (List.nodup_append.mp c.nd).2.1
      rw [List.nodup_cons] at this
      exact this.1
    have hrP : r ≠ P := fun e => k2 P List.mem_cons_self (by rw [← e]; simp)
    have hrr : r ∉ rs := fun z => k2 r (List.mem_cons_of_mem _ z) (by simp)
    have hr6F : r ∉ F6 := fun z => (List.nodup_append.mp nd6).2.2 r z r (by simp) rfl
    have hPF6 : P ∉ F6 := fun z => k2 P List.mem_cons_self (List.mem_append_left _ z)
    have hrest : ∀ a ∈ rs, a ∉ F6 := fun a z y => k2 a (List.mem_cons_of_mem _ z) (List.mem_append_left _ y)
    refine ⟨rs.map .ref, by rw [kP]; exact c.at_, by rw [List.length_map, c.ll.length, sizeLine_eq]; have := c.le; omega, ?_⟩
    obtain ⟨F7, r7, s7⟩ := (n6.rel.side (o := .lst (rs.map .ref ++ [.ref r])) hPF6 (k3 P List.mem_cons_self)).wipe vs
    rw [hwp] at r7
    refine ⟨dss ++ [es], rs ++ [r], B6, wipeT τ6 vs, F7, ?_⟩
    exact {
      inv := hI6
      at_ := by rw [upd_same, List.map_append] <;> rfl
      ll := (c.ll.mono n36.stp.b fun a z => by
        rw [upd_ne fun (e : a = P) => hPn (e ▸ z)]
        exact k1 a (List.mem_cons_of_mem _ z)).snoc (by rw [upd_ne hrP]; exact hr6) dx6
      le := by
        have := c.le
        rw [List.length_append, List.length_singleton]
        omega
      nd := by
        have c2 := (List.nodup_append.mp c.nd).2.1
        have g1 : (P :: (rs ++ [r])).Nodup := by
          rw [List.nodup_cons] at c2 ⊢
          refine ⟨fun z => ?_, ?_⟩
          · rcases List.mem_append.mp z with z | z
            · exact c2.1 z
            · exact hrP (List.mem_singleton.mp z).symm
          · rw [List.nodup_append]
            exact ⟨c2.2, by simp, fun a ha b hb e => hrr (by rw [← List.mem_singleton.mp hb, ← e]; exact ha)⟩
        rw [List.nodup_append]
        refine ⟨r7.nd, g1, fun a ha b hb e => ?_⟩
        have ha6 := s7 a ha
        subst e
        rcases List.mem_cons.mp hb with z | z
        · exact hPF6 (z ▸ ha6)
        · rcases List.mem_append.mp z with z | z
          · exact hrest a z ha6
          · exact hr6F (by rw [← List.mem_singleton.mp z]; exact ha6)
      df := fun a z => by
        rcases List.mem_cons.mp z with z | z
        · exact k3 a (by rw [z]; exact List.mem_cons_self)
        · rcases List.mem_append.mp z with z | z
          · exact k3 a (List.mem_cons_of_mem _ z)
          · exact df6 a z
      rel := r7
      stp := by
        refine (Stp.write (p := P) (o := .lst (rs.map .ref ++ [.ref r])) (F' := F6 ++ (P :: (rs ++ [r]))) (c.stp.trans ⟨n36.stp.b, fun a o h z => n36.stp.h a o h fun y => z (List.mem_append_left _ y), fun a z => ?_, fun a o h => ?_⟩) (List.mem_append_right _ List.mem_cons_self)).less fun a z => ?_
        · rcases List.mem_append.mp z with z | z
          · exact (n36.stp.f a (List.mem_append_left _ z)).imp_left (List.mem_append_left _)
          · rcases List.mem_cons.mp z with z | z
            · exact .inl (List.mem_append_right _ (by rw [z]; exact List.mem_cons_self))
            · rcases List.mem_append.mp z with z | z
              · exact .inl (List.mem_append_right _ (List.mem_cons_of_mem _ z))
              · exact (n36.stp.f a (List.mem_append_right _ z)).imp_left (List.mem_append_left _)
        · exact (n36.stp.n a o h).imp_right (Or.imp_left (List.mem_append_left _))
        · rcases List.mem_append.mp z with z | z
          · exact List.mem_append_left _ (s7 a z)
          · exact List.mem_append_right _ z
      lent := fun j t k hj h e => by
        obtain ⟨t', h', e'⟩ := c.lent j t k hj h e
        obtain ⟨_, t2, h2, e2⟩ := n36.len.at_ j t' k h' e'
        exact ⟨t2, by rw [wipeT_get hj]; exact h2, e2⟩ }
  · have e : i = ds.length := by omega
    subst e
    refine .inl ⟨io.stop B' H' c.stp.b r'.ex, ?_⟩
    have hl : τ'.length = τ1.length := by
      rw [← r'.sl.len, L2.wipe_length, r1.sl.len]
    obtain ⟨F8, r8, s8⟩ := rest_rel r1 no c.stp.b vs (fun _ z => z) hl r'
    rw [resV_wipe] at r8
    have nd8 := List.nodup_append.mp c.nd
    refine hq (.ref P) (.o2 dss) (P :: rs) B' H' _ F8 (fin dss _ c.inv) (n1.trans ⟨r8, ⟨c.stp.b, fun a o h z => ?_, fun a z => ?_, fun a o h => ?_⟩, ⟨by rw [restT_length, hl], fun j t k h e => ⟨rfl, ?_⟩⟩⟩) (.o2 c.at_ c.ll) ?_ c.df
    · have hne : a ≠ P := fun e => by rw [e, hP] at h; cases h
      exact c.stp.h a o (by rw [upd_ne hne]; exact h) fun y => (List.mem_append.mp y).elim z fun y => hne (List.mem_singleton.mp y)
    · have z' : a ∈ F' ++ P :: rs := (List.mem_append.mp z).elim (fun y => List.mem_append_left _ (s8 a y)) fun y => List.mem_append_right _ y
      by_cases hne : a = P
      · exact .inr (by rw [hne]; exact hP)
      · rcases c.stp.f a z' with y | y
        · rcases List.mem_append.mp y with y | y
          · exact .inl y
          · exact absurd (List.mem_singleton.mp y) hne
        · rw [upd_ne hne] at y
          exact .inr y
    · by_cases hne : a = P
      · exact .inr (.inr (by rw [hne]; exact hP))
      · rcases c.stp.n a o h with y | y | y
        · exact .inl y
        · rcases List.mem_append.mp y with y | y
          · exact .inr (.inl y)
          · exact absurd (List.mem_singleton.mp y) hne
        · rw [upd_ne hne] at y
          exact .inr (.inr y)
    · have hj : j ∉ vs := fun z => by
        have := no j z
        unfold noOw at this
        rw [h] at this
        cases t with
        | fr => cases e
        | _ => exact False.elim this
      obtain ⟨t', h', e'⟩ := c.lent j t k hj h e
      exact ⟨t', by rw [restT_get hj]; exact h', e'⟩
    · rw [List.nodup_append]
      exact ⟨r8.nd, nd8.2.1, fun a ha b hb e => nd8.2.2 a (s8 a ha) b hb e⟩
theorem ST.lcO {pos : Pos} (hi : SI Γ tg iter ti) (hg : SG (Γ.blk scope) tg g ws) (he : ST (Γ.blk scope) elt te) (hca : Γ.calm = true := by rfl) (hw : ∀ j ∈ ws, j ∈ own.map (·.2) := by decide) (ok : blkC Γ.N Γ.sc scope own = true := by (dsimp only [Gm.blk]; decide +kernel)) (hs : ∀ (env : PySem.Env) x, foldedSetIterable iter env x = pure x := by intros; rfl) : ST Γ (.ListComp elt [⟨tg, iter, [], 0⟩] scope pos) (dLcO ti g te (own.map (·.2))) := fun B H σ τ F Q R hr ht QV hq hR =>
  ⟨_, fun X hX => pe_lc (hX.calm hca) hX.nd (Wi.pi hX) (by rw [hX.N, hX.sc]; exact blkOk_by ok) (fun s H C cl fp => Wg.pg (hX.blk s H scope C cl fp)) (fun s H C cl fp => pts_nil) (fun s H C cl fp => We.pe (hX.blk s H scope C cl fp)) (hs _),
    lcO_read hi hg hw he hr ht hq hR⟩
theorem SS.setLcO {i : Nat} {y : Str} {py pos spos : Pos} (hi : SI Γ tg iter ti) (hg : SG (Γ.blk scope) tg g ws) (he : ST (Γ.blk scope) elt te) (hsw : ∀ env : PySem.Env, env.scope = Γ.sc → swapsWith (.ListComp elt [⟨tg, iter, [], 0⟩] scope pos) (some (.Name y py)) spos.line env = pure true := by exact fun env h => sw_true (by rw [h]; rfl) (by rw [h]; rfl) rfl (by decide +kernel)) (hca : Γ.calm = true := by rfl) (hy : Γ.N[i]? = some y := by rfl) (hyl : Γ.sc.names.lookup y = some .local := by rfl) (hfn : Γ.sc.kind = .function := by rfl) (hw : ∀ j ∈ ws, j ∈ own.map (·.2) := by decide) (ok : blkC Γ.N Γ.sc scope own = true := by (dsimp only [Gm.blk]; decide +kernel)) (hs : ∀ (env : PySem.Env) x, foldedSetIterable iter env x = pure x := by intros; rfl) :
    SS Γ (.Assign [.Name y py] (.ListComp elt [⟨tg, iter, [], 0⟩] scope pos) spos) (dSet i (dLcO ti g te (own.map (·.2)))) := fun B H σ τ F E hr ht D hD hR =>
  ⟨_, fun X hX => ps_setLc (hX.calm hca) hX.nd (by rw [hX.N]; exact hy) (by rw [hX.sc]; exact hyl) (hsw _ hX.sc) (Wi.pi hX.toIn) (by rw [hX.N, hX.sc]; exact blkOk_by ok) (fun s H C cl fp => Wg.pg (hX.toIn.blk s H scope C cl fp)) (fun s H C cl fp => pts_nil)
      (fun s H C cl fp => We.pe (hX.toIn.blk s H scope C cl fp)) (hs _),
    lcO_read (QV := fun x H1 => gName i x σ H1 D.nx) hi hg hw he hr ht (fun v u f B1 H1 τ1 F1 q n o nd df => by
      obtain ⟨F2, n2⟩ := n.put o nd df q.1
      exact hD.nx _ _ _ _ _ q.2 n2) hR⟩
end
/-! ### a slot laid aside, while something else is done -/
/-- slot i laid aside: its value v, what it owns f -/
structure Aside (K : Kc) (B H : Hp) (σ : L2.St) (τ : Env) (F : List Addr) (i : Nat) (t : T) (v : V) (f G : List Addr) : Prop where
  was : τ[i]? = some (some t)
  at_ : σ[i]? = some (some v)
  ow : Ow K B H v t f
  rel : Rel K B H σ (τ.set i none) G
  nd : f.Nodup
  apart : ∀ a ∈ f, a ∉ G
  df : ∀ a ∈ f, B a = none
  sub : ∀ a, a ∈ F ↔ a ∈ f ∨ a ∈ G
section
variable {K : Kc} {B H B' H' H'' : Hp} {σ : L2.St} {τ τ' : Env} {F F' f G : List Addr} {i : Nat} {t t' : T} {v : V}
theorem Rel.aside (r : Rel K B H σ τ F) (h : τ[i]? = some (some t)) : ∃ v f G, Aside K B H σ τ F i t v f G := by
  obtain ⟨v, F1, f, F2, h1, h2, h3, h4⟩ := r.sl.focus h
  subst h3
  have nd := r.nd
  simp only [List.nodup_append, List.mem_append] at nd
  have sl := h4 B H (some v) none [] (Ex.refl _) (fun _ _ => rfl) (.inl ⟨rfl, rfl⟩)
  rw [set_same h1, List.nil_append] at sl
  refine ⟨v, f, F1 ++ F2, h, h1, h2, ⟨r.ex, sl, ?_, fun a z => r.df a ?_⟩, nd.2.1.1, fun a z y => ?_, fun a z => r.df a (by simp [z]), fun a => ?_⟩
  · simp only [List.nodup_append]
    exact ⟨nd.1, nd.2.1.2.1, fun a ha b hb => nd.2.2 a ha b (.inr hb)⟩
  · simp only [List.mem_append] at z ⊢
    rcases z with z | z
    · exact .inl z
    · exact .inr (.inr z)
  · rcases List.mem_append.mp y with y | y
    · exact nd.2.2 a y a (.inl z) rfl
    · exact nd.2.1.2.2 a z a y rfl
  · simp only [List.mem_append]
    constructor
    · rintro (z | z | z)
      · exact .inr (.inl z)
      · exact .inl z
      · exact .inr (.inr z)
    · rintro (z | z | z)
      · exact .inr (.inl z)
      · exact .inl z
      · exact .inr (.inr z)
/-- what is laid aside stays -/
theorem Aside.frame (s : Aside K B H σ τ F i t v f G) (n : Nx K B H σ (τ.set i none) G B' H' σ τ' F' []) : (∀ a ∈ f, H' a = H a) ∧ (∀ a ∈ f, a ∉ F') ∧ ∀ a ∈ f, B' a = none :=
  n.s.frame s.ow.there s.apart s.df
/-- .. also changed where it lies -/
theorem Aside.back (s : Aside K B H σ τ F i t v f G) (n : Nx K B H σ (τ.set i none) G B' H' σ τ' F' []) (hi : setOk τ' i) (hw : ∀ a, a ∉ f → H'' a = H' a) (o : Ow K B' H'' v t' f) (hk : ∀ k, t.kind = some k → t'.kind = some k) :
    ∃ F'', Nx K B H σ τ F B' H'' σ (τ'.set i (some t')) F'' [] := by
  obtain ⟨k1, k2, k3⟩ := s.frame n
  obtain ⟨G1, g, G2, h1, _, h4⟩ := n.rel.sl.focusN hi.lt
  have nd := n.rel.nd
  rw [h1] at nd
  simp only [List.nodup_append, List.mem_append] at nd
  have inF : ∀ a, a ∈ G1 ∨ a ∈ G2 → a ∈ F' := fun a z => by
    rw [h1]
    simp only [List.mem_append]
    rcases z with z | z
    · exact .inl z
    · exact .inr (.inr z)
  have off : ∀ a, a ∈ G1 ∨ a ∈ G2 → a ∉ f := fun a z y => k2 a y (inF a z)
  have sl := h4 B' H'' (some v) (some t') f (Ex.refl _) (fun a z => hw a (off a (List.mem_append.mp z))) (.inr ⟨v, t', rfl, rfl, o⟩)
  rw [set_same s.at_] at sl
  have memF : ∀ a, a ∈ G1 ++ (f ++ G2) → a ∈ f ∨ a ∈ F' := fun a z => by
    simp only [List.mem_append] at z
    rcases z with z | z | z
    · exact .inr (inF a (.inl z))
    · exact .inl z
    · exact .inr (inF a (.inr z))
  refine ⟨G1 ++ (f ++ G2), ⟨fun a u e => ?_, sl, ?_, fun a z => ?_⟩, ⟨n.s.b, fun a u e z => ?_, fun a z => ?_, fun a u e => ?_⟩, ⟨?_, fun j u k e1 e2 => ?_⟩⟩
  · rw [hw a fun z => by rw [k3 a z] at e; cases e]
    exact n.rel.ex a u e
  · simp only [List.nodup_append, List.mem_append]
    refine ⟨nd.1, ⟨s.nd, nd.2.1.2.1, fun a ha b hb e => k2 a ha (inF a (.inr (e ▸ hb)))⟩, fun a ha b hb e => ?_⟩
    rcases hb with hb | hb
    · exact k2 b hb (inF b (.inl (e ▸ ha)))
    · exact nd.2.2 a ha b (.inr hb) e
  · rcases memF a z with z | z
    · exact k3 a z
    · exact n.rel.df a z
  · rw [hw a fun y => z ((s.sub a).mpr (.inl y))]
    exact n.s.h a u e fun y => z ((s.sub a).mpr (.inr y))
  · rw [List.append_nil] at z
    rcases memF a z with z | z
    · exact .inl ((s.sub a).mpr (.inl z))
    · exact (n.s.f a z).imp_left fun y => (s.sub a).mpr (.inr y)
  · exact (n.s.n a u e).imp_right (Or.imp_left fun y => (s.sub a).mpr (.inr y))
  · rw [List.length_set, n.len.len, List.length_set]
  · refine ⟨rfl, ?_⟩
    by_cases hij : i = j
    · subst hij
      by_cases hl : i < τ.length
      · have e3 : t.kind = some k → ∃ t2, (τ'.set i (some t'))[i]? = some (some t2) ∧ t2.kind = some k := fun q => ⟨t', by rw [List.getElem?_set_self hi.lt], hk k q⟩
        have e4 : τ[i]? = some (some t) := s.was
        rw [e4] at e1
        cases e1
        exact e3 e2
      · rw [List.getElem?_eq_none (by omega)] at e1
        cases e1
    · obtain ⟨_, t2, q1, q2⟩ := n.len.at_ j u k (by rw [List.getElem?_set_ne hij]; exact e1) e2
      exact ⟨t2, by rw [List.getElem?_set_ne hij]; exact q1, q2⟩
end
end EC
/-! EC12: lists of lists and instances of one's own. -/
namespace EC
open PySem PySem.Spec PyProof.Rows L2 RZ
/-! ### lists of lists -/
section
variable {K : Kc} {B H : Hp}
theorem LL.at {rs : List Addr} {dss : List (List D)} (h : LL K B H rs dss) : ∀ {k : Nat} {ds : List D}, dss[k]? = some ds → ∃ r xs, rs[k]? = some r ∧ H r = some (.lst xs) ∧ DnL K B xs ds := by
  induction h with
  | nil => intro k ds e; simp at e
  | @cons r rs xs ds dss h1 h2 _ ih =>
    intro k es e
    cases k with
    | zero =>
      have e' : ds = es := by simpa using e
      subst e'
      exact ⟨r, xs, rfl, h1, h2⟩
    | succ k => exact ih (by simpa using e)
theorem LL.put {rs : List Addr} {dss : List (List D)} (h : LL K B H rs dss) : ∀ {k : Nat} {r : Addr} {ys : List V} {es : List D}, rs.Nodup → rs[k]? = some r → DnL K B ys es → LL K B (upd H r (.lst ys)) rs (dss.set k es) := by
  induction h with
  | nil => intro k r ys es _ e; simp at e
  | @cons r0 rs xs ds dss h1 h2 hr ih =>
    intro k r ys es nd e dy
    rw [List.nodup_cons] at nd
    cases k with
    | zero =>
      have e' : r0 = r := by simpa using e
      subst e'
      exact .cons upd_same dy (hr.mono (Ex.refl _) fun a z => upd_ne fun q => nd.1 (q ▸ z))
    | succ k =>
      have e' : rs[k]? = some r := by simpa using e
      have hm : r ∈ rs := List.mem_of_getElem? e'
      exact .cons (by rw [upd_ne fun (q : r0 = r) => nd.1 (by rw [q]; exact hm)]; exact h1) h2 (ih nd.2 e' dy)
end
def isO2 (τ : Env) (i : Nat) : Prop := ∃ dss, τ[i]? = some (some (.o2 dss))
def withO2 (τ : Env) (i : Nat) (k : List (List D) → Prop) : Prop := ∃ dss, τ[i]? = some (some (.o2 dss)) ∧ k dss
/-- x[j].append(e), x a list of lists; e asks nothing of x -/
def dAppIx (i : Nat) (tj te : DE) : DE := fun τ Q R => isO2 τ i ∧ tj τ (fun j τ1 => match j with
  | .int k => withO2 τ1 i fun dss => 0 ≤ k ∧ ∃ es, dss[k.toNat]? = some es ∧ es.length ≤ 1000000 ∧ te (τ1.set i none) (fun d τ2 => setOk τ2 i ∧ Q .non (τ2.set i (some (.o2 (dss.set k.toNat (es ++ [d])))))) noR
  | _ => False) R
section
variable {Γ : Gm} {e j : Expr} {te tj : DE} {i : Nat} {x : Str} {p' spos apos pos : Pos}
theorem atI_front {α : Type} {xs : List α} {k : Int} {v : α} (h0 : 0 ≤ k) (h : xs[k.toNat]? = some v) : atI xs k = some v := by
  have lt := (List.getElem?_eq_some_iff.mp h).1
  unfold atI ixN
  rw [if_pos h0, if_pos (by omega)]
  exact h
theorem SE.appIx (hj : SE Γ j tj) (he : SE Γ e te) (hN : Γ.N[i]? = some x := by rfl) (hv : Vis Γ.sc x := by first | exact Or.inl rfl | exact Or.inr (Or.inl rfl) | exact Or.inr (Or.inr rfl)) (hs : ∀ env : PySem.Env, starEach [e] env = (false, eval e env) :: starEach [] env := by intros; rfl) (hix : ∀ o i, subscripted j false o i = operate [o, i] (getItem o i) := by intros; rfl) (hbase : ∀ env : PySem.Env, attributeBase (.Subscript (.Name x p') j spos) "append" env (eval (.Subscript (.Name x p') j spos) env) = eval (.Subscript (.Name x p') j spos) env := by intros; rfl) (hline : (apos.endLine == pos.line) = true := by rfl) (hfew : ∀ env : PySem.Env, ((backTo pos (starEach [e] env)).all (fun x => !x.1) && (backToKw pos (keywordEach [] env)).all (fun x => x.1.isSome) && decide (([e] : List Expr).length + ([] : List Keyword).length + (if ([] : List Keyword).isEmpty then 0 else 1) < 30)) = true := by intros; rfl) (hd : (x == ("__debug__" : Str)) = false := by decide) (hcd : (x == ("__classdict__" : Str)) = false := by decide) :
    SE Γ (.Call (.Attribute (.Subscript (.Name x p') j spos) "append" apos) [e] [] pos) (dAppIx i tj te) := by
  intro B H σ τ F Q R hr ht QV hq hR
  refine ⟨tBM Γ.K.K "list" rAppend (tOp (L2.rIx Γ.K.K) (tVar i) (We Γ j)) (tCons (We Γ e) tNil), fun X hX => by
    rw [← hX.K]
    exact pe_bm PySem.F.plainAttrs_list PySem.F.slot_list_append PySem.F.type_list_append mt_append (pe_ix ix_seq (pe_var (by rw [hX.N]; exact hN) (by rw [hX.sc]; exact hv) hd hcd) (We.pe hX) hix) (pa_cons (We.pe hX) pa_nil (hs _)) (hbase _) (hfew _) hline (hs _), ?_⟩
  obtain ⟨⟨dss0, h0⟩, ht⟩ := ht
  obtain ⟨v, f0, G0, s0⟩ := hr.aside h0
  refine ⟨v, s0.at_, ?_⟩
  refine hj hr ht _ (fun w jd B1 H1 τ1 F1 q1 n1 d1 => ?_) hR
  cases d1 <;> (try exact False.elim q1)
  rename_i k
  obtain ⟨dss, h1, k0, es, hes, hl, q1⟩ := q1
  obtain ⟨v', f, G, s⟩ := n1.rel.aside h1
  have ev : v' = v := by
    have := s.at_
    rw [s0.at_] at this
    cases this
    rfl
  subst ev
  have nd := s.nd
  cases s.ow with
  | @o2 p rs _ hp ll =>
  obtain ⟨r, xs, hr1, hr2, hr3⟩ := ll.at hes
  have hmem : r ∈ p :: rs := List.mem_cons_of_mem _ (List.mem_of_getElem? hr1)
  refine .inl ⟨p, rs.map .ref, k, .ref r, rfl, rfl, .of hp, atI_front k0 (by rw [List.getElem?_map, hr1] <;> rfl), ?_⟩
  refine ⟨tv_list hr2, ?_⟩
  refine he s.rel q1 _ (fun y d B2 H2 τ2 F2 q2 n2 d2 => ?_) okNoR
  obtain ⟨f1, f2, f3⟩ := s.frame n2
  have hr4 : H2 r = some (.lst xs) := by rw [f1 r hmem]; exact hr2
  refine ⟨r, xs, y, rfl, rfl, hr4, by rw [hr3.length, sizeLine_eq]; omega, ?_⟩
  have nd2 := (List.nodup_cons.mp nd)
  have hpr : p ≠ r := fun q => nd2.1 (q ▸ List.mem_of_getElem? hr1)
  obtain ⟨F3, n3⟩ := s.back (t' := .o2 (dss.set k.toNat (es ++ [d]))) (H'' := upd H2 r (.lst (xs ++ [y]))) n2 q2.1 (fun a z => upd_ne fun q => z (q ▸ hmem)) (.o2 (by rw [upd_ne hpr, f1 p List.mem_cons_self]; exact hp) ((ll.mono n2.s.b fun a z => f1 a (List.mem_cons_of_mem _ z)).put nd2.2 hr1 ((hr3.mono n2.s.b).append (.cons d2 .nil)))) (fun _ q => nomatch q)
  exact hq _ _ _ _ _ _ q2.2 (n1.trans n3) .non
end
/-! ### instances -/
def putO (f : Str) (o : O) : List (Str × O) → List (Str × O)
  | [] => [(f, o)]
  | (g, x) :: r => if g = f then (g, o) :: r else (g, x) :: putO f o r
def T.toO : T → Option O
  | .fr d => some (.fr d)
  | .ow false ds => some (.ol ds)
  | .o2 dss => some (.o2 dss)
  | _ => none
section
variable {K : Kc} {B H : Hp}
theorem Ow.toO {v : V} {t : T} {f : List Addr} {o : O} (h : Ow K B H v t f) (e : t.toO = some o) : OwO K B H v o f := by
  cases h with
  | fr d => cases e; exact .fr d
  | @ow _ _ _ l a b =>
    cases l with
    | false => cases e; exact .ol a b
    | true => cases e
  | o2 a b => cases e; exact .o2 a b
  | oi a b => cases e
theorem OwF.length {vs : List (Str × V)} {os : List (Str × O)} {F : List Addr} (h : OwF K B H vs os F) : vs.length = os.length := by
  induction h with
  | nil => rfl
  | cons _ _ ih => exact congrArg (· + 1) ih
theorem OwF.lookN {vs : List (Str × V)} {os : List (Str × O)} {F : List Addr} {n : Str} (h : OwF K B H vs os F) : os.lookup n = none → vs.lookup n = none := by
  induction h with
  | nil => exact fun _ => rfl
  | @cons m v o f g vs os _ _ ih =>
    intro e
    rw [List.lookup_cons] at e ⊢
    cases q : n == m with
    | true => rw [q] at e; cases e
    | false => rw [q] at e; exact ih e
/-- field n, apart from the others -/
theorem OwF.focus {vs : List (Str × V)} {os : List (Str × O)} {F : List Addr} {n : Str} {o : O} (h : OwF K B H vs os F) : os.lookup n = some o → ∃ v F1 g F2, vs.lookup n = some v ∧ OwO K B H v o g ∧ F = F1 ++ (g ++ F2) ∧
    ∀ (B' H' : Hp) (v' : V) (o' : O) (g' : List Addr), Ex B B' → (∀ a ∈ F1 ++ F2, H' a = H a) → OwO K B' H' v' o' g' → OwF K B' H' (putF n v' vs) (putO n o' os) (F1 ++ (g' ++ F2)) := by
  induction h with
  | nil => intro e; cases e
  | @cons m v0 o0 f0 g0 vs os ho hr ih =>
    intro e
    rw [List.lookup_cons] at e
    cases q : n == m with
    | true =>
      rw [q] at e
      cases e
      have nm : n = m := by simpa using q
      subst nm
      refine ⟨v0, [], f0, g0, by rw [List.lookup_cons, q], ho, rfl, fun B' H' v' o' g' e k w => ?_⟩
      unfold putF putO
      rw [if_pos rfl, if_pos rfl]
      show OwF K B' H' _ _ (g' ++ g0)
      exact .cons w (hr.mono e fun a z => k a (by simpa using z))
    | false =>
      rw [q] at e
      have nm : ¬ m = n := fun z => by rw [z, beq_self_eq_true] at q; cases q
      obtain ⟨v, F1, g, F2, h1, h2, h3, h4⟩ := ih e
      refine ⟨v, f0 ++ F1, g, F2, by rw [List.lookup_cons, q]; exact h1, h2, by rw [h3, List.append_assoc], fun B' H' v' o' g' e k w => ?_⟩
      unfold putF putO
      rw [if_neg nm, if_neg nm, List.append_assoc]
      exact .cons (ho.mono e fun a z => k a (by simp [z])) (h4 B' H' v' o' g' e (fun a z => k a (by
        simp only [List.mem_append] at z ⊢
        rcases z with z | z
        · exact .inl (.inr z)
        · exact .inr z)) w)
/-- a field that is new -/
theorem OwF.snoc {vs : List (Str × V)} {os : List (Str × O)} {F : List Addr} {n : Str} {v : V} {o : O} {g : List Addr} (h : OwF K B H vs os F) (w : OwO K B H v o g) : os.lookup n = none → OwF K B H (putF n v vs) (putO n o os) (F ++ g) := by
  induction h with
  | nil =>
    intro _
    have := OwF.cons (n := n) w .nil
    rw [List.append_nil] at this
    exact this
  | @cons m v0 o0 f0 g0 vs os ho hr ih =>
    intro e
    rw [List.lookup_cons] at e
    cases q : n == m with
    | true => rw [q] at e; cases e
    | false =>
      rw [q] at e
      have nm : ¬ m = n := fun z => by rw [z, beq_self_eq_true] at q; cases q
      unfold putF putO
      rw [if_neg nm, if_neg nm, List.append_assoc]
      exact .cons ho (ih e)
theorem putF_same {n : Str} {v : V} : ∀ {vs : List (Str × V)}, vs.lookup n = some v → putF n v vs = vs
  | [], e => nomatch e
  | (m, x) :: r, e => by
    rw [List.lookup_cons] at e
    unfold putF
    cases q : n == m with
    | true =>
      rw [q] at e
      cases e
      have nm : n = m := by simpa using q
      rw [if_pos nm.symm]
    | false =>
      rw [q] at e
      have nm : ¬ m = n := fun z => by rw [z, beq_self_eq_true] at q; cases q
      rw [if_neg nm, putF_same e]
/-- field n given what v, o tell, with what it owned before or without -/
theorem OwF.put {vs : List (Str × V)} {os : List (Str × O)} {F : List Addr} {n : Str} {v : V} {o : O} {g : List Addr} (h : OwF K B H vs os F) (w : OwO K B H v o g) (nd : F.Nodup) (ng : g.Nodup) (ap : ∀ a ∈ g, a ∉ F) :
    ∃ F', OwF K B H (putF n v vs) (putO n o os) F' ∧ F'.Nodup ∧ ∀ a ∈ F', a ∈ F ∨ a ∈ g := by
  cases q : os.lookup n with
  | none => exact ⟨F ++ g, h.snoc w q, by rw [List.nodup_append]; exact ⟨nd, ng, fun a ha b hb e => ap b hb (e ▸ ha)⟩, fun a z => List.mem_append.mp z⟩
  | some o0 =>
    obtain ⟨v0, F1, g0, F2, _, _, rfl, h4⟩ := h.focus q
    refine ⟨F1 ++ (g ++ F2), h4 B H v o g (Ex.refl _) (fun _ _ => rfl) w, ?_, fun a z => ?_⟩
    · simp only [List.nodup_append, List.mem_append] at nd ap ⊢
      refine ⟨nd.1, ⟨ng, nd.2.1.2.1, fun a ha b hb e => ap a ha (.inr (.inr (e ▸ hb)))⟩, fun a ha b hb e => ?_⟩
      rcases hb with hb | hb
      · exact ap b hb (.inl (e ▸ ha))
      · exact nd.2.2 a ha b (.inr hb) e
    · simp only [List.mem_append] at z ⊢
      rcases z with z | z | z
      · exact .inl (.inl z)
      · exact .inr z
      · exact .inl (.inr (.inr z))
end
end EC
/-! EC13: fields of an instance in a slot: read, set, changed. -/
namespace EC
open PySem PySem.Spec PyProof.Rows L2 RZ
section
variable {K : Kc} {B H : Hp} {σ : L2.St} {τ : Env} {F : List Addr} {i c : Nat} {l : Bool} {fs : List (Str × O)}
/-- an instance's slot, apart from the others -/
theorem Rel.inst (r : Rel K B H σ τ F) (h : τ[i]? = some (some (.oi l c fs))) : ∃ (p dx : Addr) (vs : List (Str × V)) (fF G : List Addr), σ[i]? = some (some (.ref p)) ∧ H p = some (.ins (K.cl c) dx vs) ∧ OwF K B H vs fs fF ∧ (p :: fF).Nodup ∧ (∀ a ∈ p :: fF, a ∉ G ∧ B a = none) ∧ (∀ a, a ∈ F ↔ a ∈ p :: fF ∨ a ∈ G) ∧
    ∀ (B' H' : Hp) (vs' : List (Str × V)) (fs' : List (Str × O)) (fF' : List Addr), Ex B B' → Ex B' H' → (∀ a ∈ G, H' a = H a ∧ B' a = none) → H' p = some (.ins (K.cl c) dx vs') → OwF K B' H' vs' fs' fF' → (p :: fF').Nodup → (∀ a ∈ p :: fF', a ∉ G ∧ B' a = none) →
      ∃ F', Rel K B' H' σ (τ.set i (some (.oi l c fs'))) F' ∧ (∀ a, a ∈ F' ↔ a ∈ p :: fF' ∨ a ∈ G) ∧ Lent σ τ σ (τ.set i (some (.oi l c fs'))) := by
  obtain ⟨v, F1, f, F2, h1, h2, h3, h4⟩ := r.sl.focus h
  subst h3
  cases h2 with
  | @oi p dx _ _ vs _ fF hp hf =>
  have nd := r.nd
  simp only [List.nodup_append, List.mem_append] at nd
  have mem : ∀ {gF : List Addr} (a : Addr), a ∈ F1 ++ (p :: gF ++ F2) ↔ a ∈ p :: gF ∨ a ∈ F1 ++ F2 := fun a => by
    simp only [List.mem_append]
    constructor
    · rintro (z | z | z)
      · exact .inr (.inl z)
      · exact .inl z
      · exact .inr (.inr z)
    · rintro (z | z | z)
      · exact .inr (.inl z)
      · exact .inl z
      · exact .inr (.inr z)
  refine ⟨p, dx, vs, fF, F1 ++ F2, h1, hp, hf, nd.2.1.1, fun a z => ⟨fun y => ?_, r.df a ((mem a).mpr (.inl z))⟩, mem, fun B' H' vs' fs' fF' e1 e2 k1 k2 k3 k4 k5 => ?_⟩
  · rcases List.mem_append.mp y with y | y
    · exact nd.2.2 a y a (.inl z) rfl
    · exact nd.2.1.2.2 a z a y rfl
  · have sl := h4 B' H' (some (.ref p)) (some (.oi l c fs')) (p :: fF') e1 (fun a z => (k1 a z).1) (.inr ⟨_, _, rfl, rfl, .oi k2 k3⟩)
    rw [set_same h1] at sl
    refine ⟨F1 ++ (p :: fF' ++ F2), ⟨e2, sl, ?_, fun a z => ?_⟩, mem, ?_⟩
    · rw [List.nodup_append, List.nodup_append]
      refine ⟨nd.1, ⟨k4, nd.2.1.2.1, fun a ha b hb e => (k5 a ha).1 (List.mem_append_right _ (e ▸ hb))⟩, fun a ha b hb e => ?_⟩
      rcases List.mem_append.mp hb with hb | hb
      · exact (k5 b hb).1 (List.mem_append_left _ (e ▸ ha))
      · exact nd.2.2 a ha b (.inr hb) e
    · rcases (mem a).mp z with z | z
      · exact (k5 a z).2
      · exact (k1 a z).2
    · have ll := Lent.set (σ := σ) (o := some (.ref p)) (t := some (.oi l c fs')) h fun u k q1 q2 => by
        cases q1
        refine ⟨h1, _, rfl, ?_⟩
        cases l
        · cases q2
        · exact q2
      rw [set_same h1] at ll
      exact ll
/-- a field's list of a slot laid aside -/
theorem Aside.lst {v : V} {f G : List Addr} {n : Str} {ds : List D} (s : Aside K B H σ τ F i (.oi l c fs) v f G) (h : fs.lookup n = some (.ol ds)) :
    ∃ (p dx : Addr) (vs : List (Str × V)) (r : Addr) (xs : List V), v = .ref p ∧ H p = some (.ins (K.cl c) dx vs) ∧ vs.lookup n = some (.ref r) ∧ r ∈ f ∧ H r = some (.lst xs) ∧ DnL K B xs ds ∧
    ∀ B' H', Ex B B' → (∀ a ∈ f, H' a = H a) → ∀ ys es, DnL K B' ys es → Ow K B' (upd H' r (.lst ys)) v (.oi l c (putO n (.ol es) fs)) f := by
  have nd := s.nd
  cases s.ow with
  | @oi p dx _ _ vs _ fF hp hf =>
  obtain ⟨v, F1, g, F2, h1, h2, h3, h4⟩ := hf.focus h
  subst h3
  cases h2 with
  | @ol r xs _ hr dx' =>
  have n1 := List.nodup_cons.mp nd
  have n2 := n1.2
  simp only [List.nodup_append, List.mem_append] at n2
  have hmem : r ∈ F1 ++ ([r] ++ F2) := by simp
  refine ⟨p, dx, vs, r, xs, rfl, hp, h1, List.mem_cons_of_mem _ hmem, hr, dx', fun B' H' e k ys es dy => ?_⟩
  have hpr : p ≠ r := fun q => n1.1 (q ▸ hmem)
  have w := h4 B' (upd H' r (.lst ys)) (.ref r) (.ol es) [r] e (fun a z => by
    have hne : a ≠ r := fun q => by
      rcases List.mem_append.mp z with z | z
      · exact n2.2.2 a z r (.inl (by simp)) q
      · exact n2.2.1.2.2 r (by simp) a z q.symm
    rw [upd_ne hne]
    exact k a (List.mem_cons_of_mem _ (by
      simp only [List.mem_append] at z ⊢
      rcases z with z | z
      · exact .inl z
      · exact .inr (.inr z)))) (.ol upd_same dy)
  rw [putF_same h1] at w
  exact .oi (by rw [upd_ne hpr, k p List.mem_cons_self]; exact hp) w
/-- .. a field's list of lists -/
theorem Aside.o2 {v : V} {f G : List Addr} {n : Str} {dss : List (List D)} {k : Nat} {ds : List D} (s : Aside K B H σ τ F i (.oi l c fs) v f G) (h : fs.lookup n = some (.o2 dss)) (hk : dss[k]? = some ds) :
    ∃ (p dx : Addr) (vs : List (Str × V)) (q : Addr) (rs : List Addr) (r : Addr) (xs : List V), v = .ref p ∧ H p = some (.ins (K.cl c) dx vs) ∧ vs.lookup n = some (.ref q) ∧ H q = some (.lst (rs.map .ref)) ∧ rs[k]? = some r ∧ r ∈ f ∧ H r = some (.lst xs) ∧ DnL K B xs ds ∧
    ∀ B' H', Ex B B' → (∀ a ∈ f, H' a = H a) → ∀ ys es, DnL K B' ys es → Ow K B' (upd H' r (.lst ys)) v (.oi l c (putO n (.o2 (dss.set k es)) fs)) f := by
  have nd := s.nd
  cases s.ow with
  | @oi p dx _ _ vs _ fF hp hf =>
  obtain ⟨v, F1, g, F2, h1, h2, h3, h4⟩ := hf.focus h
  subst h3
  cases h2 with
  | @o2 q rs _ hq ll =>
  obtain ⟨r, xs, hr1, hr2, hr3⟩ := ll.at hk
  have n1 := List.nodup_cons.mp nd
  have n2 := n1.2
  have hrs : r ∈ rs := List.mem_of_getElem? hr1
  simp only [List.nodup_append] at n2
  have n3 := List.nodup_cons.mp n2.2.1.1
  have hmem : r ∈ F1 ++ (q :: rs ++ F2) := by simp [hrs]
  refine ⟨p, dx, vs, q, rs, r, xs, rfl, hp, h1, hq, hr1, List.mem_cons_of_mem _ hmem, hr2, hr3, fun B' H' e kk ys es dy => ?_⟩
  have hpr : p ≠ r := fun z => n1.1 (z ▸ hmem)
  have hqr : q ≠ r := fun z => n3.1 (z ▸ hrs)
  have at_ : ∀ a, a ∈ F1 ++ (q :: rs ++ F2) → H' a = H a := fun a z => kk a (List.mem_cons_of_mem _ z)
  have w := h4 B' (upd H' r (.lst ys)) (.ref q) (.o2 (dss.set k es)) (q :: rs) e (fun a z => by
    have hne : a ≠ r := fun y => by
      rcases List.mem_append.mp z with z | z
      · exact n2.2.2 a z r (by simp [hrs]) y
      · exact n2.2.1.2.2 r (by simp [hrs]) a z y.symm
    rw [upd_ne hne]
    exact at_ a (by
      simp only [List.mem_append] at z ⊢
      rcases z with z | z
      · exact .inl z
      · exact .inr (.inr z))) (.o2 (by rw [upd_ne hqr, at_ q (by simp)]; exact hq) ((ll.mono e fun a z => at_ a (by simp [z])).put n3.2 hr1 dy))
  rw [putF_same h1] at w
  exact .oi (by rw [upd_ne hpr, kk p List.mem_cons_self]; exact hp) w
end
/-! ### x.f read -/
def dFldV (P : Nat → Prop) (i : Nat) (f : Str) : DE := fun τ Q R => match τ[i]? with
  | some (some (.fr (.ins c fs))) => P c ∧ match fs.lookup f with
    | some d => Q d τ
    | none => False
  | some (some (.oi l c fs)) => P c ∧ match fs.lookup f with
    | some (.fr d) => Q d τ
    | some o => Q o.frz (τ.set i (some (.oi l c (putO f (.fr o.frz) fs))))
    | none => False
  | _ => False
section
variable {K : Kc} {B H : Hp} {σ : L2.St} {τ : Env} {F : List Addr} {i c : Nat} {l : Bool} {fs : List (Str × O)} {f : Str} {o : O}
/-- a field of a slot's instance, shut -/
theorem Rel.shutF (r : Rel K B H σ τ F) (h : τ[i]? = some (some (.oi l c fs))) (hf : fs.lookup f = some o) :
    ∃ (p dx : Addr) (vs : List (Str × V)) (v : V) (B' : Hp) (F' : List Addr), σ[i]? = some (some (.ref p)) ∧ H p = some (.ins (K.cl c) dx vs) ∧ vs.lookup f = some v ∧ Dn K B' v o.frz ∧ Nx K B H σ τ F B' H σ (τ.set i (some (.oi l c (putO f (.fr o.frz) fs)))) F' [] := by
  obtain ⟨p, dx, vs, fF, G, h1, h2, h3, h4, h5, h6, h7⟩ := r.inst h
  obtain ⟨v, F1, g, F2, k1, k2, k3, k4⟩ := h3.focus hf
  subst k3
  have n1 := List.nodup_cons.mp h4
  have n2 := n1.2
  simp only [List.nodup_append, List.mem_append] at n2
  have gin : ∀ a ∈ g, a ∈ p :: (F1 ++ (g ++ F2)) := fun a z => by simp [z]
  have df : ∀ a ∈ g, B a = none := fun a z => (h5 a (gin a z)).2
  have eb : Ex B (shutB B H g) := shutB_ex df
  have dn : Dn K (shutB B H g) v o.frz := k2.dn eb fun a z => shutB_at z
  have off : ∀ a, a ∉ g → B a = none → shutB B H g a = none := fun a z y => by
    unfold shutB
    rw [if_neg z]
    exact y
  have w := k4 (shutB B H g) H v (.fr o.frz) [] eb (fun _ _ => rfl) (.fr dn)
  rw [putF_same k1, List.nil_append] at w
  have sub : ∀ a ∈ p :: (F1 ++ F2), a ∈ p :: (F1 ++ (g ++ F2)) ∧ a ∉ g := fun a z => by
    simp only [List.mem_cons, List.mem_append] at z ⊢
    rcases z with z | z | z
    · exact ⟨.inl z, fun y => n1.1 (by rw [← z]; simp [y])⟩
    · exact ⟨.inr (.inl z), fun y => n2.2.2 a z a (.inl y) rfl⟩
    · exact ⟨.inr (.inr (.inr z)), fun y => n2.2.1.2.2 a y a z rfl⟩
  obtain ⟨F', q1, q2, q3⟩ := h7 (shutB B H g) H vs _ (F1 ++ F2) eb (shutB_le r.ex) (fun a z => ⟨rfl, off a (fun y => (h5 a (gin a y)).1 z) (r.df a ((h6 a).mpr (.inr z)))⟩) h2 w (by
    rw [List.nodup_cons]
    refine ⟨fun z => n1.1 ?_, ?_⟩
    · simp only [List.mem_append] at z ⊢
      rcases z with z | z
      · exact .inl z
      · exact .inr (.inr z)
    · rw [List.nodup_append]
      exact ⟨n2.1, n2.2.1.2.1, fun a ha b hb => n2.2.2 a ha b (.inr hb)⟩) (fun a z => ⟨(h5 a (sub a z).1).1, off a (sub a z).2 (h5 a (sub a z).1).2⟩)
  refine ⟨p, dx, vs, v, shutB B H g, F', h1, h2, k1, dn, q1, ⟨eb, fun a u e _ => e, fun a z => ?_, fun a u e => ?_⟩, q3⟩
  · rw [List.append_nil] at z
    rcases (q2 a).mp z with z | z
    · exact .inl ((h6 a).mpr (.inl (sub a z).1))
    · exact .inl ((h6 a).mpr (.inr z))
  · by_cases z : a ∈ g
    · exact .inr (.inl ((h6 a).mpr (.inl (gin a z))))
    · unfold shutB at e
      rw [if_neg z] at e
      exact .inl ⟨u, e⟩
end
section
variable {Γ : Gm} {e j : Expr} {t : DT} {te tj : DE} {i : Nat} {x f : Str} {P : Nat → Prop} {p' pos' spos apos pos : Pos}
theorem SE.fldV (hf : HasF Γ.K P f) (hN : Γ.N[i]? = some x := by rfl) (hv : Vis Γ.sc x := by first | exact Or.inl rfl | exact Or.inr (Or.inl rfl) | exact Or.inr (Or.inr rfl)) (hb : ∀ env : PySem.Env, attributeBase (.Name x p') f env (eval (.Name x p') env) = eval (.Name x p') env := by intros; rfl) (hd : (x == ("__debug__" : Str)) = false := by decide) (hcd : (x == ("__classdict__" : Str)) = false := by decide) : SE Γ (.Attribute (.Name x p') f pos) (dFldV P i f) := by
  intro B H σ τ F Q R hr q QV hq hR
  refine ⟨tFld Γ.K.K (tVar i) f, fun X hX => by rw [← hX.K]; exact pe_fld (pe_var (by rw [hX.N]; exact hN) (by rw [hX.sc]; exact hv) hd hcd) (hb _), ?_⟩
  unfold dFldV at q
  split at q
  · rename_i c fs h
    obtain ⟨v, F1, g, F2, h1, h2, _, _⟩ := hr.sl.focus h
    cases h2 with
    | fr d =>
    cases d with
    | @ins a dx _ vs _ g1 r1 =>
    obtain ⟨hc, q⟩ := q
    split at q
    · rename_i d hd'
      obtain ⟨u, k1, k2⟩ := r1.look hd'
      exact ⟨_, h1, a, _, dx, vs, u, rfl, hr.ex _ _ g1, hf.cls c hc, hf.non c hc, k1, hq _ _ B H τ F q (Nx.refl hr) k2⟩
    · exact q.elim
  · rename_i l c fs h
    obtain ⟨hc, q⟩ := q
    split at q
    · rename_i d hd'
      obtain ⟨p, dx, vs, fF, G, h1, h2, h3, _⟩ := hr.inst h
      obtain ⟨v, F1, g, F2, k1, k2, _, _⟩ := h3.focus hd'
      cases k2 with
      | fr k2 => exact ⟨_, h1, p, _, dx, vs, v, rfl, h2, hf.cls c hc, hf.non c hc, k1, hq _ _ B H τ F q (Nx.refl hr) k2⟩
    · rename_i o _ ho
      obtain ⟨p, dx, vs, v, B', F', h1, h2, h3, h4, h5⟩ := hr.shutF h ho
      exact ⟨_, h1, p, _, dx, vs, v, rfl, h2, hf.cls c hc, hf.non c hc, h3, hq _ _ B' H _ F' q h5 h4⟩
    · exact q.elim
  · exact q.elim
/-! ### x.f = e -/
def dSetF (P : Nat → Prop) (i : Nat) (f : Str) (t : DT) : DS := fun E τ => t τ (fun u τ1 => ∃ l c fs o, τ1[i]? = some (some (.oi l c fs)) ∧ P c ∧ fs.length < 1000 ∧ u.toO = some o ∧ E.nx (τ1.set i (some (.oi l c (putO f o fs))))) E.ex
theorem SS.setF (hf : HasF Γ.K P f) (he : ST Γ e t) (hN : Γ.N[i]? = some x := by rfl) (hv : Vis Γ.sc x := by first | exact Or.inl rfl | exact Or.inr (Or.inl rfl) | exact Or.inr (Or.inr rfl)) (hs : ∀ env : PySem.Env, swapsWith e (some (.Attribute (.Name x p') f pos')) pos.line env = pure false := by intros; rfl) (hd : (x == ("__debug__" : Str)) = false := by decide) (hcd : (x == ("__classdict__" : Str)) = false := by decide) : SS Γ (.Assign [.Attribute (.Name x p') f pos'] e pos) (dSetF P i f t) := by
  intro B H σ τ F E hr ht D hD hR
  refine ⟨sFld Γ.K.K (tVar i) (We Γ e) f, fun X hX => by rw [← hX.K]; exact ps_fld (pe_var (by rw [hX.N]; exact hN) (by rw [hX.sc]; exact hv) hd hcd) (We.pe hX.toIn) (hs _), ?_⟩
  refine he hr ht _ (fun v u g B1 H1 τ1 F1 q n o nd df => ?_) hR
  obtain ⟨l, c, fs, oo, h, hc, hl, ho, q⟩ := q
  obtain ⟨p, dx, vs, fF, G, h1, h2, h3, h4, h5, h6, h7⟩ := n.rel.inst h
  refine ⟨_, h1, p, _, dx, vs, rfl, h2, hf.cls c hc, hf.non c hc, by rw [h3.length]; exact hl, ?_⟩
  have o' := o.toO ho
  have ndg := List.nodup_append.mp nd
  have apF : ∀ a ∈ g, a ∉ F1 := fun a z y => ndg.2.2 a y a z rfl
  have hpB : B1 p = none := (h5 p List.mem_cons_self).2
  have hpf : ∀ a ∈ fF, a ≠ p := fun a z y => (List.nodup_cons.mp h4).1 (y ▸ z)
  have hpg : ∀ a ∈ g, a ≠ p := fun a z y => apF a z ((h6 a).mpr (.inl (by rw [y]; exact List.mem_cons_self)))
  have w3 : OwF Γ.K B1 (upd H1 p (.ins (Γ.K.cl c) dx (putF f v vs))) vs fs fF := h3.mono (Ex.refl _) fun a z => upd_ne (hpf a z)
  have w4 : OwO Γ.K B1 (upd H1 p (.ins (Γ.K.cl c) dx (putF f v vs))) v oo g := o'.mono (Ex.refl _) fun a z => upd_ne (hpg a z)
  obtain ⟨fF', w5, w6, w7⟩ := w3.put w4 (List.nodup_cons.mp h4).2 ndg.2.1 fun a z y => apF a z ((h6 a).mpr (.inl (List.mem_cons_of_mem _ y)))
  have part : ∀ a ∈ p :: fF', a ∈ p :: fF ∨ a ∈ g := fun a z => by
    rcases List.mem_cons.mp z with z | z
    · exact .inl (by rw [z]; exact List.mem_cons_self)
    · exact (w7 a z).imp_left (List.mem_cons_of_mem _)
  obtain ⟨F', q1, q2, q3⟩ := h7 B1 (upd H1 p (.ins (Γ.K.cl c) dx (putF f v vs))) _ _ fF' (Ex.refl _) (fun a u e => by
      rw [upd_ne fun (y : a = p) => by rw [y, hpB] at e; cases e]
      exact n.rel.ex a u e) (fun a z => ⟨upd_ne fun (y : a = p) => (h5 p List.mem_cons_self).1 (y ▸ z), n.rel.df a ((h6 a).mpr (.inr z))⟩) upd_same w5 (by
      rw [List.nodup_cons]
      refine ⟨fun z => ?_, w6⟩
      rcases w7 p z with y | y
      · exact hpf p y rfl
      · exact hpg p y rfl) (fun a z => by
      rcases part a z with y | y
      · exact h5 a y
      · exact ⟨fun k => apF a y ((h6 a).mpr (.inr k)), df a y⟩)
  refine hD.nx _ _ _ _ F' q ⟨q1, ⟨n.stp.b, fun a u e z => ?_, fun a z => ?_, n.stp.n⟩, n.len.trans q3⟩
  · have hne : a ≠ p := fun y => by
      have inF : p ∈ F1 := (h6 p).mpr (.inl List.mem_cons_self)
      rcases n.stp.f p (List.mem_append_left _ inF) with k | k
      · exact z (y ▸ k)
      · rw [y, k] at e
        cases e
    rw [upd_ne hne]
    exact n.stp.h a u e z
  · rw [List.append_nil] at z
    refine n.stp.f a ?_
    rcases (q2 a).mp z with y | y
    · rcases part a y with y | y
      · exact List.mem_append_left _ ((h6 a).mpr (.inl y))
      · exact List.mem_append_right _ y
    · exact List.mem_append_left _ ((h6 a).mpr (.inr y))
end
end EC
/-! EC14: fields' items, methods, new instances. -/
namespace EC
open PySem PySem.Spec PyProof.Rows L2 RZ
theorem ixN_front {n : Nat} {k : Int} (h0 : 0 ≤ k) (h : k.toNat < n) : ixN n k = some k.toNat := by
  unfold ixN
  rw [if_pos h0, if_pos (by omega)]
/-- x.f[j]: the field shut, or as it stands -/
def dIxF (P : Nat → Prop) (i : Nat) (f : Str) (tj : DE) : DE := fun τ Q R => dOp rIx (dFldV P i f) tj τ Q R ∨
  ∃ l c fs ds, τ[i]? = some (some (.oi l c fs)) ∧ P c ∧ fs.lookup f = some (.ol ds) ∧ tj (τ.set i none) (fun j τ1 => setOk τ1 i ∧ rIx (.lst ds) j fun z => Q z (τ1.set i (some (.oi l c fs)))) noR
def dSetIxF (P : Nat → Prop) (i : Nat) (f : Str) (te tj : DE) : DS := fun E τ => te τ (fun d τ1 => ∃ l c fs ds, τ1[i]? = some (some (.oi l c fs)) ∧ P c ∧ fs.lookup f = some (.ol ds) ∧
  tj (τ1.set i none) (fun j τ2 => ∃ k, j = .int k ∧ 0 ≤ k ∧ k.toNat < ds.length ∧ setOk τ2 i ∧ E.nx (τ2.set i (some (.oi l c (putO f (.ol (ds.set k.toNat d)) fs))))) noR) E.ex
def dAppF (P : Nat → Prop) (i : Nat) (f : Str) (te : DE) : DE := fun τ Q R => ∃ l c fs ds, τ[i]? = some (some (.oi l c fs)) ∧ P c ∧ fs.lookup f = some (.ol ds) ∧ ds.length ≤ 1000000 ∧
  te (τ.set i none) (fun d τ1 => setOk τ1 i ∧ Q .non (τ1.set i (some (.oi l c (putO f (.ol (ds ++ [d])) fs))))) noR
def dAppIxF (P : Nat → Prop) (i : Nat) (f : Str) (tj te : DE) : DE := fun τ Q R => ∃ l c fs dss, τ[i]? = some (some (.oi l c fs)) ∧ P c ∧ fs.lookup f = some (.o2 dss) ∧
  tj (τ.set i none) (fun j τ1 => ∃ k es, j = .int k ∧ 0 ≤ k ∧ dss[k.toNat]? = some es ∧ es.length ≤ 1000000 ∧
    te τ1 (fun d τ2 => setOk τ2 i ∧ Q .non (τ2.set i (some (.oi l c (putO f (.o2 (dss.set k.toNat (es ++ [d]))) fs))))) noR) noR
theorem kind_oi {l : Bool} {c : Nat} {fs gs : List (Str × O)} : ∀ k, (T.oi l c fs).kind = some k → (T.oi l c gs).kind = some k := fun k h => by
  cases l
  · cases h
  · exact h
section
variable {Γ : Gm} {e j : Expr} {t : DT} {te tj : DE} {i : Nat} {x f : Str} {P : Nat → Prop} {p' pos' spos apos bpos pos : Pos}
theorem fldV_read (hf : HasF Γ.K P f) {B H : Hp} {σ : L2.St} {τ : Env} {F : List Addr} {Q : D → Env → Prop} {R : RX} (hr : Rel Γ.K B H σ τ F) (q : dFldV P i f τ Q R) {QV : VK} (hq : OkD Γ.K B H σ τ F Q QV) : tFld Γ.K.K (tVar i) f σ H QV := by
  unfold dFldV at q
  split at q
  · rename_i c fs h
    obtain ⟨v, F1, g, F2, h1, h2, _, _⟩ := hr.sl.focus h
    cases h2 with
    | fr d =>
    cases d with
    | @ins a dx _ vs _ g1 r1 =>
    obtain ⟨hc, q⟩ := q
    split at q
    · rename_i d hd'
      obtain ⟨u, k1, k2⟩ := r1.look hd'
      exact ⟨_, h1, a, _, dx, vs, u, rfl, hr.ex _ _ g1, hf.cls c hc, hf.non c hc, k1, hq _ _ B H τ F q (Nx.refl hr) k2⟩
    · exact q.elim
  · rename_i l c fs h
    obtain ⟨hc, q⟩ := q
    split at q
    · rename_i d hd'
      obtain ⟨p, dx, vs, fF, G, h1, h2, h3, _⟩ := hr.inst h
      obtain ⟨v, F1, g, F2, k1, k2, _, _⟩ := h3.focus hd'
      cases k2 with
      | fr k2 => exact ⟨_, h1, p, _, dx, vs, v, rfl, h2, hf.cls c hc, hf.non c hc, k1, hq _ _ B H τ F q (Nx.refl hr) k2⟩
    · rename_i o _ ho
      obtain ⟨p, dx, vs, v, B', F', h1, h2, h3, h4, h5⟩ := hr.shutF h ho
      exact ⟨_, h1, p, _, dx, vs, v, rfl, h2, hf.cls c hc, hf.non c hc, h3, hq _ _ B' H _ F' q h5 h4⟩
    · exact q.elim
  · exact q.elim
theorem SE.ixF (hf : HasF Γ.K P f) (hj : SE Γ j tj) (hN : Γ.N[i]? = some x := by rfl) (hv : Vis Γ.sc x := by first | exact Or.inl rfl | exact Or.inr (Or.inl rfl) | exact Or.inr (Or.inr rfl)) (hb : ∀ env : PySem.Env, attributeBase (.Name x p') f env (eval (.Name x p') env) = eval (.Name x p') env := by intros; rfl) (hs : ∀ o i, subscripted j false o i = operate [o, i] (getItem o i) := by intros; rfl) (hd : (x == ("__debug__" : Str)) = false := by decide) (hcd : (x == ("__classdict__" : Str)) = false := by decide) : SE Γ (.Subscript (.Attribute (.Name x p') f apos) j pos) (dIxF P i f tj) := by
  intro B H σ τ F Q R hr ht QV hq hR
  refine ⟨tOp (L2.rIx Γ.K.K) (tFld Γ.K.K (tVar i) f) (We Γ j), fun X hX => by rw [← hX.K]; exact pe_ix ix_seq (pe_fld (pe_var (by rw [hX.N]; exact hN) (by rw [hX.sc]; exact hv) hd hcd) (hb _)) (We.pe hX) hs, ?_⟩
  rcases ht with ht | ⟨l, c, fs, ds, h, hc, hl, ht⟩
  · refine fldV_read hf hr ht (fun y u B1 H1 τ1 F1 q1 n1 d1 => ?_)
    refine hj n1.rel q1 _ (fun y v B2 H2 τ2 F2 q2 n2 d2 => ?_) (hR.after n1)
    exact ix_core n2.rel.ex (.inl (d1.mono n2.s.b)) d2 q2 fun z d qd dz => hq _ _ B2 H2 τ2 F2 qd (n1.trans n2) dz
  · obtain ⟨v, g, G, s⟩ := hr.aside h
    obtain ⟨p, dx, vs, r, xs, rfl, h1, h2, h3, h4, h5, h6⟩ := s.lst hl
    refine ⟨_, s.at_, p, _, dx, vs, _, rfl, h1, hf.cls c hc, hf.non c hc, h2, ?_⟩
    refine hj s.rel ht _ (fun y v B2 H2 τ2 F2 q2 n2 d2 => ?_) okNoR
    obtain ⟨k1, k2, k3⟩ := s.frame n2
    refine ix_core n2.rel.ex (.inr ⟨r, xs, ds, rfl, rfl, by rw [k1 r h3]; exact h4, h5.mono n2.s.b⟩) d2 q2.2 fun z d qd dz => ?_
    obtain ⟨F3, n3⟩ := s.back (t' := .oi l c fs) (H'' := H2) n2 q2.1 (fun _ _ => rfl) (s.ow.mono n2.s.b k1) (fun _ q => q)
    exact hq _ _ B2 H2 _ F3 qd n3 dz
theorem SS.setIxF (hf : HasF Γ.K P f) (he : SE Γ e te) (hj : SE Γ j tj) (hN : Γ.N[i]? = some x := by rfl) (hv : Vis Γ.sc x := by first | exact Or.inl rfl | exact Or.inr (Or.inl rfl) | exact Or.inr (Or.inr rfl)) (hb : ∀ env : PySem.Env, attributeBase (.Name x p') f env (eval (.Name x p') env) = eval (.Name x p') env := by intros; rfl) (hs : ∀ env : PySem.Env, swapsWithSole [.Subscript (.Attribute (.Name x p') f apos) j pos'] e pos.line env = pure false := by intros; rfl) (hw : ∀ env : PySem.Env, swappedStores [.Subscript (.Attribute (.Name x p') f apos) j pos'] e env = pure none := by intros; rfl) (h1 : ∀ env : PySem.Env, (assignEach [.Subscript (.Attribute (.Name x p') f apos) j pos'] env).map (·.2) = [assign (.Subscript (.Attribute (.Name x p') f apos) j pos') env] := by intros; rfl) (ha : ∀ (env : PySem.Env) v, assign (.Subscript (.Attribute (.Name x p') f apos) j pos') env v = (do
      let ov ← holding [v] (eval (.Attribute (.Name x p') f apos) env)
      let iv ← holding [v, ov] (eval j env)
      standAt pos'; holding [v, ov, iv] (setItem ov iv v)
      release [v, ov, iv] []) := by intros; rfl) (hd : (x == ("__debug__" : Str)) = false := by decide) (hcd : (x == ("__classdict__" : Str)) = false := by decide) : SS Γ (.Assign [.Subscript (.Attribute (.Name x p') f apos) j pos'] e pos) (dSetIxF P i f te tj) := by
  intro B H σ τ F E hr ht D hD hR
  refine ⟨tAsg (We Γ e) (gSub (tFld Γ.K.K (tVar i) f) (We Γ j) rSetL), fun X hX => by rw [← hX.K]; exact ps_asg (We.pe hX.toIn) (pg_sub (pe_fld (pe_var (by rw [hX.N]; exact hN) (by rw [hX.sc]; exact hv) hd hcd) (hb _)) (We.pe hX.toIn) set_list (ha _)) (hs _) (hw _) (h1 _), ?_⟩
  refine he hr ht _ (fun v d B1 H1 τ1 F1 q n d1 => ?_) hR
  obtain ⟨l, c, fs, ds, h, hc, hl, q⟩ := q
  obtain ⟨u, g, G, s⟩ := n.rel.aside h
  obtain ⟨p, dx, vs, r, xs, rfl, k1, k2, k3, k4, k5, k6⟩ := s.lst hl
  refine ⟨_, s.at_, p, _, dx, vs, _, rfl, k1, hf.cls c hc, hf.non c hc, k2, ?_⟩
  refine hj s.rel q _ (fun w kd B2 H2 τ2 F2 q2 n2 d2 => ?_) okNoR
  obtain ⟨k, rfl, k0, klt, ok, q2⟩ := q2
  cases d2
  obtain ⟨m1, m2, m3⟩ := s.frame n2
  refine ⟨r, xs, k, k.toNat, rfl, rfl, by rw [m1 r k3]; exact k4, ixN_front k0 (by rw [k5.length]; exact klt), ?_⟩
  obtain ⟨F3, n3⟩ := s.back (H'' := upd H2 r (.lst (xs.set k.toNat v))) n2 ok (fun a z => upd_ne fun y => z (y ▸ k3)) (k6 B2 H2 n2.s.b m1 _ _ ((k5.mono n2.s.b).set (d1.mono n2.s.b) k.toNat)) kind_oi
  exact hD.nx _ _ _ _ _ q2 (n.trans n3)
theorem SE.appF (hf : HasF Γ.K P f) (he : SE Γ e te) (hN : Γ.N[i]? = some x := by rfl) (hv : Vis Γ.sc x := by first | exact Or.inl rfl | exact Or.inr (Or.inl rfl) | exact Or.inr (Or.inr rfl)) (hb : ∀ env : PySem.Env, attributeBase (.Name x p') f env (eval (.Name x p') env) = eval (.Name x p') env := by intros; rfl) (hs : ∀ env : PySem.Env, starEach [e] env = (false, eval e env) :: starEach [] env := by intros; rfl) (hbase : ∀ env : PySem.Env, attributeBase (.Attribute (.Name x p') f bpos) "append" env (eval (.Attribute (.Name x p') f bpos) env) = eval (.Attribute (.Name x p') f bpos) env := by intros; rfl) (hline : (apos.endLine == pos.line) = true := by rfl) (hfew : ∀ env : PySem.Env, ((backTo pos (starEach [e] env)).all (fun x => !x.1) && (backToKw pos (keywordEach [] env)).all (fun x => x.1.isSome) && decide (([e] : List Expr).length + ([] : List Keyword).length + (if ([] : List Keyword).isEmpty then 0 else 1) < 30)) = true := by intros; rfl) (hd : (x == ("__debug__" : Str)) = false := by decide) (hcd : (x == ("__classdict__" : Str)) = false := by decide) :
    SE Γ (.Call (.Attribute (.Attribute (.Name x p') f bpos) "append" apos) [e] [] pos) (dAppF P i f te) := by
  intro B H σ τ F Q R hr ht QV hq hR
  refine ⟨tBM Γ.K.K "list" rAppend (tFld Γ.K.K (tVar i) f) (tCons (We Γ e) tNil), fun X hX => by
    rw [← hX.K]
    exact pe_bm PySem.F.plainAttrs_list PySem.F.slot_list_append PySem.F.type_list_append mt_append (pe_fld (pe_var (by rw [hX.N]; exact hN) (by rw [hX.sc]; exact hv) hd hcd) (hb _)) (pa_cons (We.pe hX) pa_nil (hs _)) (hbase _) (hfew _) hline (hs _), ?_⟩
  obtain ⟨l, c, fs, ds, h, hc, hl, hz, ht⟩ := ht
  obtain ⟨u, g, G, s⟩ := hr.aside h
  obtain ⟨p, dx, vs, r, xs, rfl, k1, k2, k3, k4, k5, k6⟩ := s.lst hl
  refine ⟨_, s.at_, p, _, dx, vs, _, rfl, k1, hf.cls c hc, hf.non c hc, k2, tv_list k4, ?_⟩
  refine he s.rel ht _ (fun y d B2 H2 τ2 F2 q2 n2 d2 => ?_) okNoR
  obtain ⟨m1, m2, m3⟩ := s.frame n2
  refine ⟨r, xs, y, rfl, rfl, by rw [m1 r k3]; exact k4, by rw [k5.length, sizeLine_eq]; omega, ?_⟩
  obtain ⟨F3, n3⟩ := s.back (H'' := upd H2 r (.lst (xs ++ [y]))) n2 q2.1 (fun a z => upd_ne fun y => z (y ▸ k3)) (k6 B2 H2 n2.s.b m1 _ _ ((k5.mono n2.s.b).append (.cons d2 .nil))) kind_oi
  exact hq _ _ _ _ _ _ q2.2 n3 .non
theorem SE.appIxF (hf : HasF Γ.K P f) (hj : SE Γ j tj) (he : SE Γ e te) (hN : Γ.N[i]? = some x := by rfl) (hv : Vis Γ.sc x := by first | exact Or.inl rfl | exact Or.inr (Or.inl rfl) | exact Or.inr (Or.inr rfl)) (hb : ∀ env : PySem.Env, attributeBase (.Name x p') f env (eval (.Name x p') env) = eval (.Name x p') env := by intros; rfl) (hs : ∀ env : PySem.Env, starEach [e] env = (false, eval e env) :: starEach [] env := by intros; rfl) (hix : ∀ o i, subscripted j false o i = operate [o, i] (getItem o i) := by intros; rfl) (hbase : ∀ env : PySem.Env, attributeBase (.Subscript (.Attribute (.Name x p') f bpos) j spos) "append" env (eval (.Subscript (.Attribute (.Name x p') f bpos) j spos) env) = eval (.Subscript (.Attribute (.Name x p') f bpos) j spos) env := by intros; rfl) (hline : (apos.endLine == pos.line) = true := by rfl) (hfew : ∀ env : PySem.Env, ((backTo pos (starEach [e] env)).all (fun x => !x.1) && (backToKw pos (keywordEach [] env)).all (fun x => x.1.isSome) && decide (([e] : List Expr).length + ([] : List Keyword).length + (if ([] : List Keyword).isEmpty then 0 else 1) < 30)) = true := by intros; rfl) (hd : (x == ("__debug__" : Str)) = false := by decide) (hcd : (x == ("__classdict__" : Str)) = false := by decide) :
    SE Γ (.Call (.Attribute (.Subscript (.Attribute (.Name x p') f bpos) j spos) "append" apos) [e] [] pos) (dAppIxF P i f tj te) := by
  intro B H σ τ F Q R hr ht QV hq hR
  refine ⟨tBM Γ.K.K "list" rAppend (tOp (L2.rIx Γ.K.K) (tFld Γ.K.K (tVar i) f) (We Γ j)) (tCons (We Γ e) tNil), fun X hX => by
    rw [← hX.K]
    exact pe_bm PySem.F.plainAttrs_list PySem.F.slot_list_append PySem.F.type_list_append mt_append (pe_ix ix_seq (pe_fld (pe_var (by rw [hX.N]; exact hN) (by rw [hX.sc]; exact hv) hd hcd) (hb _)) (We.pe hX) hix) (pa_cons (We.pe hX) pa_nil (hs _)) (hbase _) (hfew _) hline (hs _), ?_⟩
  obtain ⟨l, c, fs, dss, h, hc, hl, ht⟩ := ht
  obtain ⟨u, g, G, s⟩ := hr.aside h
  obtain ⟨p, dx, vs, r0, k0, k1⟩ : ∃ (p dx : Addr) (vs : List (Str × V)) (r0 : Addr), u = .ref p ∧ (H p = some (.ins (Γ.K.cl c) dx vs) ∧ vs.lookup f = some (.ref r0) ∧ ∃ rs : List Addr, H r0 = some (.lst (rs.map V.ref)) ∧ r0 ∈ g ∧ rs.length = dss.length ∧ ∀ a ∈ rs, a ∈ g) := by
    cases s.ow with
    | @oi p dx _ _ vs _ fF hp hf =>
    obtain ⟨v, F1, g, F2, h1, h2, h3, h4⟩ := hf.focus hl
    cases h2 with
    | @o2 q rs _ hq ll => exact ⟨p, dx, vs, q, rfl, hp, h1, rs, hq, by rw [h3]; simp, ll.length, fun a z => by rw [h3]; simp [z]⟩
  obtain ⟨k1, k2, rs, k3, k4, k5, _⟩ := k1
  subst k0
  refine ⟨_, s.at_, p, _, dx, vs, _, rfl, k1, hf.cls c hc, hf.non c hc, k2, ?_⟩
  refine hj s.rel ht _ (fun w kd B1 H1 τ1 F1 q1 n1 d1 => ?_) okNoR
  obtain ⟨k, es, rfl, hk0, hes, hz, q1⟩ := q1
  cases d1
  obtain ⟨p2, dx2, vs2, q, rs2, r, xs, ep, m1, m2, m3, m4, m5, m6, m7, m8⟩ := s.o2 hl hes
  cases ep
  rw [k1] at m1
  cases m1
  rw [k2] at m2
  cases m2
  obtain ⟨w1, w2, w3⟩ := s.frame n1
  refine .inl ⟨r0, rs2.map .ref, k, .ref r, rfl, rfl, .of (by rw [w1 r0 k4]; exact m3), atI_front hk0 (by rw [List.getElem?_map, m4] <;> rfl), ?_⟩
  refine ⟨tv_list (by rw [w1 r m5]; exact m6), ?_⟩
  refine he n1.rel q1 _ (fun y d B2 H2 τ2 F2 q2 n2 d2 => ?_) okNoR
  have n12 := n1.trans n2
  obtain ⟨z1, z2, z3⟩ := s.frame n12
  refine ⟨r, xs, y, rfl, rfl, by rw [z1 r m5]; exact m6, by rw [m7.length, sizeLine_eq]; omega, ?_⟩
  obtain ⟨F3, n3⟩ := s.back (H'' := upd H2 r (.lst (xs ++ [y]))) n12 q2.1 (fun a z => upd_ne fun y => z (y ▸ m5)) (m8 B2 H2 n12.s.b z1 _ _ ((m7.mono n12.s.b).append (.cons d2 .nil))) kind_oi
  exact hq _ _ _ _ _ _ q2.2 n3 .non
end
end EC
/-! EC15: methods of a slot's instance, new instances. -/
namespace EC
open PySem PySem.Spec PyProof.Rows L2 RZ
/-! ### the two rules, what a callee lets out told by the slots -/
section
variable {X : Cx} {CX : CXT} {k : Nat} {g C : Addr} {fd : FuncData} {ps : List Str} {sp : Sp} {W : L2.St → XK} {x m : Str} {p pos apos : Pos} {e o : Expr} {es : List Expr} {ta : TE} {t : TA} {pl : Sem Bool}
def tMethS (C : Addr) (m : Str) (sp : Sp) (W : L2.St → XK) (ta : TE) (t : TA) : TE := fun σ H Q => ta σ H fun v H1 => ∃ a dx fs, v = .ref a ∧ H1 a = some (.ins C dx fs) ∧ fs.lookup m = none ∧ t σ H1 fun vs H2 => sp (v :: vs) H2 Q (W σ)
theorem pe_methX (obj : PE X o ta) (cls : Cls X.K C) (meth : Meth X.K C m g) (F : FnOk X.prog X.w X.K X.mg X.base CX k g fd ps sp) (room : Room k X.A) (bi : Binds X.K fd ps []) (out : ∀ σ, PassesAt CX X σ (W σ)) (args : PA X (e :: es) t)
    (h1 : starEach (e :: es) X.env = (false, eval e X.env) :: starEach es X.env) (h2 : (backTo pos (starEach es X.env)).any (·.1) = false)
    (h3 : eval (.Call (.Attribute o m apos) (e :: es) [] pos) X.env = (do
      let ov ← eval o X.env; standAt apos.atName
      let (f, first) ← holding [ov] (getMethod ov m pl); callWith pos f first (backTo pos (starEach (e :: es) X.env)) (backToKw pos (keywordEach [] X.env)))) :
    PE X (.Call (.Attribute o m apos) (e :: es) [] pos) (tMethS C m sp W ta t) := by
  constructor
  intro pins s σ H Q inv todo
  refine PySem.W.methodCall_KW (pl := pl) (thn (obj.run pins s σ H _ inv todo) fun u s1 got => ?_) h3
  obtain ⟨v, H1, inv1, rv, a, dx, fs, rfl, cell, free, todo1⟩ := got
  cases rv
  refine getmeth_ok inv1 cell cls meth free (PySem.W.callWith_K (first := [.ref a]) (h₀ := X.base) inv.ok.mod.kin meth.kp (thn (args.run pos pins s1 σ H1 _ inv1 todo1) fun us s2 got2 => ?_) h1 h2)
  obtain ⟨vs, H2, inv2, rvs, todo2⟩ := got2
  exact ⟨inv2.kIn, run_fnS (us := .ref a :: us) (vs := .ref a :: vs) F room bi (out σ) inv2 (.cons rfl rvs) todo2⟩
theorem pe_methX0 (obj : PE X o ta) (cls : Cls X.K C) (meth : Meth X.K C m g) (F : FnOk X.prog X.w X.K X.mg X.base CX k g fd ps sp) (room : Room k X.A) (bi : Binds X.K fd ps []) (out : ∀ σ, PassesAt CX X σ (W σ))
    (h3 : eval (.Call (.Attribute o m apos) [] [] pos) X.env = (do
      let ov ← eval o X.env; standAt apos.atName
      let (f, first) ← holding [ov] (getMethod ov m pl); callWith pos f first (backTo pos (starEach [] X.env)) (backToKw pos (keywordEach [] X.env)))) :
    PE X (.Call (.Attribute o m apos) [] [] pos) (tMethS C m sp W ta tNil) := by
  constructor
  intro pins s σ H Q inv todo
  refine PySem.W.methodCall_KW (pl := pl) (thn (obj.run pins s σ H _ inv todo) fun u s1 got => ?_) h3
  obtain ⟨v, H1, inv1, rv, a, dx, fs, rfl, cell, free, todo1⟩ := got
  cases rv
  refine getmeth_ok inv1 cell cls meth free (PySem.W.callWith_K0 (first := [.ref a]) inv1.kIn meth.kp ?_)
  exact run_fnS (us := [.ref a]) (vs := [.ref a]) F room bi (out σ) inv1 (.cons rfl .nil) todo1
def tMakeS (C : Addr) (sp : Sp) (W : L2.St → XK) (t : TA) : TE := fun σ H Q => t σ H fun vs H1 => ∀ a dx, H1 a = none → H1 dx = none → dx ≠ a → sp (.ref a :: vs) (upd (upd H1 dx (.own a)) a (.ins C dx [])) (fun v H2 => v = .non ∧ Q (.ref a) H2) (W σ)
theorem made_run {pins : List (Addr × Obj)} {σ : L2.St} {H : Hp} {s : Shared} {Q : VK} {us : List Value} {vs : List V} (mk : Mk X.K C g) (F : FnOk X.prog X.w X.K X.mg X.base CX k g fd ps sp) (room : Room (k + 1) X.A) (bi : Binds X.K fd ps []) (out : PassesAt CX X σ (W σ)) (inv : Inv X pins σ H s) (rel : Vals vs us)
    (todo : ∀ a dx, H a = none → H dx = none → dx ≠ a → sp (.ref a :: vs) (upd (upd H dx (.own a)) a (.ins C dx [])) (fun v H2 => v = .non ∧ Q (.ref a) H2) (W σ)) :
    wpAny (model X.prog X.w) X.A (call (Value.ref C) us) (EP X pins σ Q) X.xe s := by
  have free : ∀ n, s.heap.objs.size ≤ n → H n = none := fun n le => inv.hok.fresh le
  have now := todo (s.heap.objs.size + 1) s.heap.objs.size (free _ (Nat.le_succ _)) (free _ (Nat.le_refl _)) (Nat.ne_of_lt (Nat.lt_succ_self _))
  have inv2 := Inv.made (C := C) inv
  have rel2 : Vals (V.ref (s.heap.objs.size + 1) :: vs) (Value.ref (s.heap.objs.size + 1) :: us) := .cons rfl rel
  have len : (Value.ref (s.heap.objs.size + 1) :: us).length = ps.length := by rw [← rel2.length, F.len _ _ _ _ now]
  have bind := bi _ (Value.ref (s.heap.objs.size + 1) :: us) inv2.kIn (by rw [List.append_nil]; exact len)
  rw [List.append_nil] at bind
  have runs := F.run _ X.stack _ _ ⟨Value.ref (s.heap.objs.size + 1) :: us, []⟩ _ _ _ (W σ) (room.make C us []) (inv2.env0.make C us []) bind rel2 now
  refine wpAny_call (make_map (f := g) inv.kIn mk.makes mk.init (beq_iff_eq.mp mk.fn) (codeAny_mono runs fun r s' post => ?_))
  match r, post with
  | .error err, post => exact out pins _ _ err s' inv2 post
  | .ok (.ret u), post =>
    obtain ⟨v, H', inv3, rv, ev, todo3⟩ := inv2.after post
    subst ev
    exact ⟨rv, V.ref (s.heap.objs.size + 1), H', inv3, rfl, todo3⟩
  | .ok .next, post => exact False.elim post
  | .ok .brk, post => exact False.elim post
  | .ok .cont, post => exact False.elim post
theorem pe_makeX (mk : Mk X.K C g) (F : FnOk X.prog X.w X.K X.mg X.base CX k g fd ps sp) (room : Room (k + 1) X.A) (gl : Gl X x) (at_ : X.mg x = some (.ref C)) (bi : Binds X.K fd ps []) (out : ∀ σ, PassesAt CX X σ (W σ)) (args : PA X (e :: es) t)
    (hdb : (x == ("__debug__" : Str)) = false) (h1 : starEach (e :: es) X.env = (false, eval e X.env) :: starEach es X.env) (h2 : (backTo pos (starEach es X.env)).any (·.1) = false) : PE X (.Call (.Name x p) (e :: es) [] pos) (tMakeS C sp W t) := by
  constructor
  intro pins s σ H Q inv todo
  refine wpAny_Call_Name_kw (ld_glob inv gl at_ (PySem.W.callWith_K (h₀ := X.base) inv.ok.mod.kin mk.kp (thn (args.run pos pins s σ H _ inv todo) fun us s1 got => ?_) h1 h2) hdb)
  obtain ⟨vs, H1, inv1, rvs, todo1⟩ := got
  exact ⟨inv1.kIn, made_run mk F room bi (out σ) inv1 rvs todo1⟩
end
/-! ### methods, with data -/
structure DfM (P : Program) (w : World) (K : Kc) (mg : Str → Option Value) (base : Heap) (k c : Nat) (m : Str) (ds : DSp) : Prop where
  ex : ∃ k' g fd ps, k' ≤ k ∧ FnOk P w K.K mg base (L2.CX P w) k' g fd ps (SpD K ds) ∧ Cls K.K (K.cl c) ∧ Meth K.K (K.cl c) m g ∧ L2.Binds K.K fd ps []
structure DfC (P : Program) (w : World) (K : Kc) (mg : Str → Option Value) (base : Heap) (k c : Nat) (x : Str) (ds : DSp) : Prop where
  ex : ∃ k' g fd ps, k' + 1 ≤ k ∧ FnOk P w K.K mg base (L2.CX P w) k' g fd ps (SpD K ds) ∧ Mk K.K (K.cl c) g ∧ mg x = some (.ref (K.cl c)) ∧ L2.Binds K.K fd ps []
/-- x.m(e, ..), x a slot with an instance of one's own -/
def dCallM (c : Nat) (m : Str) (i : Nat) (ds : DSp) (ta : DA) : DT := fun τ Q R => (∃ l fs, τ[i]? = some (some (.oi l c fs)) ∧ fs.lookup m = none) ∧ ta τ (fun as τ1 => withT τ1 i fun t => ds (t.lend :: as.map .fr) (fun r ts' => lentQ τ1 i t (Q r) ts') fun x ts' => lentQ τ1 i t (R x) ts') R
/-- C(e, ..) -/
def dMake (c : Nat) (ds : DSp) (ta : DA) : DT := fun τ Q R => ta τ (fun as τ1 => ds (.oi true c [] :: as.map .fr) (fun r ts' => r = .fr .non ∧ ∃ fs us, ts' = .oi true c fs :: us ∧ Q (.oi false c fs) τ1) fun x _ => R x τ1) R
section
variable {Γ : Gm} {x y m : Str} {ds : DSp} {e : Expr} {es : List Expr} {ta : DA} {p py apos pos : Pos} {i c : Nat}
theorem ST.meth (hf : DfM Γ.P Γ.w Γ.K Γ.mg Γ.base Γ.k c m ds) (ha : SA Γ (e :: es) ta) (hca : Γ.calm = true := by rfl) (hN : Γ.N[i]? = some y := by rfl) (hv : Vis Γ.sc y := by first | exact Or.inl rfl | exact Or.inr (Or.inl rfl) | exact Or.inr (Or.inr rfl))
    (h1 : ∀ env : PySem.Env, starEach (e :: es) env = (false, eval e env) :: starEach es env := by intros; rfl) (h2 : ∀ env : PySem.Env, (backTo pos (starEach es env)).any (·.1) = false := by intros; rfl)
    (h3 : ∀ env : PySem.Env, ∃ pl, eval (.Call (.Attribute (.Name y py) m apos) (e :: es) [] pos) env = (do
      let ov ← eval (.Name y py) env; standAt apos.atName
      let (f, first) ← holding [ov] (getMethod ov m pl); callWith pos f first (backTo pos (starEach (e :: es) env)) (backToKw pos (keywordEach [] env))) := by intros; exact ⟨_, rfl⟩)
    (hd : (y == ("__debug__" : Str)) = false := by decide) (hcd : (y == ("__classdict__" : Str)) = false := by decide) : ST Γ (.Call (.Attribute (.Name y py) m apos) (e :: es) [] pos) (dCallM c m i ds ta) := by
  intro B H σ τ F Q R hr ht QV hq hR
  obtain ⟨k, g, fd, ps, hk, hF, hc, hm, hb⟩ := hf.ex
  refine ⟨tMethS (Γ.K.cl c) m (SpD Γ.K ds) (fun σ cls d H => Γ.W cls d σ H) (tVar i) (Wa Γ (e :: es)), fun X hX => ?_, ?_⟩
  · have hF' : FnOk X.prog X.w X.K X.mg X.base (L2.CX X.prog X.w) k g fd ps (SpD Γ.K ds) := by
      rw [hX.P, hX.w, hX.K, hX.mg, hX.base]
      exact hF
    obtain ⟨pl', h3'⟩ := h3 X.env
    exact pe_methX (pl := pl') (pe_var (by rw [hX.N]; exact hN) (by rw [hX.sc]; exact hv) hd hcd) (by rw [hX.K]; exact hc) (by rw [hX.K]; exact hm) hF' ((hX.room hca).mono hk) (by rw [hX.K]; exact hb) (fun σ => passAt hX.tk σ) (Wa.pa hX) (h1 _) (h2 _) h3'
  · obtain ⟨⟨l, fs, h0, hn⟩, ht⟩ := ht
    obtain ⟨a, dx, vs, fF, G, k1, k2, k3, _⟩ := hr.inst h0
    refine ⟨_, k1, a, dx, vs, rfl, k2, k3.lookN hn, ?_⟩
    refine ha hr ht _ (fun xs as B1 H1 τ1 F1 q1 n1 d1 => ?_) hR
    obtain ⟨t, q, h2, hk2, q2⟩ := q1.get
    exact spd_lend n1 h2 hk2 k1 d1 q2 hq hR
theorem ST.meth0 (hf : DfM Γ.P Γ.w Γ.K Γ.mg Γ.base Γ.k c m ds) (hca : Γ.calm = true := by rfl) (hN : Γ.N[i]? = some y := by rfl) (hv : Vis Γ.sc y := by first | exact Or.inl rfl | exact Or.inr (Or.inl rfl) | exact Or.inr (Or.inr rfl))
    (h3 : ∀ env : PySem.Env, ∃ pl, eval (.Call (.Attribute (.Name y py) m apos) [] [] pos) env = (do
      let ov ← eval (.Name y py) env; standAt apos.atName
      let (f, first) ← holding [ov] (getMethod ov m pl); callWith pos f first (backTo pos (starEach [] env)) (backToKw pos (keywordEach [] env))) := by intros; exact ⟨_, rfl⟩)
    (hd : (y == ("__debug__" : Str)) = false := by decide) (hcd : (y == ("__classdict__" : Str)) = false := by decide) : ST Γ (.Call (.Attribute (.Name y py) m apos) [] [] pos) (dCallM c m i ds (fun τ Q _ => Q [] τ)) := by
  intro B H σ τ F Q R hr ht QV hq hR
  obtain ⟨k, g, fd, ps, hk, hF, hc, hm, hb⟩ := hf.ex
  refine ⟨tMethS (Γ.K.cl c) m (SpD Γ.K ds) (fun σ cls d H => Γ.W cls d σ H) (tVar i) tNil, fun X hX => ?_, ?_⟩
  · have hF' : FnOk X.prog X.w X.K X.mg X.base (L2.CX X.prog X.w) k g fd ps (SpD Γ.K ds) := by
      rw [hX.P, hX.w, hX.K, hX.mg, hX.base]
      exact hF
    obtain ⟨pl', h3'⟩ := h3 X.env
    exact pe_methX0 (pl := pl') (pe_var (by rw [hX.N]; exact hN) (by rw [hX.sc]; exact hv) hd hcd) (by rw [hX.K]; exact hc) (by rw [hX.K]; exact hm) hF' ((hX.room hca).mono hk) (by rw [hX.K]; exact hb) (fun σ => passAt hX.tk σ) h3'
  · obtain ⟨⟨l, fs, h0, hn⟩, ht⟩ := ht
    obtain ⟨a, dx, vs, fF, G, k1, k2, k3, _⟩ := hr.inst h0
    refine ⟨_, k1, a, dx, vs, rfl, k2, k3.lookN hn, ?_⟩
    obtain ⟨t, q, h2, hk2, q2⟩ := withT.get ht
    exact spd_lend (Nx.refl hr) h2 hk2 k1 .nil q2 hq hR
theorem fr_foot {K : Kc} {B H : Hp} {v : V} {d : D} {f : List Addr} (o : Ow K B H v (.fr d) f) : f = [] := by
  cases o
  rfl
theorem frs_foot {K : Kc} {B H : Hp} : ∀ {vs : L2.St} {us : List T} {F : List Addr}, Sl K B H vs (us.map some) F → (∀ u ∈ us, ∃ d, u = T.fr d) → F = []
  | _, [], _, .nil, _ => rfl
  | _, u :: us, _, .cons o r, h => by
    obtain ⟨d, rfl⟩ := h u List.mem_cons_self
    rw [fr_foot o, frs_foot r fun u z => h u (List.mem_cons_of_mem _ z)]
    rfl
theorem ST.make (hf : DfC Γ.P Γ.w Γ.K Γ.mg Γ.base Γ.k c x ds) (ha : SA Γ (e :: es) ta) (hca : Γ.calm = true := by rfl) (hg : GlS Γ.sc x := by rfl) (he : ∀ env : PySem.Env, starEach (e :: es) env = (false, eval e env) :: starEach es env := by intros; rfl) (hpl : ∀ env : PySem.Env, (backTo pos (starEach es env)).any (·.1) = false := by intros; rfl) (hdb : (x == ("__debug__" : Str)) = false := by decide) : ST Γ (.Call (.Name x p) (e :: es) [] pos) (dMake c ds ta) := by
  intro B H σ τ F Q R hr ht QV hq hR
  obtain ⟨k, g, fd, ps, hk, hF, hm, hx, hb⟩ := hf.ex
  refine ⟨tMakeS (Γ.K.cl c) (SpD Γ.K ds) (fun σ cls d H => Γ.W cls d σ H) (Wa Γ (e :: es)), fun X hX => ?_, ?_⟩
  · have hF' : FnOk X.prog X.w X.K X.mg X.base (L2.CX X.prog X.w) k g fd ps (SpD Γ.K ds) := by
      rw [hX.P, hX.w, hX.K, hX.mg, hX.base]
      exact hF
    exact pe_makeX (by rw [hX.K]; exact hm) hF' ((hX.room hca).mono hk) (hX.gl hg) (by rw [hX.mg]; exact hx) (by rw [hX.K]; exact hb) (fun σ => passAt hX.tk σ) (Wa.pa hX) hdb (he _) (hpl _)
  · refine ha hr ht _ (fun xs as B1 H1 τ1 F1 q1 n1 d1 => ?_) hR
    intro a dx ha1 hd1 hne
    have r1 := n1.rel
    have e12 : Ex H1 (upd (upd H1 dx (.own a)) a (.ins (Γ.K.cl c) dx [])) := (Ex.new hd1).trans (Ex.new (by rw [upd_ne hne.symm]; exact ha1))
    have old : ∀ b, (upd (upd H1 dx (.own a)) a (.ins (Γ.K.cl c) dx [])) b = none → H1 b = none := fun b z => e12.back z
    have sl0 : Sl Γ.K B1 (upd (upd H1 dx (.own a)) a (.ins (Γ.K.cl c) dx [])) ((V.ref a :: xs).map some) ((T.oi true c [] :: as.map .fr).map some) [a] := by
      have := Sl.cons (Ow.oi (K := Γ.K) (B := B1) (l := true) (c := c) (upd_same (H := upd H1 dx (.own a))) .nil) (sl_data (H := upd (upd H1 dx (.own a)) a (.ins (Γ.K.cl c) dx [])) d1)
      exact this
    have aF : a ∉ F1 := fun z => by
      obtain ⟨o, h⟩ := r1.sl.there a z
      rw [ha1] at h
      cases h
    have frame : ∀ {B' H' : Hp} {G : List Addr}, Stp B1 (upd (upd H1 dx (.own a)) a (.ins (Γ.K.cl c) dx [])) [a] B' H' G → Ex B' H' → (∀ b ∈ F1, b ∉ G) ∧ Rel Γ.K B' H' σ τ1 F1 ∧ Stp B1 H1 F1 B' H' (F1 ++ G) := fun {B' H' G} st ex => by
      obtain ⟨k1, k2, k3⟩ := st.frame (G := F1) (fun b z => by
        obtain ⟨o, h⟩ := r1.sl.there b z
        exact ⟨o, e12 b o h⟩) (fun b z y => aF (List.mem_singleton.mp y ▸ z)) r1.df
      refine ⟨k2, ⟨ex, r1.sl.mono st.b fun b z => ?_, r1.nd, k3⟩, ⟨st.b, fun b o h z => ?_, fun b z => ?_, fun b o h => ?_⟩⟩
      · obtain ⟨o, h⟩ := r1.sl.there b z
        rw [k1 b z, e12 b o h, h]
      · have hb : b ∉ [a] := fun y => by
          rw [List.mem_singleton.mp y, ha1] at h
          cases h
        exact st.h b o (e12 b o h) hb
      · rcases List.mem_append.mp z with z | z
        · exact .inl z
        · rcases st.f b z with y | y
          · exact .inr (by rw [List.mem_singleton.mp y]; exact ha1)
          · exact .inr (old b y)
      · rcases st.n b o h with y | y | y
        · exact .inl y
        · exact .inr (.inr (by rw [List.mem_singleton.mp y]; exact ha1))
        · exact .inr (.inr (old b y))
    refine ⟨B1, .oi true c [] :: as.map .fr, [a], _, _, ⟨r1.ex.trans e12, sl0, by simp, fun b z => by rw [List.mem_singleton.mp z]; exact r1.ex.back ha1⟩, ?_, q1, fun v t f B' H' ts' F' qd rc st o nd df sh => ?_, fun y cls dx' B' H' ts' F' qd rc st xr sh => ?_⟩
    · intro u z
      rcases List.mem_cons.mp z with z | z
      · exact .inr ⟨_, by rw [z] <;> rfl⟩
      · exact data_lent as u z
    · obtain ⟨rfl, fs, us, rfl, qd⟩ := qd
      cases o with
      | fr dv =>
      cases dv
      refine ⟨rfl, ?_⟩
      have hus : ∀ u ∈ us, ∃ d, u = T.fr d := fun u z => by
        obtain ⟨j, hj⟩ := List.mem_iff_getElem?.mp z
        have hlen := sh.len
        simp only [List.length_cons, List.length_map] at hlen
        have hlt : j < as.length := by
          have := (List.getElem?_eq_some_iff.mp hj).1
          omega
        have h1 := sh.fr (j + 1) as[j] (by simp [hlt])
        rw [List.getElem?_cons_succ, hj] at h1
        exact ⟨_, Option.some.inj h1⟩
      rw [List.append_nil] at st
      have sl := rc.sl
      rw [List.map_cons, List.map_cons] at sl
      cases sl with
      | @cons v' t' f' σ' τ'' F'' o' r' =>
      rw [frs_foot r' hus, List.append_nil] at st
      have nd' := rc.nd
      rw [frs_foot r' hus, List.append_nil] at nd'
      obtain ⟨k2, rel, stp⟩ := frame st rc.ex
      refine hq (.ref a) (.oi false c fs) f' B' H' τ1 F1 qd (n1.trans ⟨rel, stp, Lent.refl _ _⟩) ?_ ?_ fun b z => rc.df b (List.mem_append_left _ z)
      · cases o' with
        | oi w1 w2 => exact .oi w1 w2
      · rw [List.nodup_append]
        exact ⟨r1.nd, nd', fun b hb b' hb' e => k2 b hb (e ▸ hb')⟩
    · obtain ⟨k2, rel, stp⟩ := frame st rc.ex
      exact hR y cls dx' B' H' σ τ1 F1 qd (n1.trans ⟨rel, stp.less fun b z => by rw [List.append_nil] at z; exact List.mem_append_left _ z, Lent.refl _ _⟩) xr
end
end EC
/-! EC16: [..] * n, a list of one's own. -/
namespace EC
open PySem PySem.Spec PyProof.Rows L2 RZ
def dRep (ta tb : DE) : DT := fun τ Q R => ta τ (fun x τ1 => tb τ1 (fun y τ2 => match x, y with
  | .lst a, .int k => -1000000 ≤ k ∧ k ≤ 1000000 ∧ a.length * k.toNat ≤ 1000000 ∧ Q (.ow false (List.replicate k.toNat a).flatten) τ2
  | _, _ => False) R) R
section
variable {Γ : Gm} {a b : Expr} {ta tb : DE} {pos : Pos}
theorem ST.rep (ha : SE Γ a ta) (hb : SE Γ b tb) : ST Γ (.BinOp a .Mult b pos) (dRep ta tb) := by
  intro B H σ τ F Q R hr ht QV hq hR
  refine ⟨tOp rRep (We Γ a) (We Γ b), fun X hX => pe_op op_rep (We.pe hX) (We.pe hX), ?_⟩
  refine ha hr ht _ (fun x u B1 H1 τ1 F1 q1 n1 d1 => ?_) hR
  refine hb n1.rel q1 _ (fun y v B2 H2 τ2 F2 q2 n2 d2 => ?_) (hR.after n1)
  have d1' := d1.mono n2.s.b
  cases d1' <;> (try exact False.elim q2) <;> cases d2 <;> (try exact False.elim q2)
  rename_i p xs ds h1 r1 k
  obtain ⟨c1, c2, c3, q3⟩ := q2
  refine ⟨p, k, xs, rfl, rfl, n2.rel.ex _ _ h1, by omega, by omega, ?_, fun p' hp' => hq.own (n1.trans n2) hp' (r1.rep k.toNat) q3⟩
  rw [r1.length, sizeLine_eq]
  omega
end
end EC
/-! EC17: dicts as data, x is True, str of a number. -/
namespace EC
open PySem PySem.Spec PyProof.Rows L2 RZ
/-! ### {} and {k: v}, never changed -/
def dDic0 : DE := fun τ Q _ => Q (.dic []) τ
def keyD : D → Option Key
  | .int i => some (.inl i)
  | .str s => some (.inr s)
  | _ => none
def dDic1 (tk tv : DE) : DE := fun τ Q R => tk τ (fun k τ1 => tv τ1 (fun v τ2 => match keyD k with
  | some z => Q (.dic [(z, v)]) τ2
  | none => False) R) R
theorem key_dn {K : Kc} {B : Hp} {x : V} {k : D} {z : Key} (h : Dn K B x k) (e : keyD k = some z) : x = kV z := by
  cases h <;> cases e <;> rfl
section
variable {Γ : Gm} {a b : Expr} {ta tb : DE} {pos : Pos}
theorem SE.dic0 : SE Γ (.Dict [] [] pos) dDic0 := fun B H σ τ F Q R hr ht QV hq hR => ⟨tDNewK, fun X hX => pe_dnewK, fun p hp => by
  have g := Gr.new (o := .dK []) hr.ex hp
  exact hq _ _ _ _ _ _ ht (hr.grow g) (.dic upd_same .nil)⟩
theorem SE.dic1 (ha : SE Γ a ta) (hb : SE Γ b tb) : SE Γ (.Dict [some a] [b] pos) (dDic1 ta tb) := by
  intro B H σ τ F Q R hr ht QV hq hR
  refine ⟨tDisp [(We Γ a, We Γ b)], fun X hX => pe_disp (pps_cons (We.pe hX) (We.pe hX) pps_nil) rfl rfl (by simp) (by show 1 ≤ 15; decide), ?_⟩
  intro p hp
  have hpF : p ∉ F := fun z => by
    obtain ⟨o, e⟩ := hr.sl.there p z
    rw [hp] at e
    cases e
  have hpB := hr.ex.back hp
  have r1 : Rel Γ.K B (upd H p (.dK [])) σ τ F := hr.side hpF hpB
  have st1 : Stp B H F B (upd H p (.dK [])) F := ⟨Ex.refl B, fun x o h _ => Ex.new hp x o h, fun x z => .inl z, fun x o h => .inl ⟨o, h⟩⟩
  have out : ∀ {B' H' : Hp} {σ' : L2.St} {τ' : Env} {F' : List Addr}, Nx Γ.K B (upd H p (.dK [])) σ τ F B' H' σ' τ' F' [] → Nx Γ.K B H σ τ F B' H' σ' τ' F' [] := fun n => ⟨n.rel, by rw [List.append_nil]; exact st1.trans n.s, n.len⟩
  refine ha r1 ht _ (fun x k B1 H1 τ1 F1 q1 n1 d1 => ?_) (fun x cls dx B' H' σ' τ' F' q n xr => hR x cls dx B' H' σ' τ' F' q (out n) xr)
  refine hb n1.rel q1 _ (fun y v B2 H2 τ2 F2 q2 n2 d2 => ?_) (fun x cls dx B' H' σ' τ' F' q n xr => hR x cls dx B' H' σ' τ' F' q (out (n1.trans n)) xr)
  have n12 := n1.trans n2
  obtain ⟨k1, k2, k3⟩ := n12.s.frame (G := [p]) (fun c z => by
    rw [List.mem_singleton.mp z]
    exact ⟨_, upd_same⟩) (fun c z => by
    rw [List.mem_singleton.mp z]
    exact hpF) (fun c z => by
    rw [List.mem_singleton.mp z]
    exact hpB)
  have kH := k1 p List.mem_cons_self
  have kF := k2 p List.mem_cons_self
  have kB := k3 p List.mem_cons_self
  dsimp only at q2
  split at q2
  · rename_i z hz
    have ex := key_dn d1 hz
    refine ⟨by rw [kH, upd_same], [(z, y)], by rw [ex] <;> rfl, by show 1 ≤ 15; decide, ?_⟩
    have eb : Ex B2 (upd B2 p (.dK [(z, y)])) := Ex.new kB
    have r3 : Rel Γ.K (upd B2 p (.dK [(z, y)])) (upd H2 p (.dK [(z, y)])) σ τ2 F2 := by
      refine ⟨fun c o h => ?_, n2.rel.sl.mono eb fun c z => upd_ne fun (e : c = p) => kF (e ▸ z), n2.rel.nd, fun c z => ?_⟩
      · by_cases hc : c = p
        · subst hc
          rw [upd_same] at h ⊢
          exact h
        · rw [upd_ne hc] at h ⊢
          exact n2.rel.ex c o h
      · rw [upd_ne fun (e : c = p) => kF (e ▸ z)]
        exact n2.rel.df c z
    refine hq (.ref p) (.dic [(z, v)]) _ _ τ2 F2 q2 ⟨r3, ?_, n12.len⟩ (.dic upd_same (.cons (d2.mono eb) .nil))
    rw [List.append_nil]
    refine ⟨n12.s.b.trans eb, fun c o h hc => ?_, fun c z => (out n12).s.f c z, fun c o h => ?_⟩
    · have hc2 : c ≠ p := fun e => by
        rw [e, hp] at h
        cases h
      rw [upd_ne hc2]
      exact (out n12).s.h c o h hc
    · by_cases hc : c = p
      · exact .inr (.inr (by rw [hc]; exact hp))
      · rw [upd_ne hc] at h
        exact (out n12).s.n c o h
  · exact q2.elim
end
/-! ### x is True -/
def rIsB : D2 := fun u v q => match u, v with
  | .bl a, .bl b => q (.bl (decide (a = b)))
  | _, _ => False
def rIsNotB : D2 := fun u v q => match u, v with
  | .bl a, .bl b => q (.bl (!decide (a = b)))
  | _, _ => False
section
variable {Γ : Gm}
theorem opIsB : OpD Γ (compareOp .Is) rIsB := by
  intro B H x y u v q e dx dy h QV k
  cases dx <;> cases dy <;> (try exact False.elim h)
  exact ⟨_, fun X _ => op_is_bl, _, _, rfl, rfl, k _ _ B H h (.refl e) (.bl _)⟩
theorem opIsNotB : OpD Γ (compareOp .IsNot) rIsNotB := by
  intro B H x y u v q e dx dy h QV k
  cases dx <;> cases dy <;> (try exact False.elim h)
  exact ⟨_, fun X _ => op_isnot_bl, _, _, rfl, rfl, k _ _ B H h (.refl e) (.bl _)⟩
def cStr : DCall := fun ds q => match ds with
  | [.int i] => i.natAbs.log2 < 1920 ∧ q (.fr (.str (toString i)))
  | _ => False
theorem ocStr : OpC Γ (.type "str") cStr := by
  intro B H xs ds q e dn h QV k l
  match ds, h with
  | [.int i], h =>
    obtain ⟨x, rfl, dx⟩ := oneD dn
    cases dx
    exact ⟨_, fun X _ => call_str_int, i, rfl, h.1, k _ _ B H h.2 (.refl e) (.str _)⟩
end
end EC
/-! EC18: t[::-1] of a tuple. -/
namespace EC
open PySem PySem.Spec PyProof.Rows L2 RZ
section
variable {prog : Program} {w : World} {A : Around} {E : Value → Shared → Prop} {s : Shared}
theorem back_adjust (n : Nat) : Builtin.Slice.sliceAdjust none none (-1) (n : Int) = ((n : Int) - 1, -1) := by
  unfold Builtin.Slice.sliceAdjust
  have neg : ((-1 : Int) < 0) := by decide
  simp only [neg, if_true]
theorem back_places (n : Nat) : Builtin.Slice.slicePlaces ((n : Int) - 1) (-1) (-1) = n := by
  unfold Builtin.Slice.slicePlaces
  have no : ¬ ((-1 : Int) > 0) := by decide
  simp only [no, if_false]
  rw [show (- -1 : Int) = 1 from rfl, Int.ediv_one]
  split <;> omega
theorem fm_map {α β : Type} {f : α → Option β} {g : α → β} : ∀ {l : List α}, (∀ m ∈ l, f m = some (g m)) → l.filterMap f = l.map g
  | [], _ => rfl
  | a :: l, h => by
    rw [List.filterMap_cons, h a List.mem_cons_self, List.map_cons, fm_map fun m z => h m (List.mem_cons_of_mem _ z)]
theorem back_pick (xs : Array Value) : ((List.range xs.size).filterMap fun (m : Nat) => xs[((xs.size : Int) - 1 + (m : Int) * (-1)).toNat]?) = xs.toList.reverse := by
  apply List.ext_getElem?
  intro i
  have all : (List.range xs.size).filterMap (fun (m : Nat) => xs[((xs.size : Int) - 1 + (m : Int) * (-1)).toNat]?) = (List.range xs.size).map (fun m => xs.toList.getD (xs.size - 1 - m) .none) := by
    refine fm_map fun m hm => ?_
    have hl := List.mem_range.mp hm
    have e : ((xs.size : Int) - 1 + (m : Int) * (-1)).toNat = xs.size - 1 - m := by omega
    rw [e]
    have hlt : xs.size - 1 - m < xs.size := by omega
    show xs[xs.size - 1 - m]? = some (xs.toList.getD (xs.size - 1 - m) .none)
    rw [Array.getElem?_eq_getElem hlt, List.getD_eq_getElem?_getD, Array.getElem?_toList, Array.getElem?_eq_getElem hlt]
    rfl
  rw [all]
  by_cases h : i < xs.size
  · rw [List.getElem?_map, List.getElem?_range h, List.getElem?_reverse (by simpa using h), Array.length_toList]
    have hlt : xs.size - 1 - i < xs.size := by omega
    show some (xs.toList.getD (xs.size - 1 - i) .none) = _
    rw [List.getD_eq_getElem?_getD, Array.getElem?_toList, Array.getElem?_eq_getElem hlt]
    rfl
  · rw [List.getElem?_eq_none (by simp; omega), List.getElem?_eq_none (by simp; omega)]
theorem tuple_back {t sl : Addr} {items : Array Value} {u : Tok} {Q : Value → Shared → Prop} (tup : IsTup s.heap t items) (cut : s.heap.IsSliceOf sl .none .none (.int (-1) u)) (most : items.size ≤ sizeLine)
    (goal : Q (.ref s.heap.objs.size) { s with heap := s.heap.push { cls := .type "tuple", data := .seq items.toList.reverse.toArray } }) : wpAny (model prog w) A (getItem (.ref t) (.ref sl)) Q E s := by
  have fits : sizeOk (.seq items.toList.reverse.toArray) := by
    show items.toList.reverse.toArray.size ≤ sizeLine
    rw [List.size_toArray, List.length_reverse, Array.length_toList]
    exact most
  obtain ⟨ob, k1, k2, k3⟩ := id cut
  have ty : s.TypeIs (.ref sl) "slice" := ⟨ob, k1, k2⟩
  unfold getItem
  try with_reducible refine wpAny_holding ?_
  first | refine wpAny_bind (wpAny_pure ?_) | skip
  refine wpAny_bind (wpAny_sequenceKey tup.typeIs (by decide) (wpAny_bind ?_))
  refine wpAny_callSpecial?_slot (name := Str.ofString "__getitem__") tup.typeIs PyProof.Rows.slot_tuple_getitem (wpAny_call_entry PyProof.Rows.slot_tuple_getitem tup.typeIs entry_tuple_getitem ?_ (args_tuple_getitem _ _))
  refine wpAny_bind (m := Builtin.Tuple.tupleItemsOf (.ref t)) (tupleItemsOf_ tup (wpAny_bind (wpAny_typeOf ty ?_)))
  rw [if_pos (by decide)]
  refine wpAny_bind (m := Builtin.Slice.sliceApplied _ _) ?_
  unfold Builtin.Slice.sliceApplied Builtin.Slice.sliceFields
  refine wpAny_bind (wpAny_bind (wpAny_field k1 k3 (x := .none) rfl (wpAny_bind (wpAny_field k1 k3 (x := .none) rfl (wpAny_bind (wpAny_field k1 k3 (x := .int (-1) u) rfl (wpAny_pure ?_)))))))
  refine wpAny_bind (slicePart_int ?_)
  show wpAny _ _ (if ((-1 : Int) == 0) = true then _ else _) _ _ s
  rw [if_neg (by decide)]
  refine wpAny_bind (slicePart_none (wpAny_bind (slicePart_none (wpAny_bind (wpAny_pure ?_)))))
  show wpAny _ _ (match Builtin.Slice.sliceAdjust none none (-1) (items.size : Int) with | (lo, hi) => pure (lo, (-1 : Int), Builtin.Slice.slicePlaces lo hi (-1))) _ _ s
  rw [back_adjust]
  show wpAny _ _ (pure ((items.size : Int) - 1, (-1 : Int), Builtin.Slice.slicePlaces ((items.size : Int) - 1) (-1) (-1))) _ _ s
  rw [back_places]
  refine wpAny_pure ?_
  have no : ¬ ((((items.size : Int) - 1) == 0 && (-1 : Int) == 1 && items.size == items.size) = true) := by simp
  show wpAny _ _ (if (((items.size : Int) - 1) == 0 && (-1 : Int) == 1 && items.size == items.size) = true then _ else _) _ _ s
  rw [if_neg no, back_pick]
  first
    | exact wpAny_bind (m := Builtin.Tuple.tupleExact _) (wpAny_newObj_type (wpAny_pure ⟨_, rfl, wpAny_pure goal⟩) fits)
    | exact wpAny_bind (m := Builtin.Tuple.tupleExact _) (wpAny_newObj_type (wpAny_bind (wpAny_pure (wpAny_pure ⟨_, rfl, wpAny_pure goal⟩))) fits)
    | exact wpAny_bind (wpAny_bind (m := Builtin.Tuple.tupleExact _) (wpAny_newObj_type (wpAny_pure (wpAny_pure ⟨_, rfl, wpAny_pure goal⟩)) fits))
    | exact wpAny_bind (wpAny_bind (m := Builtin.Tuple.tupleExact _) (wpAny_newObj_type (wpAny_pure ⟨_, rfl, wpAny_pure goal⟩) fits))
end
/-- xs[::-1], a list or a tuple -/
def tBack (K : Fg) (te : TE) : TE := fun σ H Q => te σ H fun x H1 => ∃ a xs, x = .ref a ∧ ((SqL K H1 a xs ∧ ∀ p, H1 p = none → Q (.ref p) (upd H1 p (.lst xs.reverse))) ∨ (SqT K H1 a xs ∧ ∀ p, H1 p = none → Q (.ref p) (upd H1 p (.tup xs.reverse))))
theorem pe_back {X : Cx} {e : Expr} {te : TE} {k : Nat} {p1 p2 p3 pos : Pos} (body : PE X e te) : PE X (.Subscript e (.Slice none none (some (.UnaryOp .USub (.Constant (.int 1) k p1) p2)) p3) pos) (tBack X.K te) := by
  constructor
  intro pins s σ H Q inv todo
  refine Subscript_ (thn (body.run pins s σ H _ inv todo) fun v s1 got => ?_)
  obtain ⟨x, H1, inv1, rel, a, ys, rfl, todo1⟩ := got
  cases rel
  have step : PO X (some (.UnaryOp .USub (.Constant (.int 1) k p1) p2)) (tPart (tUn (rU fun i => .int (-i)) (tC (.int 1)))) := po_some (pe_un un_neg pe_int)
  refine wpAny_Slice (thn (po_none.run pins s1 σ H1 (fun o G => o = none ∧ G = H1) inv1 ⟨rfl, rfl⟩) fun lo s2 got => ?_)
  obtain ⟨l, H2, inv2, part1, rfl, rfl⟩ := got
  refine thn (po_none.run pins s2 σ H2 (fun o G => o = none ∧ G = H2) inv2 ⟨rfl, rfl⟩) fun hi s3 got => ?_
  obtain ⟨u, H3, inv3, part2, rfl, rfl⟩ := got
  refine thn (step.run pins s3 σ H3 (fun o G => o = some (-1) ∧ G = H3) inv3 ⟨1, rfl, -1, rfl, rfl, rfl⟩) fun by_ s4 got => ?_
  obtain ⟨o, H4, inv4, part3, rfl, rfl⟩ := got
  cases part1
  cases part2
  cases part3 with
  | int _ tok =>
  have inv5 : Inv X pins σ H4 { s4 with heap := s4.heap.push { cls := .type "slice", data := .fields #[.none, .none, .int (-1) tok] } } := inv4.kept (t' := s4.toks) fun b ob q => Heap.get?_push_of_some _ q
  show wpAny (model X.prog X.w) X.A (subscriptTail e (.Slice none none (some (.UnaryOp .USub (.Constant (.int 1) k p1) p2)) p3) (.ref a) (.ref s4.heap.objs.size)) (EP X pins σ Q) X.xe { s4 with heap := s4.heap.push { cls := .type "slice", data := .fields #[.none, .none, .int (-1) tok] } }
  rcases todo1 with ⟨sq, todo1⟩ | ⟨sq, todo1⟩
  · obtain ⟨vals, r, li, most⟩ := inv5.list sq
    have len := r.length
    refine tail_any (ops := [.ref a, .ref s4.heap.objs.size]) li.isList.typeIs PySem.slot_list_getitem.lookup (wpAny_getItem_list_slice li.isList (Heap.IsSliceOf.new _ .none .none (.int (-1) tok)) .none .none (.int (-1) tok) (by decide) ?_ (by rw [List.size_toArray]; omega)) (by with_unfolding_all rfl)
    rw [PySem.W.krv_pick]
    refine ⟨.ref _, _, inv5.laid (t' := s4.toks) (o := .lst ys.reverse) (fun b ob q => Heap.get?_push_of_some _ q) (Nat.le_refl _) ⟨?_, _, 0, r.reverse, Heap.get?_push_size _ rfl⟩, rfl, todo1 _ (inv5.hok.fresh (Nat.le_refl _))⟩
    rw [List.length_reverse]
    exact most
  · obtain ⟨vals, r, tup, most⟩ := inv5.tuple sq
    have len := r.length
    refine tail_any (ops := [.ref a, .ref s4.heap.objs.size]) tup.typeIs PyProof.Rows.slot_tuple_getitem.lookup (tuple_back tup (Heap.IsSliceOf.new _ .none .none (.int (-1) tok)) (by rw [List.size_toArray]; omega) ?_) (by with_unfolding_all rfl)
    refine ⟨.ref _, _, inv5.laid (t' := s4.toks) (o := .tup ys.reverse) (fun b ob q => Heap.get?_push_of_some _ q) (Nat.le_refl _) ⟨?_, vals.reverse, r.reverse, _, Heap.get?_push_size _ rfl, rfl, 0, rfl⟩, rfl, todo1 _ (inv5.hok.fresh (Nat.le_refl _))⟩
    rw [List.length_reverse]
    exact most
def dBack (ta : DE) : DT := fun τ Q R => ta τ (fun d τ1 => match d with
  | .lst ds => Q (.ow false ds.reverse) τ1
  | .tup ds => Q (.fr (.tup ds.reverse)) τ1
  | _ => False) R
theorem ST.back {Γ : Gm} {e : Expr} {ta : DE} {k : Nat} {p1 p2 p3 pos : Pos} (ha : SE Γ e ta) : ST Γ (.Subscript e (.Slice none none (some (.UnaryOp .USub (.Constant (.int 1) k p1) p2)) p3) pos) (dBack ta) := fun B H σ τ F Q R hr ht QV hq hR =>
  ⟨tBack Γ.K.K (We Γ e), fun X hX => by rw [← hX.K]; exact pe_back (We.pe hX), ha hr ht _ (fun v d B1 H1 τ1 F1 q n d1 => by
    cases d1 <;> (try exact False.elim q)
    · rename_i a xs ds h1 r1
      exact ⟨a, xs, rfl, .inl ⟨.of (n.rel.ex _ _ h1), fun p hp => hq.own n hp r1.reverse q⟩⟩
    · rename_i a xs ds h1 r1
      refine ⟨a, xs, rfl, .inr ⟨.of (n.rel.ex _ _ h1), fun p hp => ?_⟩⟩
      have g := Gr.new (o := .tup xs.reverse) n.rel.ex hp
      exact hq.fr (n.trans (n.rel.grow g)) (.tup upd_same (r1.reverse.mono g.stp.b)) q) hR⟩
end EC
/-! EC19: len(set(t)), t a tuple of unlike numbers. -/
namespace EC
open PySem PySem.Spec PyProof.Rows L2 RZ
def tLenSetT (K : Fg) (te : TE) : TE := fun σ H Q => te σ H fun x H1 => ∃ (l : Addr) (ns : List Int), x = .ref l ∧ SqT K H1 l (ns.map V.int) ∧ ns.Nodup ∧ ns.length ≤ 4000 ∧ Q (.int (ns.length : Nat)) H1
theorem pe_lenSetT {X : Cx} {a : Expr} {te : TE} {p p2 q pos : Pos} (g1 : Gl X "len") (m1 : X.mg "len" = none) (g2 : Gl X "set") (m2 : X.mg "set" = none) (arg : PE X a te) (calm : X.calm = true) (one : starEach [a] X.env = (false, eval a X.env) :: starEach [] X.env) :
    PE X (.Call (.Name "len" p) [.Call (.Name "set" p2) [a] [] q] [] pos) (tLenSetT X.K te) := by
  constructor
  intro pins s σ H Q inv todo
  refine Call_ (ld_blt inv g1 m1 boot_len (PyProof.Rows.callWith_builtin1 (PyProof.Rows.args_cons ?_ rfl) rfl rfl))
  refine Call_ (ld_blt inv g2 m2 boot_set (PyProof.Rows.callWith_type1 (PyProof.Rows.args_cons (thn (arg.run pins s σ H _ inv todo) fun v s1 got => PyProof.Rows.args_nil ?_) one) one rfl))
  obtain ⟨x, H1, inv1, rel, l, ns, rfl, sq, nd, most, todo1⟩ := got
  cases rel
  obtain ⟨vals, r, tup, _⟩ := inv1.tuple sq
  refine call_set_tupI ns (inv1.ok.hd calm) (show s1.heap.IsTuple l vals.toArray from tup) (by simpa using intsAre_vals r) (by unfold scanBound; omega) fun h2 tok c made _ kept => PyProof.Rows.args_nil ?_
  obtain ⟨o, es, ep, t, k1, k2, k3, _, k5, k6, _, k8, k9, _, _⟩ := made
  have size : c = ns.length := by
    have pm : (es.toList.map keyOf).Perm ns := (List.perm_ext_iff_of_nodup k5 nd).mpr fun j => by
      rw [← k6 j]
      exact decide_eq_true_iff
    have := pm.length_eq
    rw [List.length_map, Array.length_toList, k9] at this
    exact this
  have inv2 : Inv X pins σ H1 { s1 with heap := h2, toks := tok } := inv1.kept fun b o z => kept b o z
  exact call_len_set k1 k2 k3 k8 (by rw [k9]; omega) ⟨.int ns.length, H1, inv2.tok _, ⟨_, by rw [k9, size]⟩, todo1⟩
def dLenSetT (te : DE) : DE := fun τ Q R => te τ (fun d τ1 => match d with
  | .tup ds => ∃ ns : List Int, ds = ns.map .int ∧ ns.Nodup ∧ ns.length ≤ 4000 ∧ Q (.int (ns.length : Nat)) τ1
  | _ => False) R
theorem SE.lenSetT {Γ : Gm} {a : Expr} {te : DE} {p p2 q pos : Pos} (ha : SE Γ a te) (m1 : Γ.mg "len" = none) (m2 : Γ.mg "set" = none) (hca : Γ.calm = true := by rfl) (g1 : GlS Γ.sc "len" := by rfl) (g2 : GlS Γ.sc "set" := by rfl) (hs : ∀ env : PySem.Env, starEach [a] env = (false, eval a env) :: starEach [] env := by intros; rfl) :
    SE Γ (.Call (.Name "len" p) [.Call (.Name "set" p2) [a] [] q] [] pos) (dLenSetT te) := fun B H σ τ F Q R hr ht QV hq hR =>
  ⟨tLenSetT Γ.K.K (We Γ a), fun X hX => by rw [← hX.K]; exact pe_lenSetT (hX.gl g1) (by rw [hX.mg]; exact m1) (hX.gl g2) (by rw [hX.mg]; exact m2) (We.pe hX) (hX.calm hca) (hs _), ha hr ht _ (fun v d B1 H1 τ1 F1 q n d1 => by
    cases d1 <;> (try exact False.elim q)
    rename_i a xs ds h1 r1
    obtain ⟨ns, rfl, nd, most, q⟩ := q
    have ex := r1.ints
    subst ex
    exact ⟨a, ns, rfl, .of (n.rel.ex _ _ h1), nd, most, hq _ _ B1 H1 τ1 F1 q n (.int _)⟩) hR⟩
end EC
/-! W: the classes of webs in this law. -/
namespace EC
abbrev webC : Nat → Prop := fun c => c ∈ [200]
end EC
/-! S1: the data of webs; what the shared defs promise. -/
namespace EC
open PySem PySem.Spec PyProof.Rows L2
abbrev Ar := List (Nat × Nat)
abbrev nD (n : Nat) : D := .int (n : Int)
def natsD (ns : List Nat) : List D := ns.map nD
def arrD (a : Nat × Nat) : D := .tup [nD a.1, nD a.2]
def arsD (ar : Ar) : D := .tup (ar.map arrD)
/-- a place is reached from another one along arrows -/
inductive Rch (ar : Ar) : Nat → Nat → Prop
  | refl (u : Nat) : Rch ar u u
  | step {u e v : Nat} : (u, e) ∈ ar → Rch ar e v → Rch ar u v
/-- arrows between places, few, without a ring -/
structure ArIn (n : Nat) (ar : Ar) : Prop where
  lt : ∀ a ∈ ar, a.1 < n ∧ a.2 < n
  few : ar.length ≤ 100000
  nfew : n ≤ 100000
structure ArOk (n : Nat) (ar : Ar) : Prop extends ArIn n ar where
  acy : ∃ rank : Nat → Nat, ∀ a ∈ ar, rank a.1 < rank a.2
/-- what order_of tells -/
structure OrdIn (n : Nat) (ar : Ar) (ord : List Nat) : Prop where
  nd : ord.Nodup
  lt : ∀ p ∈ ord, p < n
  topo : ∀ a ∈ ar, ∀ j : Nat, ord[j]? = some a.2 → ∃ i : Nat, i < j ∧ ord[i]? = some a.1
  rest : ∀ v, v < n → v ∉ ord → ∃ a ∈ ar, a.2 = v ∧ a.1 ∉ ord
def outsL (ar : Ar) (p : Nat) : List Nat := (List.range ar.length).filter fun k => (ar[k]?.map (·.1)) == some p
def insL (ar : Ar) (p : Nat) : List Nat := (List.range ar.length).filter fun k => (ar[k]?.map (·.2)) == some p
def rowsD (n : Nat) (f : Nat → List Nat) : D := .lst ((List.range n).map fun p => .lst (natsD (f p)))
def webFs (n : Nat) (ar : Ar) (ord reach : List Nat) : List (Str × D) :=
  [("places", nD n), ("arrows", arsD ar), ("outs", rowsD n (outsL ar)), ("ins", rowsD n (insL ar)), ("order", .lst (natsD ord)), ("reach", .lst (natsD reach))]
/-- the bits of the places that p reaches -/
def ReachOk (n : Nat) (ar : Ar) (reach : List Nat) : Prop := reach.length = n ∧ ∀ (p r : Nat), reach[p]? = some r → ∀ v, r.testBit v = true ↔ Rch ar p v
structure WebOk (n : Nat) (ar : Ar) (ord reach : List Nat) : Prop where
  wa : ArOk n ar
  wo : OrdIn n ar ord
  wr : ReachOk n ar reach
def cWeb : Nat := 200
def cRaw : Nat := 201
def IsWeb (d : D) (n : Nat) (ar : Ar) : Prop := ∃ c ord reach, webC c ∧ d = .ins c (webFs n ar ord reach) ∧ WebOk n ar ord reach
def frzF (fs : List (Str × O)) : List (Str × D) := fs.map fun p => (p.1, p.2.frz)
/-! ### what the defs promise -/
def isIntD : D → Bool
  | .int _ => true
  | _ => false
def inD (d : D) (lo hi : Int) : Bool := match d with
  | .int i => decide (lo ≤ i ∧ i ≤ hi)
  | _ => false
def isPairD : D → Bool
  | .tup ds => ds.length == 2
  | _ => false
def sp_is_integer : DSp := fun ts Q _ => ∃ d, ts = [.fr d] ∧ (tyD d).isSome = true ∧ Q (.fr (.bl (isIntD d))) ts
def sp_is_within : DSp := fun ts Q _ => ∃ d lo hi, ts = [.fr d, .fr (.int lo), .fr (.int hi)] ∧ (tyD d).isSome = true ∧ Q (.fr (.bl (inD d lo hi))) ts
def sp_is_pair : DSp := fun ts Q _ => ∃ d, ts = [.fr d] ∧ (tyD d).isSome = true ∧ Q (.fr (.bl (isPairD d))) ts
def bitsL (n b : Nat) : List Nat := (List.range n).filter fun v => b.testBit v
def sp_lot_of : DSp := fun ts Q _ => ∃ (n b : Nat), ts = [.fr (nD b)] ∧ b < 2 ^ n ∧ n ≤ 100000 ∧ Q (.fr (.tup (natsD (bitsL n b)))) ts
def sp_is_arrow_of : DSp := fun ts Q _ => ∃ n a, ts = [.fr (nD n), .fr (arrD a)] ∧ a.1 < n ∧ a.2 < n ∧ Q (.fr (.bl (decide (a.1 ≠ a.2)))) ts
def sp_order_of : DSp := fun ts Q _ => ∃ n ar, ts = [.fr (nD n), .fr (arsD ar)] ∧ ArIn n ar ∧ ∀ ord, OrdIn n ar ord → Q (.fr (.lst (natsD ord))) ts
/-- keep, __init__: the fields made -/
def sp_Web_keep : DSp := fun ts Q _ => ∃ c n ar, webC c ∧ ts = [.oi true c [], .fr (nD n), .fr (arsD ar)] ∧ ArOk n ar ∧ ∀ fs ord reach, WebOk n ar ord reach → frzF fs = webFs n ar ord reach → Q (.fr .non) [.oi true c fs, .fr (nD n), .fr (arsD ar)]
def sp_Web_init : DSp := fun ts Q _ => ∃ n ar, 1 ≤ n ∧ n ≤ 60 ∧ ar.length ≤ 400 ∧ ts = [.oi true 200 [], .fr (nD n), .fr (arsD ar)] ∧ ArOk n ar ∧ ∀ fs ord reach, WebOk n ar ord reach → frzF fs = webFs n ar ord reach → Q (.fr .non) [.oi true 200 fs, .fr (nD n), .fr (arsD ar)]
def sp_RawWeb_init : DSp := fun ts Q _ => ∃ n ar, ts = [.oi true 201 [], .fr (nD n), .fr (arsD ar)] ∧ ArOk n ar ∧ ∀ fs ord reach, WebOk n ar ord reach → frzF fs = webFs n ar ord reach → Q (.fr .non) [.oi true 201 fs, .fr (nD n), .fr (arsD ar)]
def sp_raw_web : DSp := fun ts Q _ => ∃ n ar, ts = [.fr (nD n), .fr (.lst (ar.map arrD))] ∧ ArOk n ar ∧ ∀ fs, IsWeb (.ins 201 (frzF fs)) n ar → Q (.oi false 201 fs) ts
def mirr (ar : Ar) : Ar := ar.map fun a => (a.2, a.1)
def sp_mirrored : DSp := fun ts Q _ => ∃ d n ar, ts = [.fr d] ∧ IsWeb d n ar ∧ ∀ fs, IsWeb (.ins 201 (frzF fs)) n (mirr ar) → Q (.oi false 201 fs) ts
open Classical in
noncomputable def rchB (ar : Ar) (u v : Nat) : Bool := decide (Rch ar u v)
noncomputable def fromL (n : Nat) (ar : Ar) (u : Nat) : List Nat := (List.range n).filter fun v => rchB ar u v
noncomputable def toL (n : Nat) (ar : Ar) (v : Nat) : List Nat := (List.range n).filter fun u => rchB ar u v
noncomputable def betL (n : Nat) (ar : Ar) (u v : Nat) : List Nat := (fromL n ar u).filter fun p => !(p == u || p == v) && rchB ar p v
def sp_check_place : DSp := fun ts Q _ => ∃ d n ar p, ts = [.fr d, .fr (nD p)] ∧ IsWeb d n ar ∧ p < n ∧ Q (.fr .non) ts
def sp_check_places : DSp := fun ts Q _ => ∃ d n ar u v, ts = [.fr d, .fr (nD u), .fr (nD v)] ∧ IsWeb d n ar ∧ u < n ∧ v < n ∧ Q (.fr .non) ts
def sp_reaches : DSp := fun ts Q _ => ∃ d n ar u v, ts = [.fr d, .fr (nD u), .fr (nD v)] ∧ IsWeb d n ar ∧ u < n ∧ Q (.fr (.bl (rchB ar u v))) ts
def sp_reached : DSp := fun ts Q _ => ∃ d n ar p, ts = [.fr d, .fr (nD p)] ∧ IsWeb d n ar ∧ p < n ∧ Q (.fr (.tup (natsD (fromL n ar p)))) ts
def sp_reaching : DSp := fun ts Q _ => ∃ d n ar p, ts = [.fr d, .fr (nD p)] ∧ IsWeb d n ar ∧ p < n ∧ Q (.fr (.tup (natsD (toL n ar p)))) ts
def sp_between_of : DSp := fun ts Q _ => ∃ d n ar u v, ts = [.fr d, .fr (nD u), .fr (nD v)] ∧ IsWeb d n ar ∧ u < n ∧ v < n ∧ Q (.fr (.tup (natsD (betL n ar u v)))) ts
def sp_between : DSp := sp_between_of
/-! ### the laws' own -/
/-- hand: cells, place, rest, state, count -/
def HandOk (hs : List D) : Prop := ∃ (cells : List Int) (at_ rest state count : Int), hs = [.lst (cells.map .int), .int at_, .int rest, .int state, .int count] ∧ (∀ c ∈ cells, 0 ≤ c) ∧ 0 ≤ at_ ∧ 0 ≤ rest
def sp__law_hand : DSp := fun ts Q _ => ∃ ns : List Int, ts = [.fr (.scr ns)] ∧ ns.length ≤ 63 ∧ ∀ hs, HandOk hs → Q (.ow false hs) ts
def sp__law_draw : DSp := fun ts Q _ => ∃ hs many, ts = [.ow true hs, .fr (.int many)] ∧ HandOk hs ∧ 0 < many ∧ many < 1073741824 ∧ ∀ r hs', 0 ≤ r → r < many → HandOk hs' → Q (.fr (.int r)) [.ow true hs', .fr (.int many)]
def sp__law_shuffled : DSp := fun ts Q _ => ∃ hs ds, ts = [.ow true hs, .fr (.lst ds)] ∧ HandOk hs ∧ ds.length ≤ 100000 ∧ ∀ es hs', es.Perm ds → HandOk hs' → Q (.fr (.lst es)) [.ow true hs', .fr (.lst ds)]
def sp__law_ordered : DSp := fun ts Q _ => ∃ (hs : List D) (n many far : Nat), ts = [.ow true hs, .fr (nD n), .fr (nD many), .fr (nD far)] ∧ HandOk hs ∧ 1 ≤ n ∧ n ≤ 1000 ∧ many ≤ 1000 ∧ 1 ≤ far ∧ far ≤ 1000 ∧
  ∀ ord ar hs', ord.Perm (List.range n) → ar.length ≤ 2 * many → (∀ a ∈ ar, ∃ i j : Nat, i < j ∧ ord[i]? = some a.1 ∧ ord[j]? = some a.2) → HandOk hs' → (1 < n → many ≤ ar.length) → Q (.fr (.tup [.lst (natsD ord), arsD ar])) [.ow true hs', .fr (nD n), .fr (nD many), .fr (nD far)]
def sp__law_found : DSp := fun ts Q _ => ∃ n ar p, ts = [.fr (arsD ar), .fr (nD p)] ∧ ArIn n ar ∧ p < n ∧ Q (.fr (.tup (natsD (fromL n ar p)))) ts
/-- two tuples of places -/
def sp__law_is : Nat → DSp
  | 0 => fun _ _ _ => False
  | k + 1 => fun ts Q _ => (∃ a b : List Nat, ts = [.fr (.tup (natsD a)), .fr (.tup (natsD b))] ∧ 0 < k ∧ a.length ≤ 100000 ∧ Q (.fr (.bl (decide (a = b)))) ts) ∨ (∃ a b : Nat, ts = [.fr (nD a), .fr (nD b)] ∧ Q (.fr (.bl (decide (a = b)))) ts) ∨ ∃ a b : Bool, ts = [.fr (.bl a), .fr (.bl b)] ∧ Q (.fr (.bl (decide (a = b)))) ts
def spt__law_is : DSp := sp__law_is 2
noncomputable def lotsD (n : Nat) (ar : Ar) : D := .lst ((List.range n).map fun p => .tup (natsD (fromL n ar p)))
def sp__law_place_right : DSp := fun ts Q _ => ∃ w t n ar p, ts = [.fr w, .fr t, .fr (lotsD n ar), .fr (nD p)] ∧ IsWeb w n ar ∧ IsWeb t n (mirr ar) ∧ p < n ∧ Q (.fr (.bl true)) ts
def sp__law_between_right : DSp := fun ts Q _ => ∃ w t n ar u v, ts = [.fr w, .fr t, .fr (lotsD n ar), .fr (nD u), .fr (nD v)] ∧ IsWeb w n ar ∧ IsWeb t n (mirr ar) ∧ u < n ∧ v < n ∧ Q (.fr (.bl true)) ts
def sp_law : DSp := fun ts Q _ => ∃ ns : List Int, ts = [.fr (.scr ns)] ∧ ns.length ≤ 63 ∧ Q (.fr (.bl true)) ts
end EC
/-! S2: ways; what their defs promise (k03). -/
namespace EC
open PySem PySem.Spec PyProof.Rows L2
/-- data whose kind isinstance knows; a tuple's items too -/
def Plain (d : D) : Prop := (tyD d).isSome = true ∧ ∀ ds, d = .tup ds → ds.length ≤ 100000 ∧ ∀ x ∈ ds, (tyD x).isSome = true
def okA (m : Nat) (x : D) : Bool := inD x 0 ((m : Int) - 1)
def natD : D → Nat
  | .int i => i.toNat
  | _ => 0
def begA (ar : Ar) (k : Nat) : Nat := (ar.getD k (0, 0)).1
def endA (ar : Ar) (k : Nat) : Nat := (ar.getD k (0, 0)).2
def linkB (ar : Ar) : List D → Bool
  | x :: y :: r => (endA ar (natD x) == begA ar (natD y)) && linkB ar (y :: r)
  | _ => true
/-- is it a way? -/
def wayB (ar : Ar) : D → Bool
  | .tup ds => !ds.isEmpty && ds.all (okA ar.length) && linkB ar ds
  | _ => false
def wayD (w : List Nat) : D := .tup (natsD w)
def IsWay (ar : Ar) (w : List Nat) : Prop := wayB ar (wayD w) = true ∧ w.length ≤ 1000
def begW (ar : Ar) (w : List Nat) : Nat := begA ar (w.headD 0)
def endW (ar : Ar) (w : List Nat) : Nat := endA ar (w.getLastD 0)
/-- the places that a way passes -/
def plsW (ar : Ar) (w : List Nat) : List Nat := begW ar w :: w.map (endA ar)
def sp_is_way_in : DSp := fun ts Q _ => ∃ w n ar d, ts = [.fr w, .fr d] ∧ IsWeb w n ar ∧ Plain d ∧ Q (.fr (.bl (wayB ar d))) ts
def sp_is_way : DSp := sp_is_way_in
def sp_check_way : DSp := fun ts Q _ => ∃ w n ar d, ts = [.fr w, .fr d] ∧ IsWeb w n ar ∧ Plain d ∧ wayB ar d = true ∧ Q (.fr .non) ts
def sp_ends_of : DSp := fun ts Q _ => ∃ w n ar p, ts = [.fr w, .fr (wayD p)] ∧ IsWeb w n ar ∧ IsWay ar p ∧ Q (.fr (.tup (natsD [begW ar p, endW ar p]))) ts
def sp_ends : DSp := sp_ends_of
def sp_passed_by : DSp := fun ts Q _ => ∃ w n ar p, ts = [.fr w, .fr (wayD p)] ∧ IsWeb w n ar ∧ IsWay ar p ∧ Q (.fr (.tup (natsD (plsW ar p)))) ts
def sp_passed : DSp := sp_passed_by
def sp__law_whole : DSp := sp_is_within
def sp__law_deep : DSp := fun ts Q _ => ∃ hs, ts = [.ow true hs] ∧ HandOk hs ∧ ∀ d hs', Plain d → HandOk hs' → Q (.fr d) [.ow true hs']
def sp__law_is_way : DSp := fun ts Q _ => ∃ ar d, ts = [.fr (arsD ar), .fr d] ∧ Plain d ∧ ar.length ≤ 100000 ∧ Q (.fr (.bl (wayB ar d))) ts
def sp__law_places : DSp := fun ts Q _ => ∃ ar p, ts = [.fr (arsD ar), .fr (wayD p)] ∧ IsWay ar p ∧ Q (.fr (.tup (natsD (plsW ar p)))) ts
def sp__law_walk : DSp := fun ts Q _ => ∃ (hs : List D) (ar : Ar) (most : Nat), ts = [.ow true hs, .fr (arsD ar), .fr (nD most)] ∧ HandOk hs ∧ 0 < ar.length ∧ ar.length ≤ 1000 ∧ 0 < most ∧ most ≤ 100 ∧ ∀ p hs', IsWay ar p → p.length ≤ most → HandOk hs' → Q (.fr (wayD p)) [.ow true hs', .fr (arsD ar), .fr (nD most)]
def sp__law_spoiled : DSp := fun ts Q _ => ∃ hs ar p, ts = [.ow true hs, .fr (arsD ar), .fr (wayD p)] ∧ HandOk hs ∧ 0 < ar.length ∧ ar.length ≤ 1000 ∧ IsWay ar p ∧ ∀ d hs', Plain d → HandOk hs' → Q (.fr d) [.ow true hs', .fr (arsD ar), .fr (wayD p)]
def sp__law_way_right : DSp := fun ts Q _ => ∃ hs w n ar p, ts = [.ow true hs, .fr w, .fr (arsD ar), .fr (wayD p)] ∧ HandOk hs ∧ IsWeb w n ar ∧ 0 < ar.length ∧ ar.length ≤ 1000 ∧ IsWay ar p ∧ ∀ hs', HandOk hs' → Q (.fr (.bl true)) [.ow true hs', .fr w, .fr (arsD ar), .fr (wayD p)]
def sp__law_pairs_right : DSp := fun ts Q _ => ∃ hs w n ar, ts = [.ow true hs, .fr w, .fr (arsD ar)] ∧ HandOk hs ∧ IsWeb w n ar ∧ ar.length ≤ 1000 ∧ ∀ hs', HandOk hs' → Q (.fr (.bl true)) [.ow true hs', .fr w, .fr (arsD ar)]
end EC
/-! M0: steps of data, their small laws. -/
namespace EC
open PySem PySem.Spec PyProof.Rows L2
theorem l_frz1 (d : D) : frz (.fr d) = d := rfl
theorem l_frz2 (l : Bool) (ds : List D) : frz (.ow l ds) = .lst ds := rfl
theorem l_frz3 (dss : List (List D)) : frz (.o2 dss) = .lst (dss.map .lst) := rfl
theorem l_frz4 (l : Bool) (c : Nat) (fs : List (Str × O)) : frz (.oi l c fs) = .ins c (frzF fs) := rfl
theorem l_lend1 (l : Bool) (ds : List D) : (T.ow l ds).lend = .ow true ds := rfl
theorem l_lend2 (l : Bool) (c : Nat) (fs : List (Str × O)) : (T.oi l c fs).lend = .oi true c fs := rfl
theorem l_lend3 (d : D) : (T.fr d).lend = .fr d := rfl
theorem l_back1 (l b : Bool) (ds es : List D) : T.back (.ow l ds) (.ow b es) = .ow l es := rfl
theorem l_back2 (l b : Bool) (c k : Nat) (fs gs : List (Str × O)) : T.back (.oi l c fs) (.oi b k gs) = .oi l k gs := rfl
theorem l_back3 (d : D) (t : T) : T.back t (.fr d) = .fr d := rfl
theorem l_kind1 (ds : List D) : (T.ow true ds).kind = some none := rfl
theorem l_kind2 (ds : List D) : (T.ow false ds).kind = none := rfl
theorem l_kind3 (d : D) : (T.fr d).kind = none := rfl
theorem l_kind4 (dss : List (List D)) : (T.o2 dss).kind = none := rfl
theorem l_kind5 (c : Nat) (fs : List (Str × O)) : (T.oi true c fs).kind = some (some c) := rfl
theorem l_kind6 (c : Nat) (fs : List (Str × O)) : (T.oi false c fs).kind = none := rfl
theorem l_eqI (i j : Int) (q : D → Prop) : rEq (.int i) (.int j) q ↔ q (.bl (decide (i = j))) := by
  have : PyData.eqv (.int i) (.int j) = decide (i = j) := by
    rw [PyData.eqv]
    exact Bool.beq_eq_decide_eq i j
  constructor
  · rintro ⟨_, _, h⟩
    rw [this] at h
    exact h
  · intro h
    refine ⟨rfl, rfl, ?_⟩
    rw [this]
    exact h
theorem l_neI (i j : Int) (q : D → Prop) : rNe (.int i) (.int j) q ↔ q (.bl (decide (i ≠ j))) := by
  have : (!PyData.eqv (.int i) (.int j)) = decide (i ≠ j) := by
    rw [PyData.eqv, Bool.beq_eq_decide_eq]
    by_cases h : i = j <;> simp [h]
  constructor
  · rintro ⟨_, _, h⟩
    rw [this] at h
    exact h
  · intro h
    refine ⟨rfl, rfl, ?_⟩
    rw [this]
    exact h
theorem l_eqB (i j : Bool) (q : D → Prop) : rEq (.bl i) (.bl j) q ↔ q (.bl (i == j)) := by
  constructor
  · rintro ⟨_, _, h⟩
    rw [PyData.eqv] at h
    exact h
  · intro h
    refine ⟨rfl, rfl, ?_⟩
    rw [PyData.eqv]
    exact h
theorem l_neB (i j : Bool) (q : D → Prop) : rNe (.bl i) (.bl j) q ↔ q (.bl (!(i == j))) := by
  constructor
  · rintro ⟨_, _, h⟩
    rw [PyData.eqv] at h
    exact h
  · intro h
    refine ⟨rfl, rfl, ?_⟩
    rw [PyData.eqv]
    exact h
/-! lists of numbers -/
theorem natsD_length (ns : List Nat) : (natsD ns).length = ns.length := List.length_map _
theorem natsD_get (ns : List Nat) (i : Nat) : (natsD ns)[i]? = ns[i]?.map nD := List.getElem?_map ..
theorem natsD_append (a b : List Nat) : natsD (a ++ b) = natsD a ++ natsD b := List.map_append
theorem nD_inj {a b : Nat} (h : nD a = nD b) : a = b := by
  injection h with h
  exact Int.ofNat.inj h
theorem atD_nat {ds : List D} {i : Nat} {d : D} (h : ds[i]? = some d) : atD ds (i : Int) = some d := atI_front (by omega) (by simpa using h)
theorem rgD_nat (n : Nat) : rgD 0 (n : Int) = natsD (List.range n) := by
  unfold rgD natsD
  rw [show ((n : Int) - 0).toNat = n by omega]
  refine List.map_congr_left fun i _ => ?_
  show D.int (0 + (i : Int)) = D.int (i : Int)
  rw [Int.zero_add]
def natsP (ns : List Nat) : List PyData := ns.map fun (n : Nat) => PyData.int (n : Int)
theorem py_nats (ns : List Nat) : D.pyL (natsD ns) = some (natsP ns) := by
  induction ns with
  | nil => rfl
  | cons n ns ih =>
    show (match (nD n).py, D.pyL (natsD ns) with | some p, some r => some (p :: r) | _, _ => none) = _
    rw [ih]
    rfl
theorem eqv_nats : ∀ a b : List Nat, PyData.eqvAll (natsP a) (natsP b) = decide (a = b)
  | [], [] => rfl
  | [], _ :: _ => rfl
  | _ :: _, [] => rfl
  | x :: a, y :: b => by
    show PyData.eqvAll (.int (x : Int) :: natsP a) (.int (y : Int) :: natsP b) = _
    rw [PyData.eqvAll, eqv_nats a b, PyData.eqv]
    by_cases h : x = y
    · subst h
      simp
    · have h2 : ((x : Int) == (y : Int)) = false := by
        rw [beq_eq_false_iff_ne]
        omega
      rw [h2]
      simp [h]
theorem lay_nats : ∀ a : List Nat, PyData.canLayAll0 (natsP a) = true
  | [] => rfl
  | n :: a => by
    show PyData.canLayAll0 (.int (n : Int) :: natsP a) = _
    rw [PyData.canLayAll0, lay_nats a]
    rfl
theorem depth_nats : ∀ a : List Nat, PyData.depthAll (natsP a) ≤ 1
  | [] => by decide
  | n :: a => by
    show PyData.depthAll (.int (n : Int) :: natsP a) ≤ 1
    rw [PyData.depthAll]
    have := depth_nats a
    have h2 : (PyData.int (n : Int)).depth ≤ 1 := by
      show _ ≤ 1
      first | decide | (unfold PyData.depth; decide) | simp [PyData.depth]
    omega
theorem shaped_lst {a : List Nat} (h : a.length ≤ 1000000) : SeqAt.shaped (.list (natsP a)) = true := by
  unfold SeqAt.shaped
  rw [Bool.and_eq_true]
  refine ⟨?_, decide_eq_true ?_⟩
  · rw [PyData.canLay0]
    simp only [lay_nats, Bool.and_true]
  · rw [PyData.depth]
    have := depth_nats a
    omega
theorem l_eqL {a b : List Nat} (ha : a.length ≤ 1000000) (hb : b.length ≤ 1000000) (q : D → Prop) (h : q (.bl (decide (a = b)))) : rEq (.lst (natsD a)) (.lst (natsD b)) q := by
  have e : ∀ c, (D.lst (natsD c)).py = some (.list (natsP c)) := fun c => by
    show (D.pyL (natsD c)).map PyData.list = _
    rw [py_nats]
    rfl
  unfold rEq
  rw [e, e]
  refine ⟨shaped_lst ha, shaped_lst hb, ?_⟩
  rw [PyData.eqv, eqv_nats]
  exact h
theorem flat_nats (ns : List Nat) : (natsD ns).all flatD = true := by
  rw [List.all_eq_true]
  intro d h
  obtain ⟨n, _, rfl⟩ := List.mem_map.mp h
  rfl
theorem in_nats (x : Nat) (ns : List Nat) : inFlat (nD x) (natsD ns) = decide (x ∈ ns) := by
  unfold inFlat natsD
  rw [List.any_map]
  induction ns with
  | nil => rfl
  | cons n ns ih =>
    rw [List.any_cons, ih]
    show ((((n : Int) == (x : Int)) : Bool) || _) = _
    by_cases h : n = x
    · subst h
      simp
    · have h2 : ((n : Int) == (x : Int)) = false := by
        rw [beq_eq_false_iff_ne]
        omega
      rw [h2]
      have h3 : ¬ x = n := fun z => h z.symm
      simp [h3]
/-! bits -/
theorem shr_nat (b v : Nat) : (b : Int) / 2 ^ ((v : Int)).toNat = ((b >>> v : Nat) : Int) := by
  rw [Int.toNat_natCast, Nat.shiftRight_eq_div_pow]
  norm_cast
theorem bit_at (b v : Nat) : decide (Builtin.bitAnd ((b : Int) / 2 ^ ((v : Int)).toNat) 1 = 1) = b.testBit v := by
  rw [shr_nat, show (1 : Int) = ((1 : Nat) : Int) from rfl, PySem.W.os_band, Nat.and_one_is_mod]
  unfold Nat.testBit
  rw [Nat.one_and_eq_mod_two]
  rcases Nat.mod_two_eq_zero_or_one (b >>> v) with h | h <;> rw [h] <;> decide
/-! a comprehension by a function -/
theorem lc_fm {ds : List D} {τ1 : Env} {g : DG} {cond : DC} {elt : DE} {vs : List Nat} {Q : T → Env → Prop} (f : D → Option D) (hlen : ds.length ≤ 1000000) (hno : ∀ v ∈ vs, noOw τ1 v)
    (step : ∀ d ∈ ds, ∀ (Y : D → Env → Prop) (N : Env → Prop), (∀ y, f d = some y → Y y (wipeT τ1 vs)) → (f d = none → N (wipeT τ1 vs)) → g d (wipeT τ1 vs) fun τ2 => cond τ2 (fun b τ3 => match b with
      | true => elt τ3 (fun y τ4 => Y y (wipeT τ4 vs)) noR
      | false => N (wipeT τ3 vs)) noR)
    (fin : Q (.ow false (ds.filterMap f)) (restT τ1 vs (wipeT τ1 vs))) : LcB ds τ1 g cond elt vs Q := by
  unfold LcB
  refine ⟨hlen, hno, fun i acc τ => acc = (ds.take i).filterMap f ∧ τ = wipeT τ1 vs, ⟨by simp, rfl⟩, ?_, ?_⟩
  · rintro i d acc τ hd ⟨rfl, rfl⟩
    have e : ds.take (i + 1) = ds.take i ++ [d] := by
      rw [List.take_add_one, hd]
      rfl
    refine step d (List.mem_of_getElem? hd) (fun y τ => (ds.take i).filterMap f ++ [y] = (ds.take (i + 1)).filterMap f ∧ τ = wipeT τ1 vs) (fun τ => (ds.take i).filterMap f = (ds.take (i + 1)).filterMap f ∧ τ = wipeT τ1 vs) (fun y hy => ⟨?_, rfl⟩) (fun hn => ⟨?_, rfl⟩)
    · rw [e, List.filterMap_append, List.filterMap_cons, hy]
      rfl
    · rw [e, List.filterMap_append, List.filterMap_cons, hn]
      exact (List.append_nil _).symm
  · rintro acc τ ⟨rfl, rfl⟩
    rw [List.take_length]
    exact fin
theorem l_at0 (a : D) (l : List D) : atD (a :: l) 0 = some a := atD_nat (i := 0) rfl
theorem l_at1 (a b : D) (l : List D) : atD (a :: b :: l) 1 = some b := atD_nat (i := 1) rfl
theorem l_at2 (a b c : D) (l : List D) : atD (a :: b :: c :: l) 2 = some c := atD_nat (i := 2) rfl
theorem l_at3 (a b c d : D) (l : List D) : atD (a :: b :: c :: d :: l) 3 = some d := atD_nat (i := 3) rfl
theorem l_at4 (a b c d e : D) (l : List D) : atD (a :: b :: c :: d :: e :: l) 4 = some e := atD_nat (i := 4) rfl
/-- a comprehension over told things -/
theorem lc_map {α : Type} (mk h : α → D) (xs : List α) {τ1 : Env} {g : DG} {cond : DC} {elt : DE} {vs : List Nat} {Q : T → Env → Prop} (hlen : xs.length ≤ 1000000) (hno : ∀ v ∈ vs, noOw τ1 v)
    (step : ∀ x ∈ xs, ∀ (Y : D → Env → Prop) (N : Env → Prop), Y (h x) (wipeT τ1 vs) → g (mk x) (wipeT τ1 vs) fun τ2 => cond τ2 (fun b τ3 => match b with
      | true => elt τ3 (fun y τ4 => Y y (wipeT τ4 vs)) noR
      | false => N (wipeT τ3 vs)) noR)
    (fin : Q (.ow false (xs.map h)) (restT τ1 vs (wipeT τ1 vs))) : LcB (xs.map mk) τ1 g cond elt vs Q := by
  unfold LcB
  refine ⟨by rw [List.length_map]; exact hlen, hno, fun i acc τ => acc = (xs.take i).map h ∧ τ = wipeT τ1 vs, ⟨by simp, rfl⟩, ?_, ?_⟩
  · rintro i d acc τ hd ⟨rfl, rfl⟩
    rw [List.getElem?_map] at hd
    obtain ⟨x, hx, rfl⟩ := Option.map_eq_some_iff.mp hd
    refine step x (List.mem_of_getElem? hx) (fun y τ => (xs.take i).map h ++ [y] = (xs.take (i + 1)).map h ∧ τ = wipeT τ1 vs) (fun τ => (xs.take i).map h = (xs.take (i + 1)).map h ∧ τ = wipeT τ1 vs) ⟨?_, rfl⟩
    rw [List.take_add_one, hx, List.map_append]
    rfl
  · rintro acc τ ⟨rfl, rfl⟩
    rw [List.length_map, List.take_length]
    exact fin
end EC
namespace EC
open PySem PySem.Spec PyProof.Rows L2
def topS (i : Nat) : Stmt := PySem.Challenge.pw_enoughchecks_k03_whole_ways_judged_and_p.main.body.getD i (.Pass ⟨0, 0, 0, 0⟩)
abbrev pf_arrows : Nat → Prop := fun c => c ∈ [200]
abbrev pf_ins : Nat → Prop := fun c => c ∈ [200]
abbrev pf_order : Nat → Prop := fun c => c ∈ [200]
abbrev pf_outs : Nat → Prop := fun c => c ∈ [200]
abbrev pf_places : Nat → Prop := fun c => c ∈ [200]
abbrev pf_reach : Nat → Prop := fun c => c ∈ [200]
structure Tx (K : Kc) (mg : Str → Option Value) : Prop where
  m_abs : mg (Str.ofString "abs") = none
  m_all : mg (Str.ofString "all") = none
  m_bool : mg (Str.ofString "bool") = none
  m_enumerate : mg (Str.ofString "enumerate") = none
  m_int : mg (Str.ofString "int") = none
  m_isinstance : mg (Str.ofString "isinstance") = none
  m_len : mg (Str.ofString "len") = none
  m_list : mg (Str.ofString "list") = none
  m_max : mg (Str.ofString "max") = none
  m_min : mg (Str.ofString "min") = none
  m_range : mg (Str.ofString "range") = none
  m_set : mg (Str.ofString "set") = none
  m_str : mg (Str.ofString "str") = none
  m_tuple : mg (Str.ofString "tuple") = none
  m_zip : mg (Str.ofString "zip") = none
  g_MOST_ARROWS : ∃ t, mg (Str.ofString "MOST_ARROWS") = some (.int 400 t)
  g_MOST_PLACES : ∃ t, mg (Str.ofString "MOST_PLACES") = some (.int 60 t)
  f_arrows : HasF K pf_arrows (Str.ofString "arrows")
  f_ins : HasF K pf_ins (Str.ofString "ins")
  f_order : HasF K pf_order (Str.ofString "order")
  f_outs : HasF K pf_outs (Str.ofString "outs")
  f_places : HasF K pf_places (Str.ofString "places")
  f_reach : HasF K pf_reach (Str.ofString "reach")
section
variable {P : Program} {w : World} {K : Kc} {mg : Str → Option Value} {base : Heap} {k r : Nat}
def b_order_of_c1 : DT := (dLcO (dRange1 (dVar 0)) (dgName 8) (dLst dNil) [8])
def b_order_of_b2 : DS := (dSeq (dAugIx 2 (dVar 5) rAddI (dC (.int 1)))
  (dDrop (dFr (dAppIx 3 (dVar 4) (dVar 5)))))
def b_order_of_l3 : DS := (dFor (dItems (dVar 1)) (dgTup 2 (dgCons (dgName 4) (dgCons (dgName 5) dgNil))) b_order_of_b2)
def b_order_of_c4 : DT := (dLc (dRange1 (dVar 0)) (dgName 8) (dB (dOp rEq (dIxV 2 (dVar 8)) (dC (.int 0)))) (dVar 8) [8])
def b_order_of_b5 : DS := (dSeq (dAugIx 2 (dVar 5) rSub (dC (.int 1)))
  (dIfS (dB (dOp rEq (dIxV 2 (dVar 5)) (dC (.int 0))))
  (dDrop (dFr (dApp 6 (dVar 5))))
  dNext))
def b_order_of_l6 : DS := (dFor (dItems (dOp rIx (dVar 3) (dIxV 6 (dVar 7)))) (dgName 5) b_order_of_b5)
def b_order_of_r7 : DS := (dAug 7 rAddI (dC (.int 1)))
def b_order_of_b8 : DS := (dSeq b_order_of_l6
  b_order_of_r7)
def b_order_of_l9 : DS := (dWhile (dB (dOp rLt (dVar 7) (dLenV 6))) b_order_of_b8)
def b_order_of_r10 : DS := (dRet (dFr (dVar 6)))
def b_order_of_r11 : DS := (dSeq (dSet 7 (dFr (dC (.int 0))))
  (dSeq b_order_of_l9
  b_order_of_r10))
def b_order_of_r12 : DS := (dSeq (dSet 6 b_order_of_c4)
  b_order_of_r11)
def b_order_of_r13 : DS := (dSeq b_order_of_l3
  b_order_of_r12)
def b_order_of : DS := (dSeq (dSet 2 (dRep (dFz (dLst (dCons (dC (.int 0)) dNil))) (dVar 0)))
  (dSeq (dSet 3 b_order_of_c1)
  b_order_of_r13))
def N_order_of : List Str := ["places", "arrows", "lacking", "outs", "begin", "end", "found", "done", "place"]
theorem sc_order_of : FnScope N_order_of ["places", "arrows"] (defScope (topS 12)) := ⟨rfl, rfl, rfl, by decide +kernel, rfl, by decide +kernel, by decide +kernel⟩
theorem d_order_of (T : Tx K mg) (W : WX) : SB ⟨P, w, K, mg, base, N_order_of, defScope (topS 12), k, true, fun _ => true, W⟩ (defBody (topS 12)) b_order_of :=
  (SB.cons (SS.set (i := 2) (ST.rep (SE.fz (ST.lst (SA.cons SE.int SA.nil))) (SE.var (i := 0))))
  (SB.cons (SS.setLcO (i := 3) (own := [((Str.ofString "place" : Str), 8)]) (SI.range1 (SE.var (i := 0)) T.m_range) (SG.name (i := 8)) (ST.lst SA.nil))
  (SB.cons (SS.for_ (SI.items (SE.var (i := 1))) (SG.tup (SGs.cons (SG.name (i := 4)) (SGs.cons (SG.name (i := 5)) SGs.nil)))
  (SB.cons (SS.augIx (i := 2) ipAdd (SE.var (i := 5)) SE.int)
  (SB.one (SS.expr (ST.fr (SE.appIx (i := 3) (SE.var (i := 4)) (SE.var (i := 5))))))))
  (SB.cons (SS.setLc (i := 6) (own := [((Str.ofString "place" : Str), 8)]) (SI.range1 (SE.var (i := 0)) T.m_range) (SG.name (i := 8)) (SCs.one (SC.cmp (opEq rfl) (SE.ixV (i := 2) (SE.var (i := 8))) SE.int)) (SE.var (i := 8)))
  (SB.cons (SS.set (i := 7) (ST.fr SE.int))
  (SB.cons (SS.while_ (SC.cmp opLt (SE.var (i := 7)) (SE.lenV (i := 6) T.m_len))
  (SB.cons (SS.for_ (SI.items (SE.ix (SE.var (i := 3)) (SE.ixV (i := 6) (SE.var (i := 7))))) (SG.name (i := 5))
  (SB.cons (SS.augIx (i := 2) ipSub (SE.var (i := 5)) SE.int)
  (SB.one (SS.ifS (SC.cmp (opEq rfl) (SE.ixV (i := 2) (SE.var (i := 5))) SE.int)
  (SB.one (SS.expr (ST.fr (SE.app (i := 6) (SE.var (i := 5))))))
  SB.nil))))
  (SB.one (SS.aug (i := 7) ipAdd SE.int))))
  (SB.one (SS.ret (ST.fr (SE.var (i := 6)))))))))))
def b_Web_keep_c1 : DT := (dLcO (dRange1 (dVar 1)) (dgName 6) (dLst dNil) [6])
def b_Web_keep_c2 : DT := (dLcO (dRange1 (dVar 1)) (dgName 6) (dLst dNil) [6])
def b_Web_keep_b3 : DS := (dSeq (dDrop (dFr (dAppIxF pf_outs 0 (Str.ofString "outs") (dVar 4) (dVar 3))))
  (dDrop (dFr (dAppIxF pf_ins 0 (Str.ofString "ins") (dVar 5) (dVar 3)))))
def b_Web_keep_l4 : DS := (dFor (dEnum (dVar 2)) (dgTup 2 (dgCons (dgName 3) (dgCons (dgTup 2 (dgCons (dgName 4) (dgCons (dgName 5) dgNil))) dgNil))) b_Web_keep_b3)
def b_Web_keep_c5 : DT := (dLc (dRange1 (dVar 1)) (dgName 6) dYes (dOp rShl (dC (.int 1)) (dVar 6)) [6])
def b_Web_keep_b6 : DS := (dSetIxF pf_reach 0 (Str.ofString "reach") (dOp rBor (dIxF pf_reach 0 (Str.ofString "reach") (dVar 6)) (dIxF pf_reach 0 (Str.ofString "reach") (dOp rIx (dIxV 2 (dVar 3)) (dC (.int 1))))) (dVar 6))
def b_Web_keep_l7 : DS := (dFor (dItems (dIxF pf_outs 0 (Str.ofString "outs") (dVar 6))) (dgName 3) b_Web_keep_b6)
def b_Web_keep_b8 : DS := b_Web_keep_l7
def b_Web_keep_l9 : DS := (dFor (dItems (dFz (dBack (dFldV pf_order 0 (Str.ofString "order"))))) (dgName 6) b_Web_keep_b8)
def b_Web_keep_r10 : DS := b_Web_keep_l9
def b_Web_keep_r11 : DS := (dSeq (dSetF pf_reach 0 (Str.ofString "reach") b_Web_keep_c5)
  b_Web_keep_r10)
def b_Web_keep_r12 : DS := (dSeq (dSetF pf_order 0 (Str.ofString "order") (dCall sp_order_of (dCons (dVar 1) (dCons (dVar 2) dNil))))
  b_Web_keep_r11)
def b_Web_keep_r13 : DS := (dSeq b_Web_keep_l4
  b_Web_keep_r12)
def b_Web_keep_r14 : DS := (dSeq (dSetF pf_ins 0 (Str.ofString "ins") b_Web_keep_c2)
  b_Web_keep_r13)
def b_Web_keep : DS := (dSeq (dSetF pf_places 0 (Str.ofString "places") (dFr (dVar 1)))
  (dSeq (dSetF pf_arrows 0 (Str.ofString "arrows") (dFr (dVar 2)))
  (dSeq (dSetF pf_outs 0 (Str.ofString "outs") b_Web_keep_c1)
  b_Web_keep_r14)))
def N_Web_keep : List Str := ["self", "places", "arrows", "number", "begin", "end", "place"]
theorem sc_Web_keep : FnScope N_Web_keep ["self", "places", "arrows"] (defScope (inClass (topS 13) 1)) := ⟨rfl, rfl, rfl, by decide +kernel, rfl, by decide +kernel, by decide +kernel⟩
theorem d_Web_keep (T : Tx K mg) (h_order_of : Df P w K mg base k (Str.ofString "order_of") sp_order_of) (W : WX) : SB ⟨P, w, K, mg, base, N_Web_keep, defScope (inClass (topS 13) 1), k, true, fun _ => true, W⟩ (defBody (inClass (topS 13) 1)) b_Web_keep :=
  (SB.cons (SS.setF (i := 0) T.f_places (ST.fr (SE.var (i := 1))))
  (SB.cons (SS.setF (i := 0) T.f_arrows (ST.fr (SE.var (i := 2))))
  (SB.cons (SS.setF (i := 0) T.f_outs (ST.lcO (own := [((Str.ofString "place" : Str), 6)]) (SI.range1 (SE.var (i := 1)) T.m_range) (SG.name (i := 6)) (ST.lst SA.nil)))
  (SB.cons (SS.setF (i := 0) T.f_ins (ST.lcO (own := [((Str.ofString "place" : Str), 6)]) (SI.range1 (SE.var (i := 1)) T.m_range) (SG.name (i := 6)) (ST.lst SA.nil)))
  (SB.cons (SS.for_ (SI.enum (SE.var (i := 2)) T.m_enumerate) (SG.tup (SGs.cons (SG.name (i := 3)) (SGs.cons (SG.tup (SGs.cons (SG.name (i := 4)) (SGs.cons (SG.name (i := 5)) SGs.nil))) SGs.nil)))
  (SB.cons (SS.expr (ST.fr (SE.appIxF (i := 0) T.f_outs (SE.var (i := 4)) (SE.var (i := 3)))))
  (SB.one (SS.expr (ST.fr (SE.appIxF (i := 0) T.f_ins (SE.var (i := 5)) (SE.var (i := 3))))))))
  (SB.cons (SS.setF (i := 0) T.f_order (ST.call h_order_of (SA.cons (SE.var (i := 1)) (SA.cons (SE.var (i := 2)) SA.nil))))
  (SB.cons (SS.setF (i := 0) T.f_reach (ST.lc (own := [((Str.ofString "place" : Str), 6)]) (SI.range1 (SE.var (i := 1)) T.m_range) (SG.name (i := 6)) SCs.nil (SE.op opShl SE.int (SE.var (i := 6)))))
  (SB.one (SS.for_ (SI.items (SE.fz (ST.back (SE.fldV (i := 0) T.f_order)))) (SG.name (i := 6))
  (SB.one (SS.for_ (SI.items (SE.ixF (i := 0) T.f_outs (SE.var (i := 6)))) (SG.name (i := 3))
  (SB.one (SS.setIxF (i := 0) T.f_reach (SE.op opBor (SE.ixF (i := 0) T.f_reach (SE.var (i := 6))) (SE.ixF (i := 0) T.f_reach (SE.ix (SE.ixV (i := 2) (SE.var (i := 3))) SE.int))) (SE.var (i := 6)))))))))))))))
def b_is_pair : DS := (dRet (dFr (dAndV (dIsi ["tuple"] (dVar 0)) (dOp rEq (dLenV 0) (dC (.int 2))))))
def N_is_pair : List Str := ["thing"]
theorem sc_is_pair : FnScope N_is_pair ["thing"] (defScope (topS 7)) := ⟨rfl, rfl, rfl, by decide +kernel, rfl, by decide +kernel, by decide +kernel⟩
theorem d_is_pair (T : Tx K mg) (W : WX) : SB ⟨P, w, K, mg, base, N_is_pair, defScope (topS 7), k, true, fun _ => true, W⟩ (defBody (topS 7)) b_is_pair :=
  (SB.one (SS.ret (ST.fr (SE.and (SE.isi (SE.var (i := 0)) ⟨rfl, T.m_tuple, by decide +kernel, by decide, by decide, by decide⟩ T.m_isinstance) (SE.one (SE.cmp (opEq rfl) (SE.lenV (i := 0) T.m_len) SE.int))))))
def b_is_integer : DS := (dRet (dFr (dAndV (dIsi ["int"] (dVar 0)) (dNotV (dIsi ["bool"] (dVar 0))))))
def N_is_integer : List Str := ["thing"]
theorem sc_is_integer : FnScope N_is_integer ["thing"] (defScope (topS 5)) := ⟨rfl, rfl, rfl, by decide +kernel, rfl, by decide +kernel, by decide +kernel⟩
theorem d_is_integer (T : Tx K mg) (W : WX) : SB ⟨P, w, K, mg, base, N_is_integer, defScope (topS 5), k, true, fun _ => true, W⟩ (defBody (topS 5)) b_is_integer :=
  (SB.one (SS.ret (ST.fr (SE.and (SE.isi (SE.var (i := 0)) ⟨rfl, T.m_int, by decide +kernel, by decide, by decide, by decide⟩ T.m_isinstance) (SE.one (SE.not (SE.isi (SE.var (i := 0)) ⟨rfl, T.m_bool, by decide +kernel, by decide, by decide, by decide⟩ T.m_isinstance)))))))
def b_is_within : DS := (dRet (dFr (dAndV (dFz (dCall sp_is_integer (dCons (dVar 0) dNil))) (dChain rLe rLe (dVar 1) (dVar 0) (dVar 2)))))
def N_is_within : List Str := ["thing", "least", "most"]
theorem sc_is_within : FnScope N_is_within ["thing", "least", "most"] (defScope (topS 6)) := ⟨rfl, rfl, rfl, by decide +kernel, rfl, by decide +kernel, by decide +kernel⟩
theorem d_is_within (T : Tx K mg) (h_is_integer : Df P w K mg base k (Str.ofString "is_integer") sp_is_integer) (W : WX) : SB ⟨P, w, K, mg, base, N_is_within, defScope (topS 6), k, true, fun _ => true, W⟩ (defBody (topS 6)) b_is_within :=
  (SB.one (SS.ret (ST.fr (SE.and (SE.fz (ST.call h_is_integer (SA.cons (SE.var (i := 0)) SA.nil))) (SE.one (SE.chain opLe opLe (SE.var (i := 1)) (SE.var (i := 0)) (SE.var (i := 2))))))))
def b_is_arrow_of_c1 : DT := (dLc (dItems (dVar 1)) (dgName 2) dYes (dFz (dCall sp_is_within (dCons (dVar 2) (dCons (dC (.int 0)) (dCons (dOp rSub (dVar 0) (dC (.int 1))) dNil))))) [2])
def b_is_arrow_of_r2 : DS := (dRet (dFr (dOp rNe (dIxV 1 (dC (.int 0))) (dIxV 1 (dC (.int 1))))))
def b_is_arrow_of : DS := (dSeq (dIfS (dOr (dNot (dB (dFz (dCall sp_is_pair (dCons (dVar 1) dNil))))) (dNot (dB (dFz (dCallB cAll (dCons (dFz b_is_arrow_of_c1) dNil))))))
  (dRet (dFr (dC (.bl false))))
  dNext)
  b_is_arrow_of_r2)
def N_is_arrow_of : List Str := ["places", "thing", "place"]
theorem sc_is_arrow_of : FnScope N_is_arrow_of ["places", "thing"] (defScope (topS 11)) := ⟨rfl, rfl, rfl, by decide +kernel, rfl, by decide +kernel, by decide +kernel⟩
theorem d_is_arrow_of (T : Tx K mg) (h_is_pair : Df P w K mg base k (Str.ofString "is_pair") sp_is_pair) (h_is_within : Df P w K mg base k (Str.ofString "is_within") sp_is_within) (W : WX) : SB ⟨P, w, K, mg, base, N_is_arrow_of, defScope (topS 11), k, true, fun _ => true, W⟩ (defBody (topS 11)) b_is_arrow_of :=
  (SB.cons (SS.ifS (SC.w (SW.or (SC.not (SC.val (SE.fz (ST.call h_is_pair (SA.cons (SE.var (i := 1)) SA.nil))))) (SW.or1 (SC.not (SC.val (SE.fz (ST.callB (ocAll rfl) T.m_all (SA.cons (SE.fz (ST.lc (own := [((Str.ofString "place" : Str), 2)]) (SI.items (SE.var (i := 1))) (SG.name (i := 2)) SCs.nil (SE.fz (ST.call h_is_within (SA.cons (SE.var (i := 2)) (SA.cons SE.int (SA.cons (SE.op opSub (SE.var (i := 0)) SE.int) SA.nil))))))) SA.nil))))))))
  (SB.one (SS.ret (ST.fr SE.bl)))
  SB.nil)
  (SB.one (SS.ret (ST.fr (SE.cmp (opNe rfl) (SE.ixV (i := 1) SE.int) (SE.ixV (i := 1) SE.int))))))
def b_Web_init_b1 : DS := (dIfS (dNot (dB (dFz (dCall sp_is_arrow_of (dCons (dVar 1) (dCons (dVar 4) dNil))))))
  dNever
  dNext)
def b_Web_init_l2 : DS := (dFor (dEnum (dVar 2)) (dgTup 2 (dgCons (dgName 3) (dgCons (dgName 4) dgNil))) b_Web_init_b1)
def b_Web_init_r3 : DS := (dDrop (dCallM 200 (Str.ofString "keep") 0 sp_Web_keep (dCons (dVar 1) (dCons (dVar 2) dNil))))
def b_Web_init_r4 : DS := (dSeq (dIfS (dB (dOp rLt (dFz (dCallB cLen (dCons (dFz (dCall sp_order_of (dCons (dVar 1) (dCons (dVar 2) dNil)))) dNil))) (dVar 1)))
  dNever
  dNext)
  b_Web_init_r3)
def b_Web_init_r5 : DS := (dSeq b_Web_init_l2
  b_Web_init_r4)
def b_Web_init_r6 : DS := (dSeq (dIfS (dOr (dNot (dB (dIsi ["tuple"] (dVar 2)))) (dB (dOp rGt (dLenV 2) (dC (.int 400)))))
  dNever
  dNext)
  b_Web_init_r5)
def b_Web_init : DS := (dSeq (dIfS (dNot (dB (dFz (dCall sp_is_within (dCons (dVar 1) (dCons (dC (.int 1)) (dCons (dC (.int 60)) dNil)))))))
  dNever
  dNext)
  b_Web_init_r6)
def N_Web_init : List Str := ["self", "places", "arrows", "at", "arrow"]
theorem sc_Web_init : FnScope N_Web_init ["self", "places", "arrows"] (defScope (inClass (topS 13) 0)) := ⟨rfl, rfl, rfl, by decide +kernel, rfl, by decide +kernel, by decide +kernel⟩
theorem d_Web_init (T : Tx K mg) (h_Web_keep : DfM P w K mg base k 200 (Str.ofString "keep") sp_Web_keep) (h_is_arrow_of : Df P w K mg base k (Str.ofString "is_arrow_of") sp_is_arrow_of) (h_is_within : Df P w K mg base k (Str.ofString "is_within") sp_is_within) (h_order_of : Df P w K mg base k (Str.ofString "order_of") sp_order_of) (W : WX) : SB ⟨P, w, K, mg, base, N_Web_init, defScope (inClass (topS 13) 0), k, true, fun _ => true, W⟩ (defBody (inClass (topS 13) 0)) b_Web_init :=
  (SB.cons (SS.ifS (SC.not (SC.val (SE.fz (ST.call h_is_within (SA.cons (SE.var (i := 1)) (SA.cons SE.int (SA.cons (SE.glob (n := 60) T.g_MOST_PLACES) SA.nil)))))))
  (SB.one SS.never)
  SB.nil)
  (SB.cons (SS.ifS (SC.w (SW.or (SC.not (SC.val (SE.isi (SE.var (i := 2)) ⟨rfl, T.m_tuple, by decide +kernel, by decide, by decide, by decide⟩ T.m_isinstance))) (SW.or1 (SC.cmp opGt (SE.lenV (i := 2) T.m_len) (SE.glob (n := 400) T.g_MOST_ARROWS)))))
  (SB.one SS.never)
  SB.nil)
  (SB.cons (SS.for_ (SI.enum (SE.var (i := 2)) T.m_enumerate) (SG.tup (SGs.cons (SG.name (i := 3)) (SGs.cons (SG.name (i := 4)) SGs.nil)))
  (SB.one (SS.ifS (SC.not (SC.val (SE.fz (ST.call h_is_arrow_of (SA.cons (SE.var (i := 1)) (SA.cons (SE.var (i := 4)) SA.nil))))))
  (SB.one SS.never)
  SB.nil)))
  (SB.cons (SS.ifS (SC.cmp opLt (SE.fz (ST.callB ocLen T.m_len (SA.cons (SE.fz (ST.call h_order_of (SA.cons (SE.var (i := 1)) (SA.cons (SE.var (i := 2)) SA.nil)))) SA.nil))) (SE.var (i := 1)))
  (SB.one SS.never)
  SB.nil)
  (SB.one (SS.expr (ST.meth (i := 0) h_Web_keep (SA.cons (SE.var (i := 1)) (SA.cons (SE.var (i := 2)) SA.nil)))))))))
def b__law_draw_r1 : DS := (dSeq (dSetIx 0 (dOp rAdd (dIxV 0 (dC (.int 4))) (dC (.int 1))) (dC (.int 4)))
  (dSeq (dSet 4 (dFr (dOp rMod (dFz (dCallB cInt (dCons (dOp rMul (dFz (dCallB cInt (dCons (dOp rAdd (dIxV 0 (dC (.int 3))) (dOp rMul (dC (.int 7919)) (dIxV 0 (dC (.int 4))))) dNil))) (dC (.int 48271))) dNil))) (dC (.int 2147483647)))))
  (dSeq (dSet 4 (dFr (dOp rMod (dFz (dCallB cInt (dCons (dOp rMul (dVar 4) (dOp rAdd (dOp rDiv (dVar 4) (dC (.int 1009))) (dC (.int 69621)))) dNil))) (dC (.int 2147483647)))))
  (dSeq (dSet 4 (dFr (dOp rMod (dFz (dCallB cInt (dCons (dOp rMul (dVar 4) (dOp rAdd (dOp rDiv (dVar 4) (dC (.int 2003))) (dC (.int 40692)))) dNil))) (dC (.int 2147483399)))))
  (dRet (dFr (dOp rMod (dFz (dCallB cInt (dCons (dOp rDiv (dVar 4) (dC (.int 16))) dNil))) (dVar 1))))))))
def b__law_draw_r2 : DS := (dSeq (dIfS (dB (dOp rGt (dIxV 0 (dC (.int 2))) (dC (.int 0))))
  (dSeq (dSet 3 (dFr (dOp rMod (dFz (dCallB cInt (dCons (dIxV 0 (dC (.int 2))) dNil))) (dVar 1))))
  (dSeq (dSetIx 0 (dOp rDiv (dIxV 0 (dC (.int 2))) (dVar 1)) (dC (.int 2)))
  (dRet (dFr (dVar 3)))))
  dNext)
  b__law_draw_r1)
def b__law_draw : DS := (dSeq (dIfS (dAnd (dB (dOp rEq (dIxV 0 (dC (.int 2))) (dC (.int 0)))) (dB (dOp rLt (dIxV 0 (dC (.int 1))) (dFz (dCallB cLen (dCons (dIxV 0 (dC (.int 0))) dNil))))))
  (dSeq (dSet 2 (dFr (dOp rIx (dIxV 0 (dC (.int 0))) (dIxV 0 (dC (.int 1))))))
  (dSeq (dSetIx 0 (dOp rAdd (dIxV 0 (dC (.int 1))) (dC (.int 1))) (dC (.int 1)))
  (dSeq (dSetIx 0 (dOp rMod (dFz (dCallB cInt (dCons (dOp rAdd (dOp rAdd (dOp rMul (dIxV 0 (dC (.int 3))) (dC (.int 69621))) (dVar 2)) (dC (.int 11))) dNil))) (dC (.int 2147483629))) (dC (.int 3)))
  (dIfS (dB (dOp rGe (dVar 2) (dOp rPow (dC (.int 10)) (dC (.int 18)))))
  (dSetIx 0 (dVar 2) (dC (.int 2)))
  dNext))))
  dNext)
  b__law_draw_r2)
def N__law_draw : List Str := ["hand", "many", "cell", "digit", "number"]
theorem sc__law_draw : FnScope N__law_draw ["hand", "many"] (defScope (topS 23)) := ⟨rfl, rfl, rfl, by decide +kernel, rfl, by decide +kernel, by decide +kernel⟩
theorem d__law_draw (T : Tx K mg) (W : WX) : SB ⟨P, w, K, mg, base, N__law_draw, defScope (topS 23), k, true, fun _ => true, W⟩ (defBody (topS 23)) b__law_draw :=
  (SB.cons (SS.ifS (SC.w (SW.and (SC.cmp (opEq rfl) (SE.ixV (i := 0) SE.int) SE.int) (SW.and1 (SC.cmp opLt (SE.ixV (i := 0) SE.int) (SE.fz (ST.callB ocLen T.m_len (SA.cons (SE.ixV (i := 0) SE.int) SA.nil)))))))
  (SB.cons (SS.set (i := 2) (ST.fr (SE.ix (SE.ixV (i := 0) SE.int) (SE.ixV (i := 0) SE.int))))
  (SB.cons (SS.setIx (i := 0) (SE.op opAdd (SE.ixV (i := 0) SE.int) SE.int) SE.int)
  (SB.cons (SS.setIx (i := 0) (SE.op opMod (SE.fz (ST.callTy ocInt T.m_int (SA.cons (SE.op opAdd (SE.op opAdd (SE.op opMul (SE.ixV (i := 0) SE.int) SE.int) (SE.var (i := 2))) SE.int) SA.nil))) SE.int) SE.int)
  (SB.one (SS.ifS (SC.cmp opGe (SE.var (i := 2)) (SE.op opPow SE.int SE.int))
  (SB.one (SS.setIx (i := 0) (SE.var (i := 2)) SE.int))
  SB.nil)))))
  SB.nil)
  (SB.cons (SS.ifS (SC.cmp opGt (SE.ixV (i := 0) SE.int) SE.int)
  (SB.cons (SS.set (i := 3) (ST.fr (SE.op opMod (SE.fz (ST.callTy ocInt T.m_int (SA.cons (SE.ixV (i := 0) SE.int) SA.nil))) (SE.var (i := 1)))))
  (SB.cons (SS.setIx (i := 0) (SE.op opDiv (SE.ixV (i := 0) SE.int) (SE.var (i := 1))) SE.int)
  (SB.one (SS.ret (ST.fr (SE.var (i := 3)))))))
  SB.nil)
  (SB.cons (SS.setIx (i := 0) (SE.op opAdd (SE.ixV (i := 0) SE.int) SE.int) SE.int)
  (SB.cons (SS.set (i := 4) (ST.fr (SE.op opMod (SE.fz (ST.callTy ocInt T.m_int (SA.cons (SE.op opMul (SE.fz (ST.callTy ocInt T.m_int (SA.cons (SE.op opAdd (SE.ixV (i := 0) SE.int) (SE.op opMul SE.int (SE.ixV (i := 0) SE.int))) SA.nil))) SE.int) SA.nil))) SE.int)))
  (SB.cons (SS.set (i := 4) (ST.fr (SE.op opMod (SE.fz (ST.callTy ocInt T.m_int (SA.cons (SE.op opMul (SE.var (i := 4)) (SE.op opAdd (SE.op opDiv (SE.var (i := 4)) SE.int) SE.int)) SA.nil))) SE.int)))
  (SB.cons (SS.set (i := 4) (ST.fr (SE.op opMod (SE.fz (ST.callTy ocInt T.m_int (SA.cons (SE.op opMul (SE.var (i := 4)) (SE.op opAdd (SE.op opDiv (SE.var (i := 4)) SE.int) SE.int)) SA.nil))) SE.int)))
  (SB.one (SS.ret (ST.fr (SE.op opMod (SE.fz (ST.callTy ocInt T.m_int (SA.cons (SE.op opDiv (SE.var (i := 4)) SE.int) SA.nil))) (SE.var (i := 1))))))))))))
def b__law_hand_c1 : DT := (dLc (dItems (dFz (dCut (dVar 0) dNoPart (dPart (dC (.int 63)))))) (dgName 2) dYes (dFz (dCallB cAbs (dCons (dFz (dCallB cInt (dCons (dVar 2) dNil))) dNil))) [2])
def b__law_hand_r2 : DS := (dRet (dLst (dCons (dVar 1) (dCons (dC (.int 0)) (dCons (dC (.int 0)) (dCons (dOp rAdd (dC (.int 1)) (dLenV 1)) (dCons (dC (.int 0)) dNil)))))))
def b__law_hand : DS := (dSeq (dSet 1 b__law_hand_c1)
  b__law_hand_r2)
def N__law_hand : List Str := ["script", "cells", "cell"]
theorem sc__law_hand : FnScope N__law_hand ["script"] (defScope (topS 22)) := ⟨rfl, rfl, rfl, by decide +kernel, rfl, by decide +kernel, by decide +kernel⟩
theorem d__law_hand (T : Tx K mg) (W : WX) : SB ⟨P, w, K, mg, base, N__law_hand, defScope (topS 22), k, true, fun _ => true, W⟩ (defBody (topS 22)) b__law_hand :=
  (SB.cons (SS.setLc (i := 1) (own := [((Str.ofString "cell" : Str), 2)]) (SI.items (SE.fz (ST.cut (SE.var (i := 0)) SO.none (SO.some SE.int)))) (SG.name (i := 2)) SCs.nil (SE.fz (ST.callB ocAbs T.m_abs (SA.cons (SE.fz (ST.callTy ocInt T.m_int (SA.cons (SE.var (i := 2)) SA.nil))) SA.nil))))
  (SB.one (SS.ret (ST.lst (SA.cons (SE.var (i := 1)) (SA.cons SE.int (SA.cons SE.int (SA.cons (SE.op opAdd SE.int (SE.lenV (i := 1) T.m_len)) (SA.cons SE.int SA.nil)))))))))
def b__law_is_c1 (r : Nat) : DT := (dLc (dZip (dVar 0) (dVar 1)) (dgTup 2 (dgCons (dgName 2) (dgCons (dgName 3) dgNil))) dYes (dFz (dCall (sp__law_is r) (dCons (dVar 2) (dCons (dVar 3) dNil)))) [2, 3])
def b__law_is_r2 (r : Nat) : DS := (dRet (dFr (dAndV (dOp rEq (dLenV 0) (dLenV 1)) (dFz (dCallB cAll (dCons (dFz (b__law_is_c1 r)) dNil))))))
def b__law_is_r3 (r : Nat) : DS := (dRet (dFr (dAndV (dOp rEq (dIsi ["bool"] (dVar 0)) (dIsi ["bool"] (dVar 1))) (dOp rEq (dVar 0) (dVar 1)))))
def b__law_is (r : Nat) : DS := (dSeq (dIfS (dB (dIsi ["tuple", "list"] (dVar 1)))
  (dSeq (dIfS (dOr (dB (dOp rNe (dIsi ["tuple"] (dVar 0)) (dIsi ["tuple"] (dVar 1)))) (dNot (dB (dIsi ["tuple", "list"] (dVar 0)))))
  (dRet (dFr (dC (.bl false))))
  dNext)
  (b__law_is_r2 r))
  dNext)
  (b__law_is_r3 r))
def N__law_is : List Str := ["told", "due", "one", "two"]
theorem sc__law_is : FnScope N__law_is ["told", "due"] (defScope (topS 24)) := ⟨rfl, rfl, rfl, by decide +kernel, rfl, by decide +kernel, by decide +kernel⟩
theorem d__law_is (T : Tx K mg) (h__law_is : Df P w K mg base k (Str.ofString "_law_is") (sp__law_is r)) (W : WX) : SB ⟨P, w, K, mg, base, N__law_is, defScope (topS 24), k, true, fun _ => true, W⟩ (defBody (topS 24)) (b__law_is r) :=
  (SB.cons (SS.ifS (SC.val (SE.isi2 (SE.var (i := 1)) ⟨rfl, T.m_tuple, by decide +kernel, by decide, by decide, by decide⟩ ⟨rfl, T.m_list, by decide +kernel, by decide, by decide, by decide⟩ T.m_isinstance))
  (SB.cons (SS.ifS (SC.w (SW.or (SC.cmp (opNe rfl) (SE.isi (SE.var (i := 0)) ⟨rfl, T.m_tuple, by decide +kernel, by decide, by decide, by decide⟩ T.m_isinstance) (SE.isi (SE.var (i := 1)) ⟨rfl, T.m_tuple, by decide +kernel, by decide, by decide, by decide⟩ T.m_isinstance)) (SW.or1 (SC.not (SC.val (SE.isi2 (SE.var (i := 0)) ⟨rfl, T.m_tuple, by decide +kernel, by decide, by decide, by decide⟩ ⟨rfl, T.m_list, by decide +kernel, by decide, by decide, by decide⟩ T.m_isinstance))))))
  (SB.one (SS.ret (ST.fr SE.bl)))
  SB.nil)
  (SB.one (SS.ret (ST.fr (SE.and (SE.cmp (opEq rfl) (SE.lenV (i := 0) T.m_len) (SE.lenV (i := 1) T.m_len)) (SE.one (SE.fz (ST.callB (ocAll rfl) T.m_all (SA.cons (SE.fz (ST.lc (own := [((Str.ofString "one" : Str), 2), ((Str.ofString "two" : Str), 3)]) (SI.zip (SE.var (i := 0)) (SE.var (i := 1)) T.m_zip) (SG.tup (SGs.cons (SG.name (i := 2)) (SGs.cons (SG.name (i := 3)) SGs.nil))) SCs.nil (SE.fz (ST.call h__law_is (SA.cons (SE.var (i := 2)) (SA.cons (SE.var (i := 3)) SA.nil)))))) SA.nil)))))))))
  SB.nil)
  (SB.one (SS.ret (ST.fr (SE.and (SE.cmp (opEq rfl) (SE.isi (SE.var (i := 0)) ⟨rfl, T.m_bool, by decide +kernel, by decide, by decide, by decide⟩ T.m_isinstance) (SE.isi (SE.var (i := 1)) ⟨rfl, T.m_bool, by decide +kernel, by decide, by decide, by decide⟩ T.m_isinstance)) (SE.one (SE.cmp (opEq rfl) (SE.var (i := 0)) (SE.var (i := 1)))))))))
def b__law_shuffled_b1 : DS := (dDrop (dFr (dApp 3 (dPopAt 2 (dFz (dCallL 0 sp__law_draw (dCons (dLenV 2) dNil)))))))
def b__law_shuffled_l2 : DS := (dWhile (dB (dOp rGt (dLenV 2) (dC (.int 0)))) b__law_shuffled_b1)
def b__law_shuffled_r3 : DS := (dRet (dFr (dVar 3)))
def b__law_shuffled : DS := (dSeq (dSet 2 (dCallB cList (dCons (dVar 1) dNil)))
  (dSeq (dSet 3 (dLst dNil))
  (dSeq b__law_shuffled_l2
  b__law_shuffled_r3)))
def N__law_shuffled : List Str := ["hand", "things", "left", "found"]
theorem sc__law_shuffled : FnScope N__law_shuffled ["hand", "things"] (defScope (topS 27)) := ⟨rfl, rfl, rfl, by decide +kernel, rfl, by decide +kernel, by decide +kernel⟩
theorem d__law_shuffled (T : Tx K mg) (h__law_draw : Df P w K mg base k (Str.ofString "_law_draw") sp__law_draw) (W : WX) : SB ⟨P, w, K, mg, base, N__law_shuffled, defScope (topS 27), k, true, fun _ => true, W⟩ (defBody (topS 27)) b__law_shuffled :=
  (SB.cons (SS.set (i := 2) (ST.callTy ocList T.m_list (SA.cons (SE.var (i := 1)) SA.nil)))
  (SB.cons (SS.set (i := 3) (ST.lst SA.nil))
  (SB.cons (SS.while_ (SC.cmp opGt (SE.lenV (i := 2) T.m_len) SE.int)
  (SB.one (SS.expr (ST.fr (SE.app (i := 3) (SE.popAt (i := 2) (SE.fz (ST.callL (i := 0) h__law_draw (SA.cons (SE.lenV (i := 2) T.m_len) SA.nil)))))))))
  (SB.one (SS.ret (ST.fr (SE.var (i := 3))))))))
def b__law_ordered_r1 : DS := (dSeq (dDrop (dFr (dApp 5 (dTup (dCons (dIxV 4 (dVar 7)) (dCons (dIxV 4 (dVar 8)) dNil))))))
  (dIfS (dAnd (dB (dOp rEq (dFz (dCallL 0 sp__law_draw (dCons (dC (.int 7)) dNil))) (dC (.int 0)))) (dB (dOp rLt (dLenV 5) (dVar 2))))
  (dDrop (dFr (dApp 5 (dIxV 5 (dNeg (dC (.int 1)))))))
  dNext))
def b__law_ordered_r2 : DS := (dSeq (dSet 8 (dFr (dOp rAdd (dOp rAdd (dVar 7) (dC (.int 1))) (dFz (dCallL 0 sp__law_draw (dCons (dFz (dCallB cMin (dCons (dVar 3) (dCons (dOp rSub (dOp rSub (dVar 1) (dC (.int 1))) (dVar 7)) dNil)))) dNil))))))
  b__law_ordered_r1)
def b__law_ordered_b3 : DS := (dSeq (dSet 7 (dCallL 0 sp__law_draw (dCons (dOp rSub (dVar 1) (dC (.int 1))) dNil)))
  b__law_ordered_r2)
def b__law_ordered_l4 : DS := (dFor (dRange1 (dIf (dB (dOp rGt (dVar 1) (dC (.int 1)))) (dVar 2) (dC (.int 0)))) (dgName 6) b__law_ordered_b3)
def b__law_ordered_r5 : DS := (dRet (dFr (dTup (dCons (dVar 4) (dCons (dFz (dCallB cTuple (dCons (dFz (dCut (dVar 5) dNoPart (dPart (dVar 2)))) dNil))) dNil)))))
def b__law_ordered_r6 : DS := (dSeq (dSet 5 (dLst dNil))
  (dSeq b__law_ordered_l4
  b__law_ordered_r5))
def b__law_ordered : DS := (dSeq (dSet 4 (dCallL 0 sp__law_shuffled (dCons (dFz (dLstRg1 (dVar 1))) dNil)))
  b__law_ordered_r6)
def N__law_ordered : List Str := ["hand", "places", "many", "far", "order", "found", "turn", "one", "other"]
theorem sc__law_ordered : FnScope N__law_ordered ["hand", "places", "many", "far"] (defScope (topS 28)) := ⟨rfl, rfl, rfl, by decide +kernel, rfl, by decide +kernel, by decide +kernel⟩
theorem d__law_ordered (T : Tx K mg) (h__law_draw : Df P w K mg base k (Str.ofString "_law_draw") sp__law_draw) (h__law_shuffled : Df P w K mg base k (Str.ofString "_law_shuffled") sp__law_shuffled) (W : WX) : SB ⟨P, w, K, mg, base, N__law_ordered, defScope (topS 28), k, true, fun _ => true, W⟩ (defBody (topS 28)) b__law_ordered :=
  (SB.cons (SS.set (i := 4) (ST.callL (i := 0) h__law_shuffled (SA.cons (SE.fz (ST.lstRg1 (SE.var (i := 1)) T.m_list T.m_range)) SA.nil)))
  (SB.cons (SS.set (i := 5) (ST.lst SA.nil))
  (SB.cons (SS.for_ (SI.range1 (SE.ifExp (SC.cmp opGt (SE.var (i := 1)) SE.int) (SE.var (i := 2)) SE.int) T.m_range) (SG.name (i := 6))
  (SB.cons (SS.set (i := 7) (ST.callL (i := 0) h__law_draw (SA.cons (SE.op opSub (SE.var (i := 1)) SE.int) SA.nil)))
  (SB.cons (SS.set (i := 8) (ST.fr (SE.op opAdd (SE.op opAdd (SE.var (i := 7)) SE.int) (SE.fz (ST.callL (i := 0) h__law_draw (SA.cons (SE.fz (ST.callB (ocMin rfl) T.m_min (SA.cons (SE.var (i := 3)) (SA.cons (SE.op opSub (SE.op opSub (SE.var (i := 1)) SE.int) (SE.var (i := 7))) SA.nil)))) SA.nil))))))
  (SB.cons (SS.expr (ST.fr (SE.app (i := 5) (SE.tup (SA.cons (SE.ixV (i := 4) (SE.var (i := 7))) (SA.cons (SE.ixV (i := 4) (SE.var (i := 8))) SA.nil))))))
  (SB.one (SS.ifS (SC.w (SW.and (SC.cmp (opEq rfl) (SE.fz (ST.callL (i := 0) h__law_draw (SA.cons SE.int SA.nil))) SE.int) (SW.and1 (SC.cmp opLt (SE.lenV (i := 5) T.m_len) (SE.var (i := 2))))))
  (SB.one (SS.expr (ST.fr (SE.app (i := 5) (SE.ixV (i := 5) (SE.neg SE.int))))))
  SB.nil))))))
  (SB.one (SS.ret (ST.fr (SE.tup (SA.cons (SE.var (i := 4)) (SA.cons (SE.fz (ST.callTy ocTuple T.m_tuple (SA.cons (SE.fz (ST.cut (SE.var (i := 5)) SO.none (SO.some (SE.var (i := 2))))) SA.nil))) SA.nil)))))))))
def b_is_way_in_c1 : DT := (dLc (dItems (dVar 1)) (dgName 4) dYes (dAndV (dFz (dCall sp_is_integer (dCons (dVar 4) dNil))) (dChain rLe rLt (dC (.int 0)) (dVar 4) (dFz (dCallB cLen (dCons (dFldV pf_arrows 0 (Str.ofString "arrows")) dNil))))) [4])
def b_is_way_in_c2 : DT := (dLc (dZip (dVar 1) (dFz (dCut (dVar 1) (dPart (dC (.int 1))) dNoPart))) (dgTup 2 (dgCons (dgName 2) (dgCons (dgName 3) dgNil))) dYes (dOp rEq (dOp rIx (dIxF pf_arrows 0 (Str.ofString "arrows") (dVar 2)) (dC (.int 1))) (dOp rIx (dIxF pf_arrows 0 (Str.ofString "arrows") (dVar 3)) (dC (.int 0)))) [2, 3])
def b_is_way_in_r3 : DS := (dRet (dCallB cAll (dCons (dFz b_is_way_in_c2) dNil)))
def b_is_way_in_r4 : DS := (dSeq (dIfS (dNot (dB (dFz (dCallB cAll (dCons (dFz b_is_way_in_c1) dNil)))))
  (dRet (dFr (dC (.bl false))))
  dNext)
  b_is_way_in_r3)
def b_is_way_in : DS := (dSeq (dIfS (dOr (dNot (dB (dIsi ["tuple"] (dVar 1)))) (dB (dOp rEq (dLenV 1) (dC (.int 0)))))
  (dRet (dFr (dC (.bl false))))
  dNext)
  b_is_way_in_r4)
def N_is_way_in : List Str := ["web", "thing", "one", "other", "arrow"]
theorem sc_is_way_in : FnScope N_is_way_in ["web", "thing"] (defScope (topS 14)) := ⟨rfl, rfl, rfl, by decide +kernel, rfl, by decide +kernel, by decide +kernel⟩
theorem d_is_way_in (T : Tx K mg) (h_is_integer : Df P w K mg base k (Str.ofString "is_integer") sp_is_integer) (W : WX) : SB ⟨P, w, K, mg, base, N_is_way_in, defScope (topS 14), k, true, fun _ => true, W⟩ (defBody (topS 14)) b_is_way_in :=
  (SB.cons (SS.ifS (SC.w (SW.or (SC.not (SC.val (SE.isi (SE.var (i := 1)) ⟨rfl, T.m_tuple, by decide +kernel, by decide, by decide, by decide⟩ T.m_isinstance))) (SW.or1 (SC.cmp (opEq rfl) (SE.lenV (i := 1) T.m_len) SE.int))))
  (SB.one (SS.ret (ST.fr SE.bl)))
  SB.nil)
  (SB.cons (SS.ifS (SC.not (SC.val (SE.fz (ST.callB (ocAll rfl) T.m_all (SA.cons (SE.fz (ST.lc (own := [((Str.ofString "arrow" : Str), 4)]) (SI.items (SE.var (i := 1))) (SG.name (i := 4)) SCs.nil (SE.and (SE.fz (ST.call h_is_integer (SA.cons (SE.var (i := 4)) SA.nil))) (SE.one (SE.chain opLe opLt SE.int (SE.var (i := 4)) (SE.fz (ST.callB ocLen T.m_len (SA.cons (SE.fldV (i := 0) T.f_arrows) SA.nil)))))))) SA.nil)))))
  (SB.one (SS.ret (ST.fr SE.bl)))
  SB.nil)
  (SB.one (SS.ret (ST.callB (ocAll rfl) T.m_all (SA.cons (SE.fz (ST.lc (own := [((Str.ofString "one" : Str), 2), ((Str.ofString "other" : Str), 3)]) (SI.zip (SE.var (i := 1)) (SE.fz (ST.cut (SE.var (i := 1)) (SO.some SE.int) SO.none)) T.m_zip) (SG.tup (SGs.cons (SG.name (i := 2)) (SGs.cons (SG.name (i := 3)) SGs.nil))) SCs.nil (SE.cmp (opEq rfl) (SE.ix (SE.ixF (i := 0) T.f_arrows (SE.var (i := 2))) SE.int) (SE.ix (SE.ixF (i := 0) T.f_arrows (SE.var (i := 3))) SE.int)))) SA.nil))))))
def b_is_way : DS := (dRet (dCall sp_is_way_in (dCons (dVar 0) (dCons (dVar 1) dNil))))
def N_is_way : List Str := ["web", "thing"]
theorem sc_is_way : FnScope N_is_way ["web", "thing"] (defScope (topS 16)) := ⟨rfl, rfl, rfl, by decide +kernel, rfl, by decide +kernel, by decide +kernel⟩
theorem d_is_way (T : Tx K mg) (h_is_way_in : Df P w K mg base k (Str.ofString "is_way_in") sp_is_way_in) (W : WX) : SB ⟨P, w, K, mg, base, N_is_way, defScope (topS 16), k, true, fun _ => true, W⟩ (defBody (topS 16)) b_is_way :=
  (SB.one (SS.ret (ST.call h_is_way_in (SA.cons (SE.var (i := 0)) (SA.cons (SE.var (i := 1)) SA.nil)))))
def b_check_way : DS := (dIfS (dNot (dB (dFz (dCall sp_is_way_in (dCons (dVar 0) (dCons (dVar 1) dNil))))))
  dNever
  dNext)
def N_check_way : List Str := ["web", "thing"]
theorem sc_check_way : FnScope N_check_way ["web", "thing"] (defScope (topS 15)) := ⟨rfl, rfl, rfl, by decide +kernel, rfl, by decide +kernel, by decide +kernel⟩
theorem d_check_way (T : Tx K mg) (h_is_way_in : Df P w K mg base k (Str.ofString "is_way_in") sp_is_way_in) (W : WX) : SB ⟨P, w, K, mg, base, N_check_way, defScope (topS 15), k, true, fun _ => true, W⟩ (defBody (topS 15)) b_check_way :=
  (SB.one (SS.ifS (SC.not (SC.val (SE.fz (ST.call h_is_way_in (SA.cons (SE.var (i := 0)) (SA.cons (SE.var (i := 1)) SA.nil))))))
  (SB.one SS.never)
  SB.nil))
def b_passed_by_c1 : DT := (dLc (dItems (dVar 1)) (dgName 2) dYes (dOp rIx (dIxF pf_arrows 0 (Str.ofString "arrows") (dVar 2)) (dC (.int 1))) [2])
def b_passed_by : DS := (dRet (dFr (dOp rAdd (dTup (dCons (dOp rIx (dIxF pf_arrows 0 (Str.ofString "arrows") (dIxV 1 (dC (.int 0)))) (dC (.int 0))) dNil)) (dFz (dCallB cTuple (dCons (dFz b_passed_by_c1) dNil))))))
def N_passed_by : List Str := ["web", "way", "arrow"]
theorem sc_passed_by : FnScope N_passed_by ["web", "way"] (defScope (topS 19)) := ⟨rfl, rfl, rfl, by decide +kernel, rfl, by decide +kernel, by decide +kernel⟩
theorem d_passed_by (T : Tx K mg) (W : WX) : SB ⟨P, w, K, mg, base, N_passed_by, defScope (topS 19), k, true, fun _ => true, W⟩ (defBody (topS 19)) b_passed_by :=
  (SB.one (SS.ret (ST.fr (SE.op opAdd (SE.tup (SA.cons (SE.ix (SE.ixF (i := 0) T.f_arrows (SE.ixV (i := 1) SE.int)) SE.int) SA.nil)) (SE.fz (ST.callTy ocTuple T.m_tuple (SA.cons (SE.fz (ST.lc (own := [((Str.ofString "arrow" : Str), 2)]) (SI.items (SE.var (i := 1))) (SG.name (i := 2)) SCs.nil (SE.ix (SE.ixF (i := 0) T.f_arrows (SE.var (i := 2))) SE.int))) SA.nil)))))))
def b_passed_r1 : DS := (dRet (dCall sp_passed_by (dCons (dVar 0) (dCons (dVar 1) dNil))))
def b_passed : DS := (dSeq (dDrop (dCall sp_check_way (dCons (dVar 0) (dCons (dVar 1) dNil))))
  b_passed_r1)
def N_passed : List Str := ["web", "way"]
theorem sc_passed : FnScope N_passed ["web", "way"] (defScope (topS 20)) := ⟨rfl, rfl, rfl, by decide +kernel, rfl, by decide +kernel, by decide +kernel⟩
theorem d_passed (T : Tx K mg) (h_check_way : Df P w K mg base k (Str.ofString "check_way") sp_check_way) (h_passed_by : Df P w K mg base k (Str.ofString "passed_by") sp_passed_by) (W : WX) : SB ⟨P, w, K, mg, base, N_passed, defScope (topS 20), k, true, fun _ => true, W⟩ (defBody (topS 20)) b_passed :=
  (SB.cons (SS.expr (ST.call h_check_way (SA.cons (SE.var (i := 0)) (SA.cons (SE.var (i := 1)) SA.nil))))
  (SB.one (SS.ret (ST.call h_passed_by (SA.cons (SE.var (i := 0)) (SA.cons (SE.var (i := 1)) SA.nil))))))
def b__law_pairs_right_r1 : DS := (dIfS (dAnd (dB (dVar 5)) (dNot (dB (dFz (dCall spt__law_is (dCons (dFz (dCall sp_passed (dCons (dVar 1) (dCons (dTup (dCons (dVar 3) (dCons (dVar 4) dNil))) dNil)))) (dCons (dTup (dCons (dOp rIx (dIxV 2 (dVar 3)) (dC (.int 0))) (dCons (dOp rIx (dIxV 2 (dVar 3)) (dC (.int 1))) (dCons (dOp rIx (dIxV 2 (dVar 4)) (dC (.int 1))) dNil)))) dNil)))))))
  (dRet (dFr (dC (.bl false))))
  dNext)
def b__law_pairs_right_b2 : DS := (dSeq (dSet 5 (dFr (dOp rEq (dOp rIx (dIxV 2 (dVar 3)) (dC (.int 1))) (dOp rIx (dIxV 2 (dVar 4)) (dC (.int 0))))))
  (dSeq (dIfS (dNot (dB (dFz (dCall spt__law_is (dCons (dFz (dCall sp_is_way (dCons (dVar 1) (dCons (dTup (dCons (dVar 3) (dCons (dVar 4) dNil))) dNil)))) (dCons (dVar 5) dNil))))))
  (dRet (dFr (dC (.bl false))))
  dNext)
  b__law_pairs_right_r1))
def b__law_pairs_right_l3 : DS := (dFor (dRange1 (dFz (dCallB cMin (dCons (dC (.int 14)) (dCons (dLenV 2) dNil))))) (dgName 4) b__law_pairs_right_b2)
def b__law_pairs_right_b4 : DS := b__law_pairs_right_l3
def b__law_pairs_right_l5 : DS := (dFor (dRange1 (dFz (dCallB cMin (dCons (dC (.int 14)) (dCons (dLenV 2) dNil))))) (dgName 3) b__law_pairs_right_b4)
def b__law_pairs_right_r6 : DS := (dRet (dFr (dC (.bl true))))
def b__law_pairs_right : DS := (dSeq b__law_pairs_right_l5
  b__law_pairs_right_r6)
def N__law_pairs_right : List Str := ["hand", "web", "arrows", "one", "other", "due"]
theorem sc__law_pairs_right : FnScope N__law_pairs_right ["hand", "web", "arrows"] (defScope (topS 34)) := ⟨rfl, rfl, rfl, by decide +kernel, rfl, by decide +kernel, by decide +kernel⟩
theorem d__law_pairs_right (T : Tx K mg) (h__law_is : Df P w K mg base k (Str.ofString "_law_is") spt__law_is) (h_is_way : Df P w K mg base k (Str.ofString "is_way") sp_is_way) (h_passed : Df P w K mg base k (Str.ofString "passed") sp_passed) (W : WX) : SB ⟨P, w, K, mg, base, N__law_pairs_right, defScope (topS 34), k, true, fun _ => true, W⟩ (defBody (topS 34)) b__law_pairs_right :=
  (SB.cons (SS.for_ (SI.range1 (SE.fz (ST.callB (ocMin rfl) T.m_min (SA.cons SE.int (SA.cons (SE.lenV (i := 2) T.m_len) SA.nil)))) T.m_range) (SG.name (i := 3))
  (SB.one (SS.for_ (SI.range1 (SE.fz (ST.callB (ocMin rfl) T.m_min (SA.cons SE.int (SA.cons (SE.lenV (i := 2) T.m_len) SA.nil)))) T.m_range) (SG.name (i := 4))
  (SB.cons (SS.set (i := 5) (ST.fr (SE.cmp (opEq rfl) (SE.ix (SE.ixV (i := 2) (SE.var (i := 3))) SE.int) (SE.ix (SE.ixV (i := 2) (SE.var (i := 4))) SE.int))))
  (SB.cons (SS.ifS (SC.not (SC.val (SE.fz (ST.call h__law_is (SA.cons (SE.fz (ST.call h_is_way (SA.cons (SE.var (i := 1)) (SA.cons (SE.tup (SA.cons (SE.var (i := 3)) (SA.cons (SE.var (i := 4)) SA.nil))) SA.nil)))) (SA.cons (SE.var (i := 5)) SA.nil))))))
  (SB.one (SS.ret (ST.fr SE.bl)))
  SB.nil)
  (SB.one (SS.ifS (SC.w (SW.and (SC.val (SE.var (i := 5))) (SW.and1 (SC.not (SC.val (SE.fz (ST.call h__law_is (SA.cons (SE.fz (ST.call h_passed (SA.cons (SE.var (i := 1)) (SA.cons (SE.tup (SA.cons (SE.var (i := 3)) (SA.cons (SE.var (i := 4)) SA.nil))) SA.nil)))) (SA.cons (SE.tup (SA.cons (SE.ix (SE.ixV (i := 2) (SE.var (i := 3))) SE.int) (SA.cons (SE.ix (SE.ixV (i := 2) (SE.var (i := 3))) SE.int) (SA.cons (SE.ix (SE.ixV (i := 2) (SE.var (i := 4))) SE.int) SA.nil)))) SA.nil)))))))))
  (SB.one (SS.ret (ST.fr SE.bl)))
  SB.nil)))))))
  (SB.one (SS.ret (ST.fr SE.bl))))
def b__law_places_c1 : DT := (dLc (dItems (dVar 1)) (dgName 2) dYes (dOp rIx (dIxV 0 (dVar 2)) (dC (.int 1))) [2])
def b__law_places : DS := (dRet (dFr (dOp rAdd (dTup (dCons (dOp rIx (dIxV 0 (dIxV 1 (dC (.int 0)))) (dC (.int 0))) dNil)) (dFz (dCallB cTuple (dCons (dFz b__law_places_c1) dNil))))))
def N__law_places : List Str := ["arrows", "way", "k"]
theorem sc__law_places : FnScope N__law_places ["arrows", "way"] (defScope (topS 30)) := ⟨rfl, rfl, rfl, by decide +kernel, rfl, by decide +kernel, by decide +kernel⟩
theorem d__law_places (T : Tx K mg) (W : WX) : SB ⟨P, w, K, mg, base, N__law_places, defScope (topS 30), k, true, fun _ => true, W⟩ (defBody (topS 30)) b__law_places :=
  (SB.one (SS.ret (ST.fr (SE.op opAdd (SE.tup (SA.cons (SE.ix (SE.ixV (i := 0) (SE.ixV (i := 1) SE.int)) SE.int) SA.nil)) (SE.fz (ST.callTy ocTuple T.m_tuple (SA.cons (SE.fz (ST.lc (own := [((Str.ofString "k" : Str), 2)]) (SI.items (SE.var (i := 1))) (SG.name (i := 2)) SCs.nil (SE.ix (SE.ixV (i := 0) (SE.var (i := 2))) SE.int))) SA.nil)))))))
def b__law_walk_c1 : DT := (dLc (dRange1 (dLenV 1)) (dgName 6) (dB (dOp rEq (dOp rIx (dIxV 1 (dVar 6)) (dC (.int 0))) (dOp rIx (dIxV 1 (dIxV 3 (dNeg (dC (.int 1))))) (dC (.int 1))))) (dVar 6) [6])
def b__law_walk_r2 : DS := (dSet 3 (dFr (dOp rAdd (dVar 3) (dTup (dCons (dIxV 5 (dFz (dCallL 0 sp__law_draw (dCons (dLenV 5) dNil)))) dNil)))))
def b__law_walk_r3 : DS := (dSeq (dIfS (dB (dOp rEq (dLenV 5) (dC (.int 0))))
  (dRet (dFr (dVar 3)))
  dNext)
  b__law_walk_r2)
def b__law_walk_b4 : DS := (dSeq (dSet 5 b__law_walk_c1)
  b__law_walk_r3)
def b__law_walk_l5 : DS := (dFor (dRange1 (dFz (dCallL 0 sp__law_draw (dCons (dVar 2) dNil)))) (dgName 4) b__law_walk_b4)
def b__law_walk_r6 : DS := (dRet (dFr (dVar 3)))
def b__law_walk_r7 : DS := (dSeq b__law_walk_l5
  b__law_walk_r6)
def b__law_walk : DS := (dSeq (dSet 3 (dFr (dTup (dCons (dFz (dCallL 0 sp__law_draw (dCons (dLenV 1) dNil))) dNil))))
  b__law_walk_r7)
def N__law_walk : List Str := ["hand", "arrows", "most", "way", "turn", "some", "k"]
theorem sc__law_walk : FnScope N__law_walk ["hand", "arrows", "most"] (defScope (topS 31)) := ⟨rfl, rfl, rfl, by decide +kernel, rfl, by decide +kernel, by decide +kernel⟩
theorem d__law_walk (T : Tx K mg) (h__law_draw : Df P w K mg base k (Str.ofString "_law_draw") sp__law_draw) (W : WX) : SB ⟨P, w, K, mg, base, N__law_walk, defScope (topS 31), k, true, fun _ => true, W⟩ (defBody (topS 31)) b__law_walk :=
  (SB.cons (SS.set (i := 3) (ST.fr (SE.tup (SA.cons (SE.fz (ST.callL (i := 0) h__law_draw (SA.cons (SE.lenV (i := 1) T.m_len) SA.nil))) SA.nil))))
  (SB.cons (SS.for_ (SI.range1 (SE.fz (ST.callL (i := 0) h__law_draw (SA.cons (SE.var (i := 2)) SA.nil))) T.m_range) (SG.name (i := 4))
  (SB.cons (SS.setLc (i := 5) (own := [((Str.ofString "k" : Str), 6)]) (SI.range1 (SE.lenV (i := 1) T.m_len) T.m_range) (SG.name (i := 6)) (SCs.one (SC.cmp (opEq rfl) (SE.ix (SE.ixV (i := 1) (SE.var (i := 6))) SE.int) (SE.ix (SE.ixV (i := 1) (SE.ixV (i := 3) (SE.neg SE.int))) SE.int))) (SE.var (i := 6)))
  (SB.cons (SS.ifS (SC.cmp (opEq rfl) (SE.lenV (i := 5) T.m_len) SE.int)
  (SB.one (SS.ret (ST.fr (SE.var (i := 3)))))
  SB.nil)
  (SB.one (SS.set (i := 3) (ST.fr (SE.op opAdd (SE.var (i := 3)) (SE.tup (SA.cons (SE.ixV (i := 5) (SE.fz (ST.callL (i := 0) h__law_draw (SA.cons (SE.lenV (i := 5) T.m_len) SA.nil)))) SA.nil)))))))))
  (SB.one (SS.ret (ST.fr (SE.var (i := 3)))))))
def b__law_whole : DS := (dRet (dFr (dAndV (dIsi ["int"] (dVar 0)) (dAndV (dNotV (dIsi ["bool"] (dVar 0))) (dChain rLe rLe (dVar 1) (dVar 0) (dVar 2))))))
def N__law_whole : List Str := ["thing", "least", "most"]
theorem sc__law_whole : FnScope N__law_whole ["thing", "least", "most"] (defScope (topS 26)) := ⟨rfl, rfl, rfl, by decide +kernel, rfl, by decide +kernel, by decide +kernel⟩
theorem d__law_whole (T : Tx K mg) (W : WX) : SB ⟨P, w, K, mg, base, N__law_whole, defScope (topS 26), k, true, fun _ => true, W⟩ (defBody (topS 26)) b__law_whole :=
  (SB.one (SS.ret (ST.fr (SE.and (SE.isi (SE.var (i := 0)) ⟨rfl, T.m_int, by decide +kernel, by decide, by decide, by decide⟩ T.m_isinstance) (SE.and (SE.not (SE.isi (SE.var (i := 0)) ⟨rfl, T.m_bool, by decide +kernel, by decide, by decide, by decide⟩ T.m_isinstance)) (SE.one (SE.chain opLe opLe (SE.var (i := 1)) (SE.var (i := 0)) (SE.var (i := 2)))))))))
def b__law_is_way_c1 : DT := (dLc (dItems (dVar 1)) (dgName 4) dYes (dFz (dCall sp__law_whole (dCons (dVar 4) (dCons (dC (.int 0)) (dCons (dOp rSub (dLenV 0) (dC (.int 1))) dNil))))) [4])
def b__law_is_way_c2 : DT := (dLc (dZip (dVar 1) (dFz (dCut (dVar 1) (dPart (dC (.int 1))) dNoPart))) (dgTup 2 (dgCons (dgName 2) (dgCons (dgName 3) dgNil))) dYes (dOp rEq (dOp rIx (dIxV 0 (dVar 2)) (dC (.int 1))) (dOp rIx (dIxV 0 (dVar 3)) (dC (.int 0)))) [2, 3])
def b__law_is_way_r3 : DS := (dRet (dCallB cAll (dCons (dFz b__law_is_way_c2) dNil)))
def b__law_is_way_r4 : DS := (dSeq (dIfS (dNot (dB (dFz (dCallB cAll (dCons (dFz b__law_is_way_c1) dNil)))))
  (dRet (dFr (dC (.bl false))))
  dNext)
  b__law_is_way_r3)
def b__law_is_way : DS := (dSeq (dIfS (dOr (dNot (dB (dIsi ["tuple"] (dVar 1)))) (dB (dOp rEq (dLenV 1) (dC (.int 0)))))
  (dRet (dFr (dC (.bl false))))
  dNext)
  b__law_is_way_r4)
def N__law_is_way : List Str := ["arrows", "thing", "one", "other", "k"]
theorem sc__law_is_way : FnScope N__law_is_way ["arrows", "thing"] (defScope (topS 29)) := ⟨rfl, rfl, rfl, by decide +kernel, rfl, by decide +kernel, by decide +kernel⟩
theorem d__law_is_way (T : Tx K mg) (h__law_whole : Df P w K mg base k (Str.ofString "_law_whole") sp__law_whole) (W : WX) : SB ⟨P, w, K, mg, base, N__law_is_way, defScope (topS 29), k, true, fun _ => true, W⟩ (defBody (topS 29)) b__law_is_way :=
  (SB.cons (SS.ifS (SC.w (SW.or (SC.not (SC.val (SE.isi (SE.var (i := 1)) ⟨rfl, T.m_tuple, by decide +kernel, by decide, by decide, by decide⟩ T.m_isinstance))) (SW.or1 (SC.cmp (opEq rfl) (SE.lenV (i := 1) T.m_len) SE.int))))
  (SB.one (SS.ret (ST.fr SE.bl)))
  SB.nil)
  (SB.cons (SS.ifS (SC.not (SC.val (SE.fz (ST.callB (ocAll rfl) T.m_all (SA.cons (SE.fz (ST.lc (own := [((Str.ofString "k" : Str), 4)]) (SI.items (SE.var (i := 1))) (SG.name (i := 4)) SCs.nil (SE.fz (ST.call h__law_whole (SA.cons (SE.var (i := 4)) (SA.cons SE.int (SA.cons (SE.op opSub (SE.lenV (i := 0) T.m_len) SE.int) SA.nil))))))) SA.nil)))))
  (SB.one (SS.ret (ST.fr SE.bl)))
  SB.nil)
  (SB.one (SS.ret (ST.callB (ocAll rfl) T.m_all (SA.cons (SE.fz (ST.lc (own := [((Str.ofString "one" : Str), 2), ((Str.ofString "other" : Str), 3)]) (SI.zip (SE.var (i := 1)) (SE.fz (ST.cut (SE.var (i := 1)) (SO.some SE.int) SO.none)) T.m_zip) (SG.tup (SGs.cons (SG.name (i := 2)) (SGs.cons (SG.name (i := 3)) SGs.nil))) SCs.nil (SE.cmp (opEq rfl) (SE.ix (SE.ixV (i := 0) (SE.var (i := 2))) SE.int) (SE.ix (SE.ixV (i := 0) (SE.var (i := 3))) SE.int)))) SA.nil))))))
def b__law_deep_b1 : DS := (dSet 1 (dFr (dOp rIx (dFz (dLst (dCons (dTup (dCons (dVar 1) dNil)) (dCons (dFz (dLst (dCons (dVar 1) dNil))) (dCons (dFz (dCut (dTup (dCons (dVar 1) (dCons (dVar 1) dNil))) dNoPart (dPart (dC (.int 1))))) (dCons (dDic1 (dC (.int 0)) (dVar 1)) dNil)))))) (dFz (dCallL 0 sp__law_draw (dCons (dC (.int 4)) dNil))))))
def b__law_deep_l2 : DS := (dFor (dRange1 (dOp rAdd (dC (.int 1)) (dFz (dCallL 0 sp__law_draw (dCons (dC (.int 30)) dNil))))) (dgName 2) b__law_deep_b1)
def b__law_deep_r3 : DS := (dRet (dFr (dVar 1)))
def b__law_deep_r4 : DS := (dSeq b__law_deep_l2
  b__law_deep_r3)
def b__law_deep : DS := (dSeq (dSet 1 (dFr (dOp rIx (dFz (dLst (dCons (dC .non) (dCons (dC (.str (Str.ofString "a"))) (dCons (dNeg (dC (.int 1))) (dCons dDic0 dNil)))))) (dFz (dCallL 0 sp__law_draw (dCons (dC (.int 4)) dNil))))))
  b__law_deep_r4)
def N__law_deep : List Str := ["hand", "found", "turn"]
theorem sc__law_deep : FnScope N__law_deep ["hand"] (defScope (topS 25)) := ⟨rfl, rfl, rfl, by decide +kernel, rfl, by decide +kernel, by decide +kernel⟩
theorem d__law_deep (T : Tx K mg) (h__law_draw : Df P w K mg base k (Str.ofString "_law_draw") sp__law_draw) (W : WX) : SB ⟨P, w, K, mg, base, N__law_deep, defScope (topS 25), k, true, fun _ => true, W⟩ (defBody (topS 25)) b__law_deep :=
  (SB.cons (SS.set (i := 1) (ST.fr (SE.ix (SE.fz (ST.lst (SA.cons SE.non (SA.cons SE.str (SA.cons (SE.neg SE.int) (SA.cons SE.dic0 SA.nil)))))) (SE.fz (ST.callL (i := 0) h__law_draw (SA.cons SE.int SA.nil))))))
  (SB.cons (SS.for_ (SI.range1 (SE.op opAdd SE.int (SE.fz (ST.callL (i := 0) h__law_draw (SA.cons SE.int SA.nil)))) T.m_range) (SG.name (i := 2))
  (SB.one (SS.set (i := 1) (ST.fr (SE.ix (SE.fz (ST.lst (SA.cons (SE.tup (SA.cons (SE.var (i := 1)) SA.nil)) (SA.cons (SE.fz (ST.lst (SA.cons (SE.var (i := 1)) SA.nil))) (SA.cons (SE.fz (ST.cut (SE.tup (SA.cons (SE.var (i := 1)) (SA.cons (SE.var (i := 1)) SA.nil))) SO.none (SO.some SE.int))) (SA.cons (SE.dic1 SE.int (SE.var (i := 1))) SA.nil)))))) (SE.fz (ST.callL (i := 0) h__law_draw (SA.cons SE.int SA.nil))))))))
  (SB.one (SS.ret (ST.fr (SE.var (i := 1)))))))
def b__law_spoiled_r1 : DS := (dRet (dFr (dOp rAdd (dOp rAdd (dOp rAdd (dOp rAdd (dFz (dCut (dVar 2) dNoPart (dPart (dVar 7)))) (dTup (dCons (dIxV 2 (dVar 8)) dNil))) (dFz (dCut (dVar 2) (dPart (dOp rAdd (dVar 7) (dC (.int 1)))) (dPart (dVar 8))))) (dTup (dCons (dIxV 2 (dVar 7)) dNil))) (dFz (dCut (dVar 2) (dPart (dOp rAdd (dVar 8) (dC (.int 1)))) dNoPart)))))
def b__law_spoiled_r2 : DS := (dRet (dFr (dOp rIx (dFz (dLst (dCons (dFz (dCallB cList (dCons (dVar 2) dNil))) (dCons (dFz (dBack (dVar 2))) (dCons dDic0 (dCons (dC .non) (dCons (dIxV 2 (dC (.int 0))) (dCons (dFz (dLst (dCons (dVar 2) dNil))) (dCons (dTup (dCons (dVar 2) dNil)) (dCons (dFz (dCallL 0 sp__law_deep dNil)) (dCons (dC (.str (Str.ofString ""))) dNil))))))))))) (dFz (dCallL 0 sp__law_draw (dCons (dC (.int 9)) dNil))))))
def b__law_spoiled_r3 : DS := (dSeq (dIfS (dB (dOp rEq (dVar 6) (dC (.int 5))))
  (dSeq (dSet 7 (dCallB cMin (dCons (dVar 3) (dCons (dVar 4) dNil))))
  (dSeq (dSet 8 (dCallB cMax (dCons (dVar 3) (dCons (dVar 4) dNil))))
  (dSeq (dIfS (dB (dOp rEq (dVar 7) (dVar 8)))
  (dRet (dBack (dVar 2)))
  dNext)
  b__law_spoiled_r1)))
  dNext)
  b__law_spoiled_r2)
def b__law_spoiled_r4 : DS := (dSeq (dIfS (dB (dOp rEq (dVar 6) (dC (.int 4))))
  (dRet (dFr (dOp rAdd (dOp rAdd (dFz (dCut (dVar 2) dNoPart (dPart (dVar 3)))) (dTup (dCons (dIxV 2 (dVar 3)) dNil))) (dFz (dCut (dVar 2) (dPart (dVar 3)) dNoPart)))))
  dNext)
  b__law_spoiled_r3)
def b__law_spoiled_r5 : DS := (dSeq (dIfS (dB (dOp rEq (dVar 6) (dC (.int 3))))
  (dRet (dFr (dOp rAdd (dFz (dCut (dVar 2) dNoPart (dPart (dVar 3)))) (dFz (dCut (dVar 2) (dPart (dOp rAdd (dVar 3) (dC (.int 1)))) dNoPart)))))
  dNext)
  b__law_spoiled_r4)
def b__law_spoiled_r6 : DS := (dSeq (dIfS (dB (dOp rLt (dVar 6) (dC (.int 3))))
  (dRet (dFr (dOp rAdd (dOp rAdd (dFz (dCut (dVar 2) dNoPart (dPart (dVar 3)))) (dTup (dCons (dIxV 5 (dIf (dB (dOp rGt (dVar 6) (dC (.int 0)))) (dFz (dCallL 0 sp__law_draw (dCons (dC (.int 9)) dNil))) (dC (.int 0)))) dNil))) (dFz (dCut (dVar 2) (dPart (dOp rAdd (dVar 3) (dC (.int 1)))) dNoPart)))))
  dNext)
  b__law_spoiled_r5)
def b__law_spoiled_r7 : DS := (dSeq (dSet 6 (dCallL 0 sp__law_draw (dCons (dC (.int 8)) dNil)))
  b__law_spoiled_r6)
def b__law_spoiled_r8 : DS := (dSeq (dSet 5 (dLst (dCons (dFz (dCallL 0 sp__law_draw (dCons (dLenV 1) dNil))) (dCons (dLenV 1) (dCons (dNeg (dC (.int 1))) (dCons (dC (.bl true)) (dCons (dC (.bl false)) (dCons (dC .non) (dCons (dFz (dCallB cStr (dCons (dVar 3) dNil))) (dCons (dTup (dCons (dIxV 2 (dVar 3)) dNil)) (dCons (dOp rPow (dC (.int 10)) (dC (.int 59))) dNil)))))))))))
  b__law_spoiled_r7)
def b__law_spoiled_r9 : DS := (dSeq (dSet 4 (dCallL 0 sp__law_draw (dCons (dLenV 2) dNil)))
  b__law_spoiled_r8)
def b__law_spoiled : DS := (dSeq (dSet 3 (dCallL 0 sp__law_draw (dCons (dLenV 2) dNil)))
  b__law_spoiled_r9)
def N__law_spoiled : List Str := ["hand", "arrows", "way", "at", "other", "odd", "sort", "low", "high"]
theorem sc__law_spoiled : FnScope N__law_spoiled ["hand", "arrows", "way"] (defScope (topS 32)) := ⟨rfl, rfl, rfl, by decide +kernel, rfl, by decide +kernel, by decide +kernel⟩
theorem d__law_spoiled (T : Tx K mg) (h__law_deep : Df P w K mg base k (Str.ofString "_law_deep") sp__law_deep) (h__law_draw : Df P w K mg base k (Str.ofString "_law_draw") sp__law_draw) (W : WX) : SB ⟨P, w, K, mg, base, N__law_spoiled, defScope (topS 32), k, true, fun _ => true, W⟩ (defBody (topS 32)) b__law_spoiled :=
  (SB.cons (SS.set (i := 3) (ST.callL (i := 0) h__law_draw (SA.cons (SE.lenV (i := 2) T.m_len) SA.nil)))
  (SB.cons (SS.set (i := 4) (ST.callL (i := 0) h__law_draw (SA.cons (SE.lenV (i := 2) T.m_len) SA.nil)))
  (SB.cons (SS.set (i := 5) (ST.lst (SA.cons (SE.fz (ST.callL (i := 0) h__law_draw (SA.cons (SE.lenV (i := 1) T.m_len) SA.nil))) (SA.cons (SE.lenV (i := 1) T.m_len) (SA.cons (SE.neg SE.int) (SA.cons SE.bl (SA.cons SE.bl (SA.cons SE.non (SA.cons (SE.fz (ST.callTy ocStr T.m_str (SA.cons (SE.var (i := 3)) SA.nil))) (SA.cons (SE.tup (SA.cons (SE.ixV (i := 2) (SE.var (i := 3))) SA.nil)) (SA.cons (SE.op opPow SE.int SE.int) SA.nil)))))))))))
  (SB.cons (SS.set (i := 6) (ST.callL (i := 0) h__law_draw (SA.cons SE.int SA.nil)))
  (SB.cons (SS.ifS (SC.cmp opLt (SE.var (i := 6)) SE.int)
  (SB.one (SS.ret (ST.fr (SE.op opAdd (SE.op opAdd (SE.fz (ST.cut (SE.var (i := 2)) SO.none (SO.some (SE.var (i := 3))))) (SE.tup (SA.cons (SE.ixV (i := 5) (SE.ifExp (SC.cmp opGt (SE.var (i := 6)) SE.int) (SE.fz (ST.callL (i := 0) h__law_draw (SA.cons SE.int SA.nil))) SE.int)) SA.nil))) (SE.fz (ST.cut (SE.var (i := 2)) (SO.some (SE.op opAdd (SE.var (i := 3)) SE.int)) SO.none))))))
  SB.nil)
  (SB.cons (SS.ifS (SC.cmp (opEq rfl) (SE.var (i := 6)) SE.int)
  (SB.one (SS.ret (ST.fr (SE.op opAdd (SE.fz (ST.cut (SE.var (i := 2)) SO.none (SO.some (SE.var (i := 3))))) (SE.fz (ST.cut (SE.var (i := 2)) (SO.some (SE.op opAdd (SE.var (i := 3)) SE.int)) SO.none))))))
  SB.nil)
  (SB.cons (SS.ifS (SC.cmp (opEq rfl) (SE.var (i := 6)) SE.int)
  (SB.one (SS.ret (ST.fr (SE.op opAdd (SE.op opAdd (SE.fz (ST.cut (SE.var (i := 2)) SO.none (SO.some (SE.var (i := 3))))) (SE.tup (SA.cons (SE.ixV (i := 2) (SE.var (i := 3))) SA.nil))) (SE.fz (ST.cut (SE.var (i := 2)) (SO.some (SE.var (i := 3))) SO.none))))))
  SB.nil)
  (SB.cons (SS.ifS (SC.cmp (opEq rfl) (SE.var (i := 6)) SE.int)
  (SB.cons (SS.set (i := 7) (ST.callB (ocMin rfl) T.m_min (SA.cons (SE.var (i := 3)) (SA.cons (SE.var (i := 4)) SA.nil))))
  (SB.cons (SS.set (i := 8) (ST.callB (ocMax rfl) T.m_max (SA.cons (SE.var (i := 3)) (SA.cons (SE.var (i := 4)) SA.nil))))
  (SB.cons (SS.ifS (SC.cmp (opEq rfl) (SE.var (i := 7)) (SE.var (i := 8)))
  (SB.one (SS.ret (ST.back (SE.var (i := 2)))))
  SB.nil)
  (SB.one (SS.ret (ST.fr (SE.op opAdd (SE.op opAdd (SE.op opAdd (SE.op opAdd (SE.fz (ST.cut (SE.var (i := 2)) SO.none (SO.some (SE.var (i := 7))))) (SE.tup (SA.cons (SE.ixV (i := 2) (SE.var (i := 8))) SA.nil))) (SE.fz (ST.cut (SE.var (i := 2)) (SO.some (SE.op opAdd (SE.var (i := 7)) SE.int)) (SO.some (SE.var (i := 8)))))) (SE.tup (SA.cons (SE.ixV (i := 2) (SE.var (i := 7))) SA.nil))) (SE.fz (ST.cut (SE.var (i := 2)) (SO.some (SE.op opAdd (SE.var (i := 8)) SE.int)) SO.none)))))))))
  SB.nil)
  (SB.one (SS.ret (ST.fr (SE.ix (SE.fz (ST.lst (SA.cons (SE.fz (ST.callTy ocList T.m_list (SA.cons (SE.var (i := 2)) SA.nil))) (SA.cons (SE.fz (ST.back (SE.var (i := 2)))) (SA.cons SE.dic0 (SA.cons SE.non (SA.cons (SE.ixV (i := 2) SE.int) (SA.cons (SE.fz (ST.lst (SA.cons (SE.var (i := 2)) SA.nil))) (SA.cons (SE.tup (SA.cons (SE.var (i := 2)) SA.nil)) (SA.cons (SE.fz (ST.callL (i := 0) h__law_deep SA.nil)) (SA.cons SE.str SA.nil))))))))))) (SE.fz (ST.callL (i := 0) h__law_draw (SA.cons SE.int SA.nil)))))))))))))))
def b_ends_of : DS := (dRet (dFr (dTup (dCons (dOp rIx (dIxF pf_arrows 0 (Str.ofString "arrows") (dIxV 1 (dC (.int 0)))) (dC (.int 0))) (dCons (dOp rIx (dIxF pf_arrows 0 (Str.ofString "arrows") (dIxV 1 (dNeg (dC (.int 1))))) (dC (.int 1))) dNil)))))
def N_ends_of : List Str := ["web", "way"]
theorem sc_ends_of : FnScope N_ends_of ["web", "way"] (defScope (topS 17)) := ⟨rfl, rfl, rfl, by decide +kernel, rfl, by decide +kernel, by decide +kernel⟩
theorem d_ends_of (T : Tx K mg) (W : WX) : SB ⟨P, w, K, mg, base, N_ends_of, defScope (topS 17), k, true, fun _ => true, W⟩ (defBody (topS 17)) b_ends_of :=
  (SB.one (SS.ret (ST.fr (SE.tup (SA.cons (SE.ix (SE.ixF (i := 0) T.f_arrows (SE.ixV (i := 1) SE.int)) SE.int) (SA.cons (SE.ix (SE.ixF (i := 0) T.f_arrows (SE.ixV (i := 1) (SE.neg SE.int))) SE.int) SA.nil))))))
def b_ends_r1 : DS := (dRet (dCall sp_ends_of (dCons (dVar 0) (dCons (dVar 1) dNil))))
def b_ends : DS := (dSeq (dDrop (dCall sp_check_way (dCons (dVar 0) (dCons (dVar 1) dNil))))
  b_ends_r1)
def N_ends : List Str := ["web", "way"]
theorem sc_ends : FnScope N_ends ["web", "way"] (defScope (topS 18)) := ⟨rfl, rfl, rfl, by decide +kernel, rfl, by decide +kernel, by decide +kernel⟩
theorem d_ends (T : Tx K mg) (h_check_way : Df P w K mg base k (Str.ofString "check_way") sp_check_way) (h_ends_of : Df P w K mg base k (Str.ofString "ends_of") sp_ends_of) (W : WX) : SB ⟨P, w, K, mg, base, N_ends, defScope (topS 18), k, true, fun _ => true, W⟩ (defBody (topS 18)) b_ends :=
  (SB.cons (SS.expr (ST.call h_check_way (SA.cons (SE.var (i := 0)) (SA.cons (SE.var (i := 1)) SA.nil))))
  (SB.one (SS.ret (ST.call h_ends_of (SA.cons (SE.var (i := 0)) (SA.cons (SE.var (i := 1)) SA.nil))))))
def b__law_way_right_r1 : DS := (dIfS (dB (dOp rIsNotB (dFz (dCall sp_is_way (dCons (dVar 1) (dCons (dOp rAdd (dFz (dCut (dVar 3) (dPart (dVar 5)) dNoPart)) (dFz (dCut (dVar 3) dNoPart (dPart (dVar 5))))) dNil)))) (dC (.bl false))))
  (dRet (dFr (dC (.bl false))))
  dNext)
def b__law_way_right_r2 : DS := (dSeq (dIfS (dOr (dB (dOp rNe (dIxV 6 (dNeg (dC (.int 1)))) (dIxV 7 (dC (.int 0))))) (dNot (dB (dFz (dCall spt__law_is (dCons (dOp rAdd (dVar 6) (dFz (dCut (dVar 7) (dPart (dC (.int 1))) dNoPart))) (dCons (dVar 4) dNil)))))))
  (dRet (dFr (dC (.bl false))))
  dNext)
  b__law_way_right_r1)
def b__law_way_right_r3 : DS := (dSeq (dSet 7 (dCall sp_passed (dCons (dVar 1) (dCons (dFz (dCut (dVar 3) (dPart (dVar 5)) dNoPart)) dNil))))
  b__law_way_right_r2)
def b__law_way_right_r4 : DS := (dIfS (dNot (dB (dFz (dCall spt__law_is (dCons (dFz (dCall sp_is_way (dCons (dVar 1) (dCons (dVar 9) dNil)))) (dCons (dFz (dCall sp__law_is_way (dCons (dVar 2) (dCons (dVar 9) dNil)))) dNil))))))
  (dRet (dFr (dC (.bl false))))
  dNext)
def b__law_way_right_b5 : DS := (dSeq (dSet 9 (dCallL 0 sp__law_spoiled (dCons (dVar 2) (dCons (dVar 3) dNil))))
  b__law_way_right_r4)
def b__law_way_right_l6 : DS := (dFor (dRange1 (dC (.int 3))) (dgName 8) b__law_way_right_b5)
def b__law_way_right_r7 : DS := (dRet (dFr (dC (.bl true))))
def b__law_way_right_r8 : DS := (dSeq b__law_way_right_l6
  b__law_way_right_r7)
def b__law_way_right_r9 : DS := (dSeq (dIfS (dB (dOp rGt (dVar 5) (dC (.int 0))))
  (dSeq (dSet 6 (dCall sp_passed (dCons (dVar 1) (dCons (dFz (dCut (dVar 3) dNoPart (dPart (dVar 5)))) dNil))))
  b__law_way_right_r3)
  dNext)
  b__law_way_right_r8)
def b__law_way_right_r10 : DS := (dSeq (dSet 5 (dCallL 0 sp__law_draw (dCons (dLenV 3) dNil)))
  b__law_way_right_r9)
def b__law_way_right_r11 : DS := (dSeq (dIfS (dOr (dNot (dB (dFz (dCall spt__law_is (dCons (dFz (dCall sp_passed (dCons (dVar 1) (dCons (dVar 3) dNil)))) (dCons (dVar 4) dNil)))))) (dB (dOp rNe (dLenSetT (dVar 4)) (dLenV 4))))
  (dRet (dFr (dC (.bl false))))
  dNext)
  b__law_way_right_r10)
def b__law_way_right_r12 : DS := (dSeq (dIfS (dOr (dB (dOp rIsNotB (dFz (dCall sp_is_way (dCons (dVar 1) (dCons (dVar 3) dNil)))) (dC (.bl true)))) (dNot (dB (dFz (dCall spt__law_is (dCons (dFz (dCall sp_ends (dCons (dVar 1) (dCons (dVar 3) dNil)))) (dCons (dTup (dCons (dIxV 4 (dC (.int 0))) (dCons (dIxV 4 (dNeg (dC (.int 1)))) dNil))) dNil)))))))
  (dRet (dFr (dC (.bl false))))
  dNext)
  b__law_way_right_r11)
def b__law_way_right : DS := (dSeq (dSet 4 (dCall sp__law_places (dCons (dVar 2) (dCons (dVar 3) dNil))))
  b__law_way_right_r12)
def N__law_way_right : List Str := ["hand", "web", "arrows", "way", "due", "at", "first", "second", "turn", "thing"]
theorem sc__law_way_right : FnScope N__law_way_right ["hand", "web", "arrows", "way"] (defScope (topS 33)) := ⟨rfl, rfl, rfl, by decide +kernel, rfl, by decide +kernel, by decide +kernel⟩
theorem d__law_way_right (T : Tx K mg) (h__law_draw : Df P w K mg base k (Str.ofString "_law_draw") sp__law_draw) (h__law_is : Df P w K mg base k (Str.ofString "_law_is") spt__law_is) (h__law_is_way : Df P w K mg base k (Str.ofString "_law_is_way") sp__law_is_way) (h__law_places : Df P w K mg base k (Str.ofString "_law_places") sp__law_places) (h__law_spoiled : Df P w K mg base k (Str.ofString "_law_spoiled") sp__law_spoiled) (h_ends : Df P w K mg base k (Str.ofString "ends") sp_ends) (h_is_way : Df P w K mg base k (Str.ofString "is_way") sp_is_way) (h_passed : Df P w K mg base k (Str.ofString "passed") sp_passed) (W : WX) : SB ⟨P, w, K, mg, base, N__law_way_right, defScope (topS 33), k, true, fun _ => true, W⟩ (defBody (topS 33)) b__law_way_right :=
  (SB.cons (SS.set (i := 4) (ST.call h__law_places (SA.cons (SE.var (i := 2)) (SA.cons (SE.var (i := 3)) SA.nil))))
  (SB.cons (SS.ifS (SC.w (SW.or (SC.cmp opIsNotB (SE.fz (ST.call h_is_way (SA.cons (SE.var (i := 1)) (SA.cons (SE.var (i := 3)) SA.nil)))) SE.bl) (SW.or1 (SC.not (SC.val (SE.fz (ST.call h__law_is (SA.cons (SE.fz (ST.call h_ends (SA.cons (SE.var (i := 1)) (SA.cons (SE.var (i := 3)) SA.nil)))) (SA.cons (SE.tup (SA.cons (SE.ixV (i := 4) SE.int) (SA.cons (SE.ixV (i := 4) (SE.neg SE.int)) SA.nil))) SA.nil)))))))))
  (SB.one (SS.ret (ST.fr SE.bl)))
  SB.nil)
  (SB.cons (SS.ifS (SC.w (SW.or (SC.not (SC.val (SE.fz (ST.call h__law_is (SA.cons (SE.fz (ST.call h_passed (SA.cons (SE.var (i := 1)) (SA.cons (SE.var (i := 3)) SA.nil)))) (SA.cons (SE.var (i := 4)) SA.nil)))))) (SW.or1 (SC.cmp (opNe rfl) (SE.lenSetT (SE.var (i := 4)) T.m_len T.m_set) (SE.lenV (i := 4) T.m_len)))))
  (SB.one (SS.ret (ST.fr SE.bl)))
  SB.nil)
  (SB.cons (SS.set (i := 5) (ST.callL (i := 0) h__law_draw (SA.cons (SE.lenV (i := 3) T.m_len) SA.nil)))
  (SB.cons (SS.ifS (SC.cmp opGt (SE.var (i := 5)) SE.int)
  (SB.cons (SS.set (i := 6) (ST.call h_passed (SA.cons (SE.var (i := 1)) (SA.cons (SE.fz (ST.cut (SE.var (i := 3)) SO.none (SO.some (SE.var (i := 5))))) SA.nil))))
  (SB.cons (SS.set (i := 7) (ST.call h_passed (SA.cons (SE.var (i := 1)) (SA.cons (SE.fz (ST.cut (SE.var (i := 3)) (SO.some (SE.var (i := 5))) SO.none)) SA.nil))))
  (SB.cons (SS.ifS (SC.w (SW.or (SC.cmp (opNe rfl) (SE.ixV (i := 6) (SE.neg SE.int)) (SE.ixV (i := 7) SE.int)) (SW.or1 (SC.not (SC.val (SE.fz (ST.call h__law_is (SA.cons (SE.op opAdd (SE.var (i := 6)) (SE.fz (ST.cut (SE.var (i := 7)) (SO.some SE.int) SO.none))) (SA.cons (SE.var (i := 4)) SA.nil)))))))))
  (SB.one (SS.ret (ST.fr SE.bl)))
  SB.nil)
  (SB.one (SS.ifS (SC.cmp opIsNotB (SE.fz (ST.call h_is_way (SA.cons (SE.var (i := 1)) (SA.cons (SE.op opAdd (SE.fz (ST.cut (SE.var (i := 3)) (SO.some (SE.var (i := 5))) SO.none)) (SE.fz (ST.cut (SE.var (i := 3)) SO.none (SO.some (SE.var (i := 5)))))) SA.nil)))) SE.bl)
  (SB.one (SS.ret (ST.fr SE.bl)))
  SB.nil)))))
  SB.nil)
  (SB.cons (SS.for_ (SI.range1 SE.int T.m_range) (SG.name (i := 8))
  (SB.cons (SS.set (i := 9) (ST.callL (i := 0) h__law_spoiled (SA.cons (SE.var (i := 2)) (SA.cons (SE.var (i := 3)) SA.nil))))
  (SB.one (SS.ifS (SC.not (SC.val (SE.fz (ST.call h__law_is (SA.cons (SE.fz (ST.call h_is_way (SA.cons (SE.var (i := 1)) (SA.cons (SE.var (i := 9)) SA.nil)))) (SA.cons (SE.fz (ST.call h__law_is_way (SA.cons (SE.var (i := 2)) (SA.cons (SE.var (i := 9)) SA.nil)))) SA.nil))))))
  (SB.one (SS.ret (ST.fr SE.bl)))
  SB.nil))))
  (SB.one (SS.ret (ST.fr SE.bl)))))))))
def b_law_r1 : DS := (dSet 3 (dFr (dOp rAdd (dC (.int 60)) (dFz (dCallL 1 sp__law_draw (dCons (dC (.int 31)) dNil))))))
def b_law_c2 : DT := (dLc (dRange1 (dC (.int 4))) (dgName 12) dYes (dFz (dCallL 1 sp__law_walk (dCons (dVar 5) (dCons (dC (.int 60)) dNil)))) [12])
def b_law_b3 : DS := (dIfS (dNot (dB (dFz (dCallL 1 sp__law_way_right (dCons (dVar 6) (dCons (dVar 5) (dCons (dVar 8) dNil)))))))
  (dRet (dFr (dC (.bl false))))
  dNext)
def b_law_l4 : DS := (dFor (dItems (dVar 7)) (dgName 8) b_law_b3)
def b_law_r5 : DS := (dIfS (dAnd (dB (dVar 11)) (dNot (dB (dFz (dCall spt__law_is (dCons (dFz (dCall sp_passed (dCons (dVar 6) (dCons (dOp rAdd (dVar 9) (dVar 10)) dNil)))) (dCons (dOp rAdd (dFz (dCall sp_passed (dCons (dVar 6) (dCons (dVar 9) dNil)))) (dFz (dCut (dFz (dCall sp_passed (dCons (dVar 6) (dCons (dVar 10) dNil)))) (dPart (dC (.int 1))) dNoPart))) dNil)))))))
  (dRet (dFr (dC (.bl false))))
  dNext)
def b_law_r6 : DS := (dSeq (dIfS (dNot (dB (dFz (dCall spt__law_is (dCons (dFz (dCall sp_is_way (dCons (dVar 6) (dCons (dOp rAdd (dVar 9) (dVar 10)) dNil)))) (dCons (dVar 11) dNil))))))
  (dRet (dFr (dC (.bl false))))
  dNext)
  b_law_r5)
def b_law_b7 : DS := (dSeq (dSet 11 (dFr (dOp rEq (dOp rIx (dFz (dCall sp__law_places (dCons (dVar 5) (dCons (dVar 9) dNil)))) (dNeg (dC (.int 1)))) (dOp rIx (dFz (dCall sp__law_places (dCons (dVar 5) (dCons (dVar 10) dNil)))) (dC (.int 0))))))
  b_law_r6)
def b_law_l8 : DS := (dFor (dZip (dVar 7) (dFz (dCut (dVar 7) (dPart (dC (.int 1))) dNoPart))) (dgTup 2 (dgCons (dgName 9) (dgCons (dgName 10) dgNil))) b_law_b7)
def b_law_r9 : DS := (dRet (dFr (dAndV (dOp rIsB (dFz (dCall sp_is_way (dCons (dVar 6) (dCons (dTup dNil) dNil)))) (dC (.bl false))) (dFz (dCallL 1 sp__law_pairs_right (dCons (dVar 6) (dCons (dVar 5) dNil)))))))
def b_law_r10 : DS := (dSeq b_law_l8
  b_law_r9)
def b_law_r11 : DS := (dSeq b_law_l4
  b_law_r10)
def b_law_r12 : DS := (dSeq (dSet 7 b_law_c2)
  b_law_r11)
def b_law_r13 : DS := (dSeq (dSet 6 (dMake 200 sp_Web_init (dCons (dVar 2) (dCons (dVar 5) dNil))))
  b_law_r12)
def b_law_r14 : DS := (dSeq (dAsg (dFz (dCallL 1 sp__law_ordered (dCons (dVar 2) (dCons (dVar 3) (dCons (dOp rAdd (dC (.int 1)) (dFz (dCallL 1 sp__law_draw (dCons (dC (.int 4)) dNil)))) dNil))))) (dgTup 2 (dgCons (dgName 4) (dgCons (dgName 5) dgNil))))
  b_law_r13)
def b_law_r15 : DS := (dSeq (dIfS (dB (dOp rEq (dFz (dCallL 1 sp__law_draw (dCons (dC (.int 4)) dNil))) (dC (.int 0))))
  (dSeq (dSet 2 (dFr (dOp rAdd (dC (.int 40)) (dFz (dCallL 1 sp__law_draw (dCons (dC (.int 21)) dNil))))))
  b_law_r1)
  dNext)
  b_law_r14)
def b_law_r16 : DS := (dSeq (dSet 3 (dFr (dOp rAdd (dC (.int 1)) (dFz (dCallL 1 sp__law_draw (dCons (dC (.int 14)) dNil))))))
  b_law_r15)
def b_law_r17 : DS := (dSeq (dSet 2 (dFr (dOp rAdd (dC (.int 2)) (dFz (dCallL 1 sp__law_draw (dCons (dC (.int 8)) dNil))))))
  b_law_r16)
def b_law : DS := (dSeq (dSet 1 (dCall sp__law_hand (dCons (dVar 0) dNil)))
  b_law_r17)
def N_law : List Str := ["script", "hand", "places", "many", "order", "arrows", "web", "found", "way", "one", "other", "due", "turn"]
theorem sc_law : FnScope N_law ["script"] (defScope (topS 35)) := ⟨rfl, rfl, rfl, by decide +kernel, rfl, by decide +kernel, by decide +kernel⟩
theorem d_law (T : Tx K mg) (h_Web : DfC P w K mg base k 200 (Str.ofString "Web") sp_Web_init) (h__law_draw : Df P w K mg base k (Str.ofString "_law_draw") sp__law_draw) (h__law_hand : Df P w K mg base k (Str.ofString "_law_hand") sp__law_hand) (h__law_is : Df P w K mg base k (Str.ofString "_law_is") spt__law_is) (h__law_ordered : Df P w K mg base k (Str.ofString "_law_ordered") sp__law_ordered) (h__law_pairs_right : Df P w K mg base k (Str.ofString "_law_pairs_right") sp__law_pairs_right) (h__law_places : Df P w K mg base k (Str.ofString "_law_places") sp__law_places) (h__law_walk : Df P w K mg base k (Str.ofString "_law_walk") sp__law_walk) (h__law_way_right : Df P w K mg base k (Str.ofString "_law_way_right") sp__law_way_right) (h_is_way : Df P w K mg base k (Str.ofString "is_way") sp_is_way) (h_passed : Df P w K mg base k (Str.ofString "passed") sp_passed) (W : WX) : SB ⟨P, w, K, mg, base, N_law, defScope (topS 35), k, true, fun _ => true, W⟩ (defBody (topS 35)) b_law :=
  (SB.cons (SS.set (i := 1) (ST.call h__law_hand (SA.cons (SE.var (i := 0)) SA.nil)))
  (SB.cons (SS.set (i := 2) (ST.fr (SE.op opAdd SE.int (SE.fz (ST.callL (i := 1) h__law_draw (SA.cons SE.int SA.nil))))))
  (SB.cons (SS.set (i := 3) (ST.fr (SE.op opAdd SE.int (SE.fz (ST.callL (i := 1) h__law_draw (SA.cons SE.int SA.nil))))))
  (SB.cons (SS.ifS (SC.cmp (opEq rfl) (SE.fz (ST.callL (i := 1) h__law_draw (SA.cons SE.int SA.nil))) SE.int)
  (SB.cons (SS.set (i := 2) (ST.fr (SE.op opAdd SE.int (SE.fz (ST.callL (i := 1) h__law_draw (SA.cons SE.int SA.nil))))))
  (SB.one (SS.set (i := 3) (ST.fr (SE.op opAdd SE.int (SE.fz (ST.callL (i := 1) h__law_draw (SA.cons SE.int SA.nil))))))))
  SB.nil)
  (SB.cons (SS.asg (SE.fz (ST.callL (i := 1) h__law_ordered (SA.cons (SE.var (i := 2)) (SA.cons (SE.var (i := 3)) (SA.cons (SE.op opAdd SE.int (SE.fz (ST.callL (i := 1) h__law_draw (SA.cons SE.int SA.nil)))) SA.nil))))) (SG.tup (SGs.cons (SG.name (i := 4)) (SGs.cons (SG.name (i := 5)) SGs.nil))))
  (SB.cons (SS.set (i := 6) (ST.make (c := 200) h_Web (SA.cons (SE.var (i := 2)) (SA.cons (SE.var (i := 5)) SA.nil))))
  (SB.cons (SS.setLc (i := 7) (own := [((Str.ofString "turn" : Str), 12)]) (SI.range1 SE.int T.m_range) (SG.name (i := 12)) SCs.nil (SE.fz (ST.callL (i := 1) h__law_walk (SA.cons (SE.var (i := 5)) (SA.cons SE.int SA.nil)))))
  (SB.cons (SS.for_ (SI.items (SE.var (i := 7))) (SG.name (i := 8))
  (SB.one (SS.ifS (SC.not (SC.val (SE.fz (ST.callL (i := 1) h__law_way_right (SA.cons (SE.var (i := 6)) (SA.cons (SE.var (i := 5)) (SA.cons (SE.var (i := 8)) SA.nil)))))))
  (SB.one (SS.ret (ST.fr SE.bl)))
  SB.nil)))
  (SB.cons (SS.for_ (SI.zip (SE.var (i := 7)) (SE.fz (ST.cut (SE.var (i := 7)) (SO.some SE.int) SO.none)) T.m_zip) (SG.tup (SGs.cons (SG.name (i := 9)) (SGs.cons (SG.name (i := 10)) SGs.nil)))
  (SB.cons (SS.set (i := 11) (ST.fr (SE.cmp (opEq rfl) (SE.ix (SE.fz (ST.call h__law_places (SA.cons (SE.var (i := 5)) (SA.cons (SE.var (i := 9)) SA.nil)))) (SE.neg SE.int)) (SE.ix (SE.fz (ST.call h__law_places (SA.cons (SE.var (i := 5)) (SA.cons (SE.var (i := 10)) SA.nil)))) SE.int))))
  (SB.cons (SS.ifS (SC.not (SC.val (SE.fz (ST.call h__law_is (SA.cons (SE.fz (ST.call h_is_way (SA.cons (SE.var (i := 6)) (SA.cons (SE.op opAdd (SE.var (i := 9)) (SE.var (i := 10))) SA.nil)))) (SA.cons (SE.var (i := 11)) SA.nil))))))
  (SB.one (SS.ret (ST.fr SE.bl)))
  SB.nil)
  (SB.one (SS.ifS (SC.w (SW.and (SC.val (SE.var (i := 11))) (SW.and1 (SC.not (SC.val (SE.fz (ST.call h__law_is (SA.cons (SE.fz (ST.call h_passed (SA.cons (SE.var (i := 6)) (SA.cons (SE.op opAdd (SE.var (i := 9)) (SE.var (i := 10))) SA.nil)))) (SA.cons (SE.op opAdd (SE.fz (ST.call h_passed (SA.cons (SE.var (i := 6)) (SA.cons (SE.var (i := 9)) SA.nil)))) (SE.fz (ST.cut (SE.fz (ST.call h_passed (SA.cons (SE.var (i := 6)) (SA.cons (SE.var (i := 10)) SA.nil)))) (SO.some SE.int) SO.none))) SA.nil)))))))))
  (SB.one (SS.ret (ST.fr SE.bl)))
  SB.nil)))))
  (SB.one (SS.ret (ST.fr (SE.and (SE.cmp opIsB (SE.fz (ST.call h_is_way (SA.cons (SE.var (i := 6)) (SA.cons (SE.tup SA.nil) SA.nil)))) SE.bl) (SE.one (SE.fz (ST.callL (i := 1) h__law_pairs_right (SA.cons (SE.var (i := 6)) (SA.cons (SE.var (i := 5)) SA.nil))))))))))))))))))
end
end EC
namespace EC
open PySem PySem.Spec PyProof.Rows L2
theorem m_is_integer : ∀ ts Q R, sp_is_integer ts Q R → b_is_integer (endsOf ts Q R) (startT N_is_integer.length ts) := by
  rintro ts Q R ⟨d, rfl, h, q⟩
  have e : startT N_is_integer.length [.fr d] = [some (.fr d)] := rfl
  rw [e]
  simp only [b_is_integer, dSeq, dSet, dRet, dRetN, dDrop, dIfS, dNext, dFr, dFz, dVar, dC, dOp, dB, dChain, dAnd, dOr, dNot, dAndV, dOrV, dNotV, dIf, dNeg, dRev, dBack, dDic0, dCons, dNil, dTup, dLst, dRep, dIxV, dInV, dLenV, dCallB, dCall, dIsi, dItems, dRange1, dEnum, dZip, dYes, dgName, dgTup, dgCons, dgNil, dAsg, dApp, dPopAt, dAugIx, dSetIx, dCallL, dBits, dLstRg1, dFldV, dSetF, dMake, dCut, dPart, dNoPart, rCut, endsOf, exitT, peek, setOk, withOw, isOw, withT, lentQ, l_lend1, l_lend2, l_lend3, l_back1, l_back2, l_back3, l_kind1, l_kind2, l_kind3, l_kind4, l_kind5, l_kind6, l_frz1, l_frz2, l_frz3, l_frz4, noOw, wipeT, restT, cLen, cInt, cAbs, cTuple, cList, cStr, keyD, rIsB, rIsNotB, rAdd, rSub, rMul, rMod, rDiv, rPow, rShl, rShr, rBand, rBor, rLt, rLe, rGt, rGe, rAddI, rIx, l_at0, l_at1, l_at2, l_at3, l_at4, Int.reduceToNat, l_eqI, l_neI, l_eqB, l_neB, List.getElem?_cons_zero, List.getElem?_cons_succ, List.set_cons_zero, List.set_cons_succ, List.map_cons, List.map_nil, List.append_nil, List.cons_append, List.nil_append, List.replicate_succ, List.replicate_zero, Option.isSome_some, List.getD_cons_zero, List.getD_cons_succ, forall_const, true_and, and_true]
  cases d <;> first | exact q | cases h
theorem m_is_within : ∀ ts Q R, sp_is_within ts Q R → b_is_within (endsOf ts Q R) (startT N_is_within.length ts) := by
  rintro ts Q R ⟨d, lo, hi, rfl, h, q⟩
  have e : startT N_is_within.length [.fr d, .fr (.int lo), .fr (.int hi)] = [some (.fr d), some (.fr (.int lo)), some (.fr (.int hi))] := rfl
  rw [e]
  simp only [b_is_within, dSeq, dSet, dRet, dRetN, dDrop, dIfS, dNext, dFr, dFz, dVar, dC, dOp, dB, dChain, dAnd, dOr, dNot, dAndV, dOrV, dNotV, dIf, dNeg, dRev, dBack, dDic0, dCons, dNil, dTup, dLst, dRep, dIxV, dInV, dLenV, dCallB, dCall, dIsi, dItems, dRange1, dEnum, dZip, dYes, dgName, dgTup, dgCons, dgNil, dAsg, dApp, dPopAt, dAugIx, dSetIx, dCallL, dBits, dLstRg1, dFldV, dSetF, dMake, dCut, dPart, dNoPart, rCut, endsOf, exitT, peek, setOk, withOw, isOw, withT, lentQ, l_lend1, l_lend2, l_lend3, l_back1, l_back2, l_back3, l_kind1, l_kind2, l_kind3, l_kind4, l_kind5, l_kind6, l_frz1, l_frz2, l_frz3, l_frz4, noOw, wipeT, restT, cLen, cInt, cAbs, cTuple, cList, cStr, keyD, rIsB, rIsNotB, rAdd, rSub, rMul, rMod, rDiv, rPow, rShl, rShr, rBand, rBor, rLt, rLe, rGt, rGe, rAddI, rIx, l_at0, l_at1, l_at2, l_at3, l_at4, Int.reduceToNat, l_eqI, l_neI, l_eqB, l_neB, List.getElem?_cons_zero, List.getElem?_cons_succ, List.set_cons_zero, List.set_cons_succ, List.map_cons, List.map_nil, List.append_nil, List.cons_append, List.nil_append, List.replicate_succ, List.replicate_zero, Option.isSome_some, List.getD_cons_zero, List.getD_cons_succ, forall_const, true_and, and_true]
  refine ⟨d, rfl, h, ?_⟩
  cases d <;> (try (first | exact q | cases h))
  rename_i i
  simp only [dSeq, dSet, dRet, dRetN, dDrop, dIfS, dNext, dFr, dFz, dVar, dC, dOp, dB, dChain, dAnd, dOr, dNot, dAndV, dOrV, dNotV, dIf, dNeg, dRev, dBack, dDic0, dCons, dNil, dTup, dLst, dRep, dIxV, dInV, dLenV, dCallB, dCall, dIsi, dItems, dRange1, dEnum, dZip, dYes, dgName, dgTup, dgCons, dgNil, dAsg, dApp, dPopAt, dAugIx, dSetIx, dCallL, dBits, dLstRg1, dFldV, dSetF, dMake, dCut, dPart, dNoPart, rCut, endsOf, exitT, peek, setOk, withOw, isOw, withT, lentQ, l_lend1, l_lend2, l_lend3, l_back1, l_back2, l_back3, l_kind1, l_kind2, l_kind3, l_kind4, l_kind5, l_kind6, l_frz1, l_frz2, l_frz3, l_frz4, noOw, wipeT, restT, cLen, cInt, cAbs, cTuple, cList, cStr, keyD, rIsB, rIsNotB, rAdd, rSub, rMul, rMod, rDiv, rPow, rShl, rShr, rBand, rBor, rLt, rLe, rGt, rGe, rAddI, rIx, l_at0, l_at1, l_at2, l_at3, l_at4, Int.reduceToNat, l_eqI, l_neI, l_eqB, l_neB, List.getElem?_cons_zero, List.getElem?_cons_succ, List.set_cons_zero, List.set_cons_succ, List.map_cons, List.map_nil, List.append_nil, List.cons_append, List.nil_append, List.replicate_succ, List.replicate_zero, Option.isSome_some, List.getD_cons_zero, List.getD_cons_succ, forall_const, true_and, and_true, isIntD]
  by_cases h1 : lo ≤ i
  · simpa [h1, inD] using q
  · simpa [h1, inD] using q
theorem m_is_pair : ∀ ts Q R, sp_is_pair ts Q R → b_is_pair (endsOf ts Q R) (startT N_is_pair.length ts) := by
  rintro ts Q R ⟨d, rfl, h, q⟩
  have e : startT N_is_pair.length [.fr d] = [some (.fr d)] := rfl
  rw [e]
  simp only [b_is_pair, dSeq, dSet, dRet, dRetN, dDrop, dIfS, dNext, dFr, dFz, dVar, dC, dOp, dB, dChain, dAnd, dOr, dNot, dAndV, dOrV, dNotV, dIf, dNeg, dRev, dBack, dDic0, dCons, dNil, dTup, dLst, dRep, dIxV, dInV, dLenV, dCallB, dCall, dIsi, dItems, dRange1, dEnum, dZip, dYes, dgName, dgTup, dgCons, dgNil, dAsg, dApp, dPopAt, dAugIx, dSetIx, dCallL, dBits, dLstRg1, dFldV, dSetF, dMake, dCut, dPart, dNoPart, rCut, endsOf, exitT, peek, setOk, withOw, isOw, withT, lentQ, l_lend1, l_lend2, l_lend3, l_back1, l_back2, l_back3, l_kind1, l_kind2, l_kind3, l_kind4, l_kind5, l_kind6, l_frz1, l_frz2, l_frz3, l_frz4, noOw, wipeT, restT, cLen, cInt, cAbs, cTuple, cList, cStr, keyD, rIsB, rIsNotB, rAdd, rSub, rMul, rMod, rDiv, rPow, rShl, rShr, rBand, rBor, rLt, rLe, rGt, rGe, rAddI, rIx, l_at0, l_at1, l_at2, l_at3, l_at4, Int.reduceToNat, l_eqI, l_neI, l_eqB, l_neB, List.getElem?_cons_zero, List.getElem?_cons_succ, List.set_cons_zero, List.set_cons_succ, List.map_cons, List.map_nil, List.append_nil, List.cons_append, List.nil_append, List.replicate_succ, List.replicate_zero, Option.isSome_some, List.getD_cons_zero, List.getD_cons_succ, forall_const, true_and, and_true]
  cases d <;> (try (first | exact q | cases h))
  rename_i ds
  have e2 : decide (((ds.length : Nat) : Int) = 2) = (ds.length == 2) := by
    by_cases h : ds.length = 2
    · simp [h]
    · have : ¬ (ds.length : Int) = 2 := by omega
      simp [h, this]
  simp only [tyD, isOne, List.any_cons, List.any_nil, isPairD, l_eqI] at q ⊢
  rw [e2]
  exact q
theorem filterMap_if {α β : Type} (p : α → Bool) (h : α → β) : ∀ l : List α, l.filterMap (fun a => if p a then some (h a) else none) = (l.filter p).map h
  | [] => rfl
  | a :: l => by
    rw [List.filterMap_cons, filterMap_if p h l, List.filter_cons]
    cases p a <;> rfl
/-- a comprehension over numbers that keeps some -/
theorem lc_nats {ns : List Nat} {τ1 : Env} {g : DG} {cond : DC} {elt : DE} {vs : List Nat} {Q : T → Env → Prop} (p : Nat → Bool) (hlen : ns.length ≤ 1000000) (hno : ∀ v ∈ vs, noOw τ1 v)
    (step : ∀ n ∈ ns, ∀ (Y : D → Env → Prop) (N : Env → Prop), (p n = true → Y (nD n) (wipeT τ1 vs)) → (p n = false → N (wipeT τ1 vs)) → g (nD n) (wipeT τ1 vs) fun τ2 => cond τ2 (fun b τ3 => match b with
      | true => elt τ3 (fun y τ4 => Y y (wipeT τ4 vs)) noR
      | false => N (wipeT τ3 vs)) noR)
    (fin : Q (.ow false (natsD (ns.filter p))) (restT τ1 vs (wipeT τ1 vs))) : LcB (natsD ns) τ1 g cond elt vs Q := by
  have e : (natsD ns).filterMap (fun d => match d with | .int i => if p i.toNat then some (.int i) else none | _ => none) = natsD (ns.filter p) := by
    unfold natsD
    rw [List.filterMap_map]
    have : (fun d => match d with | D.int i => if p i.toNat then some (D.int i) else none | _ => none) ∘ nD = fun n => if p n then some (nD n) else none := by
      funext n
      show (if p ((n : Int)).toNat then some (D.int n) else none) = _
      rw [Int.toNat_natCast]
    rw [this]
    exact filterMap_if p nD ns
  refine lc_fm _ (by rw [natsD_length]; exact hlen) hno (fun d hd Y N hy hn => ?_) (by rw [e]; exact fin)
  obtain ⟨n, hm, rfl⟩ := List.mem_map.mp hd
  refine step n hm Y N (fun h => hy (nD n) ?_) (fun h => hn ?_)
  · show (if p ((n : Int)).toNat then some (D.int n) else none) = _
    rw [Int.toNat_natCast, h]
    rfl
  · show (if p ((n : Int)).toNat then some (D.int n) else none) = _
    rw [Int.toNat_natCast, h]
    rfl
theorem inD_nat {p n : Nat} (h : p < n) : inD (nD p) 0 ((n : Int) - 1) = true := decide_eq_true ⟨by omega, by omega⟩
theorem cutD_len {α : Type} (ds : List α) (lo hi : Option Int) : (cutD ds lo hi).length ≤ ds.length := by
  unfold cutD
  rw [List.length_take, List.length_drop]
  omega
theorem m__law_hand : ∀ ts Q R, sp__law_hand ts Q R → b__law_hand (endsOf ts Q R) (startT N__law_hand.length ts) := by
  rintro ts Q R ⟨ns, rfl, hl, q⟩
  have e : startT N__law_hand.length [.fr (.scr ns)] = [some (.fr (.scr ns)), none, none] := rfl
  rw [e]
  have hc := cutD_len ns none (some 63)
  simp only [b__law_hand, dSeq, dSet, dRet, dRetN, dDrop, dIfS, dNext, dFr, dFz, dVar, dC, dOp, dB, dChain, dAnd, dOr, dNot, dAndV, dOrV, dNotV, dIf, dNeg, dRev, dBack, dDic0, dCons, dNil, dTup, dLst, dRep, dIxV, dInV, dLenV, dCallB, dCall, dIsi, dItems, dRange1, dEnum, dZip, dYes, dgName, dgTup, dgCons, dgNil, dAsg, dApp, dPopAt, dAugIx, dSetIx, dCallL, dBits, dLstRg1, dFldV, dSetF, dMake, dCut, dPart, dNoPart, rCut, endsOf, exitT, peek, setOk, withOw, isOw, withT, lentQ, l_lend1, l_lend2, l_lend3, l_back1, l_back2, l_back3, l_kind1, l_kind2, l_kind3, l_kind4, l_kind5, l_kind6, l_frz1, l_frz2, l_frz3, l_frz4, noOw, wipeT, restT, cLen, cInt, cAbs, cTuple, cList, cStr, keyD, rIsB, rIsNotB, rAdd, rSub, rMul, rMod, rDiv, rPow, rShl, rShr, rBand, rBor, rLt, rLe, rGt, rGe, rAddI, rIx, l_at0, l_at1, l_at2, l_at3, l_at4, Int.reduceToNat, l_eqI, l_neI, l_eqB, l_neB, List.getElem?_cons_zero, List.getElem?_cons_succ, List.set_cons_zero, List.set_cons_succ, List.map_cons, List.map_nil, List.append_nil, List.cons_append, List.nil_append, List.replicate_succ, List.replicate_zero, Option.isSome_some, List.getD_cons_zero, List.getD_cons_succ, forall_const, true_and, and_true]
  show LcB _ _ _ _ _ _ _
  refine lc_map D.int (fun i => .int (if i < 0 then -i else i)) (cutD ns none (some 63)) (by omega) ?_ (fun x hx Y N hy => ?_) ?_
  · simp [noOw]
  · simp only [dSeq, dSet, dRet, dRetN, dDrop, dIfS, dNext, dFr, dFz, dVar, dC, dOp, dB, dChain, dAnd, dOr, dNot, dAndV, dOrV, dNotV, dIf, dNeg, dRev, dBack, dDic0, dCons, dNil, dTup, dLst, dRep, dIxV, dInV, dLenV, dCallB, dCall, dIsi, dItems, dRange1, dEnum, dZip, dYes, dgName, dgTup, dgCons, dgNil, dAsg, dApp, dPopAt, dAugIx, dSetIx, dCallL, dBits, dLstRg1, dFldV, dSetF, dMake, dCut, dPart, dNoPart, rCut, endsOf, exitT, peek, setOk, withOw, isOw, withT, lentQ, l_lend1, l_lend2, l_lend3, l_back1, l_back2, l_back3, l_kind1, l_kind2, l_kind3, l_kind4, l_kind5, l_kind6, l_frz1, l_frz2, l_frz3, l_frz4, noOw, wipeT, restT, cLen, cInt, cAbs, cTuple, cList, cStr, keyD, rIsB, rIsNotB, rAdd, rSub, rMul, rMod, rDiv, rPow, rShl, rShr, rBand, rBor, rLt, rLe, rGt, rGe, rAddI, rIx, l_at0, l_at1, l_at2, l_at3, l_at4, Int.reduceToNat, l_eqI, l_neI, l_eqB, l_neB, List.getElem?_cons_zero, List.getElem?_cons_succ, List.set_cons_zero, List.set_cons_succ, List.map_cons, List.map_nil, List.append_nil, List.cons_append, List.nil_append, List.replicate_succ, List.replicate_zero, Option.isSome_some, List.getD_cons_zero, List.getD_cons_succ, forall_const, true_and, and_true]
    exact hy
  · simp only [b__law_hand_r2, dSeq, dSet, dRet, dRetN, dDrop, dIfS, dNext, dFr, dFz, dVar, dC, dOp, dB, dChain, dAnd, dOr, dNot, dAndV, dOrV, dNotV, dIf, dNeg, dRev, dBack, dDic0, dCons, dNil, dTup, dLst, dRep, dIxV, dInV, dLenV, dCallB, dCall, dIsi, dItems, dRange1, dEnum, dZip, dYes, dgName, dgTup, dgCons, dgNil, dAsg, dApp, dPopAt, dAugIx, dSetIx, dCallL, dBits, dLstRg1, dFldV, dSetF, dMake, dCut, dPart, dNoPart, rCut, endsOf, exitT, peek, setOk, withOw, isOw, withT, lentQ, l_lend1, l_lend2, l_lend3, l_back1, l_back2, l_back3, l_kind1, l_kind2, l_kind3, l_kind4, l_kind5, l_kind6, l_frz1, l_frz2, l_frz3, l_frz4, noOw, wipeT, restT, cLen, cInt, cAbs, cTuple, cList, cStr, keyD, rIsB, rIsNotB, rAdd, rSub, rMul, rMod, rDiv, rPow, rShl, rShr, rBand, rBor, rLt, rLe, rGt, rGe, rAddI, rIx, l_at0, l_at1, l_at2, l_at3, l_at4, Int.reduceToNat, l_eqI, l_neI, l_eqB, l_neB, List.getElem?_cons_zero, List.getElem?_cons_succ, List.set_cons_zero, List.set_cons_succ, List.map_cons, List.map_nil, List.append_nil, List.cons_append, List.nil_append, List.replicate_succ, List.replicate_zero, Option.isSome_some, List.getD_cons_zero, List.getD_cons_succ, forall_const, true_and, and_true]
    refine ⟨by simp, q _ ⟨(cutD ns none (some 63)).map (fun i => if i < 0 then -i else i), 0, 0, _, 0, by rw [List.map_map]; rfl, ?_, by omega, by omega⟩⟩
    intro c hc
    obtain ⟨i, _, rfl⟩ := List.mem_map.mp hc
    split <;> omega
theorem cm_mod (a j : Int) {b : Int} (h0 : 0 < b) (h1 : b < 2 ^ 64) : CMul (a % b) j := by
  have h2 := Int.emod_nonneg a (Int.ne_of_gt h0)
  have h3 := Int.emod_lt_of_pos a h0
  exact .inl ⟨by omega, by omega⟩
theorem draw_r1 {hs : List D} {many : Int} {x2 : Option T} {E : DEnds} (h : HandOk hs) (hm : 0 < many) (q : ∀ r hs', 0 ≤ r → r < many → HandOk hs' → ∀ y z u, E.rt (.fr (.int r)) [some (.ow true hs'), some (.fr (.int many)), y, z, u]) :
    b__law_draw_r1 E [some (.ow true hs), some (.fr (.int many)), x2, none, none] := by
  obtain ⟨cells, at_, rest, state, count, rfl, h3, h4, h5⟩ := h
  simp only [b__law_draw_r1, dSeq, dSet, dRet, dRetN, dDrop, dIfS, dNext, dFr, dFz, dVar, dC, dOp, dB, dChain, dAnd, dOr, dNot, dAndV, dOrV, dNotV, dIf, dNeg, dRev, dBack, dDic0, dCons, dNil, dTup, dLst, dRep, dIxV, dInV, dLenV, dCallB, dCall, dIsi, dItems, dRange1, dEnum, dZip, dYes, dgName, dgTup, dgCons, dgNil, dAsg, dApp, dPopAt, dAugIx, dSetIx, dCallL, dBits, dLstRg1, dFldV, dSetF, dMake, dCut, dPart, dNoPart, rCut, endsOf, exitT, peek, setOk, withOw, isOw, withT, lentQ, l_lend1, l_lend2, l_lend3, l_back1, l_back2, l_back3, l_kind1, l_kind2, l_kind3, l_kind4, l_kind5, l_kind6, l_frz1, l_frz2, l_frz3, l_frz4, noOw, wipeT, restT, cLen, cInt, cAbs, cTuple, cList, cStr, keyD, rIsB, rIsNotB, rAdd, rSub, rMul, rMod, rDiv, rPow, rShl, rShr, rBand, rBor, rLt, rLe, rGt, rGe, rAddI, rIx, l_at0, l_at1, l_at2, l_at3, l_at4, Int.reduceToNat, l_eqI, l_neI, l_eqB, l_neB, List.getElem?_cons_zero, List.getElem?_cons_succ, List.set_cons_zero, List.set_cons_succ, List.map_cons, List.map_nil, List.append_nil, List.cons_append, List.nil_append, List.replicate_succ, List.replicate_zero, Option.isSome_some, List.getD_cons_zero, List.getD_cons_succ, forall_const, true_and, and_true]
  refine ⟨by decide, by simp, .inl (.inl ⟨by decide, by decide⟩), .inl (.inr ⟨by decide, by decide⟩), by decide, .inl ⟨by decide, by decide⟩, .inl (cm_mod _ _ (by decide) (by decide)), by decide, .inl ⟨by decide, by decide⟩, .inl (cm_mod _ _ (by decide) (by decide)), by decide, .inl ⟨by decide, by decide⟩, hm, q _ _ (Int.emod_nonneg _ (Int.ne_of_gt hm)) (Int.emod_lt_of_pos _ hm) ⟨cells, at_, rest, state, count + 1, rfl, h3, h4, h5⟩ _ _ _⟩
theorem draw_r2 {hs : List D} {many : Int} {x2 : Option T} {E : DEnds} (h : HandOk hs) (hm : 0 < many) (hm2 : many < 1073741824) (q : ∀ r hs', 0 ≤ r → r < many → HandOk hs' → ∀ y z u, E.rt (.fr (.int r)) [some (.ow true hs'), some (.fr (.int many)), y, z, u]) :
    b__law_draw_r2 E [some (.ow true hs), some (.fr (.int many)), x2, none, none] := by
  have h' := h
  obtain ⟨cells, at_, rest, state, count, rfl, h3, h4, h5⟩ := h
  simp only [b__law_draw_r2, dSeq, dSet, dRet, dRetN, dDrop, dIfS, dNext, dFr, dFz, dVar, dC, dOp, dB, dChain, dAnd, dOr, dNot, dAndV, dOrV, dNotV, dIf, dNeg, dRev, dBack, dDic0, dCons, dNil, dTup, dLst, dRep, dIxV, dInV, dLenV, dCallB, dCall, dIsi, dItems, dRange1, dEnum, dZip, dYes, dgName, dgTup, dgCons, dgNil, dAsg, dApp, dPopAt, dAugIx, dSetIx, dCallL, dBits, dLstRg1, dFldV, dSetF, dMake, dCut, dPart, dNoPart, rCut, endsOf, exitT, peek, setOk, withOw, isOw, withT, lentQ, l_lend1, l_lend2, l_lend3, l_back1, l_back2, l_back3, l_kind1, l_kind2, l_kind3, l_kind4, l_kind5, l_kind6, l_frz1, l_frz2, l_frz3, l_frz4, noOw, wipeT, restT, cLen, cInt, cAbs, cTuple, cList, cStr, keyD, rIsB, rIsNotB, rAdd, rSub, rMul, rMod, rDiv, rPow, rShl, rShr, rBand, rBor, rLt, rLe, rGt, rGe, rAddI, rIx, l_at0, l_at1, l_at2, l_at3, l_at4, Int.reduceToNat, l_eqI, l_neI, l_eqB, l_neB, List.getElem?_cons_zero, List.getElem?_cons_succ, List.set_cons_zero, List.set_cons_succ, List.map_cons, List.map_nil, List.append_nil, List.cons_append, List.nil_append, List.replicate_succ, List.replicate_zero, Option.isSome_some, List.getD_cons_zero, List.getD_cons_succ, forall_const, true_and, and_true]
  by_cases hr : 0 < rest
  · simp only [hr, decide_true]
    refine ⟨hm, .inl ⟨hm, hm2⟩, by decide, by simp, q _ _ (Int.emod_nonneg _ (Int.ne_of_gt hm)) (Int.emod_lt_of_pos _ hm) ⟨cells, at_, _, state, count, rfl, h3, h4, Int.ediv_nonneg h5 (by omega)⟩ _ _ _⟩
  · simp only [hr, decide_false]
    exact draw_r1 h' hm q
theorem m__law_draw : ∀ ts Q R, sp__law_draw ts Q R → b__law_draw (endsOf ts Q R) (startT N__law_draw.length ts) := by
  rintro ts Q R ⟨hs, many, rfl, h, hm, hm2, q⟩
  have e : startT N__law_draw.length [.ow true hs, .fr (.int many)] = [some (.ow true hs), some (.fr (.int many)), none, none, none] := rfl
  rw [e]
  have q' : ∀ r hs', 0 ≤ r → r < many → HandOk hs' → ∀ y z u, (endsOf [.ow true hs, .fr (.int many)] Q R).rt (.fr (.int r)) [some (.ow true hs'), some (.fr (.int many)), y, z, u] := fun r hs' a b c y z u => q r hs' a b c
  have h' := h
  obtain ⟨cells, at_, rest, state, count, rfl, h3, h4, h5⟩ := h
  generalize endsOf [.ow true [.lst (cells.map .int), .int at_, .int rest, .int state, .int count], .fr (.int many)] Q R = E at q' ⊢
  clear q
  simp only [b__law_draw, dSeq, dSet, dRet, dRetN, dDrop, dIfS, dNext, dFr, dFz, dVar, dC, dOp, dB, dChain, dAnd, dOr, dNot, dAndV, dOrV, dNotV, dIf, dNeg, dRev, dBack, dDic0, dCons, dNil, dTup, dLst, dRep, dIxV, dInV, dLenV, dCallB, dCall, dIsi, dItems, dRange1, dEnum, dZip, dYes, dgName, dgTup, dgCons, dgNil, dAsg, dApp, dPopAt, dAugIx, dSetIx, dCallL, dBits, dLstRg1, dFldV, dSetF, dMake, dCut, dPart, dNoPart, rCut, endsOf, exitT, peek, setOk, withOw, isOw, withT, lentQ, l_lend1, l_lend2, l_lend3, l_back1, l_back2, l_back3, l_kind1, l_kind2, l_kind3, l_kind4, l_kind5, l_kind6, l_frz1, l_frz2, l_frz3, l_frz4, noOw, wipeT, restT, cLen, cInt, cAbs, cTuple, cList, cStr, keyD, rIsB, rIsNotB, rAdd, rSub, rMul, rMod, rDiv, rPow, rShl, rShr, rBand, rBor, rLt, rLe, rGt, rGe, rAddI, rIx, l_at0, l_at1, l_at2, l_at3, l_at4, Int.reduceToNat, l_eqI, l_neI, l_eqB, l_neB, List.getElem?_cons_zero, List.getElem?_cons_succ, List.set_cons_zero, List.set_cons_succ, List.map_cons, List.map_nil, List.append_nil, List.cons_append, List.nil_append, List.replicate_succ, List.replicate_zero, Option.isSome_some, List.getD_cons_zero, List.getD_cons_succ, forall_const, true_and, and_true]
  by_cases hr : rest = 0
  · by_cases ha : at_ < (cells.length : Int)
    · obtain ⟨i, rfl⟩ : ∃ i : Nat, at_ = i := ⟨at_.toNat, by omega⟩
      have hi : i < cells.length := by omega
      have hc : atD (cells.map D.int) (i : Int) = some (.int cells[i]) := atD_nat (by rw [List.getElem?_map, List.getElem?_eq_getElem hi]; rfl)
      have hc0 : 0 ≤ cells[i] := h3 _ (List.getElem_mem hi)
      simp only [hr, ha, hc, List.length_map, decide_true, dSeq, dSet, dRet, dRetN, dDrop, dIfS, dNext, dFr, dFz, dVar, dC, dOp, dB, dChain, dAnd, dOr, dNot, dAndV, dOrV, dNotV, dIf, dNeg, dRev, dBack, dDic0, dCons, dNil, dTup, dLst, dRep, dIxV, dInV, dLenV, dCallB, dCall, dIsi, dItems, dRange1, dEnum, dZip, dYes, dgName, dgTup, dgCons, dgNil, dAsg, dApp, dPopAt, dAugIx, dSetIx, dCallL, dBits, dLstRg1, dFldV, dSetF, dMake, dCut, dPart, dNoPart, rCut, endsOf, exitT, peek, setOk, withOw, isOw, withT, lentQ, l_lend1, l_lend2, l_lend3, l_back1, l_back2, l_back3, l_kind1, l_kind2, l_kind3, l_kind4, l_kind5, l_kind6, l_frz1, l_frz2, l_frz3, l_frz4, noOw, wipeT, restT, cLen, cInt, cAbs, cTuple, cList, cStr, keyD, rIsB, rIsNotB, rAdd, rSub, rMul, rMod, rDiv, rPow, rShl, rShr, rBand, rBor, rLt, rLe, rGt, rGe, rAddI, rIx, l_at0, l_at1, l_at2, l_at3, l_at4, Int.reduceToNat, l_eqI, l_neI, l_eqB, l_neB, List.getElem?_cons_zero, List.getElem?_cons_succ, List.set_cons_zero, List.set_cons_succ, List.map_cons, List.map_nil, List.append_nil, List.cons_append, List.nil_append, List.replicate_succ, List.replicate_zero, Option.isSome_some, List.getD_cons_zero, List.getD_cons_succ, forall_const, true_and, and_true]
      refine ⟨by decide, by simp, .inl (.inr ⟨by decide, by decide⟩), by decide, by decide, by simp, ⟨by decide, by decide, by decide⟩, ?_⟩
      by_cases hg : 10 ^ (18 : Nat) ≤ cells[i]
      · simp only [hg, decide_true]
        refine ⟨by decide, by simp, draw_r2 ⟨cells, _, _, _, _, rfl, h3, by omega, hc0⟩ hm hm2 q'⟩
      · simp only [hg, decide_false]
        exact draw_r2 ⟨cells, _, _, _, _, rfl, h3, by omega, by omega⟩ hm hm2 q'
    · simp only [hr, ha, List.length_map, decide_true, decide_false, dSeq, dSet, dRet, dRetN, dDrop, dIfS, dNext, dFr, dFz, dVar, dC, dOp, dB, dChain, dAnd, dOr, dNot, dAndV, dOrV, dNotV, dIf, dNeg, dRev, dBack, dDic0, dCons, dNil, dTup, dLst, dRep, dIxV, dInV, dLenV, dCallB, dCall, dIsi, dItems, dRange1, dEnum, dZip, dYes, dgName, dgTup, dgCons, dgNil, dAsg, dApp, dPopAt, dAugIx, dSetIx, dCallL, dBits, dLstRg1, dFldV, dSetF, dMake, dCut, dPart, dNoPart, rCut, endsOf, exitT, peek, setOk, withOw, isOw, withT, lentQ, l_lend1, l_lend2, l_lend3, l_back1, l_back2, l_back3, l_kind1, l_kind2, l_kind3, l_kind4, l_kind5, l_kind6, l_frz1, l_frz2, l_frz3, l_frz4, noOw, wipeT, restT, cLen, cInt, cAbs, cTuple, cList, cStr, keyD, rIsB, rIsNotB, rAdd, rSub, rMul, rMod, rDiv, rPow, rShl, rShr, rBand, rBor, rLt, rLe, rGt, rGe, rAddI, rIx, l_at0, l_at1, l_at2, l_at3, l_at4, Int.reduceToNat, l_eqI, l_neI, l_eqB, l_neB, List.getElem?_cons_zero, List.getElem?_cons_succ, List.set_cons_zero, List.set_cons_succ, List.map_cons, List.map_nil, List.append_nil, List.cons_append, List.nil_append, List.replicate_succ, List.replicate_zero, Option.isSome_some, List.getD_cons_zero, List.getD_cons_succ, forall_const, true_and, and_true]
      subst hr
      exact draw_r2 h' hm hm2 q'
  · simp only [hr, decide_false, dSeq, dSet, dRet, dRetN, dDrop, dIfS, dNext, dFr, dFz, dVar, dC, dOp, dB, dChain, dAnd, dOr, dNot, dAndV, dOrV, dNotV, dIf, dNeg, dRev, dBack, dDic0, dCons, dNil, dTup, dLst, dRep, dIxV, dInV, dLenV, dCallB, dCall, dIsi, dItems, dRange1, dEnum, dZip, dYes, dgName, dgTup, dgCons, dgNil, dAsg, dApp, dPopAt, dAugIx, dSetIx, dCallL, dBits, dLstRg1, dFldV, dSetF, dMake, dCut, dPart, dNoPart, rCut, endsOf, exitT, peek, setOk, withOw, isOw, withT, lentQ, l_lend1, l_lend2, l_lend3, l_back1, l_back2, l_back3, l_kind1, l_kind2, l_kind3, l_kind4, l_kind5, l_kind6, l_frz1, l_frz2, l_frz3, l_frz4, noOw, wipeT, restT, cLen, cInt, cAbs, cTuple, cList, cStr, keyD, rIsB, rIsNotB, rAdd, rSub, rMul, rMod, rDiv, rPow, rShl, rShr, rBand, rBor, rLt, rLe, rGt, rGe, rAddI, rIx, l_at0, l_at1, l_at2, l_at3, l_at4, Int.reduceToNat, l_eqI, l_neI, l_eqB, l_neB, List.getElem?_cons_zero, List.getElem?_cons_succ, List.set_cons_zero, List.set_cons_succ, List.map_cons, List.map_nil, List.append_nil, List.cons_append, List.nil_append, List.replicate_succ, List.replicate_zero, Option.isSome_some, List.getD_cons_zero, List.getD_cons_succ, forall_const, true_and, and_true]
    exact draw_r2 h' hm hm2 q'
theorem forB {ds : List D} {τ1 : Env} {g : DG} {body : DS} {E : DEnds} (I : Nat → Env → Prop) (h0 : I 0 τ1)
    (step : ∀ i d τ', ds[i]? = some d → I i τ' → g d τ' fun τ2 => body { nx := I (i + 1), ct := I (i + 1), bk := E.nx, rt := E.rt, ex := E.ex } τ2) (fin : ∀ τ', I ds.length τ' → E.nx τ') : ForB ds τ1 g body E := by
  unfold ForB
  exact ⟨I, h0, step, fin⟩
theorem eraseIdx_perm {α : Type} : ∀ {l : List α} {i : Nat} (h : i < l.length), (l[i] :: l.eraseIdx i).Perm l
  | a :: l, 0, _ => List.Perm.refl _
  | a :: l, i + 1, h => by
    show (l[i]'(Nat.lt_of_succ_lt_succ h) :: a :: l.eraseIdx i).Perm (a :: l)
    exact (List.Perm.swap _ _ _).trans ((eraseIdx_perm (Nat.lt_of_succ_lt_succ h)).cons a)
theorem perm_pop {found left ds : List D} {i : Nat} {d : D} (h : (found ++ left).Perm ds) (hd : left[i]? = some d) : (found ++ [d] ++ left.eraseIdx i).Perm ds := by
  obtain ⟨hi, e⟩ := List.getElem?_eq_some_iff.mp hd
  have h2 : (d :: left.eraseIdx i).Perm left := by
    rw [← e]
    exact eraseIdx_perm hi
  rw [List.append_assoc]
  exact ((List.Perm.append_left found h2)).trans h
theorem m__law_shuffled : ∀ ts Q R, sp__law_shuffled ts Q R → b__law_shuffled (endsOf ts Q R) (startT N__law_shuffled.length ts) := by
  rintro ts Q R ⟨hs, ds, rfl, h, hl, q⟩
  have e : startT N__law_shuffled.length [.ow true hs, .fr (.lst ds)] = [some (.ow true hs), some (.fr (.lst ds)), none, none] := rfl
  rw [e]
  simp only [b__law_shuffled, dSeq, dSet, dRet, dRetN, dDrop, dIfS, dNext, dFr, dFz, dVar, dC, dOp, dB, dChain, dAnd, dOr, dNot, dAndV, dOrV, dNotV, dIf, dNeg, dRev, dBack, dDic0, dCons, dNil, dTup, dLst, dRep, dIxV, dInV, dLenV, dCallB, dCall, dIsi, dItems, dRange1, dEnum, dZip, dYes, dgName, dgTup, dgCons, dgNil, dAsg, dApp, dPopAt, dAugIx, dSetIx, dCallL, dBits, dLstRg1, dFldV, dSetF, dMake, dCut, dPart, dNoPart, rCut, endsOf, exitT, peek, setOk, withOw, isOw, withT, lentQ, l_lend1, l_lend2, l_lend3, l_back1, l_back2, l_back3, l_kind1, l_kind2, l_kind3, l_kind4, l_kind5, l_kind6, l_frz1, l_frz2, l_frz3, l_frz4, noOw, wipeT, restT, cLen, cInt, cAbs, cTuple, cList, cStr, keyD, rIsB, rIsNotB, rAdd, rSub, rMul, rMod, rDiv, rPow, rShl, rShr, rBand, rBor, rLt, rLe, rGt, rGe, rAddI, rIx, l_at0, l_at1, l_at2, l_at3, l_at4, Int.reduceToNat, l_eqI, l_neI, l_eqB, l_neB, List.getElem?_cons_zero, List.getElem?_cons_succ, List.set_cons_zero, List.set_cons_succ, List.map_cons, List.map_nil, List.append_nil, List.cons_append, List.nil_append, List.replicate_succ, List.replicate_zero, Option.isSome_some, List.getD_cons_zero, List.getD_cons_succ, forall_const, true_and, and_true]
  refine ⟨by simp, ?_⟩
  refine ⟨fun m τ => ∃ hs left found, τ = [some (.ow true hs), some (.fr (.lst ds)), some (.ow false left), some (.ow false found)] ∧ HandOk hs ∧ (found ++ left).Perm ds ∧ m = left.length, ⟨ds.length, hs, ds, [], rfl, h, List.Perm.refl _, rfl⟩, ?_⟩
  rintro m τ ⟨hs, left, found, rfl, h, hp, rfl⟩
  have hpl := hp.length_eq
  rw [List.length_append] at hpl
  simp only [dSeq, dSet, dRet, dRetN, dDrop, dIfS, dNext, dFr, dFz, dVar, dC, dOp, dB, dChain, dAnd, dOr, dNot, dAndV, dOrV, dNotV, dIf, dNeg, dRev, dBack, dDic0, dCons, dNil, dTup, dLst, dRep, dIxV, dInV, dLenV, dCallB, dCall, dIsi, dItems, dRange1, dEnum, dZip, dYes, dgName, dgTup, dgCons, dgNil, dAsg, dApp, dPopAt, dAugIx, dSetIx, dCallL, dBits, dLstRg1, dFldV, dSetF, dMake, dCut, dPart, dNoPart, rCut, endsOf, exitT, peek, setOk, withOw, isOw, withT, lentQ, l_lend1, l_lend2, l_lend3, l_back1, l_back2, l_back3, l_kind1, l_kind2, l_kind3, l_kind4, l_kind5, l_kind6, l_frz1, l_frz2, l_frz3, l_frz4, noOw, wipeT, restT, cLen, cInt, cAbs, cTuple, cList, cStr, keyD, rIsB, rIsNotB, rAdd, rSub, rMul, rMod, rDiv, rPow, rShl, rShr, rBand, rBor, rLt, rLe, rGt, rGe, rAddI, rIx, l_at0, l_at1, l_at2, l_at3, l_at4, Int.reduceToNat, l_eqI, l_neI, l_eqB, l_neB, List.getElem?_cons_zero, List.getElem?_cons_succ, List.set_cons_zero, List.set_cons_succ, List.map_cons, List.map_nil, List.append_nil, List.cons_append, List.nil_append, List.replicate_succ, List.replicate_zero, Option.isSome_some, List.getD_cons_zero, List.getD_cons_succ, forall_const, true_and, and_true]
  by_cases h0 : 0 < left.length
  · have h1 : (0 : Int) < (left.length : Int) := by omega
    simp only [h1, decide_true, b__law_shuffled_b1, dSeq, dSet, dRet, dRetN, dDrop, dIfS, dNext, dFr, dFz, dVar, dC, dOp, dB, dChain, dAnd, dOr, dNot, dAndV, dOrV, dNotV, dIf, dNeg, dRev, dBack, dDic0, dCons, dNil, dTup, dLst, dRep, dIxV, dInV, dLenV, dCallB, dCall, dIsi, dItems, dRange1, dEnum, dZip, dYes, dgName, dgTup, dgCons, dgNil, dAsg, dApp, dPopAt, dAugIx, dSetIx, dCallL, dBits, dLstRg1, dFldV, dSetF, dMake, dCut, dPart, dNoPart, rCut, endsOf, exitT, peek, setOk, withOw, isOw, withT, lentQ, l_lend1, l_lend2, l_lend3, l_back1, l_back2, l_back3, l_kind1, l_kind2, l_kind3, l_kind4, l_kind5, l_kind6, l_frz1, l_frz2, l_frz3, l_frz4, noOw, wipeT, restT, cLen, cInt, cAbs, cTuple, cList, cStr, keyD, rIsB, rIsNotB, rAdd, rSub, rMul, rMod, rDiv, rPow, rShl, rShr, rBand, rBor, rLt, rLe, rGt, rGe, rAddI, rIx, l_at0, l_at1, l_at2, l_at3, l_at4, Int.reduceToNat, l_eqI, l_neI, l_eqB, l_neB, List.getElem?_cons_zero, List.getElem?_cons_succ, List.set_cons_zero, List.set_cons_succ, List.map_cons, List.map_nil, List.append_nil, List.cons_append, List.nil_append, List.replicate_succ, List.replicate_zero, Option.isSome_some, List.getD_cons_zero, List.getD_cons_succ, forall_const, true_and, and_true]
    refine ⟨hs, _, rfl, h, h1, by omega, fun r hs' r0 r1 h' => ?_⟩
    have hr : left[r.toNat]? = some left[r.toNat] := List.getElem?_eq_getElem (by omega)
    simp only [dSeq, dSet, dRet, dRetN, dDrop, dIfS, dNext, dFr, dFz, dVar, dC, dOp, dB, dChain, dAnd, dOr, dNot, dAndV, dOrV, dNotV, dIf, dNeg, dRev, dBack, dDic0, dCons, dNil, dTup, dLst, dRep, dIxV, dInV, dLenV, dCallB, dCall, dIsi, dItems, dRange1, dEnum, dZip, dYes, dgName, dgTup, dgCons, dgNil, dAsg, dApp, dPopAt, dAugIx, dSetIx, dCallL, dBits, dLstRg1, dFldV, dSetF, dMake, dCut, dPart, dNoPart, rCut, endsOf, exitT, peek, setOk, withOw, isOw, withT, lentQ, l_lend1, l_lend2, l_lend3, l_back1, l_back2, l_back3, l_kind1, l_kind2, l_kind3, l_kind4, l_kind5, l_kind6, l_frz1, l_frz2, l_frz3, l_frz4, noOw, wipeT, restT, cLen, cInt, cAbs, cTuple, cList, cStr, keyD, rIsB, rIsNotB, rAdd, rSub, rMul, rMod, rDiv, rPow, rShl, rShr, rBand, rBor, rLt, rLe, rGt, rGe, rAddI, rIx, l_at0, l_at1, l_at2, l_at3, l_at4, Int.reduceToNat, l_eqI, l_neI, l_eqB, l_neB, List.getElem?_cons_zero, List.getElem?_cons_succ, List.set_cons_zero, List.set_cons_succ, List.map_cons, List.map_nil, List.append_nil, List.cons_append, List.nil_append, List.replicate_succ, List.replicate_zero, Option.isSome_some, List.getD_cons_zero, List.getD_cons_succ, forall_const, true_and, and_true, hr]
    refine ⟨r0, by omega, by omega, _, ?_, hs', _, _, rfl, h', perm_pop hp hr, rfl⟩
    rw [List.length_eraseIdx]
    split <;> omega
  · have h1 : ¬ (0 : Int) < (left.length : Int) := by omega
    have h2 : left = [] := List.eq_nil_of_length_eq_zero (by omega)
    simp only [h1, decide_false, b__law_shuffled_r3, dSeq, dSet, dRet, dRetN, dDrop, dIfS, dNext, dFr, dFz, dVar, dC, dOp, dB, dChain, dAnd, dOr, dNot, dAndV, dOrV, dNotV, dIf, dNeg, dRev, dBack, dDic0, dCons, dNil, dTup, dLst, dRep, dIxV, dInV, dLenV, dCallB, dCall, dIsi, dItems, dRange1, dEnum, dZip, dYes, dgName, dgTup, dgCons, dgNil, dAsg, dApp, dPopAt, dAugIx, dSetIx, dCallL, dBits, dLstRg1, dFldV, dSetF, dMake, dCut, dPart, dNoPart, rCut, endsOf, exitT, peek, setOk, withOw, isOw, withT, lentQ, l_lend1, l_lend2, l_lend3, l_back1, l_back2, l_back3, l_kind1, l_kind2, l_kind3, l_kind4, l_kind5, l_kind6, l_frz1, l_frz2, l_frz3, l_frz4, noOw, wipeT, restT, cLen, cInt, cAbs, cTuple, cList, cStr, keyD, rIsB, rIsNotB, rAdd, rSub, rMul, rMod, rDiv, rPow, rShl, rShr, rBand, rBor, rLt, rLe, rGt, rGe, rAddI, rIx, l_at0, l_at1, l_at2, l_at3, l_at4, Int.reduceToNat, l_eqI, l_neI, l_eqB, l_neB, List.getElem?_cons_zero, List.getElem?_cons_succ, List.set_cons_zero, List.set_cons_succ, List.map_cons, List.map_nil, List.append_nil, List.cons_append, List.nil_append, List.replicate_succ, List.replicate_zero, Option.isSome_some, List.getD_cons_zero, List.getD_cons_succ, forall_const, true_and, and_true]
    rw [h2, List.append_nil] at hp
    exact q _ _ hp h
def Fwd (ord : List Nat) (a : Nat × Nat) : Prop := ∃ i j : Nat, i < j ∧ ord[i]? = some a.1 ∧ ord[j]? = some a.2
theorem cutD_map {α β : Type} (f : α → β) (l : List α) (lo hi : Option Int) : cutD (l.map f) lo hi = (cutD l lo hi).map f := by
  unfold cutD
  rw [List.length_map, List.map_take, List.map_drop]
theorem cut_take {α : Type} (l : List α) (k : Nat) : cutD l none (some (k : Int)) = l.take k := by
  unfold cutD
  rw [HT.sIx_none, HT.sIx_nat, List.drop_zero, Nat.sub_zero]
  rcases Nat.le_total k l.length with h | h
  · rw [Nat.min_eq_left h]
  · rw [Nat.min_eq_right h, List.take_length, List.take_of_length_le h]
theorem cut_drop {α : Type} (l : List α) (k : Nat) : cutD l (some (k : Int)) none = l.drop k := by
  unfold cutD
  rw [HT.sIx_none, HT.sIx_nat]
  rcases Nat.le_total k l.length with h | h
  · rw [Nat.min_eq_left h]
    exact List.take_of_length_le (by rw [List.length_drop]; omega)
  · rw [Nat.min_eq_right h, Nat.sub_self, List.take_zero, List.drop_of_length_le h]
theorem cutD_mem {α : Type} {l : List α} {lo hi : Option Int} {a : α} (h : a ∈ cutD l lo hi) : a ∈ l := by
  unfold cutD at h
  exact List.mem_of_mem_drop (List.mem_of_mem_take h)
theorem nat_perm : ∀ {n : Nat} {es : List D}, es.Perm (natsD (List.range n)) → ∃ ord : List Nat, es = natsD ord ∧ ord.Perm (List.range n) := by
  intro n es h
  have back : ∀ l : List Nat, (natsD l).map (fun d => match d with | .int i => i.toNat | _ => 0) = l := fun l => by
    unfold natsD
    rw [List.map_map]
    conv => rhs; rw [← List.map_id l]
    exact List.map_congr_left fun x _ => Int.toNat_natCast x
  have hm : ∀ d ∈ es, ∃ k : Nat, d = nD k := fun d hd => by
    obtain ⟨k, _, rfl⟩ := List.mem_map.mp (h.mem_iff.mp hd)
    exact ⟨k, rfl⟩
  refine ⟨es.map (fun d => match d with | .int i => i.toNat | _ => 0), ?_, ?_⟩
  · unfold natsD
    rw [List.map_map]
    conv => lhs; rw [← List.map_id es]
    refine List.map_congr_left fun d hd => ?_
    obtain ⟨k, rfl⟩ := hm d hd
    show nD k = D.int (((k : Int).toNat : Nat) : Int)
    rw [Int.toNat_natCast]
  · have := h.map (fun d => match d with | D.int i => i.toNat | _ => 0)
    rw [back] at this
    exact this
/-- a slot that may be stored to -/
def okS (x : Option T) : Prop := setOk [x] 0
def ordEnv (hs : List D) (n many far : Nat) (ord : List Nat) (found : Ar) (x6 x7 x8 : Option T) : Env := [some (.ow true hs), some (.fr (nD n)), some (.fr (nD many)), some (.fr (nD far)), some (.fr (.lst (natsD ord))), some (.ow false (found.map arrD)), x6, x7, x8]
theorem ordered_for {n many far : Nat} {ord : List Nat} {hs : List D} (hf1 : 1 ≤ far) (hf2 : far ≤ 1000) (hn2 : n ≤ 1000) (hm2 : many ≤ 1000) (hol : ord.length = n) (h' : HandOk hs) (k : Nat) (hk : k ≤ many) (hk1 : 1 < n ∨ k = 0) (E : DEnds)
    (hE : ∀ hs found x6 x7 x8, HandOk hs → found.length ≤ 2 * many → k ≤ found.length → (∀ a ∈ found, Fwd ord a) → E.nx (ordEnv hs n many far ord found x6 x7 x8)) : ForB (rgD 0 (k : Int)) (ordEnv hs n many far ord [] none none none) (dgName 6) b__law_ordered_b3 E := by
  rw [rgD_nat]
  refine forB (fun i τ => ∃ (hs : List D) (found : Ar) (x6 x7 x8 : Option T), τ = ordEnv hs n many far ord found x6 x7 x8 ∧ HandOk hs ∧ found.length ≤ 2 * i ∧ i ≤ found.length ∧ (∀ a ∈ found, Fwd ord a) ∧ okS x6 ∧ okS x7 ∧ okS x8) ⟨hs, [], none, none, none, rfl, h', by simp, by simp, by simp, trivial, trivial, trivial⟩ ?_ ?_
  · rintro i d τ hd ⟨hs1, found, x6, x7, x8, rfl, h1, hfl, hfg, hfw, o6, o7, o8⟩
    rw [natsD_get] at hd
    obtain ⟨t, ht, rfl⟩ := Option.map_eq_some_iff.mp hd
    have htk : i < k := by
      have := (List.getElem?_eq_some_iff.mp ht).1
      rw [List.length_range] at this
      exact this
    have hn : 1 < n := hk1.resolve_right (by omega)
    simp only [ordEnv, b__law_ordered_b3, dSeq, dSet, dRet, dRetN, dDrop, dIfS, dNext, dFr, dFz, dVar, dC, dOp, dB, dChain, dAnd, dOr, dNot, dAndV, dOrV, dNotV, dIf, dNeg, dRev, dBack, dDic0, dCons, dNil, dTup, dLst, dRep, dIxV, dInV, dLenV, dCallB, dCall, dIsi, dItems, dRange1, dEnum, dZip, dYes, dgName, dgTup, dgCons, dgNil, dAsg, dApp, dPopAt, dAugIx, dSetIx, dCallL, dBits, dLstRg1, dFldV, dSetF, dMake, dCut, dPart, dNoPart, rCut, endsOf, exitT, peek, setOk, withOw, isOw, withT, lentQ, l_lend1, l_lend2, l_lend3, l_back1, l_back2, l_back3, l_kind1, l_kind2, l_kind3, l_kind4, l_kind5, l_kind6, l_frz1, l_frz2, l_frz3, l_frz4, noOw, wipeT, restT, cLen, cInt, cAbs, cTuple, cList, cStr, keyD, rIsB, rIsNotB, rAdd, rSub, rMul, rMod, rDiv, rPow, rShl, rShr, rBand, rBor, rLt, rLe, rGt, rGe, rAddI, rIx, l_at0, l_at1, l_at2, l_at3, l_at4, Int.reduceToNat, l_eqI, l_neI, l_eqB, l_neB, List.getElem?_cons_zero, List.getElem?_cons_succ, List.set_cons_zero, List.set_cons_succ, List.map_cons, List.map_nil, List.append_nil, List.cons_append, List.nil_append, List.replicate_succ, List.replicate_zero, Option.isSome_some, List.getD_cons_zero, List.getD_cons_succ, forall_const, true_and, and_true]
    refine ⟨o6, hs1, _, rfl, h1, by omega, by omega, fun r hs2 r0 r1 h2 => ?_⟩
    obtain ⟨one, rfl⟩ : ∃ one : Nat, r = one := ⟨r.toNat, by omega⟩
    simp only [dSeq, dSet, dRet, dRetN, dDrop, dIfS, dNext, dFr, dFz, dVar, dC, dOp, dB, dChain, dAnd, dOr, dNot, dAndV, dOrV, dNotV, dIf, dNeg, dRev, dBack, dDic0, dCons, dNil, dTup, dLst, dRep, dIxV, dInV, dLenV, dCallB, dCall, dIsi, dItems, dRange1, dEnum, dZip, dYes, dgName, dgTup, dgCons, dgNil, dAsg, dApp, dPopAt, dAugIx, dSetIx, dCallL, dBits, dLstRg1, dFldV, dSetF, dMake, dCut, dPart, dNoPart, rCut, endsOf, exitT, peek, setOk, withOw, isOw, withT, lentQ, l_lend1, l_lend2, l_lend3, l_back1, l_back2, l_back3, l_kind1, l_kind2, l_kind3, l_kind4, l_kind5, l_kind6, l_frz1, l_frz2, l_frz3, l_frz4, noOw, wipeT, restT, cLen, cInt, cAbs, cTuple, cList, cStr, keyD, rIsB, rIsNotB, rAdd, rSub, rMul, rMod, rDiv, rPow, rShl, rShr, rBand, rBor, rLt, rLe, rGt, rGe, rAddI, rIx, l_at0, l_at1, l_at2, l_at3, l_at4, Int.reduceToNat, l_eqI, l_neI, l_eqB, l_neB, List.getElem?_cons_zero, List.getElem?_cons_succ, List.set_cons_zero, List.set_cons_succ, List.map_cons, List.map_nil, List.append_nil, List.cons_append, List.nil_append, List.replicate_succ, List.replicate_zero, Option.isSome_some, List.getD_cons_zero, List.getD_cons_succ, forall_const, true_and, and_true]
    refine ⟨o7, ?_⟩
    simp only [b__law_ordered_r2, dSeq, dSet, dRet, dRetN, dDrop, dIfS, dNext, dFr, dFz, dVar, dC, dOp, dB, dChain, dAnd, dOr, dNot, dAndV, dOrV, dNotV, dIf, dNeg, dRev, dBack, dDic0, dCons, dNil, dTup, dLst, dRep, dIxV, dInV, dLenV, dCallB, dCall, dIsi, dItems, dRange1, dEnum, dZip, dYes, dgName, dgTup, dgCons, dgNil, dAsg, dApp, dPopAt, dAugIx, dSetIx, dCallL, dBits, dLstRg1, dFldV, dSetF, dMake, dCut, dPart, dNoPart, rCut, endsOf, exitT, peek, setOk, withOw, isOw, withT, lentQ, l_lend1, l_lend2, l_lend3, l_back1, l_back2, l_back3, l_kind1, l_kind2, l_kind3, l_kind4, l_kind5, l_kind6, l_frz1, l_frz2, l_frz3, l_frz4, noOw, wipeT, restT, cLen, cInt, cAbs, cTuple, cList, cStr, keyD, rIsB, rIsNotB, rAdd, rSub, rMul, rMod, rDiv, rPow, rShl, rShr, rBand, rBor, rLt, rLe, rGt, rGe, rAddI, rIx, l_at0, l_at1, l_at2, l_at3, l_at4, Int.reduceToNat, l_eqI, l_neI, l_eqB, l_neB, List.getElem?_cons_zero, List.getElem?_cons_succ, List.set_cons_zero, List.set_cons_succ, List.map_cons, List.map_nil, List.append_nil, List.cons_append, List.nil_append, List.replicate_succ, List.replicate_zero, Option.isSome_some, List.getD_cons_zero, List.getD_cons_succ, forall_const, true_and, and_true, cMin]
    have hmin : ∃ z : Nat, (if (n : Int) - 1 - one < far then (n : Int) - 1 - one else (far : Int)) = z ∧ 1 ≤ z ∧ z ≤ 1000 ∧ one + z < n := by
      split
      · exact ⟨n - 1 - one, by omega, by omega, by omega, by omega⟩
      · exact ⟨far, rfl, hf1, hf2, by omega⟩
    obtain ⟨z, hz, z1, z2, z3⟩ := hmin
    rw [hz]
    refine ⟨hs2, _, rfl, h2, by omega, by omega, fun r hs3 r0 r1 h3 => ?_⟩
    obtain ⟨gap, rfl⟩ : ∃ gap : Nat, r = gap := ⟨r.toNat, by omega⟩
    simp only [dSeq, dSet, dRet, dRetN, dDrop, dIfS, dNext, dFr, dFz, dVar, dC, dOp, dB, dChain, dAnd, dOr, dNot, dAndV, dOrV, dNotV, dIf, dNeg, dRev, dBack, dDic0, dCons, dNil, dTup, dLst, dRep, dIxV, dInV, dLenV, dCallB, dCall, dIsi, dItems, dRange1, dEnum, dZip, dYes, dgName, dgTup, dgCons, dgNil, dAsg, dApp, dPopAt, dAugIx, dSetIx, dCallL, dBits, dLstRg1, dFldV, dSetF, dMake, dCut, dPart, dNoPart, rCut, endsOf, exitT, peek, setOk, withOw, isOw, withT, lentQ, l_lend1, l_lend2, l_lend3, l_back1, l_back2, l_back3, l_kind1, l_kind2, l_kind3, l_kind4, l_kind5, l_kind6, l_frz1, l_frz2, l_frz3, l_frz4, noOw, wipeT, restT, cLen, cInt, cAbs, cTuple, cList, cStr, keyD, rIsB, rIsNotB, rAdd, rSub, rMul, rMod, rDiv, rPow, rShl, rShr, rBand, rBor, rLt, rLe, rGt, rGe, rAddI, rIx, l_at0, l_at1, l_at2, l_at3, l_at4, Int.reduceToNat, l_eqI, l_neI, l_eqB, l_neB, List.getElem?_cons_zero, List.getElem?_cons_succ, List.set_cons_zero, List.set_cons_succ, List.map_cons, List.map_nil, List.append_nil, List.cons_append, List.nil_append, List.replicate_succ, List.replicate_zero, Option.isSome_some, List.getD_cons_zero, List.getD_cons_succ, forall_const, true_and, and_true]
    refine ⟨o8, ?_⟩
    have ho : one < ord.length := by omega
    have hq : one + 1 + gap < ord.length := by omega
    have a1 : atD (natsD ord) (one : Int) = some (nD ord[one]) := atD_nat (by rw [natsD_get, List.getElem?_eq_getElem ho]; rfl)
    have a2 : atD (natsD ord) ((one : Int) + 1 + gap) = some (nD ord[one + 1 + gap]) := by
      rw [show (one : Int) + 1 + gap = ((one + 1 + gap : Nat) : Int) by omega]
      exact atD_nat (by rw [natsD_get, List.getElem?_eq_getElem hq]; rfl)
    have fw : Fwd ord (ord[one], ord[one + 1 + gap]) := ⟨one, one + 1 + gap, by omega, List.getElem?_eq_getElem ho, List.getElem?_eq_getElem hq⟩
    have env1 : ∀ (l : Ar) (b : Nat × Nat), l.map arrD ++ [arrD b] = (l ++ [b]).map arrD := fun l b => by
      rw [List.map_append]
      rfl
    simp only [b__law_ordered_r1, dSeq, dSet, dRet, dRetN, dDrop, dIfS, dNext, dFr, dFz, dVar, dC, dOp, dB, dChain, dAnd, dOr, dNot, dAndV, dOrV, dNotV, dIf, dNeg, dRev, dBack, dDic0, dCons, dNil, dTup, dLst, dRep, dIxV, dInV, dLenV, dCallB, dCall, dIsi, dItems, dRange1, dEnum, dZip, dYes, dgName, dgTup, dgCons, dgNil, dAsg, dApp, dPopAt, dAugIx, dSetIx, dCallL, dBits, dLstRg1, dFldV, dSetF, dMake, dCut, dPart, dNoPart, rCut, endsOf, exitT, peek, setOk, withOw, isOw, withT, lentQ, l_lend1, l_lend2, l_lend3, l_back1, l_back2, l_back3, l_kind1, l_kind2, l_kind3, l_kind4, l_kind5, l_kind6, l_frz1, l_frz2, l_frz3, l_frz4, noOw, wipeT, restT, cLen, cInt, cAbs, cTuple, cList, cStr, keyD, rIsB, rIsNotB, rAdd, rSub, rMul, rMod, rDiv, rPow, rShl, rShr, rBand, rBor, rLt, rLe, rGt, rGe, rAddI, rIx, l_at0, l_at1, l_at2, l_at3, l_at4, Int.reduceToNat, l_eqI, l_neI, l_eqB, l_neB, List.getElem?_cons_zero, List.getElem?_cons_succ, List.set_cons_zero, List.set_cons_succ, List.map_cons, List.map_nil, List.append_nil, List.cons_append, List.nil_append, List.replicate_succ, List.replicate_zero, Option.isSome_some, List.getD_cons_zero, List.getD_cons_succ, forall_const, true_and, and_true, a1, a2]
    have c1 : D.tup [nD ord[one], nD ord[one + 1 + gap]] = arrD (ord[one], ord[one + 1 + gap]) := rfl
    rw [c1, env1]
    refine ⟨by simp, by rw [List.length_map]; omega, hs3, 7, rfl, h3, by decide, by decide, fun r hs4 r0 r1 h4 => ?_⟩
    simp only [dSeq, dSet, dRet, dRetN, dDrop, dIfS, dNext, dFr, dFz, dVar, dC, dOp, dB, dChain, dAnd, dOr, dNot, dAndV, dOrV, dNotV, dIf, dNeg, dRev, dBack, dDic0, dCons, dNil, dTup, dLst, dRep, dIxV, dInV, dLenV, dCallB, dCall, dIsi, dItems, dRange1, dEnum, dZip, dYes, dgName, dgTup, dgCons, dgNil, dAsg, dApp, dPopAt, dAugIx, dSetIx, dCallL, dBits, dLstRg1, dFldV, dSetF, dMake, dCut, dPart, dNoPart, rCut, endsOf, exitT, peek, setOk, withOw, isOw, withT, lentQ, l_lend1, l_lend2, l_lend3, l_back1, l_back2, l_back3, l_kind1, l_kind2, l_kind3, l_kind4, l_kind5, l_kind6, l_frz1, l_frz2, l_frz3, l_frz4, noOw, wipeT, restT, cLen, cInt, cAbs, cTuple, cList, cStr, keyD, rIsB, rIsNotB, rAdd, rSub, rMul, rMod, rDiv, rPow, rShl, rShr, rBand, rBor, rLt, rLe, rGt, rGe, rAddI, rIx, l_at0, l_at1, l_at2, l_at3, l_at4, Int.reduceToNat, l_eqI, l_neI, l_eqB, l_neB, List.getElem?_cons_zero, List.getElem?_cons_succ, List.set_cons_zero, List.set_cons_succ, List.map_cons, List.map_nil, List.append_nil, List.cons_append, List.nil_append, List.replicate_succ, List.replicate_zero, Option.isSome_some, List.getD_cons_zero, List.getD_cons_succ, forall_const, true_and, and_true, List.length_map]
    have good : ∀ a ∈ found ++ [(ord[one], ord[one + 1 + gap])], Fwd ord a := fun a ha => by
      rcases List.mem_append.mp ha with ha | ha
      · exact hfw a ha
      · rw [List.mem_singleton.mp ha]
        exact fw
    have lenf : (found ++ [(ord[one], ord[one + 1 + gap])]).length = found.length + 1 := by simp
    have last : atD ((found ++ [(ord[one], ord[one + 1 + gap])]).map arrD) (-1) = some (arrD (ord[one], ord[one + 1 + gap])) := by
      rw [List.map_append]
      exact atI_last _ _
    by_cases hr : r = 0
    · by_cases hl : (((found ++ [(ord[one], ord[one + 1 + gap])]).length : Nat) : Int) < (many : Int)
      · simp only [hr, hl, decide_true, dSeq, dSet, dRet, dRetN, dDrop, dIfS, dNext, dFr, dFz, dVar, dC, dOp, dB, dChain, dAnd, dOr, dNot, dAndV, dOrV, dNotV, dIf, dNeg, dRev, dBack, dDic0, dCons, dNil, dTup, dLst, dRep, dIxV, dInV, dLenV, dCallB, dCall, dIsi, dItems, dRange1, dEnum, dZip, dYes, dgName, dgTup, dgCons, dgNil, dAsg, dApp, dPopAt, dAugIx, dSetIx, dCallL, dBits, dLstRg1, dFldV, dSetF, dMake, dCut, dPart, dNoPart, rCut, endsOf, exitT, peek, setOk, withOw, isOw, withT, lentQ, l_lend1, l_lend2, l_lend3, l_back1, l_back2, l_back3, l_kind1, l_kind2, l_kind3, l_kind4, l_kind5, l_kind6, l_frz1, l_frz2, l_frz3, l_frz4, noOw, wipeT, restT, cLen, cInt, cAbs, cTuple, cList, cStr, keyD, rIsB, rIsNotB, rAdd, rSub, rMul, rMod, rDiv, rPow, rShl, rShr, rBand, rBor, rLt, rLe, rGt, rGe, rAddI, rIx, l_at0, l_at1, l_at2, l_at3, l_at4, Int.reduceToNat, l_eqI, l_neI, l_eqB, l_neB, List.getElem?_cons_zero, List.getElem?_cons_succ, List.set_cons_zero, List.set_cons_succ, List.map_cons, List.map_nil, List.append_nil, List.cons_append, List.nil_append, List.replicate_succ, List.replicate_zero, Option.isSome_some, List.getD_cons_zero, List.getD_cons_succ, forall_const, true_and, and_true, List.length_map, last]
        rw [env1]
        refine ⟨by omega, hs4, _, _, _, _, rfl, h4, by rw [List.length_append, lenf]; show found.length + 1 + 1 ≤ _; omega, by rw [List.length_append, lenf]; show _ ≤ found.length + 1 + 1; omega, fun a ha => ?_, rfl, rfl, rfl⟩
        rcases List.mem_append.mp ha with ha | ha
        · exact good a ha
        · rw [List.mem_singleton.mp ha]
          exact fw
      · simp only [hr, hl, decide_true, decide_false, dSeq, dSet, dRet, dRetN, dDrop, dIfS, dNext, dFr, dFz, dVar, dC, dOp, dB, dChain, dAnd, dOr, dNot, dAndV, dOrV, dNotV, dIf, dNeg, dRev, dBack, dDic0, dCons, dNil, dTup, dLst, dRep, dIxV, dInV, dLenV, dCallB, dCall, dIsi, dItems, dRange1, dEnum, dZip, dYes, dgName, dgTup, dgCons, dgNil, dAsg, dApp, dPopAt, dAugIx, dSetIx, dCallL, dBits, dLstRg1, dFldV, dSetF, dMake, dCut, dPart, dNoPart, rCut, endsOf, exitT, peek, setOk, withOw, isOw, withT, lentQ, l_lend1, l_lend2, l_lend3, l_back1, l_back2, l_back3, l_kind1, l_kind2, l_kind3, l_kind4, l_kind5, l_kind6, l_frz1, l_frz2, l_frz3, l_frz4, noOw, wipeT, restT, cLen, cInt, cAbs, cTuple, cList, cStr, keyD, rIsB, rIsNotB, rAdd, rSub, rMul, rMod, rDiv, rPow, rShl, rShr, rBand, rBor, rLt, rLe, rGt, rGe, rAddI, rIx, l_at0, l_at1, l_at2, l_at3, l_at4, Int.reduceToNat, l_eqI, l_neI, l_eqB, l_neB, List.getElem?_cons_zero, List.getElem?_cons_succ, List.set_cons_zero, List.set_cons_succ, List.map_cons, List.map_nil, List.append_nil, List.cons_append, List.nil_append, List.replicate_succ, List.replicate_zero, Option.isSome_some, List.getD_cons_zero, List.getD_cons_succ, forall_const, true_and, and_true]
        exact ⟨hs4, _, _, _, _, rfl, h4, by rw [lenf]; omega, by rw [lenf]; omega, good, rfl, rfl, rfl⟩
    · simp only [hr, decide_false, dSeq, dSet, dRet, dRetN, dDrop, dIfS, dNext, dFr, dFz, dVar, dC, dOp, dB, dChain, dAnd, dOr, dNot, dAndV, dOrV, dNotV, dIf, dNeg, dRev, dBack, dDic0, dCons, dNil, dTup, dLst, dRep, dIxV, dInV, dLenV, dCallB, dCall, dIsi, dItems, dRange1, dEnum, dZip, dYes, dgName, dgTup, dgCons, dgNil, dAsg, dApp, dPopAt, dAugIx, dSetIx, dCallL, dBits, dLstRg1, dFldV, dSetF, dMake, dCut, dPart, dNoPart, rCut, endsOf, exitT, peek, setOk, withOw, isOw, withT, lentQ, l_lend1, l_lend2, l_lend3, l_back1, l_back2, l_back3, l_kind1, l_kind2, l_kind3, l_kind4, l_kind5, l_kind6, l_frz1, l_frz2, l_frz3, l_frz4, noOw, wipeT, restT, cLen, cInt, cAbs, cTuple, cList, cStr, keyD, rIsB, rIsNotB, rAdd, rSub, rMul, rMod, rDiv, rPow, rShl, rShr, rBand, rBor, rLt, rLe, rGt, rGe, rAddI, rIx, l_at0, l_at1, l_at2, l_at3, l_at4, Int.reduceToNat, l_eqI, l_neI, l_eqB, l_neB, List.getElem?_cons_zero, List.getElem?_cons_succ, List.set_cons_zero, List.set_cons_succ, List.map_cons, List.map_nil, List.append_nil, List.cons_append, List.nil_append, List.replicate_succ, List.replicate_zero, Option.isSome_some, List.getD_cons_zero, List.getD_cons_succ, forall_const, true_and, and_true]
      exact ⟨hs4, _, _, _, _, rfl, h4, by rw [lenf]; omega, by rw [lenf]; omega, good, rfl, rfl, rfl⟩
  · rintro τ ⟨hs1, found, x6, x7, x8, rfl, h1, hfl, hfg, hfw, o6, o7, o8⟩
    rw [natsD_length, List.length_range] at hfl hfg
    exact hE hs1 found x6 x7 x8 h1 (by omega) hfg hfw
theorem m__law_ordered : ∀ ts Q R, sp__law_ordered ts Q R → b__law_ordered (endsOf ts Q R) (startT N__law_ordered.length ts) := by
  rintro ts Q R ⟨hs, n, many, far, rfl, h, hn1, hn2, hm2, hf1, hf2, q⟩
  have e : startT N__law_ordered.length [.ow true hs, .fr (nD n), .fr (nD many), .fr (nD far)] = [some (.ow true hs), some (.fr (nD n)), some (.fr (nD many)), some (.fr (nD far)), none, none, none, none, none] := rfl
  rw [e]
  simp only [b__law_ordered, dSeq, dSet, dRet, dRetN, dDrop, dIfS, dNext, dFr, dFz, dVar, dC, dOp, dB, dChain, dAnd, dOr, dNot, dAndV, dOrV, dNotV, dIf, dNeg, dRev, dBack, dDic0, dCons, dNil, dTup, dLst, dRep, dIxV, dInV, dLenV, dCallB, dCall, dIsi, dItems, dRange1, dEnum, dZip, dYes, dgName, dgTup, dgCons, dgNil, dAsg, dApp, dPopAt, dAugIx, dSetIx, dCallL, dBits, dLstRg1, dFldV, dSetF, dMake, dCut, dPart, dNoPart, rCut, endsOf, exitT, peek, setOk, withOw, isOw, withT, lentQ, l_lend1, l_lend2, l_lend3, l_back1, l_back2, l_back3, l_kind1, l_kind2, l_kind3, l_kind4, l_kind5, l_kind6, l_frz1, l_frz2, l_frz3, l_frz4, noOw, wipeT, restT, cLen, cInt, cAbs, cTuple, cList, cStr, keyD, rIsB, rIsNotB, rAdd, rSub, rMul, rMod, rDiv, rPow, rShl, rShr, rBand, rBor, rLt, rLe, rGt, rGe, rAddI, rIx, l_at0, l_at1, l_at2, l_at3, l_at4, Int.reduceToNat, l_eqI, l_neI, l_eqB, l_neB, List.getElem?_cons_zero, List.getElem?_cons_succ, List.set_cons_zero, List.set_cons_succ, List.map_cons, List.map_nil, List.append_nil, List.cons_append, List.nil_append, List.replicate_succ, List.replicate_zero, Option.isSome_some, List.getD_cons_zero, List.getD_cons_succ, forall_const, true_and, and_true]
  refine ⟨by omega, by omega, ?_⟩
  rw [rgD_nat]
  refine ⟨hs, _, rfl, h, by rw [natsD_length, List.length_range]; omega, fun es hs' hp h' => ?_⟩
  obtain ⟨ord, rfl, hp2⟩ := nat_perm hp
  have hol : ord.length = n := by
    have := hp2.length_eq
    rw [List.length_range] at this
    exact this
  simp only [b__law_ordered_r6, dSeq, dSet, dRet, dRetN, dDrop, dIfS, dNext, dFr, dFz, dVar, dC, dOp, dB, dChain, dAnd, dOr, dNot, dAndV, dOrV, dNotV, dIf, dNeg, dRev, dBack, dDic0, dCons, dNil, dTup, dLst, dRep, dIxV, dInV, dLenV, dCallB, dCall, dIsi, dItems, dRange1, dEnum, dZip, dYes, dgName, dgTup, dgCons, dgNil, dAsg, dApp, dPopAt, dAugIx, dSetIx, dCallL, dBits, dLstRg1, dFldV, dSetF, dMake, dCut, dPart, dNoPart, rCut, endsOf, exitT, peek, setOk, withOw, isOw, withT, lentQ, l_lend1, l_lend2, l_lend3, l_back1, l_back2, l_back3, l_kind1, l_kind2, l_kind3, l_kind4, l_kind5, l_kind6, l_frz1, l_frz2, l_frz3, l_frz4, noOw, wipeT, restT, cLen, cInt, cAbs, cTuple, cList, cStr, keyD, rIsB, rIsNotB, rAdd, rSub, rMul, rMod, rDiv, rPow, rShl, rShr, rBand, rBor, rLt, rLe, rGt, rGe, rAddI, rIx, l_at0, l_at1, l_at2, l_at3, l_at4, Int.reduceToNat, l_eqI, l_neI, l_eqB, l_neB, List.getElem?_cons_zero, List.getElem?_cons_succ, List.set_cons_zero, List.set_cons_succ, List.map_cons, List.map_nil, List.append_nil, List.cons_append, List.nil_append, List.replicate_succ, List.replicate_zero, Option.isSome_some, List.getD_cons_zero, List.getD_cons_succ, forall_const, true_and, and_true]
  refine ⟨by simp, ?_⟩
  have fin : ∀ hs found x6 x7 x8, HandOk hs → found.length ≤ 2 * many → (1 < n → many ≤ found.length) → (∀ a ∈ found, Fwd ord a) → b__law_ordered_r5 (endsOf [.ow true hs', .fr (nD n), .fr (nD many), .fr (nD far)] Q R) (ordEnv hs n many far ord found x6 x7 x8) := fun hs found x6 x7 x8 h1 hl hge hg => by
    simp only [ordEnv, b__law_ordered_r5, dSeq, dSet, dRet, dRetN, dDrop, dIfS, dNext, dFr, dFz, dVar, dC, dOp, dB, dChain, dAnd, dOr, dNot, dAndV, dOrV, dNotV, dIf, dNeg, dRev, dBack, dDic0, dCons, dNil, dTup, dLst, dRep, dIxV, dInV, dLenV, dCallB, dCall, dIsi, dItems, dRange1, dEnum, dZip, dYes, dgName, dgTup, dgCons, dgNil, dAsg, dApp, dPopAt, dAugIx, dSetIx, dCallL, dBits, dLstRg1, dFldV, dSetF, dMake, dCut, dPart, dNoPart, rCut, endsOf, exitT, peek, setOk, withOw, isOw, withT, lentQ, l_lend1, l_lend2, l_lend3, l_back1, l_back2, l_back3, l_kind1, l_kind2, l_kind3, l_kind4, l_kind5, l_kind6, l_frz1, l_frz2, l_frz3, l_frz4, noOw, wipeT, restT, cLen, cInt, cAbs, cTuple, cList, cStr, keyD, rIsB, rIsNotB, rAdd, rSub, rMul, rMod, rDiv, rPow, rShl, rShr, rBand, rBor, rLt, rLe, rGt, rGe, rAddI, rIx, l_at0, l_at1, l_at2, l_at3, l_at4, Int.reduceToNat, l_eqI, l_neI, l_eqB, l_neB, List.getElem?_cons_zero, List.getElem?_cons_succ, List.set_cons_zero, List.set_cons_succ, List.map_cons, List.map_nil, List.append_nil, List.cons_append, List.nil_append, List.replicate_succ, List.replicate_zero, Option.isSome_some, List.getD_cons_zero, List.getD_cons_succ, forall_const, true_and, and_true]
    rw [cutD_map]
    refine ⟨by simp, q ord (cutD found none (some (many : Int))) hs hp2 (Nat.le_trans (cutD_len _ _ _) hl) (fun a ha => hg a (cutD_mem ha)) h1 (fun hn => by rw [cut_take, List.length_take]; have := hge hn; omega)⟩
  unfold b__law_ordered_l4 dFor
  simp only [dSeq, dSet, dRet, dRetN, dDrop, dIfS, dNext, dFr, dFz, dVar, dC, dOp, dB, dChain, dAnd, dOr, dNot, dAndV, dOrV, dNotV, dIf, dNeg, dRev, dBack, dDic0, dCons, dNil, dTup, dLst, dRep, dIxV, dInV, dLenV, dCallB, dCall, dIsi, dItems, dRange1, dEnum, dZip, dYes, dgName, dgTup, dgCons, dgNil, dAsg, dApp, dPopAt, dAugIx, dSetIx, dCallL, dBits, dLstRg1, dFldV, dSetF, dMake, dCut, dPart, dNoPart, rCut, endsOf, exitT, peek, setOk, withOw, isOw, withT, lentQ, l_lend1, l_lend2, l_lend3, l_back1, l_back2, l_back3, l_kind1, l_kind2, l_kind3, l_kind4, l_kind5, l_kind6, l_frz1, l_frz2, l_frz3, l_frz4, noOw, wipeT, restT, cLen, cInt, cAbs, cTuple, cList, cStr, keyD, rIsB, rIsNotB, rAdd, rSub, rMul, rMod, rDiv, rPow, rShl, rShr, rBand, rBor, rLt, rLe, rGt, rGe, rAddI, rIx, l_at0, l_at1, l_at2, l_at3, l_at4, Int.reduceToNat, l_eqI, l_neI, l_eqB, l_neB, List.getElem?_cons_zero, List.getElem?_cons_succ, List.set_cons_zero, List.set_cons_succ, List.map_cons, List.map_nil, List.append_nil, List.cons_append, List.nil_append, List.replicate_succ, List.replicate_zero, Option.isSome_some, List.getD_cons_zero, List.getD_cons_succ, forall_const, true_and, and_true]
  by_cases hn : (1 : Int) < n
  · simp only [hn, decide_true]
    exact ⟨by omega, by omega, ordered_for hf1 hf2 hn2 hm2 hol h' many (Nat.le_refl _) (.inl (by omega)) _ fun hs found x6 x7 x8 h1 hl hge hg => fin hs found x6 x7 x8 h1 hl (fun _ => hge) hg⟩
  · simp only [hn, decide_false]
    exact ⟨by omega, by omega, ordered_for hf1 hf2 hn2 hm2 hol h' 0 (Nat.zero_le _) (.inr rfl) _ fun hs found x6 x7 x8 h1 hl hge hg => fin hs found x6 x7 x8 h1 hl (fun z => absurd z (by omega)) hg⟩
theorem nodup_le {n : Nat} {l : List Nat} (h : l.Nodup) (hl : ∀ v ∈ l, v < n) : l.length ≤ n := by
  have := h.length_le_of_subset (l₂ := List.range n) fun v hv => List.mem_range.mpr (hl v hv)
  rw [List.length_range] at this
  exact this
theorem t_TLi : (["tuple", "list"].any (isOne "int")) = false := by decide +kernel
theorem t_TLt : (["tuple", "list"].any (isOne "tuple")) = true := by decide +kernel
theorem t_Tt : (["tuple"].any (isOne "tuple")) = true := by decide +kernel
theorem t_TLb : (["tuple", "list"].any (isOne "bool")) = false := by decide +kernel
theorem t_Bb : (["bool"].any (isOne "bool")) = true := by decide +kernel
theorem t_Bi : (["bool"].any (isOne "int")) = false := by decide +kernel
theorem zip_nats (a b : List Nat) : zipD (natsD a) (natsD b) = (a.zip b).map arrD := by
  unfold zipD natsD
  rw [List.zip_map, List.map_map]
  rfl
theorem all_zip : ∀ {a b : List Nat}, a.length = b.length → ((a.zip b).map fun p => decide (p.1 = p.2)).all id = decide (a = b)
  | [], [], _ => rfl
  | x :: a, y :: b, h => by
    have ih := all_zip (a := a) (b := b) (by simpa using h)
    rw [List.zip_cons_cons, List.map_cons, List.all_cons, ih]
    show (decide (x = y) && decide (a = b)) = _
    by_cases h1 : x = y <;> by_cases h2 : a = b <;> simp [h1, h2]
theorem m__law_is : ∀ r ts Q R, sp__law_is (r + 1) ts Q R → b__law_is r (endsOf ts Q R) (startT N__law_is.length ts) := by
  rintro r ts Q R (⟨a, b, rfl, hr, hal, q⟩ | ⟨a, b, rfl, q⟩ | ⟨a, b, rfl, q⟩)
  · have e : startT N__law_is.length [.fr (.tup (natsD a)), .fr (.tup (natsD b))] = [some (.fr (.tup (natsD a))), some (.fr (.tup (natsD b))), none, none] := rfl
    rw [e]
    simp only [b__law_is, tyD, t_TLt, t_Tt, dSeq, dSet, dRet, dRetN, dDrop, dIfS, dNext, dFr, dFz, dVar, dC, dOp, dB, dChain, dAnd, dOr, dNot, dAndV, dOrV, dNotV, dIf, dNeg, dRev, dBack, dDic0, dCons, dNil, dTup, dLst, dRep, dIxV, dInV, dLenV, dCallB, dCall, dIsi, dItems, dRange1, dEnum, dZip, dYes, dgName, dgTup, dgCons, dgNil, dAsg, dApp, dPopAt, dAugIx, dSetIx, dCallL, dBits, dLstRg1, dFldV, dSetF, dMake, dCut, dPart, dNoPart, rCut, endsOf, exitT, peek, setOk, withOw, isOw, withT, lentQ, l_lend1, l_lend2, l_lend3, l_back1, l_back2, l_back3, l_kind1, l_kind2, l_kind3, l_kind4, l_kind5, l_kind6, l_frz1, l_frz2, l_frz3, l_frz4, noOw, wipeT, restT, cLen, cInt, cAbs, cTuple, cList, cStr, keyD, rIsB, rIsNotB, rAdd, rSub, rMul, rMod, rDiv, rPow, rShl, rShr, rBand, rBor, rLt, rLe, rGt, rGe, rAddI, rIx, l_at0, l_at1, l_at2, l_at3, l_at4, Int.reduceToNat, l_eqI, l_neI, l_eqB, l_neB, List.getElem?_cons_zero, List.getElem?_cons_succ, List.set_cons_zero, List.set_cons_succ, List.map_cons, List.map_nil, List.append_nil, List.cons_append, List.nil_append, List.replicate_succ, List.replicate_zero, Option.isSome_some, List.getD_cons_zero, List.getD_cons_succ, forall_const, true_and, and_true]
    simp only [BEq.rfl, Bool.not_true, b__law_is_r2, natsD_length, dSeq, dSet, dRet, dRetN, dDrop, dIfS, dNext, dFr, dFz, dVar, dC, dOp, dB, dChain, dAnd, dOr, dNot, dAndV, dOrV, dNotV, dIf, dNeg, dRev, dBack, dDic0, dCons, dNil, dTup, dLst, dRep, dIxV, dInV, dLenV, dCallB, dCall, dIsi, dItems, dRange1, dEnum, dZip, dYes, dgName, dgTup, dgCons, dgNil, dAsg, dApp, dPopAt, dAugIx, dSetIx, dCallL, dBits, dLstRg1, dFldV, dSetF, dMake, dCut, dPart, dNoPart, rCut, endsOf, exitT, peek, setOk, withOw, isOw, withT, lentQ, l_lend1, l_lend2, l_lend3, l_back1, l_back2, l_back3, l_kind1, l_kind2, l_kind3, l_kind4, l_kind5, l_kind6, l_frz1, l_frz2, l_frz3, l_frz4, noOw, wipeT, restT, cLen, cInt, cAbs, cTuple, cList, cStr, keyD, rIsB, rIsNotB, rAdd, rSub, rMul, rMod, rDiv, rPow, rShl, rShr, rBand, rBor, rLt, rLe, rGt, rGe, rAddI, rIx, l_at0, l_at1, l_at2, l_at3, l_at4, Int.reduceToNat, l_eqI, l_neI, l_eqB, l_neB, List.getElem?_cons_zero, List.getElem?_cons_succ, List.set_cons_zero, List.set_cons_succ, List.map_cons, List.map_nil, List.append_nil, List.cons_append, List.nil_append, List.replicate_succ, List.replicate_zero, Option.isSome_some, List.getD_cons_zero, List.getD_cons_succ, forall_const, true_and, and_true]
    by_cases hl : a.length = b.length
    · have hl' : (a.length : Int) = (b.length : Int) := by omega
      simp only [hl', decide_true]
      show LcB _ _ _ _ _ _ _
      rw [zip_nats]
      refine lc_map arrD (fun p => .bl (decide (p.1 = p.2))) (a.zip b) (by rw [List.length_zip]; omega) (by simp [noOw]) (fun p hp Y N hy => ?_) ?_
      · obtain ⟨k, rfl⟩ : ∃ k, r = k + 1 := ⟨r - 1, by omega⟩
        simp only [arrD, dSeq, dSet, dRet, dRetN, dDrop, dIfS, dNext, dFr, dFz, dVar, dC, dOp, dB, dChain, dAnd, dOr, dNot, dAndV, dOrV, dNotV, dIf, dNeg, dRev, dBack, dDic0, dCons, dNil, dTup, dLst, dRep, dIxV, dInV, dLenV, dCallB, dCall, dIsi, dItems, dRange1, dEnum, dZip, dYes, dgName, dgTup, dgCons, dgNil, dAsg, dApp, dPopAt, dAugIx, dSetIx, dCallL, dBits, dLstRg1, dFldV, dSetF, dMake, dCut, dPart, dNoPart, rCut, endsOf, exitT, peek, setOk, withOw, isOw, withT, lentQ, l_lend1, l_lend2, l_lend3, l_back1, l_back2, l_back3, l_kind1, l_kind2, l_kind3, l_kind4, l_kind5, l_kind6, l_frz1, l_frz2, l_frz3, l_frz4, noOw, wipeT, restT, cLen, cInt, cAbs, cTuple, cList, cStr, keyD, rIsB, rIsNotB, rAdd, rSub, rMul, rMod, rDiv, rPow, rShl, rShr, rBand, rBor, rLt, rLe, rGt, rGe, rAddI, rIx, l_at0, l_at1, l_at2, l_at3, l_at4, Int.reduceToNat, l_eqI, l_neI, l_eqB, l_neB, List.getElem?_cons_zero, List.getElem?_cons_succ, List.set_cons_zero, List.set_cons_succ, List.map_cons, List.map_nil, List.append_nil, List.cons_append, List.nil_append, List.replicate_succ, List.replicate_zero, Option.isSome_some, List.getD_cons_zero, List.getD_cons_succ, forall_const, true_and, and_true]
        exact ⟨rfl, .inr (.inl ⟨p.1, p.2, rfl, hy⟩)⟩
      · simp only [dSeq, dSet, dRet, dRetN, dDrop, dIfS, dNext, dFr, dFz, dVar, dC, dOp, dB, dChain, dAnd, dOr, dNot, dAndV, dOrV, dNotV, dIf, dNeg, dRev, dBack, dDic0, dCons, dNil, dTup, dLst, dRep, dIxV, dInV, dLenV, dCallB, dCall, dIsi, dItems, dRange1, dEnum, dZip, dYes, dgName, dgTup, dgCons, dgNil, dAsg, dApp, dPopAt, dAugIx, dSetIx, dCallL, dBits, dLstRg1, dFldV, dSetF, dMake, dCut, dPart, dNoPart, rCut, endsOf, exitT, peek, setOk, withOw, isOw, withT, lentQ, l_lend1, l_lend2, l_lend3, l_back1, l_back2, l_back3, l_kind1, l_kind2, l_kind3, l_kind4, l_kind5, l_kind6, l_frz1, l_frz2, l_frz3, l_frz4, noOw, wipeT, restT, cLen, cInt, cAbs, cTuple, cList, cStr, keyD, rIsB, rIsNotB, rAdd, rSub, rMul, rMod, rDiv, rPow, rShl, rShr, rBand, rBor, rLt, rLe, rGt, rGe, rAddI, rIx, l_at0, l_at1, l_at2, l_at3, l_at4, Int.reduceToNat, l_eqI, l_neI, l_eqB, l_neB, List.getElem?_cons_zero, List.getElem?_cons_succ, List.set_cons_zero, List.set_cons_succ, List.map_cons, List.map_nil, List.append_nil, List.cons_append, List.nil_append, List.replicate_succ, List.replicate_zero, Option.isSome_some, List.getD_cons_zero, List.getD_cons_succ, forall_const, true_and, and_true, cAll]
        refine ⟨(a.zip b).map fun p => decide (p.1 = p.2), by rw [List.map_map]; rfl, ?_⟩
        rw [all_zip hl]
        exact q
    · have hl' : ¬ (a.length : Int) = (b.length : Int) := by omega
      have hab : ¬ a = b := fun z => hl (by rw [z])
      simp only [hl', decide_false]
      rw [decide_eq_false hab] at q
      exact q
  · have e : startT N__law_is.length [.fr (nD a), .fr (nD b)] = [some (.fr (nD a)), some (.fr (nD b)), none, none] := rfl
    rw [e]
    simp only [b__law_is, tyD, t_TLi, t_Bi, b__law_is_r3, dSeq, dSet, dRet, dRetN, dDrop, dIfS, dNext, dFr, dFz, dVar, dC, dOp, dB, dChain, dAnd, dOr, dNot, dAndV, dOrV, dNotV, dIf, dNeg, dRev, dBack, dDic0, dCons, dNil, dTup, dLst, dRep, dIxV, dInV, dLenV, dCallB, dCall, dIsi, dItems, dRange1, dEnum, dZip, dYes, dgName, dgTup, dgCons, dgNil, dAsg, dApp, dPopAt, dAugIx, dSetIx, dCallL, dBits, dLstRg1, dFldV, dSetF, dMake, dCut, dPart, dNoPart, rCut, endsOf, exitT, peek, setOk, withOw, isOw, withT, lentQ, l_lend1, l_lend2, l_lend3, l_back1, l_back2, l_back3, l_kind1, l_kind2, l_kind3, l_kind4, l_kind5, l_kind6, l_frz1, l_frz2, l_frz3, l_frz4, noOw, wipeT, restT, cLen, cInt, cAbs, cTuple, cList, cStr, keyD, rIsB, rIsNotB, rAdd, rSub, rMul, rMod, rDiv, rPow, rShl, rShr, rBand, rBor, rLt, rLe, rGt, rGe, rAddI, rIx, l_at0, l_at1, l_at2, l_at3, l_at4, Int.reduceToNat, l_eqI, l_neI, l_eqB, l_neB, List.getElem?_cons_zero, List.getElem?_cons_succ, List.set_cons_zero, List.set_cons_succ, List.map_cons, List.map_nil, List.append_nil, List.cons_append, List.nil_append, List.replicate_succ, List.replicate_zero, Option.isSome_some, List.getD_cons_zero, List.getD_cons_succ, forall_const, true_and, and_true, BEq.rfl]
    have : decide ((a : Int) = (b : Int)) = decide (a = b) := by
      by_cases h : a = b
      · simp [h]
      · have : ¬ (a : Int) = b := by omega
        simp [h, this]
    rw [this]
    exact q
  · have e : startT N__law_is.length [.fr (.bl a), .fr (.bl b)] = [some (.fr (.bl a)), some (.fr (.bl b)), none, none] := rfl
    rw [e]
    simp only [b__law_is, tyD, t_TLb, t_Bb, b__law_is_r3, dSeq, dSet, dRet, dRetN, dDrop, dIfS, dNext, dFr, dFz, dVar, dC, dOp, dB, dChain, dAnd, dOr, dNot, dAndV, dOrV, dNotV, dIf, dNeg, dRev, dBack, dDic0, dCons, dNil, dTup, dLst, dRep, dIxV, dInV, dLenV, dCallB, dCall, dIsi, dItems, dRange1, dEnum, dZip, dYes, dgName, dgTup, dgCons, dgNil, dAsg, dApp, dPopAt, dAugIx, dSetIx, dCallL, dBits, dLstRg1, dFldV, dSetF, dMake, dCut, dPart, dNoPart, rCut, endsOf, exitT, peek, setOk, withOw, isOw, withT, lentQ, l_lend1, l_lend2, l_lend3, l_back1, l_back2, l_back3, l_kind1, l_kind2, l_kind3, l_kind4, l_kind5, l_kind6, l_frz1, l_frz2, l_frz3, l_frz4, noOw, wipeT, restT, cLen, cInt, cAbs, cTuple, cList, cStr, keyD, rIsB, rIsNotB, rAdd, rSub, rMul, rMod, rDiv, rPow, rShl, rShr, rBand, rBor, rLt, rLe, rGt, rGe, rAddI, rIx, l_at0, l_at1, l_at2, l_at3, l_at4, Int.reduceToNat, l_eqI, l_neI, l_eqB, l_neB, List.getElem?_cons_zero, List.getElem?_cons_succ, List.set_cons_zero, List.set_cons_succ, List.map_cons, List.map_nil, List.append_nil, List.cons_append, List.nil_append, List.replicate_succ, List.replicate_zero, Option.isSome_some, List.getD_cons_zero, List.getD_cons_succ, forall_const, true_and, and_true, BEq.rfl]
    rw [Bool.beq_eq_decide_eq]
    exact q
theorem m_is_arrow_of : ∀ ts Q R, sp_is_arrow_of ts Q R → b_is_arrow_of (endsOf ts Q R) (startT N_is_arrow_of.length ts) := by
  rintro ts Q R ⟨n, a, rfl, h1, h2, q⟩
  have e : startT N_is_arrow_of.length [.fr (nD n), .fr (arrD a)] = [some (.fr (nD n)), some (.fr (arrD a)), none] := rfl
  rw [e]
  simp only [b_is_arrow_of, dSeq, dSet, dRet, dRetN, dDrop, dIfS, dNext, dFr, dFz, dVar, dC, dOp, dB, dChain, dAnd, dOr, dNot, dAndV, dOrV, dNotV, dIf, dNeg, dRev, dBack, dDic0, dCons, dNil, dTup, dLst, dRep, dIxV, dInV, dLenV, dCallB, dCall, dIsi, dItems, dRange1, dEnum, dZip, dYes, dgName, dgTup, dgCons, dgNil, dAsg, dApp, dPopAt, dAugIx, dSetIx, dCallL, dBits, dLstRg1, dFldV, dSetF, dMake, dCut, dPart, dNoPart, rCut, endsOf, exitT, peek, setOk, withOw, isOw, withT, lentQ, l_lend1, l_lend2, l_lend3, l_back1, l_back2, l_back3, l_kind1, l_kind2, l_kind3, l_kind4, l_kind5, l_kind6, l_frz1, l_frz2, l_frz3, l_frz4, noOw, wipeT, restT, cLen, cInt, cAbs, cTuple, cList, cStr, keyD, rIsB, rIsNotB, rAdd, rSub, rMul, rMod, rDiv, rPow, rShl, rShr, rBand, rBor, rLt, rLe, rGt, rGe, rAddI, rIx, l_at0, l_at1, l_at2, l_at3, l_at4, Int.reduceToNat, l_eqI, l_neI, l_eqB, l_neB, List.getElem?_cons_zero, List.getElem?_cons_succ, List.set_cons_zero, List.set_cons_succ, List.map_cons, List.map_nil, List.append_nil, List.cons_append, List.nil_append, List.replicate_succ, List.replicate_zero, Option.isSome_some, List.getD_cons_zero, List.getD_cons_succ, forall_const, true_and, and_true]
  refine ⟨arrD a, rfl, rfl, ?_⟩
  show LcB (natsD [a.1, a.2]) _ _ _ _ _ _
  refine lc_map nD (fun v => .bl (inD (nD v) 0 ((n : Int) - 1))) [a.1, a.2] (by simp) (by simp [noOw]) (fun v hv Y N hy => ?_) ?_
  · simp only [dSeq, dSet, dRet, dRetN, dDrop, dIfS, dNext, dFr, dFz, dVar, dC, dOp, dB, dChain, dAnd, dOr, dNot, dAndV, dOrV, dNotV, dIf, dNeg, dRev, dBack, dDic0, dCons, dNil, dTup, dLst, dRep, dIxV, dInV, dLenV, dCallB, dCall, dIsi, dItems, dRange1, dEnum, dZip, dYes, dgName, dgTup, dgCons, dgNil, dAsg, dApp, dPopAt, dAugIx, dSetIx, dCallL, dBits, dLstRg1, dFldV, dSetF, dMake, dCut, dPart, dNoPart, rCut, endsOf, exitT, peek, setOk, withOw, isOw, withT, lentQ, l_lend1, l_lend2, l_lend3, l_back1, l_back2, l_back3, l_kind1, l_kind2, l_kind3, l_kind4, l_kind5, l_kind6, l_frz1, l_frz2, l_frz3, l_frz4, noOw, wipeT, restT, cLen, cInt, cAbs, cTuple, cList, cStr, keyD, rIsB, rIsNotB, rAdd, rSub, rMul, rMod, rDiv, rPow, rShl, rShr, rBand, rBor, rLt, rLe, rGt, rGe, rAddI, rIx, l_at0, l_at1, l_at2, l_at3, l_at4, Int.reduceToNat, l_eqI, l_neI, l_eqB, l_neB, List.getElem?_cons_zero, List.getElem?_cons_succ, List.set_cons_zero, List.set_cons_succ, List.map_cons, List.map_nil, List.append_nil, List.cons_append, List.nil_append, List.replicate_succ, List.replicate_zero, Option.isSome_some, List.getD_cons_zero, List.getD_cons_succ, forall_const, true_and, and_true]
    exact ⟨nD v, 0, _, rfl, rfl, hy⟩
  · simp only [dSeq, dSet, dRet, dRetN, dDrop, dIfS, dNext, dFr, dFz, dVar, dC, dOp, dB, dChain, dAnd, dOr, dNot, dAndV, dOrV, dNotV, dIf, dNeg, dRev, dBack, dDic0, dCons, dNil, dTup, dLst, dRep, dIxV, dInV, dLenV, dCallB, dCall, dIsi, dItems, dRange1, dEnum, dZip, dYes, dgName, dgTup, dgCons, dgNil, dAsg, dApp, dPopAt, dAugIx, dSetIx, dCallL, dBits, dLstRg1, dFldV, dSetF, dMake, dCut, dPart, dNoPart, rCut, endsOf, exitT, peek, setOk, withOw, isOw, withT, lentQ, l_lend1, l_lend2, l_lend3, l_back1, l_back2, l_back3, l_kind1, l_kind2, l_kind3, l_kind4, l_kind5, l_kind6, l_frz1, l_frz2, l_frz3, l_frz4, noOw, wipeT, restT, cLen, cInt, cAbs, cTuple, cList, cStr, keyD, rIsB, rIsNotB, rAdd, rSub, rMul, rMod, rDiv, rPow, rShl, rShr, rBand, rBor, rLt, rLe, rGt, rGe, rAddI, rIx, l_at0, l_at1, l_at2, l_at3, l_at4, Int.reduceToNat, l_eqI, l_neI, l_eqB, l_neB, List.getElem?_cons_zero, List.getElem?_cons_succ, List.set_cons_zero, List.set_cons_succ, List.map_cons, List.map_nil, List.append_nil, List.cons_append, List.nil_append, List.replicate_succ, List.replicate_zero, Option.isSome_some, List.getD_cons_zero, List.getD_cons_succ, forall_const, true_and, and_true, cAll]
    refine ⟨[true, true], ?_, ?_⟩
    · rw [inD_nat h1, inD_nat h2]
      rfl
    · simp only [b_is_arrow_of_r2, arrD, dSeq, dSet, dRet, dRetN, dDrop, dIfS, dNext, dFr, dFz, dVar, dC, dOp, dB, dChain, dAnd, dOr, dNot, dAndV, dOrV, dNotV, dIf, dNeg, dRev, dBack, dDic0, dCons, dNil, dTup, dLst, dRep, dIxV, dInV, dLenV, dCallB, dCall, dIsi, dItems, dRange1, dEnum, dZip, dYes, dgName, dgTup, dgCons, dgNil, dAsg, dApp, dPopAt, dAugIx, dSetIx, dCallL, dBits, dLstRg1, dFldV, dSetF, dMake, dCut, dPart, dNoPart, rCut, endsOf, exitT, peek, setOk, withOw, isOw, withT, lentQ, l_lend1, l_lend2, l_lend3, l_back1, l_back2, l_back3, l_kind1, l_kind2, l_kind3, l_kind4, l_kind5, l_kind6, l_frz1, l_frz2, l_frz3, l_frz4, noOw, wipeT, restT, cLen, cInt, cAbs, cTuple, cList, cStr, keyD, rIsB, rIsNotB, rAdd, rSub, rMul, rMod, rDiv, rPow, rShl, rShr, rBand, rBor, rLt, rLe, rGt, rGe, rAddI, rIx, l_at0, l_at1, l_at2, l_at3, l_at4, Int.reduceToNat, l_eqI, l_neI, l_eqB, l_neB, List.getElem?_cons_zero, List.getElem?_cons_succ, List.set_cons_zero, List.set_cons_succ, List.map_cons, List.map_nil, List.append_nil, List.cons_append, List.nil_append, List.replicate_succ, List.replicate_zero, Option.isSome_some, List.getD_cons_zero, List.getD_cons_succ, forall_const, true_and, and_true, List.all_cons, List.all_nil, id, Bool.and_true, Bool.not_true]
      have : decide ((a.1 : Int) ≠ (a.2 : Int)) = decide (a.1 ≠ a.2) := by
        by_cases h : a.1 = a.2
        · simp [h]
        · have : ¬ (a.1 : Int) = a.2 := by omega
          simp [h, this]
      rw [this]
      exact q
theorem ord_full {n : Nat} {ar : Ar} {ord : List Nat} (h : ArOk n ar) (o : OrdIn n ar ord) : ord.length = n := by
  obtain ⟨rank, hr⟩ := h.acy
  have all : ∀ k v, rank v ≤ k → v < n → v ∈ ord := by
    intro k
    induction k with
    | zero =>
      intro v hv hn
      refine Classical.byContradiction fun z => ?_
      obtain ⟨a, ha, rfl, _⟩ := o.rest v hn z
      have := hr a ha
      omega
    | succ k ih =>
      intro v hv hn
      refine Classical.byContradiction fun z => ?_
      obtain ⟨a, ha, rfl, h2⟩ := o.rest v hn z
      have := hr a ha
      exact h2 (ih a.1 (by omega) (h.lt a ha).1)
  have p : ord.Perm (List.range n) := (List.perm_ext_iff_of_nodup o.nd List.nodup_range).mpr fun v => ⟨fun z => List.mem_range.mpr (o.lt v z), fun z => all _ v (Nat.le_refl _) (List.mem_range.mp z)⟩
  rw [p.length_eq, List.length_range]
theorem m_Web_init : ∀ ts Q R, sp_Web_init ts Q R → b_Web_init (endsOf ts Q R) (startT N_Web_init.length ts) := by
  rintro ts Q R ⟨n, ar, n1, n2, n3, rfl, h, q⟩
  have e : startT N_Web_init.length [.oi true 200 [], .fr (nD n), .fr (arsD ar)] = [some (.oi true 200 []), some (.fr (nD n)), some (.fr (arsD ar)), none, none] := rfl
  rw [e]
  simp only [b_Web_init, dSeq, dSet, dRet, dRetN, dDrop, dIfS, dNext, dFr, dFz, dVar, dC, dOp, dB, dChain, dAnd, dOr, dNot, dAndV, dOrV, dNotV, dIf, dNeg, dRev, dBack, dDic0, dCons, dNil, dTup, dLst, dRep, dIxV, dInV, dLenV, dCallB, dCall, dIsi, dItems, dRange1, dEnum, dZip, dYes, dgName, dgTup, dgCons, dgNil, dAsg, dApp, dPopAt, dAugIx, dSetIx, dCallL, dBits, dLstRg1, dFldV, dSetF, dMake, dCut, dPart, dNoPart, rCut, endsOf, exitT, peek, setOk, withOw, isOw, withT, lentQ, l_lend1, l_lend2, l_lend3, l_back1, l_back2, l_back3, l_kind1, l_kind2, l_kind3, l_kind4, l_kind5, l_kind6, l_frz1, l_frz2, l_frz3, l_frz4, noOw, wipeT, restT, cLen, cInt, cAbs, cTuple, cList, cStr, keyD, rIsB, rIsNotB, rAdd, rSub, rMul, rMod, rDiv, rPow, rShl, rShr, rBand, rBor, rLt, rLe, rGt, rGe, rAddI, rIx, l_at0, l_at1, l_at2, l_at3, l_at4, Int.reduceToNat, l_eqI, l_neI, l_eqB, l_neB, List.getElem?_cons_zero, List.getElem?_cons_succ, List.set_cons_zero, List.set_cons_succ, List.map_cons, List.map_nil, List.append_nil, List.cons_append, List.nil_append, List.replicate_succ, List.replicate_zero, Option.isSome_some, List.getD_cons_zero, List.getD_cons_succ, forall_const, true_and, and_true]
  refine ⟨nD n, 1, 60, rfl, rfl, ?_⟩
  have hin : inD (nD n) 1 60 = true := decide_eq_true ⟨by omega, by omega⟩
  simp only [hin, Bool.not_true]
  have hlen : ¬ (400 : Int) < (((ar.map arrD).length : Nat) : Int) := by
    rw [List.length_map]
    omega
  simp only [b_Web_init_r6, arsD, tyD, t_Tt, hlen, decide_false, Bool.not_true, dSeq, dSet, dRet, dRetN, dDrop, dIfS, dNext, dFr, dFz, dVar, dC, dOp, dB, dChain, dAnd, dOr, dNot, dAndV, dOrV, dNotV, dIf, dNeg, dRev, dBack, dDic0, dCons, dNil, dTup, dLst, dRep, dIxV, dInV, dLenV, dCallB, dCall, dIsi, dItems, dRange1, dEnum, dZip, dYes, dgName, dgTup, dgCons, dgNil, dAsg, dApp, dPopAt, dAugIx, dSetIx, dCallL, dBits, dLstRg1, dFldV, dSetF, dMake, dCut, dPart, dNoPart, rCut, endsOf, exitT, peek, setOk, withOw, isOw, withT, lentQ, l_lend1, l_lend2, l_lend3, l_back1, l_back2, l_back3, l_kind1, l_kind2, l_kind3, l_kind4, l_kind5, l_kind6, l_frz1, l_frz2, l_frz3, l_frz4, noOw, wipeT, restT, cLen, cInt, cAbs, cTuple, cList, cStr, keyD, rIsB, rIsNotB, rAdd, rSub, rMul, rMod, rDiv, rPow, rShl, rShr, rBand, rBor, rLt, rLe, rGt, rGe, rAddI, rIx, l_at0, l_at1, l_at2, l_at3, l_at4, Int.reduceToNat, l_eqI, l_neI, l_eqB, l_neB, List.getElem?_cons_zero, List.getElem?_cons_succ, List.set_cons_zero, List.set_cons_succ, List.map_cons, List.map_nil, List.append_nil, List.cons_append, List.nil_append, List.replicate_succ, List.replicate_zero, Option.isSome_some, List.getD_cons_zero, List.getD_cons_succ, forall_const, true_and, and_true]
  simp only [b_Web_init_r5, dSeq]
  show ForB (enumD (ar.map arrD)) _ _ _ _
  refine forB (fun i τ => ∃ (x3 x4 : Option T), τ = [some (.oi true 200 []), some (.fr (nD n)), some (.fr (.tup (ar.map arrD))), x3, x4] ∧ okS x3 ∧ okS x4) ⟨none, none, rfl, trivial, trivial⟩ ?_ ?_
  · rintro i d τ hi ⟨x3, x4, rfl, o3, o4⟩
    obtain ⟨x, hx, rfl⟩ := enumD_get hi
    rw [List.getElem?_map] at hx
    obtain ⟨a, ha, rfl⟩ := Option.map_eq_some_iff.mp hx
    have ham : a ∈ ar := List.mem_of_getElem? ha
    simp only [b_Web_init_b1, dSeq, dSet, dRet, dRetN, dDrop, dIfS, dNext, dFr, dFz, dVar, dC, dOp, dB, dChain, dAnd, dOr, dNot, dAndV, dOrV, dNotV, dIf, dNeg, dRev, dBack, dDic0, dCons, dNil, dTup, dLst, dRep, dIxV, dInV, dLenV, dCallB, dCall, dIsi, dItems, dRange1, dEnum, dZip, dYes, dgName, dgTup, dgCons, dgNil, dAsg, dApp, dPopAt, dAugIx, dSetIx, dCallL, dBits, dLstRg1, dFldV, dSetF, dMake, dCut, dPart, dNoPart, rCut, endsOf, exitT, peek, setOk, withOw, isOw, withT, lentQ, l_lend1, l_lend2, l_lend3, l_back1, l_back2, l_back3, l_kind1, l_kind2, l_kind3, l_kind4, l_kind5, l_kind6, l_frz1, l_frz2, l_frz3, l_frz4, noOw, wipeT, restT, cLen, cInt, cAbs, cTuple, cList, cStr, keyD, rIsB, rIsNotB, rAdd, rSub, rMul, rMod, rDiv, rPow, rShl, rShr, rBand, rBor, rLt, rLe, rGt, rGe, rAddI, rIx, l_at0, l_at1, l_at2, l_at3, l_at4, Int.reduceToNat, l_eqI, l_neI, l_eqB, l_neB, List.getElem?_cons_zero, List.getElem?_cons_succ, List.set_cons_zero, List.set_cons_succ, List.map_cons, List.map_nil, List.append_nil, List.cons_append, List.nil_append, List.replicate_succ, List.replicate_zero, Option.isSome_some, List.getD_cons_zero, List.getD_cons_succ, forall_const, true_and, and_true]
    refine ⟨rfl, o3, o4, n, a, rfl, (h.lt a ham).1, (h.lt a ham).2, ?_⟩
    have hne : decide (a.1 ≠ a.2) = true := decide_eq_true fun z => by
      obtain ⟨rank, hr⟩ := h.acy
      have := hr a ham
      rw [z] at this
      omega
    simp only [hne, Bool.not_true, dSeq, dSet, dRet, dRetN, dDrop, dIfS, dNext, dFr, dFz, dVar, dC, dOp, dB, dChain, dAnd, dOr, dNot, dAndV, dOrV, dNotV, dIf, dNeg, dRev, dBack, dDic0, dCons, dNil, dTup, dLst, dRep, dIxV, dInV, dLenV, dCallB, dCall, dIsi, dItems, dRange1, dEnum, dZip, dYes, dgName, dgTup, dgCons, dgNil, dAsg, dApp, dPopAt, dAugIx, dSetIx, dCallL, dBits, dLstRg1, dFldV, dSetF, dMake, dCut, dPart, dNoPart, rCut, endsOf, exitT, peek, setOk, withOw, isOw, withT, lentQ, l_lend1, l_lend2, l_lend3, l_back1, l_back2, l_back3, l_kind1, l_kind2, l_kind3, l_kind4, l_kind5, l_kind6, l_frz1, l_frz2, l_frz3, l_frz4, noOw, wipeT, restT, cLen, cInt, cAbs, cTuple, cList, cStr, keyD, rIsB, rIsNotB, rAdd, rSub, rMul, rMod, rDiv, rPow, rShl, rShr, rBand, rBor, rLt, rLe, rGt, rGe, rAddI, rIx, l_at0, l_at1, l_at2, l_at3, l_at4, Int.reduceToNat, l_eqI, l_neI, l_eqB, l_neB, List.getElem?_cons_zero, List.getElem?_cons_succ, List.set_cons_zero, List.set_cons_succ, List.map_cons, List.map_nil, List.append_nil, List.cons_append, List.nil_append, List.replicate_succ, List.replicate_zero, Option.isSome_some, List.getD_cons_zero, List.getD_cons_succ, forall_const, true_and, and_true]
    exact ⟨_, _, rfl, rfl, rfl⟩
  · rintro τ ⟨x3, x4, rfl, o3, o4⟩
    simp only [b_Web_init_r4, dSeq, dSet, dRet, dRetN, dDrop, dIfS, dNext, dFr, dFz, dVar, dC, dOp, dB, dChain, dAnd, dOr, dNot, dAndV, dOrV, dNotV, dIf, dNeg, dRev, dBack, dDic0, dCons, dNil, dTup, dLst, dRep, dIxV, dInV, dLenV, dCallB, dCall, dIsi, dItems, dRange1, dEnum, dZip, dYes, dgName, dgTup, dgCons, dgNil, dAsg, dApp, dPopAt, dAugIx, dSetIx, dCallL, dBits, dLstRg1, dFldV, dSetF, dMake, dCut, dPart, dNoPart, rCut, endsOf, exitT, peek, setOk, withOw, isOw, withT, lentQ, l_lend1, l_lend2, l_lend3, l_back1, l_back2, l_back3, l_kind1, l_kind2, l_kind3, l_kind4, l_kind5, l_kind6, l_frz1, l_frz2, l_frz3, l_frz4, noOw, wipeT, restT, cLen, cInt, cAbs, cTuple, cList, cStr, keyD, rIsB, rIsNotB, rAdd, rSub, rMul, rMod, rDiv, rPow, rShl, rShr, rBand, rBor, rLt, rLe, rGt, rGe, rAddI, rIx, l_at0, l_at1, l_at2, l_at3, l_at4, Int.reduceToNat, l_eqI, l_neI, l_eqB, l_neB, List.getElem?_cons_zero, List.getElem?_cons_succ, List.set_cons_zero, List.set_cons_succ, List.map_cons, List.map_nil, List.append_nil, List.cons_append, List.nil_append, List.replicate_succ, List.replicate_zero, Option.isSome_some, List.getD_cons_zero, List.getD_cons_succ, forall_const, true_and, and_true]
    refine ⟨n, ar, rfl, h.toArIn, fun ord ho => ?_⟩
    have hol := ord_full h ho
    have hlt : ¬ ((ord.length : Nat) : Int) < (n : Int) := by omega
    simp only [natsD_length, hlt, decide_false, b_Web_init_r3, dCallM, dSeq, dSet, dRet, dRetN, dDrop, dIfS, dNext, dFr, dFz, dVar, dC, dOp, dB, dChain, dAnd, dOr, dNot, dAndV, dOrV, dNotV, dIf, dNeg, dRev, dBack, dDic0, dCons, dNil, dTup, dLst, dRep, dIxV, dInV, dLenV, dCallB, dCall, dIsi, dItems, dRange1, dEnum, dZip, dYes, dgName, dgTup, dgCons, dgNil, dAsg, dApp, dPopAt, dAugIx, dSetIx, dCallL, dBits, dLstRg1, dFldV, dSetF, dMake, dCut, dPart, dNoPart, rCut, endsOf, exitT, peek, setOk, withOw, isOw, withT, lentQ, l_lend1, l_lend2, l_lend3, l_back1, l_back2, l_back3, l_kind1, l_kind2, l_kind3, l_kind4, l_kind5, l_kind6, l_frz1, l_frz2, l_frz3, l_frz4, noOw, wipeT, restT, cLen, cInt, cAbs, cTuple, cList, cStr, keyD, rIsB, rIsNotB, rAdd, rSub, rMul, rMod, rDiv, rPow, rShl, rShr, rBand, rBor, rLt, rLe, rGt, rGe, rAddI, rIx, l_at0, l_at1, l_at2, l_at3, l_at4, Int.reduceToNat, l_eqI, l_neI, l_eqB, l_neB, List.getElem?_cons_zero, List.getElem?_cons_succ, List.set_cons_zero, List.set_cons_succ, List.map_cons, List.map_nil, List.append_nil, List.cons_append, List.nil_append, List.replicate_succ, List.replicate_zero, Option.isSome_some, List.getD_cons_zero, List.getD_cons_succ, forall_const, true_and, and_true]
    refine ⟨⟨true, [], rfl, rfl⟩, 200, n, ar, by decide, rfl, h, fun fs ord reach w hf => ?_⟩
    simp only [dSeq, dSet, dRet, dRetN, dDrop, dIfS, dNext, dFr, dFz, dVar, dC, dOp, dB, dChain, dAnd, dOr, dNot, dAndV, dOrV, dNotV, dIf, dNeg, dRev, dBack, dDic0, dCons, dNil, dTup, dLst, dRep, dIxV, dInV, dLenV, dCallB, dCall, dIsi, dItems, dRange1, dEnum, dZip, dYes, dgName, dgTup, dgCons, dgNil, dAsg, dApp, dPopAt, dAugIx, dSetIx, dCallL, dBits, dLstRg1, dFldV, dSetF, dMake, dCut, dPart, dNoPart, rCut, endsOf, exitT, peek, setOk, withOw, isOw, withT, lentQ, l_lend1, l_lend2, l_lend3, l_back1, l_back2, l_back3, l_kind1, l_kind2, l_kind3, l_kind4, l_kind5, l_kind6, l_frz1, l_frz2, l_frz3, l_frz4, noOw, wipeT, restT, cLen, cInt, cAbs, cTuple, cList, cStr, keyD, rIsB, rIsNotB, rAdd, rSub, rMul, rMod, rDiv, rPow, rShl, rShr, rBand, rBor, rLt, rLe, rGt, rGe, rAddI, rIx, l_at0, l_at1, l_at2, l_at3, l_at4, Int.reduceToNat, l_eqI, l_neI, l_eqB, l_neB, List.getElem?_cons_zero, List.getElem?_cons_succ, List.set_cons_zero, List.set_cons_succ, List.map_cons, List.map_nil, List.append_nil, List.cons_append, List.nil_append, List.replicate_succ, List.replicate_zero, Option.isSome_some, List.getD_cons_zero, List.getD_cons_succ, forall_const, true_and, and_true]
    exact q fs ord reach w hf
theorem map_set {α : Type} {n e : Nat} (f : Nat → α) (x : α) (he : e < n) : ((List.range n).map f).set e x = (List.range n).map (fun v => if v = e then x else f v) := by
  apply List.ext_getElem?
  intro i
  by_cases h : i < n
  · rw [List.getElem?_set, List.getElem?_map, List.getElem?_map, List.getElem?_range h]
    by_cases hie : e = i
    · subst hie
      simp [h]
    · have : ¬ i = e := fun z => hie z.symm
      simp [hie, this]
  · rw [List.getElem?_eq_none (by simp; omega), List.getElem?_eq_none (by simp; omega)]
theorem row_at {α : Type} {n v : Nat} (f : Nat → α) (h : v < n) : ((List.range n).map f)[v]? = some (f v) := by
  rw [List.getElem?_map, List.getElem?_range h]
  rfl
theorem lcO_map {α : Type} (mk : α → D) (h : α → List D) (xs : List α) {τ1 : Env} {g : DG} {elt : DT} {vs : List Nat} {Q : T → Env → Prop} (hlen : xs.length ≤ 1000000) (hno : ∀ v ∈ vs, noOw τ1 v)
    (step : ∀ x ∈ xs, ∀ (Y : List D → Env → Prop), Y (h x) (wipeT τ1 vs) → g (mk x) (wipeT τ1 vs) fun τ2 => elt τ2 (fun u τ3 => ∃ es, u = .ow false es ∧ Y es (wipeT τ3 vs)) noR)
    (fin : Q (.o2 (xs.map h)) (restT τ1 vs (wipeT τ1 vs))) : LcOB (xs.map mk) τ1 g elt vs Q := by
  unfold LcOB
  refine ⟨by rw [List.length_map]; exact hlen, hno, fun i acc τ => acc = (xs.take i).map h ∧ τ = wipeT τ1 vs, ⟨by simp, rfl⟩, ?_, ?_⟩
  · rintro i d acc τ hd ⟨rfl, rfl⟩
    rw [List.getElem?_map] at hd
    obtain ⟨x, hx, rfl⟩ := Option.map_eq_some_iff.mp hd
    refine step x (List.mem_of_getElem? hx) (fun y τ => (xs.take i).map h ++ [y] = (xs.take (i + 1)).map h ∧ τ = wipeT τ1 vs) ⟨?_, rfl⟩
    rw [List.take_add_one, hx, List.map_append]
    rfl
  · rintro acc τ ⟨rfl, rfl⟩
    rw [List.length_map, List.take_length]
    exact fin
def inC (ar : Ar) (S : List Nat) (v : Nat) : Nat := (ar.filter fun a => a.2 == v && !(S.contains a.1)).length
def outsE (ar : Ar) (p : Nat) : List Nat := (ar.filter fun a => a.1 == p).map (·.2)
theorem inC_split {S : List Nat} {u : Nat} (hu : u ∉ S) (v : Nat) : ∀ ar : Ar, inC ar S v = inC ar (S ++ [u]) v + (outsE ar u).count v
  | [] => rfl
  | a :: ar => by
    have ih := inC_split hu v ar
    unfold inC outsE at *
    rw [List.filter_cons, List.filter_cons, List.filter_cons]
    by_cases h1 : a.1 = u
    · have c1 : S.contains a.1 = false := by
        rw [h1]
        simpa using hu
      have c2 : (S ++ [u]).contains a.1 = true := by
        rw [h1]
        simp
      have c3 : (a.1 == u) = true := by simpa using h1
      rw [c1, c2, c3]
      by_cases h2 : a.2 = v
      · have c4 : (a.2 == v) = true := by simpa using h2
        simp only [c4, Bool.not_false, Bool.not_true, Bool.and_true, Bool.and_false, if_true, List.length_cons, List.map_cons, Bool.false_eq_true, if_false, List.count_cons, h2, BEq.rfl]
        omega
      · have c4 : (a.2 == v) = false := by simpa using h2
        simp only [c4, Bool.false_and, if_true, List.map_cons, Bool.false_eq_true, if_false, List.count_cons]
        omega
    · have c3 : (a.1 == u) = false := by simpa using h1
      have c5 : (S ++ [u]).contains a.1 = S.contains a.1 := by
        rw [Bool.eq_iff_iff]
        simp [h1]
      rw [c3, c5]
      by_cases h2 : (a.2 == v && !S.contains a.1) = true
      · simp only [h2, if_true, List.length_cons, Bool.false_eq_true, if_false]
        omega
      · have h3 := eq_false_of_ne_true h2
        simp only [h3, Bool.false_eq_true, if_false]
        omega
theorem inC_zero {ar : Ar} {S : List Nat} {v : Nat} : inC ar S v = 0 ↔ ∀ a ∈ ar, a.2 = v → a.1 ∈ S := by
  unfold inC
  rw [List.length_eq_zero_iff, List.filter_eq_nil_iff]
  constructor
  · intro h a ha hv
    have := h a ha
    simpa [hv] using this
  · intro h a ha z
    simp at z
    exact z.2 (h a ha z.1)
theorem outsE_mem {ar : Ar} {u v : Nat} : v ∈ outsE ar u ↔ (u, v) ∈ ar := by
  unfold outsE
  rw [List.mem_map]
  constructor
  · rintro ⟨a, ha, rfl⟩
    have h := List.mem_filter.mp ha
    have : a.1 = u := by simpa using h.2
    rw [← this]
    exact h.1
  · intro h
    exact ⟨(u, v), List.mem_filter.mpr ⟨h, by simp⟩, rfl⟩
theorem inC_snoc (ar : Ar) (a : Nat × Nat) (v : Nat) : inC (ar ++ [a]) [] v = if v = a.2 then inC ar [] v + 1 else inC ar [] v := by
  unfold inC
  rw [List.filter_append, List.length_append, List.filter_cons]
  by_cases h : v = a.2
  · simp [h]
  · have : ¬ a.2 = v := fun z => h z.symm
    simp [h, this]
theorem outsE_snoc (ar : Ar) (a : Nat × Nat) (p : Nat) : outsE (ar ++ [a]) p = if p = a.1 then outsE ar p ++ [a.2] else outsE ar p := by
  unfold outsE
  rw [List.filter_append, List.map_append, List.filter_cons]
  by_cases h : p = a.1
  · simp [h]
  · have : ¬ a.1 = p := fun z => h z.symm
    simp [h, this]
def oEnv (n : Nat) (ar : Ar) (L : Nat → Nat) (x3 x4 x5 x6 x7 x8 : Option T) : Env := [some (.fr (nD n)), some (.fr (arsD ar)), some (.ow false (natsD ((List.range n).map L))), x3, x4, x5, x6, x7, x8]
def rowsO (n : Nat) (ar : Ar) : List (List D) := (List.range n).map fun p => natsD (outsE ar p)
theorem order_l3 {n : Nat} {ar : Ar} (h : ArIn n ar) (E : DEnds) (hE : ∀ x4 x5, okS x4 → okS x5 → E.nx (oEnv n ar (inC ar []) (some (.o2 (rowsO n ar))) x4 x5 none none none)) :
    b_order_of_l3 E (oEnv n ar (fun _ => 0) (some (.o2 ((List.range n).map fun _ => []))) none none none none none) := by
  show ForB (ar.map arrD) _ _ _ _
  refine forB (fun i τ => ∃ (x4 x5 : Option T), τ = oEnv n ar (inC (ar.take i) []) (some (.o2 (rowsO n (ar.take i)))) x4 x5 none none none ∧ okS x4 ∧ okS x5) ⟨none, none, rfl, trivial, trivial⟩ ?_ ?_
  · rintro i d τ hi ⟨x4, x5, rfl, o4, o5⟩
    rw [List.getElem?_map] at hi
    obtain ⟨a, ha, rfl⟩ := Option.map_eq_some_iff.mp hi
    have hm := h.lt a (List.mem_of_getElem? ha)
    have et : ar.take (i + 1) = ar.take i ++ [a] := by
      rw [List.take_add_one, ha]
      rfl
    have l1 : (natsD ((List.range n).map (inC (ar.take i) [])))[a.2]? = some (nD (inC (ar.take i) [] a.2)) := by
      rw [natsD_get, row_at _ hm.2]
      rfl
    have l2 : (rowsO n (ar.take i))[a.1]? = some (natsD (outsE (ar.take i) a.1)) := row_at _ hm.1
    simp only [oEnv, arrD, b_order_of_b2, dSeq, dSet, dRet, dRetN, dDrop, dIfS, dNext, dFr, dFz, dVar, dC, dOp, dB, dChain, dAnd, dOr, dNot, dAndV, dOrV, dNotV, dIf, dNeg, dRev, dBack, dDic0, dCons, dNil, dTup, dLst, dRep, dIxV, dInV, dLenV, dCallB, dCall, dIsi, dItems, dRange1, dEnum, dZip, dYes, dgName, dgTup, dgCons, dgNil, dAsg, dApp, dPopAt, dAugIx, dSetIx, dCallL, dBits, dLstRg1, dFldV, dSetF, dMake, dCut, dPart, dNoPart, rCut, endsOf, exitT, peek, setOk, withOw, isOw, withT, lentQ, l_lend1, l_lend2, l_lend3, l_back1, l_back2, l_back3, l_kind1, l_kind2, l_kind3, l_kind4, l_kind5, l_kind6, l_frz1, l_frz2, l_frz3, l_frz4, noOw, wipeT, restT, cLen, cInt, cAbs, cTuple, cList, cStr, keyD, rIsB, rIsNotB, rAdd, rSub, rMul, rMod, rDiv, rPow, rShl, rShr, rBand, rBor, rLt, rLe, rGt, rGe, rAddI, rIx, l_at0, l_at1, l_at2, l_at3, l_at4, Int.reduceToNat, l_eqI, l_neI, l_eqB, l_neB, List.getElem?_cons_zero, List.getElem?_cons_succ, List.set_cons_zero, List.set_cons_succ, List.map_cons, List.map_nil, List.append_nil, List.cons_append, List.nil_append, List.replicate_succ, List.replicate_zero, Option.isSome_some, List.getD_cons_zero, List.getD_cons_succ, forall_const, true_and, and_true, Int.toNat_natCast, l1]
    refine ⟨rfl, o4, o5, by omega, by rw [natsD_length, List.length_map, List.length_range]; exact hm.2, ?_⟩
    refine ⟨⟨_, rfl⟩, _, rfl, by omega, natsD (outsE (ar.take i) a.1), ?_, ?_, ?_⟩
    · rw [Int.toNat_natCast]
      exact l2
    · rw [natsD_length]
      have : (outsE (ar.take i) a.1).length ≤ ar.length := by
        unfold outsE
        rw [List.length_map]
        exact Nat.le_trans (List.length_filter_le _ _) (by rw [List.length_take]; omega)
      have := h.few
      omega
    · simp only [dSeq, dSet, dRet, dRetN, dDrop, dIfS, dNext, dFr, dFz, dVar, dC, dOp, dB, dChain, dAnd, dOr, dNot, dAndV, dOrV, dNotV, dIf, dNeg, dRev, dBack, dDic0, dCons, dNil, dTup, dLst, dRep, dIxV, dInV, dLenV, dCallB, dCall, dIsi, dItems, dRange1, dEnum, dZip, dYes, dgName, dgTup, dgCons, dgNil, dAsg, dApp, dPopAt, dAugIx, dSetIx, dCallL, dBits, dLstRg1, dFldV, dSetF, dMake, dCut, dPart, dNoPart, rCut, endsOf, exitT, peek, setOk, withOw, isOw, withT, lentQ, l_lend1, l_lend2, l_lend3, l_back1, l_back2, l_back3, l_kind1, l_kind2, l_kind3, l_kind4, l_kind5, l_kind6, l_frz1, l_frz2, l_frz3, l_frz4, noOw, wipeT, restT, cLen, cInt, cAbs, cTuple, cList, cStr, keyD, rIsB, rIsNotB, rAdd, rSub, rMul, rMod, rDiv, rPow, rShl, rShr, rBand, rBor, rLt, rLe, rGt, rGe, rAddI, rIx, l_at0, l_at1, l_at2, l_at3, l_at4, Int.reduceToNat, l_eqI, l_neI, l_eqB, l_neB, List.getElem?_cons_zero, List.getElem?_cons_succ, List.set_cons_zero, List.set_cons_succ, List.map_cons, List.map_nil, List.append_nil, List.cons_append, List.nil_append, List.replicate_succ, List.replicate_zero, Option.isSome_some, List.getD_cons_zero, List.getD_cons_succ, forall_const, true_and, and_true]
      refine ⟨some (.fr (nD a.1)), some (.fr (nD a.2)), ?_, rfl, rfl⟩
      have e1 : (natsD ((List.range n).map (inC (ar.take i) []))).set a.2 (D.int ((inC (ar.take i) [] a.2 : Nat) + 1)) = natsD ((List.range n).map (inC (ar.take (i + 1)) [])) := by
        rw [et]
        have : natsD ((List.range n).map (inC (ar.take i) [])) = (List.range n).map (fun v => nD (inC (ar.take i) [] v)) := by
          unfold natsD
          rw [List.map_map]
          rfl
        rw [this, map_set _ _ hm.2]
        unfold natsD
        rw [List.map_map]
        refine List.map_congr_left fun v _ => ?_
        show _ = nD (inC (ar.take i ++ [a]) [] v)
        rw [inC_snoc]
        by_cases hv : v = a.2
        · rw [if_pos hv, if_pos hv, hv]
          rfl
        · rw [if_neg hv, if_neg hv]
      have e2 : (rowsO n (ar.take i)).set a.1 (natsD (outsE (ar.take i) a.1) ++ [nD a.2]) = rowsO n (ar.take (i + 1)) := by
        rw [et]
        unfold rowsO
        rw [map_set _ _ hm.1]
        refine List.map_congr_left fun p _ => ?_
        rw [outsE_snoc]
        by_cases hp : p = a.1
        · rw [if_pos hp, if_pos hp, hp, natsD_append]
          rfl
        · rw [if_neg hp, if_neg hp]
      rw [Int.toNat_natCast, e1, e2]
  · rintro τ ⟨x4, x5, rfl, o4, o5⟩
    rw [List.length_map, List.take_length]
    exact hE x4 x5 o4 o5
/-- what holds between two turns: found, its first done told, L counts what else leads to a place -/
structure OrdI (n : Nat) (ar : Ar) (found : List Nat) (done : Nat) : Prop where
  nd : found.Nodup
  lt : ∀ p ∈ found, p < n
  le : done ≤ found.length
  zero : ∀ v, v < n → (v ∈ found ↔ inC ar (found.take done) v = 0)
  topo : ∀ (j v : Nat), found[j]? = some v → ∀ b, (b, v) ∈ ar → ∃ i : Nat, i < j ∧ found[i]? = some b
def oE2 (n : Nat) (ar : Ar) (L : Nat → Nat) (x3 x4 x5 : Option T) (found : List Nat) (done : Nat) : Env := oEnv n ar L x3 x4 x5 (some (.ow false (natsD found))) (some (.fr (nD done))) none
theorem count_le {ar : Ar} {S : List Nat} {u : Nat} (hu : u ∉ S) (v : Nat) : (outsE ar u).count v ≤ inC ar S v := by
  rw [inC_split hu v ar]
  omega
theorem order_l6 {n : Nat} {ar : Ar} {found : List Nat} {done : Nat} {x3 x4 x5 : Option T} (h : ArIn n ar) (I : OrdI n ar found done) (hd : done < found.length) (o3 : x3 = some (.o2 (rowsO n ar)) ∨ x3 = some (.fr (.lst ((rowsO n ar).map .lst)))) (o4 : okS x4) (o5 : okS x5) (E : DEnds)
    (hE : ∀ found' x5, OrdI n ar found' (done + 1) → found'.length ≤ n → okS x5 → E.nx (oE2 n ar (inC ar (found'.take (done + 1))) (some (.fr (.lst ((rowsO n ar).map .lst)))) x4 x5 found' done)) :
    b_order_of_l6 E (oE2 n ar (inC ar (found.take done)) x3 x4 x5 found done) := by
  have hu : found[done]? = some found[done] := List.getElem?_eq_getElem hd
  generalize found[done] = u at hu
  have hun : u < n := I.lt u (List.mem_of_getElem? hu)
  have hus : u ∉ found.take done := fun z => by
    obtain ⟨k, hk⟩ := List.mem_iff_getElem?.mp z
    rw [List.getElem?_take] at hk
    split at hk
    · rename_i hkd
      exact absurd ((List.getElem?_inj (by omega) I.nd).mp (hk.trans hu.symm)) (by omega)
    · cases hk
  have e1 : found.take (done + 1) = found.take done ++ [u] := by
    rw [List.take_add_one, hu]
    rfl
  have a1 : atD (natsD found) (done : Int) = some (nD u) := atD_nat (by rw [natsD_get, hu]; rfl)
  have a2 : atD ((rowsO n ar).map D.lst) (u : Int) = some (.lst (natsD (outsE ar u))) := atD_nat (by unfold rowsO; rw [List.getElem?_map, row_at _ hun]; rfl)
  have body : ForB (natsD (outsE ar u)) (oE2 n ar (inC ar (found.take done)) (some (.fr (.lst ((rowsO n ar).map .lst)))) x4 x5 found done) (dgName 5) b_order_of_b5 E := by
    refine forB (fun i τ => ∃ (L : Nat → Nat) (ext : List Nat) (x5 : Option T), τ = oE2 n ar L (some (.fr (.lst ((rowsO n ar).map .lst)))) x4 x5 (found ++ ext) done ∧ okS x5 ∧ (found ++ ext).Nodup ∧ (∀ v ∈ found ++ ext, v < n) ∧
      (∀ v, L v + ((outsE ar u).take i).count v = inC ar (found.take done) v) ∧ (∀ v, v < n → (v ∈ found ++ ext ↔ L v = 0)) ∧ (∀ v ∈ ext, ∀ b, (b, v) ∈ ar → b ∈ found.take done ++ [u])) ⟨inC ar (found.take done), [], x5, by rw [List.append_nil], o5, by rw [List.append_nil]; exact I.nd, by rw [List.append_nil]; exact I.lt, fun v => by simp, fun v hv => by rw [List.append_nil]; exact I.zero v hv, fun _ h => nomatch h⟩ ?_ ?_
    · rintro i d τ hi ⟨L, ext, x5, rfl, o5, nd, lt, hL, hz, ht⟩
      rw [natsD_get] at hi
      obtain ⟨e, he, rfl⟩ := Option.map_eq_some_iff.mp hi
      have hea : (u, e) ∈ ar := outsE_mem.mp (List.mem_of_getElem? he)
      have hen : e < n := (h.lt _ hea).2
      have etk : (outsE ar u).take (i + 1) = (outsE ar u).take i ++ [e] := by
        rw [List.take_add_one, he]
        rfl
      have hc1 : ((outsE ar u).take i).count e + 1 ≤ (outsE ar u).count e := by
        have h1 : ((outsE ar u).take (i + 1)).count e ≤ (outsE ar u).count e := (List.take_sublist _ _).count_le e
        rw [etk, List.count_append] at h1
        simpa using h1
      have hc2 := count_le (ar := ar) hus e
      have hLe := hL e
      have hpos : 1 ≤ L e := by omega
      have hnf : e ∉ found ++ ext := fun z => by
        have := (hz e hen).mp z
        omega
      have l1 : (natsD ((List.range n).map L))[e]? = some (nD (L e)) := by
        rw [natsD_get, row_at _ hen]
        rfl
      have e2 : (natsD ((List.range n).map L)).set e (D.int ((L e : Nat) - 1)) = natsD ((List.range n).map (fun v => if v = e then L e - 1 else L v)) := by
        have : natsD ((List.range n).map L) = (List.range n).map (fun v => nD (L v)) := by
          unfold natsD
          rw [List.map_map]
          rfl
        rw [this, map_set _ _ hen]
        unfold natsD
        rw [List.map_map]
        refine List.map_congr_left fun v _ => ?_
        show _ = nD (if v = e then L e - 1 else L v)
        by_cases hv : v = e
        · rw [if_pos hv, if_pos hv]
          show D.int ((L e : Int) - 1) = D.int ((L e - 1 : Nat) : Int)
          congr 1
          omega
        · rw [if_neg hv, if_neg hv]
      have e3 : atD (natsD ((List.range n).map (fun v => if v = e then L e - 1 else L v))) (e : Int) = some (nD (L e - 1)) := atD_nat (by
        rw [natsD_get, row_at _ hen, if_pos rfl]
        rfl)
      have hL' : ∀ v, (if v = e then L e - 1 else L v) + ((outsE ar u).take (i + 1)).count v = inC ar (found.take done) v := fun v => by
        rw [etk, List.count_append]
        by_cases hv : v = e
        · subst hv
          rw [if_pos rfl]
          simp
          omega
        · have : ¬ e = v := fun z => hv z.symm
          rw [if_neg hv]
          simp [this]
          exact hL v
      simp only [oE2, oEnv, b_order_of_b5, dSeq, dSet, dRet, dRetN, dDrop, dIfS, dNext, dFr, dFz, dVar, dC, dOp, dB, dChain, dAnd, dOr, dNot, dAndV, dOrV, dNotV, dIf, dNeg, dRev, dBack, dDic0, dCons, dNil, dTup, dLst, dRep, dIxV, dInV, dLenV, dCallB, dCall, dIsi, dItems, dRange1, dEnum, dZip, dYes, dgName, dgTup, dgCons, dgNil, dAsg, dApp, dPopAt, dAugIx, dSetIx, dCallL, dBits, dLstRg1, dFldV, dSetF, dMake, dCut, dPart, dNoPart, rCut, endsOf, exitT, peek, setOk, withOw, isOw, withT, lentQ, l_lend1, l_lend2, l_lend3, l_back1, l_back2, l_back3, l_kind1, l_kind2, l_kind3, l_kind4, l_kind5, l_kind6, l_frz1, l_frz2, l_frz3, l_frz4, noOw, wipeT, restT, cLen, cInt, cAbs, cTuple, cList, cStr, keyD, rIsB, rIsNotB, rAdd, rSub, rMul, rMod, rDiv, rPow, rShl, rShr, rBand, rBor, rLt, rLe, rGt, rGe, rAddI, rIx, l_at0, l_at1, l_at2, l_at3, l_at4, Int.reduceToNat, l_eqI, l_neI, l_eqB, l_neB, List.getElem?_cons_zero, List.getElem?_cons_succ, List.set_cons_zero, List.set_cons_succ, List.map_cons, List.map_nil, List.append_nil, List.cons_append, List.nil_append, List.replicate_succ, List.replicate_zero, Option.isSome_some, List.getD_cons_zero, List.getD_cons_succ, forall_const, true_and, and_true, Int.toNat_natCast, l1]
      refine ⟨o5, by omega, by rw [natsD_length, List.length_map, List.length_range]; exact hen, ?_⟩
      rw [e2]
      simp only [e3, dSeq, dSet, dRet, dRetN, dDrop, dIfS, dNext, dFr, dFz, dVar, dC, dOp, dB, dChain, dAnd, dOr, dNot, dAndV, dOrV, dNotV, dIf, dNeg, dRev, dBack, dDic0, dCons, dNil, dTup, dLst, dRep, dIxV, dInV, dLenV, dCallB, dCall, dIsi, dItems, dRange1, dEnum, dZip, dYes, dgName, dgTup, dgCons, dgNil, dAsg, dApp, dPopAt, dAugIx, dSetIx, dCallL, dBits, dLstRg1, dFldV, dSetF, dMake, dCut, dPart, dNoPart, rCut, endsOf, exitT, peek, setOk, withOw, isOw, withT, lentQ, l_lend1, l_lend2, l_lend3, l_back1, l_back2, l_back3, l_kind1, l_kind2, l_kind3, l_kind4, l_kind5, l_kind6, l_frz1, l_frz2, l_frz3, l_frz4, noOw, wipeT, restT, cLen, cInt, cAbs, cTuple, cList, cStr, keyD, rIsB, rIsNotB, rAdd, rSub, rMul, rMod, rDiv, rPow, rShl, rShr, rBand, rBor, rLt, rLe, rGt, rGe, rAddI, rIx, l_at0, l_at1, l_at2, l_at3, l_at4, Int.reduceToNat, l_eqI, l_neI, l_eqB, l_neB, List.getElem?_cons_zero, List.getElem?_cons_succ, List.set_cons_zero, List.set_cons_succ, List.map_cons, List.map_nil, List.append_nil, List.cons_append, List.nil_append, List.replicate_succ, List.replicate_zero, Option.isSome_some, List.getD_cons_zero, List.getD_cons_succ, forall_const, true_and, and_true]
      by_cases hz0 : L e - 1 = 0
      · have hz1 : ((L e - 1 : Nat) : Int) = 0 := by omega
        simp only [hz1, decide_true]
        have en : natsD (found ++ ext) ++ [nD e] = natsD (found ++ (ext ++ [e])) := by
          rw [← List.append_assoc]
          exact (natsD_append (found ++ ext) [e]).symm
        have hle := nodup_le nd lt
        refine ⟨by rw [natsD_length]; have := h.nfew; omega, ?_⟩
        rw [en]
        refine ⟨_, ext ++ [e], some (.fr (nD e)), rfl, rfl, ?_, ?_, hL', ?_, ?_⟩
        · rw [← List.append_assoc, List.nodup_append]
          exact ⟨nd, by simp, fun x hx y hy q => hnf (by rw [← List.mem_singleton.mp hy, ← q]; exact hx)⟩
        · intro v hv
          rw [← List.append_assoc] at hv
          rcases List.mem_append.mp hv with hv | hv
          · exact lt v hv
          · rw [List.mem_singleton.mp hv]
            exact hen
        · intro v hv
          rw [← List.append_assoc, List.mem_append, List.mem_singleton]
          by_cases hve : v = e
          · rw [if_pos hve]
            exact ⟨fun _ => hz0, fun _ => .inr hve⟩
          · rw [if_neg hve]
            exact ⟨fun z => (hz v hv).mp (z.resolve_right hve), fun z => .inl ((hz v hv).mpr z)⟩
        · intro v hv b hb
          rcases List.mem_append.mp hv with hv | hv
          · exact ht v hv b hb
          · rw [List.mem_singleton.mp hv] at hb
            have s1 := inC_split hus e ar
            have s2 : inC ar (found.take done ++ [u]) e = 0 := by omega
            exact inC_zero.mp s2 _ hb rfl
      · have hz1 : ¬ ((L e - 1 : Nat) : Int) = 0 := by omega
        simp only [hz1, decide_false]
        refine ⟨_, ext, some (.fr (nD e)), rfl, rfl, nd, lt, hL', fun v hv => ?_, ht⟩
        by_cases hve : v = e
        · rw [if_pos hve, hve]
          exact ⟨fun z => absurd z hnf, fun z => absurd z hz0⟩
        · rw [if_neg hve]
          exact hz v hv
    · rintro τ ⟨L, ext, x5, rfl, o5, nd, lt, hL, hz, ht⟩
      rw [natsD_length, List.take_length] at hL
      have et : (found ++ ext).take (done + 1) = found.take done ++ [u] := by
        rw [List.take_append_of_le_length (by omega), e1]
      have eL : L = inC ar ((found ++ ext).take (done + 1)) := by
        funext v
        have s1 := inC_split hus v ar
        have s2 := hL v
        rw [et]
        omega
      rw [eL]
      refine hE (found ++ ext) x5 ⟨nd, lt, by rw [List.length_append]; omega, fun v hv => by rw [hz v hv, eL], fun j v hj b hb => ?_⟩ (nodup_le nd lt) o5
      by_cases hjf : j < found.length
      · rw [List.getElem?_append_left hjf] at hj
        obtain ⟨i, h1, h2⟩ := I.topo j v hj b hb
        exact ⟨i, h1, by rw [List.getElem?_append_left (by omega)]; exact h2⟩
      · rw [List.getElem?_append_right (by omega)] at hj
        have hbm := ht v (List.mem_of_getElem? hj) b hb
        rw [← e1] at hbm
        obtain ⟨i, hi⟩ := List.mem_iff_getElem?.mp hbm
        rw [List.getElem?_take] at hi
        split at hi
        · rename_i hid
          exact ⟨i, by omega, by rw [List.getElem?_append_left (by omega)]; exact hi⟩
        · cases hi
  unfold b_order_of_l6 dFor
  rcases o3 with rfl | rfl
  · simp only [oE2, oEnv, dItems, dOp, dVar, dIxV, peek, List.getElem?_cons_zero, List.getElem?_cons_succ, List.set_cons_zero, List.set_cons_succ, l_kind4, l_frz3, Option.isSome_some, true_and, rIx, a1, a2]
    exact body
  · simp only [oE2, oEnv, dItems, dOp, dVar, dIxV, peek, List.getElem?_cons_zero, List.getElem?_cons_succ, Option.isSome_some, true_and, rIx, a1, a2]
    exact body
theorem m_order_of : ∀ ts Q R, sp_order_of ts Q R → b_order_of (endsOf ts Q R) (startT N_order_of.length ts) := by
  rintro ts Q R ⟨n, ar, rfl, h, q⟩
  have e : startT N_order_of.length [.fr (nD n), .fr (arsD ar)] = [some (.fr (nD n)), some (.fr (arsD ar)), none, none, none, none, none, none, none] := rfl
  rw [e]
  have hn := h.nfew
  simp only [b_order_of, dSeq, dSet, dRet, dRetN, dDrop, dIfS, dNext, dFr, dFz, dVar, dC, dOp, dB, dChain, dAnd, dOr, dNot, dAndV, dOrV, dNotV, dIf, dNeg, dRev, dBack, dDic0, dCons, dNil, dTup, dLst, dRep, dIxV, dInV, dLenV, dCallB, dCall, dIsi, dItems, dRange1, dEnum, dZip, dYes, dgName, dgTup, dgCons, dgNil, dAsg, dApp, dPopAt, dAugIx, dSetIx, dCallL, dBits, dLstRg1, dFldV, dSetF, dMake, dCut, dPart, dNoPart, rCut, endsOf, exitT, peek, setOk, withOw, isOw, withT, lentQ, l_lend1, l_lend2, l_lend3, l_back1, l_back2, l_back3, l_kind1, l_kind2, l_kind3, l_kind4, l_kind5, l_kind6, l_frz1, l_frz2, l_frz3, l_frz4, noOw, wipeT, restT, cLen, cInt, cAbs, cTuple, cList, cStr, keyD, rIsB, rIsNotB, rAdd, rSub, rMul, rMod, rDiv, rPow, rShl, rShr, rBand, rBor, rLt, rLe, rGt, rGe, rAddI, rIx, l_at0, l_at1, l_at2, l_at3, l_at4, Int.reduceToNat, l_eqI, l_neI, l_eqB, l_neB, List.getElem?_cons_zero, List.getElem?_cons_succ, List.set_cons_zero, List.set_cons_succ, List.map_cons, List.map_nil, List.append_nil, List.cons_append, List.nil_append, List.replicate_succ, List.replicate_zero, Option.isSome_some, List.getD_cons_zero, List.getD_cons_succ, forall_const, true_and, and_true]
  refine ⟨by simp, by omega, by omega, by simp; omega, ?_⟩
  have er : (List.replicate n [D.int 0]).flatten = natsD ((List.range n).map fun _ => 0) := by
    clear q e h hn
    induction n with
    | zero => rfl
    | succ n ih =>
      rw [List.replicate_succ, List.flatten_cons, ih, List.range_succ_eq_map, List.map_cons, List.map_map]
      rfl
  rw [Int.toNat_natCast, er]
  unfold b_order_of_c1 dLcO
  simp only [dRange1, dVar, List.getElem?_cons_zero]
  refine ⟨by omega, by omega, ?_⟩
  rw [rgD_nat]
  refine lcO_map nD (fun _ => []) (List.range n) (by rw [List.length_range]; omega) (by simp [noOw]) (fun x hx Y hy => ?_) ?_
  · simp only [dSeq, dSet, dRet, dRetN, dDrop, dIfS, dNext, dFr, dFz, dVar, dC, dOp, dB, dChain, dAnd, dOr, dNot, dAndV, dOrV, dNotV, dIf, dNeg, dRev, dBack, dDic0, dCons, dNil, dTup, dLst, dRep, dIxV, dInV, dLenV, dCallB, dCall, dIsi, dItems, dRange1, dEnum, dZip, dYes, dgName, dgTup, dgCons, dgNil, dAsg, dApp, dPopAt, dAugIx, dSetIx, dCallL, dBits, dLstRg1, dFldV, dSetF, dMake, dCut, dPart, dNoPart, rCut, endsOf, exitT, peek, setOk, withOw, isOw, withT, lentQ, l_lend1, l_lend2, l_lend3, l_back1, l_back2, l_back3, l_kind1, l_kind2, l_kind3, l_kind4, l_kind5, l_kind6, l_frz1, l_frz2, l_frz3, l_frz4, noOw, wipeT, restT, cLen, cInt, cAbs, cTuple, cList, cStr, keyD, rIsB, rIsNotB, rAdd, rSub, rMul, rMod, rDiv, rPow, rShl, rShr, rBand, rBor, rLt, rLe, rGt, rGe, rAddI, rIx, l_at0, l_at1, l_at2, l_at3, l_at4, Int.reduceToNat, l_eqI, l_neI, l_eqB, l_neB, List.getElem?_cons_zero, List.getElem?_cons_succ, List.set_cons_zero, List.set_cons_succ, List.map_cons, List.map_nil, List.append_nil, List.cons_append, List.nil_append, List.replicate_succ, List.replicate_zero, Option.isSome_some, List.getD_cons_zero, List.getD_cons_succ, forall_const, true_and, and_true]
    exact ⟨by simp, [], rfl, hy⟩
  simp only [b_order_of_r13, dSeq, dSet, dRet, dRetN, dDrop, dIfS, dNext, dFr, dFz, dVar, dC, dOp, dB, dChain, dAnd, dOr, dNot, dAndV, dOrV, dNotV, dIf, dNeg, dRev, dBack, dDic0, dCons, dNil, dTup, dLst, dRep, dIxV, dInV, dLenV, dCallB, dCall, dIsi, dItems, dRange1, dEnum, dZip, dYes, dgName, dgTup, dgCons, dgNil, dAsg, dApp, dPopAt, dAugIx, dSetIx, dCallL, dBits, dLstRg1, dFldV, dSetF, dMake, dCut, dPart, dNoPart, rCut, endsOf, exitT, peek, setOk, withOw, isOw, withT, lentQ, l_lend1, l_lend2, l_lend3, l_back1, l_back2, l_back3, l_kind1, l_kind2, l_kind3, l_kind4, l_kind5, l_kind6, l_frz1, l_frz2, l_frz3, l_frz4, noOw, wipeT, restT, cLen, cInt, cAbs, cTuple, cList, cStr, keyD, rIsB, rIsNotB, rAdd, rSub, rMul, rMod, rDiv, rPow, rShl, rShr, rBand, rBor, rLt, rLe, rGt, rGe, rAddI, rIx, l_at0, l_at1, l_at2, l_at3, l_at4, Int.reduceToNat, l_eqI, l_neI, l_eqB, l_neB, List.getElem?_cons_zero, List.getElem?_cons_succ, List.set_cons_zero, List.set_cons_succ, List.map_cons, List.map_nil, List.append_nil, List.cons_append, List.nil_append, List.replicate_succ, List.replicate_zero, Option.isSome_some, List.getD_cons_zero, List.getD_cons_succ, forall_const, true_and, and_true]
  refine order_l3 h _ fun x4 x5 o4 o5 => ?_
  simp only [oEnv, b_order_of_r12, dSeq, dSet, dRet, dRetN, dDrop, dIfS, dNext, dFr, dFz, dVar, dC, dOp, dB, dChain, dAnd, dOr, dNot, dAndV, dOrV, dNotV, dIf, dNeg, dRev, dBack, dDic0, dCons, dNil, dTup, dLst, dRep, dIxV, dInV, dLenV, dCallB, dCall, dIsi, dItems, dRange1, dEnum, dZip, dYes, dgName, dgTup, dgCons, dgNil, dAsg, dApp, dPopAt, dAugIx, dSetIx, dCallL, dBits, dLstRg1, dFldV, dSetF, dMake, dCut, dPart, dNoPart, rCut, endsOf, exitT, peek, setOk, withOw, isOw, withT, lentQ, l_lend1, l_lend2, l_lend3, l_back1, l_back2, l_back3, l_kind1, l_kind2, l_kind3, l_kind4, l_kind5, l_kind6, l_frz1, l_frz2, l_frz3, l_frz4, noOw, wipeT, restT, cLen, cInt, cAbs, cTuple, cList, cStr, keyD, rIsB, rIsNotB, rAdd, rSub, rMul, rMod, rDiv, rPow, rShl, rShr, rBand, rBor, rLt, rLe, rGt, rGe, rAddI, rIx, l_at0, l_at1, l_at2, l_at3, l_at4, Int.reduceToNat, l_eqI, l_neI, l_eqB, l_neB, List.getElem?_cons_zero, List.getElem?_cons_succ, List.set_cons_zero, List.set_cons_succ, List.map_cons, List.map_nil, List.append_nil, List.cons_append, List.nil_append, List.replicate_succ, List.replicate_zero, Option.isSome_some, List.getD_cons_zero, List.getD_cons_succ, forall_const, true_and, and_true]
  unfold b_order_of_c4 dLc
  simp only [dRange1, dVar, List.getElem?_cons_zero]
  refine ⟨by omega, by omega, ?_⟩
  rw [rgD_nat]
  refine lc_nats (fun v => inC ar [] v == 0) (by rw [List.length_range]; omega) (by simp [noOw]) (fun v hv Y N hy hn' => ?_) ?_
  · have hv' := List.mem_range.mp hv
    have l1 : atD (natsD ((List.range n).map (inC ar []))) (v : Int) = some (nD (inC ar [] v)) := atD_nat (by
      rw [natsD_get, row_at _ hv']
      rfl)
    simp only [dSeq, dSet, dRet, dRetN, dDrop, dIfS, dNext, dFr, dFz, dVar, dC, dOp, dB, dChain, dAnd, dOr, dNot, dAndV, dOrV, dNotV, dIf, dNeg, dRev, dBack, dDic0, dCons, dNil, dTup, dLst, dRep, dIxV, dInV, dLenV, dCallB, dCall, dIsi, dItems, dRange1, dEnum, dZip, dYes, dgName, dgTup, dgCons, dgNil, dAsg, dApp, dPopAt, dAugIx, dSetIx, dCallL, dBits, dLstRg1, dFldV, dSetF, dMake, dCut, dPart, dNoPart, rCut, endsOf, exitT, peek, setOk, withOw, isOw, withT, lentQ, l_lend1, l_lend2, l_lend3, l_back1, l_back2, l_back3, l_kind1, l_kind2, l_kind3, l_kind4, l_kind5, l_kind6, l_frz1, l_frz2, l_frz3, l_frz4, noOw, wipeT, restT, cLen, cInt, cAbs, cTuple, cList, cStr, keyD, rIsB, rIsNotB, rAdd, rSub, rMul, rMod, rDiv, rPow, rShl, rShr, rBand, rBor, rLt, rLe, rGt, rGe, rAddI, rIx, l_at0, l_at1, l_at2, l_at3, l_at4, Int.reduceToNat, l_eqI, l_neI, l_eqB, l_neB, List.getElem?_cons_zero, List.getElem?_cons_succ, List.set_cons_zero, List.set_cons_succ, List.map_cons, List.map_nil, List.append_nil, List.cons_append, List.nil_append, List.replicate_succ, List.replicate_zero, Option.isSome_some, List.getD_cons_zero, List.getD_cons_succ, forall_const, true_and, and_true, l1]
    by_cases hz : inC ar [] v = 0
    · have hz1 : ((inC ar [] v : Nat) : Int) = 0 := by omega
      simp only [hz1, decide_true]
      exact hy (by simp [hz])
    · have hz1 : ¬ ((inC ar [] v : Nat) : Int) = 0 := by omega
      simp only [hz1, decide_false]
      exact hn' (by simp [hz])
  simp only [b_order_of_r11, dSeq, dSet, dRet, dRetN, dDrop, dIfS, dNext, dFr, dFz, dVar, dC, dOp, dB, dChain, dAnd, dOr, dNot, dAndV, dOrV, dNotV, dIf, dNeg, dRev, dBack, dDic0, dCons, dNil, dTup, dLst, dRep, dIxV, dInV, dLenV, dCallB, dCall, dIsi, dItems, dRange1, dEnum, dZip, dYes, dgName, dgTup, dgCons, dgNil, dAsg, dApp, dPopAt, dAugIx, dSetIx, dCallL, dBits, dLstRg1, dFldV, dSetF, dMake, dCut, dPart, dNoPart, rCut, endsOf, exitT, peek, setOk, withOw, isOw, withT, lentQ, l_lend1, l_lend2, l_lend3, l_back1, l_back2, l_back3, l_kind1, l_kind2, l_kind3, l_kind4, l_kind5, l_kind6, l_frz1, l_frz2, l_frz3, l_frz4, noOw, wipeT, restT, cLen, cInt, cAbs, cTuple, cList, cStr, keyD, rIsB, rIsNotB, rAdd, rSub, rMul, rMod, rDiv, rPow, rShl, rShr, rBand, rBor, rLt, rLe, rGt, rGe, rAddI, rIx, l_at0, l_at1, l_at2, l_at3, l_at4, Int.reduceToNat, l_eqI, l_neI, l_eqB, l_neB, List.getElem?_cons_zero, List.getElem?_cons_succ, List.set_cons_zero, List.set_cons_succ, List.map_cons, List.map_nil, List.append_nil, List.cons_append, List.nil_append, List.replicate_succ, List.replicate_zero, Option.isSome_some, List.getD_cons_zero, List.getD_cons_succ, forall_const, true_and, and_true]
  refine ⟨fun m τ => ∃ (found : List Nat) (done : Nat) (x3 x4 x5 : Option T), τ = oE2 n ar (inC ar (found.take done)) x3 x4 x5 found done ∧ (x3 = some (.o2 (rowsO n ar)) ∨ x3 = some (.fr (.lst ((rowsO n ar).map .lst)))) ∧ okS x4 ∧ okS x5 ∧ OrdI n ar found done ∧ m = n - done, ⟨n, _, 0, some (.o2 (rowsO n ar)), x4, x5, rfl, .inl rfl, o4, o5, ⟨?_, ?_, Nat.zero_le _, ?_, ?_⟩, by simp⟩, ?_⟩
  · exact List.Nodup.sublist List.filter_sublist List.nodup_range
  · exact fun p hp => List.mem_range.mp (List.mem_filter.mp hp).1
  · intro v hv
    rw [List.take_zero, List.mem_filter, List.mem_range]
    simp [hv]
  · intro j v hj b hb
    have := (List.mem_filter.mp (List.mem_of_getElem? hj)).2
    have hz : inC ar [] v = 0 := by simpa using this
    exact absurd (inC_zero.mp hz _ hb rfl) (by simp)
  · rintro m τ ⟨found, done, x3, x4, x5, rfl, o3, o4, o5, I, rfl⟩
    have hfn := nodup_le I.nd I.lt
    by_cases hlt : done < found.length
    · have hlt' : (done : Int) < (found.length : Int) := by omega
      simp only [oE2, oEnv, dSeq, dSet, dRet, dRetN, dDrop, dIfS, dNext, dFr, dFz, dVar, dC, dOp, dB, dChain, dAnd, dOr, dNot, dAndV, dOrV, dNotV, dIf, dNeg, dRev, dBack, dDic0, dCons, dNil, dTup, dLst, dRep, dIxV, dInV, dLenV, dCallB, dCall, dIsi, dItems, dRange1, dEnum, dZip, dYes, dgName, dgTup, dgCons, dgNil, dAsg, dApp, dPopAt, dAugIx, dSetIx, dCallL, dBits, dLstRg1, dFldV, dSetF, dMake, dCut, dPart, dNoPart, rCut, endsOf, exitT, peek, setOk, withOw, isOw, withT, lentQ, l_lend1, l_lend2, l_lend3, l_back1, l_back2, l_back3, l_kind1, l_kind2, l_kind3, l_kind4, l_kind5, l_kind6, l_frz1, l_frz2, l_frz3, l_frz4, noOw, wipeT, restT, cLen, cInt, cAbs, cTuple, cList, cStr, keyD, rIsB, rIsNotB, rAdd, rSub, rMul, rMod, rDiv, rPow, rShl, rShr, rBand, rBor, rLt, rLe, rGt, rGe, rAddI, rIx, l_at0, l_at1, l_at2, l_at3, l_at4, Int.reduceToNat, l_eqI, l_neI, l_eqB, l_neB, List.getElem?_cons_zero, List.getElem?_cons_succ, List.set_cons_zero, List.set_cons_succ, List.map_cons, List.map_nil, List.append_nil, List.cons_append, List.nil_append, List.replicate_succ, List.replicate_zero, Option.isSome_some, List.getD_cons_zero, List.getD_cons_succ, forall_const, true_and, and_true, natsD_length, hlt', decide_true, b_order_of_b8]
      refine order_l6 h I hlt o3 o4 o5 _ fun found' x5 I' hl' o5 => ?_
      simp only [oE2, oEnv, b_order_of_r7, dAug, dSeq, dSet, dRet, dRetN, dDrop, dIfS, dNext, dFr, dFz, dVar, dC, dOp, dB, dChain, dAnd, dOr, dNot, dAndV, dOrV, dNotV, dIf, dNeg, dRev, dBack, dDic0, dCons, dNil, dTup, dLst, dRep, dIxV, dInV, dLenV, dCallB, dCall, dIsi, dItems, dRange1, dEnum, dZip, dYes, dgName, dgTup, dgCons, dgNil, dAsg, dApp, dPopAt, dAugIx, dSetIx, dCallL, dBits, dLstRg1, dFldV, dSetF, dMake, dCut, dPart, dNoPart, rCut, endsOf, exitT, peek, setOk, withOw, isOw, withT, lentQ, l_lend1, l_lend2, l_lend3, l_back1, l_back2, l_back3, l_kind1, l_kind2, l_kind3, l_kind4, l_kind5, l_kind6, l_frz1, l_frz2, l_frz3, l_frz4, noOw, wipeT, restT, cLen, cInt, cAbs, cTuple, cList, cStr, keyD, rIsB, rIsNotB, rAdd, rSub, rMul, rMod, rDiv, rPow, rShl, rShr, rBand, rBor, rLt, rLe, rGt, rGe, rAddI, rIx, l_at0, l_at1, l_at2, l_at3, l_at4, Int.reduceToNat, l_eqI, l_neI, l_eqB, l_neB, List.getElem?_cons_zero, List.getElem?_cons_succ, List.set_cons_zero, List.set_cons_succ, List.map_cons, List.map_nil, List.append_nil, List.cons_append, List.nil_append, List.replicate_succ, List.replicate_zero, Option.isSome_some, List.getD_cons_zero, List.getD_cons_succ, forall_const, true_and, and_true]
      exact ⟨n - (done + 1), by omega, found', done + 1, _, x4, x5, rfl, .inr rfl, o4, o5, I', rfl⟩
    · have hlt' : ¬ (done : Int) < (found.length : Int) := by omega
      simp only [oE2, oEnv, dSeq, dSet, dRet, dRetN, dDrop, dIfS, dNext, dFr, dFz, dVar, dC, dOp, dB, dChain, dAnd, dOr, dNot, dAndV, dOrV, dNotV, dIf, dNeg, dRev, dBack, dDic0, dCons, dNil, dTup, dLst, dRep, dIxV, dInV, dLenV, dCallB, dCall, dIsi, dItems, dRange1, dEnum, dZip, dYes, dgName, dgTup, dgCons, dgNil, dAsg, dApp, dPopAt, dAugIx, dSetIx, dCallL, dBits, dLstRg1, dFldV, dSetF, dMake, dCut, dPart, dNoPart, rCut, endsOf, exitT, peek, setOk, withOw, isOw, withT, lentQ, l_lend1, l_lend2, l_lend3, l_back1, l_back2, l_back3, l_kind1, l_kind2, l_kind3, l_kind4, l_kind5, l_kind6, l_frz1, l_frz2, l_frz3, l_frz4, noOw, wipeT, restT, cLen, cInt, cAbs, cTuple, cList, cStr, keyD, rIsB, rIsNotB, rAdd, rSub, rMul, rMod, rDiv, rPow, rShl, rShr, rBand, rBor, rLt, rLe, rGt, rGe, rAddI, rIx, l_at0, l_at1, l_at2, l_at3, l_at4, Int.reduceToNat, l_eqI, l_neI, l_eqB, l_neB, List.getElem?_cons_zero, List.getElem?_cons_succ, List.set_cons_zero, List.set_cons_succ, List.map_cons, List.map_nil, List.append_nil, List.cons_append, List.nil_append, List.replicate_succ, List.replicate_zero, Option.isSome_some, List.getD_cons_zero, List.getD_cons_succ, forall_const, true_and, and_true, natsD_length, hlt', decide_false, b_order_of_r10]
      have hdl : found.take done = found := List.take_of_length_le (by omega)
      refine q found ⟨I.nd, I.lt, fun a ha j hj => I.topo j a.2 hj a.1 ha, fun v hv hvf => ?_⟩
      have hz : ¬ inC ar found v = 0 := fun z => hvf ((I.zero v hv).mpr (by rw [hdl]; exact z))
      refine Classical.byContradiction fun no => hz (inC_zero.mpr fun a ha hav => ?_)
      exact Classical.byContradiction fun z => no ⟨a, ha, hav, z⟩
/-- the arrows below i that begin at p, by number; .. that end there -/
def outsK (ar : Ar) (i p : Nat) : List Nat := (List.range i).filter fun k => (ar[k]?.map (·.1)) == some p
def insK (ar : Ar) (i p : Nat) : List Nat := (List.range i).filter fun k => (ar[k]?.map (·.2)) == some p
theorem outsK_succ {ar : Ar} {i : Nat} {a : Nat × Nat} (h : ar[i]? = some a) (p : Nat) : outsK ar (i + 1) p = if p = a.1 then outsK ar i p ++ [i] else outsK ar i p := by
  unfold outsK
  rw [List.range_succ, List.filter_append, List.filter_cons, h]
  by_cases hp : p = a.1
  · simp [hp]
  · have : ¬ a.1 = p := fun z => hp z.symm
    simp [hp, this]
theorem insK_succ {ar : Ar} {i : Nat} {a : Nat × Nat} (h : ar[i]? = some a) (p : Nat) : insK ar (i + 1) p = if p = a.2 then insK ar i p ++ [i] else insK ar i p := by
  unfold insK
  rw [List.range_succ, List.filter_append, List.filter_cons, h]
  by_cases hp : p = a.2
  · simp [hp]
  · have : ¬ a.2 = p := fun z => hp z.symm
    simp [hp, this]
def rowsK (n : Nat) (f : Nat → List Nat) : List (List D) := (List.range n).map fun p => natsD (f p)
theorem rowsK_set {n e i : Nat} {f g : Nat → List Nat} (he : e < n) (hg : ∀ p, g p = if p = e then f p ++ [i] else f p) : (rowsK n f).set e (natsD (f e) ++ [nD i]) = rowsK n g := by
  unfold rowsK
  rw [map_set _ _ he]
  refine List.map_congr_left fun p _ => ?_
  rw [hg]
  by_cases hp : p = e
  · rw [if_pos hp, if_pos hp, hp, natsD_append]
    rfl
  · rw [if_neg hp, if_neg hp]
theorem rowsK_at {n p : Nat} {f : Nat → List Nat} (h : p < n) : (rowsK n f)[p]? = some (natsD (f p)) := row_at _ h
/-- the fields so far -/
def wF1 (n : Nat) : List (Str × O) := [("places", .fr (nD n))]
def wF2 (n : Nat) (ar : Ar) : List (Str × O) := [("places", .fr (nD n)), ("arrows", .fr (arsD ar))]
def wF3 (n : Nat) (ar : Ar) (o : O) : List (Str × O) := [("places", .fr (nD n)), ("arrows", .fr (arsD ar)), ("outs", o)]
def wF4 (n : Nat) (ar : Ar) (o i : O) : List (Str × O) := [("places", .fr (nD n)), ("arrows", .fr (arsD ar)), ("outs", o), ("ins", i)]
def wF5 (n : Nat) (ar : Ar) (o i r : O) : List (Str × O) := [("places", .fr (nD n)), ("arrows", .fr (arsD ar)), ("outs", o), ("ins", i), ("order", r)]
def wF6 (n : Nat) (ar : Ar) (o i r e : O) : List (Str × O) := [("places", .fr (nD n)), ("arrows", .fr (arsD ar)), ("outs", o), ("ins", i), ("order", r), ("reach", e)]
theorem pF1 (n : Nat) : putO (Str.ofString "places") (.fr (nD n)) [] = wF1 n := rfl
theorem pF2 (n : Nat) (ar : Ar) : putO (Str.ofString "arrows") (.fr (arsD ar)) (wF1 n) = wF2 n ar := rfl
theorem pF3 (n : Nat) (ar : Ar) (o : O) : putO (Str.ofString "outs") o (wF2 n ar) = wF3 n ar o := rfl
theorem pF4 (n : Nat) (ar : Ar) (o i : O) : putO (Str.ofString "ins") i (wF3 n ar o) = wF4 n ar o i := rfl
theorem pF4o (n : Nat) (ar : Ar) (o o' i : O) : putO (Str.ofString "outs") o' (wF4 n ar o i) = wF4 n ar o' i := rfl
theorem pF4i (n : Nat) (ar : Ar) (o i i' : O) : putO (Str.ofString "ins") i' (wF4 n ar o i) = wF4 n ar o i' := rfl
theorem pF5 (n : Nat) (ar : Ar) (o i r : O) : putO (Str.ofString "order") r (wF4 n ar o i) = wF5 n ar o i r := rfl
theorem pF6 (n : Nat) (ar : Ar) (o i r e : O) : putO (Str.ofString "reach") e (wF5 n ar o i r) = wF6 n ar o i r e := rfl
theorem pF6o (n : Nat) (ar : Ar) (o o' i r e : O) : putO (Str.ofString "outs") o' (wF6 n ar o i r e) = wF6 n ar o' i r e := rfl
theorem pF6e (n : Nat) (ar : Ar) (o i r e e' : O) : putO (Str.ofString "reach") e' (wF6 n ar o i r e) = wF6 n ar o i r e' := rfl
theorem gF4o (n : Nat) (ar : Ar) (o i : O) : (wF4 n ar o i).lookup (Str.ofString "outs") = some o := rfl
theorem gF4i (n : Nat) (ar : Ar) (o i : O) : (wF4 n ar o i).lookup (Str.ofString "ins") = some i := rfl
theorem gF6o (n : Nat) (ar : Ar) (o i r e : O) : (wF6 n ar o i r e).lookup (Str.ofString "outs") = some o := rfl
theorem gF6r (n : Nat) (ar : Ar) (o i r e : O) : (wF6 n ar o i r e).lookup (Str.ofString "order") = some r := rfl
theorem gF6e (n : Nat) (ar : Ar) (o i r e : O) : (wF6 n ar o i r e).lookup (Str.ofString "reach") = some e := rfl
def kEnv (c n : Nat) (ar : Ar) (fs : List (Str × O)) (x3 x4 x5 x6 : Option T) : Env := [some (.oi true c fs), some (.fr (nD n)), some (.fr (arsD ar)), x3, x4, x5, x6]
theorem keep_l4 {c n : Nat} {ar : Ar} (hc : webC c) (h : ArIn n ar) (E : DEnds) (hE : ∀ x3 x4 x5, okS x3 → okS x4 → okS x5 → E.nx (kEnv c n ar (wF4 n ar (.o2 (rowsK n (outsK ar ar.length))) (.o2 (rowsK n (insK ar ar.length)))) x3 x4 x5 none)) :
    b_Web_keep_l4 E (kEnv c n ar (wF4 n ar (.o2 (rowsK n (outsK ar 0))) (.o2 (rowsK n (insK ar 0)))) none none none none) := by
  have hpo : pf_outs c := by (have hc2 := hc; simp only [webC, List.mem_cons, List.not_mem_nil, or_false] at hc2; show c ∈ _; simp only [List.mem_cons, List.not_mem_nil, or_false]; omega)
  have hpi : pf_ins c := by (have hc2 := hc; simp only [webC, List.mem_cons, List.not_mem_nil, or_false] at hc2; show c ∈ _; simp only [List.mem_cons, List.not_mem_nil, or_false]; omega)
  have hkl : ∀ (i : Nat) (f : Nat → Bool), i ≤ ar.length → ((List.range i).filter f).length ≤ 1000000 := fun i f hi => by
    have h1 := List.length_filter_le f (List.range i)
    rw [List.length_range] at h1
    have := h.few
    omega
  show ForB (enumD (ar.map arrD)) _ _ _ _
  refine forB (fun i τ => ∃ (x3 x4 x5 : Option T), τ = kEnv c n ar (wF4 n ar (.o2 (rowsK n (outsK ar i))) (.o2 (rowsK n (insK ar i)))) x3 x4 x5 none ∧ okS x3 ∧ okS x4 ∧ okS x5) ⟨none, none, none, rfl, trivial, trivial, trivial⟩ ?_ ?_
  · rintro i d τ hi ⟨x3, x4, x5, rfl, o3, o4, o5⟩
    obtain ⟨x, hx, rfl⟩ := enumD_get hi
    rw [List.getElem?_map] at hx
    obtain ⟨a, ha, rfl⟩ := Option.map_eq_some_iff.mp hx
    have hm := h.lt a (List.mem_of_getElem? ha)
    have hil : i ≤ ar.length := Nat.le_of_lt (List.getElem?_eq_some_iff.mp ha).1
    simp only [kEnv, arrD, dSeq, dSet, dRet, dRetN, dDrop, dIfS, dNext, dFr, dFz, dVar, dC, dOp, dB, dChain, dAnd, dOr, dNot, dAndV, dOrV, dNotV, dIf, dNeg, dRev, dBack, dDic0, dCons, dNil, dTup, dLst, dRep, dIxV, dInV, dLenV, dCallB, dCall, dIsi, dItems, dRange1, dEnum, dZip, dYes, dgName, dgTup, dgCons, dgNil, dAsg, dApp, dPopAt, dAugIx, dSetIx, dCallL, dBits, dLstRg1, dFldV, dSetF, dMake, dCut, dPart, dNoPart, rCut, endsOf, exitT, peek, setOk, withOw, isOw, withT, lentQ, l_lend1, l_lend2, l_lend3, l_back1, l_back2, l_back3, l_kind1, l_kind2, l_kind3, l_kind4, l_kind5, l_kind6, l_frz1, l_frz2, l_frz3, l_frz4, noOw, wipeT, restT, cLen, cInt, cAbs, cTuple, cList, cStr, keyD, rIsB, rIsNotB, rAdd, rSub, rMul, rMod, rDiv, rPow, rShl, rShr, rBand, rBor, rLt, rLe, rGt, rGe, rAddI, rIx, l_at0, l_at1, l_at2, l_at3, l_at4, Int.reduceToNat, l_eqI, l_neI, l_eqB, l_neB, List.getElem?_cons_zero, List.getElem?_cons_succ, List.set_cons_zero, List.set_cons_succ, List.map_cons, List.map_nil, List.append_nil, List.cons_append, List.nil_append, List.replicate_succ, List.replicate_zero, Option.isSome_some, List.getD_cons_zero, List.getD_cons_succ, forall_const, true_and, and_true]
    refine ⟨rfl, o3, rfl, o4, o5, ?_⟩
    refine ⟨true, c, _, _, rfl, hpo, gF4o .., ?_⟩
    simp only [dSeq, dSet, dRet, dRetN, dDrop, dIfS, dNext, dFr, dFz, dVar, dC, dOp, dB, dChain, dAnd, dOr, dNot, dAndV, dOrV, dNotV, dIf, dNeg, dRev, dBack, dDic0, dCons, dNil, dTup, dLst, dRep, dIxV, dInV, dLenV, dCallB, dCall, dIsi, dItems, dRange1, dEnum, dZip, dYes, dgName, dgTup, dgCons, dgNil, dAsg, dApp, dPopAt, dAugIx, dSetIx, dCallL, dBits, dLstRg1, dFldV, dSetF, dMake, dCut, dPart, dNoPart, rCut, endsOf, exitT, peek, setOk, withOw, isOw, withT, lentQ, l_lend1, l_lend2, l_lend3, l_back1, l_back2, l_back3, l_kind1, l_kind2, l_kind3, l_kind4, l_kind5, l_kind6, l_frz1, l_frz2, l_frz3, l_frz4, noOw, wipeT, restT, cLen, cInt, cAbs, cTuple, cList, cStr, keyD, rIsB, rIsNotB, rAdd, rSub, rMul, rMod, rDiv, rPow, rShl, rShr, rBand, rBor, rLt, rLe, rGt, rGe, rAddI, rIx, l_at0, l_at1, l_at2, l_at3, l_at4, Int.reduceToNat, l_eqI, l_neI, l_eqB, l_neB, List.getElem?_cons_zero, List.getElem?_cons_succ, List.set_cons_zero, List.set_cons_succ, List.map_cons, List.map_nil, List.append_nil, List.cons_append, List.nil_append, List.replicate_succ, List.replicate_zero, Option.isSome_some, List.getD_cons_zero, List.getD_cons_succ, forall_const, true_and, and_true]
    refine ⟨(a.1 : Int), natsD (outsK ar i a.1), rfl, by omega, by rw [Int.toNat_natCast]; exact rowsK_at hm.1, by rw [natsD_length]; exact hkl i _ hil, ?_⟩
    rw [Int.toNat_natCast, rowsK_set hm.1 (outsK_succ ha), pF4o]
    refine ⟨true, c, _, _, rfl, hpi, gF4i .., ?_⟩
    simp only [dSeq, dSet, dRet, dRetN, dDrop, dIfS, dNext, dFr, dFz, dVar, dC, dOp, dB, dChain, dAnd, dOr, dNot, dAndV, dOrV, dNotV, dIf, dNeg, dRev, dBack, dDic0, dCons, dNil, dTup, dLst, dRep, dIxV, dInV, dLenV, dCallB, dCall, dIsi, dItems, dRange1, dEnum, dZip, dYes, dgName, dgTup, dgCons, dgNil, dAsg, dApp, dPopAt, dAugIx, dSetIx, dCallL, dBits, dLstRg1, dFldV, dSetF, dMake, dCut, dPart, dNoPart, rCut, endsOf, exitT, peek, setOk, withOw, isOw, withT, lentQ, l_lend1, l_lend2, l_lend3, l_back1, l_back2, l_back3, l_kind1, l_kind2, l_kind3, l_kind4, l_kind5, l_kind6, l_frz1, l_frz2, l_frz3, l_frz4, noOw, wipeT, restT, cLen, cInt, cAbs, cTuple, cList, cStr, keyD, rIsB, rIsNotB, rAdd, rSub, rMul, rMod, rDiv, rPow, rShl, rShr, rBand, rBor, rLt, rLe, rGt, rGe, rAddI, rIx, l_at0, l_at1, l_at2, l_at3, l_at4, Int.reduceToNat, l_eqI, l_neI, l_eqB, l_neB, List.getElem?_cons_zero, List.getElem?_cons_succ, List.set_cons_zero, List.set_cons_succ, List.map_cons, List.map_nil, List.append_nil, List.cons_append, List.nil_append, List.replicate_succ, List.replicate_zero, Option.isSome_some, List.getD_cons_zero, List.getD_cons_succ, forall_const, true_and, and_true]
    refine ⟨(a.2 : Int), natsD (insK ar i a.2), rfl, by omega, by rw [Int.toNat_natCast]; exact rowsK_at hm.2, by rw [natsD_length]; exact hkl i _ hil, ?_⟩
    rw [Int.toNat_natCast, rowsK_set hm.2 (insK_succ ha), pF4i]
    exact ⟨some (.fr (nD i)), some (.fr (nD a.1)), some (.fr (nD a.2)), rfl, rfl, rfl, rfl⟩
  · rintro τ ⟨x3, x4, x5, rfl, o3, o4, o5⟩
    rw [enumD_length, List.length_map]
    exact hE x3 x4 x5 o3 o4 o5
def RB (ar : Ar) (n : Nat) (dn rl : List Nat) : Prop := rl.length = n ∧ ∀ (p r : Nat), rl[p]? = some r → ∀ v, r.testBit v = true ↔ (if p ∈ dn then Rch ar p v else v = p)
def RBi (ar : Ar) (n : Nat) (dn : List Nat) (u j : Nat) (rl : List Nat) : Prop := rl.length = n ∧ ∀ (p r : Nat), rl[p]? = some r → ∀ v, r.testBit v = true ↔ (if p ∈ dn then Rch ar p v else if p = u then (v = u ∨ ∃ k ∈ (outsK ar ar.length u).take j, ∃ a, ar[k]? = some a ∧ Rch ar a.2 v) else v = p)
theorem outsK_mem {ar : Ar} {u k : Nat} : k ∈ outsK ar ar.length u ↔ ∃ e, ar[k]? = some (u, e) := by
  unfold outsK
  rw [List.mem_filter, List.mem_range]
  constructor
  · rintro ⟨h1, h2⟩
    rw [List.getElem?_eq_getElem h1] at h2 ⊢
    have h3 : ar[k].1 = u := by simpa using h2
    exact ⟨ar[k].2, by rw [← h3]⟩
  · rintro ⟨e, h⟩
    exact ⟨(List.getElem?_eq_some_iff.mp h).1, by rw [h]; simp⟩
theorem rbi_end {ar : Ar} {n : Nat} {dn : List Nat} {u : Nat} {rl : List Nat} (hu : u ∉ dn) (h : RBi ar n dn u (outsK ar ar.length u).length rl) : RB ar n (dn ++ [u]) rl := by
  refine ⟨h.1, fun p r hp v => (h.2 p r hp v).trans ?_⟩
  rw [List.take_length]
  by_cases h1 : p ∈ dn
  · rw [if_pos h1, if_pos (List.mem_append_left _ h1)]
  · rw [if_neg h1]
    by_cases h2 : p = u
    · subst h2
      rw [if_pos rfl, if_pos (by simp)]
      constructor
      · rintro (rfl | ⟨k, hk, a, ha, r⟩)
        · exact .refl _
        · obtain ⟨e, he⟩ := outsK_mem.mp hk
          rw [ha] at he
          cases he
          exact .step (List.mem_of_getElem? ha) r
      · intro r
        cases r with
        | refl => exact .inl rfl
        | @step _ e _ a r =>
          obtain ⟨k, hk⟩ := List.mem_iff_getElem?.mp a
          exact .inr ⟨k, outsK_mem.mpr ⟨e, hk⟩, _, hk, r⟩
    · rw [if_neg h2, if_neg (by simp [h1, h2])]
theorem l_or (a b : Nat) : Builtin.bitOr (a : Int) (b : Int) = ((a ||| b : Nat) : Int) := by
  rw [L2.bitOr_nn (by omega) (by omega), Int.toNat_natCast, Int.toNat_natCast]
def wEnv (c n : Nat) (ar : Ar) (o i r : O) (rl : List Nat) (x3 x4 x5 x6 : Option T) : Env := kEnv c n ar (wF6 n ar o i r (.ol (natsD rl))) x3 x4 x5 x6
def outsO (n : Nat) (ar : Ar) : O := .fr (.lst ((rowsK n (outsK ar ar.length)).map .lst))
theorem keep_l7 {c n : Nat} {ar : Ar} (hc : webC c) (h : ArIn n ar) {o i r : O} (ho : o = .o2 (rowsK n (outsK ar ar.length)) ∨ o = outsO n ar) {dn rl : List Nat} {u : Nat} (hu : u < n) (hud : u ∉ dn) (hh : ∀ e, (u, e) ∈ ar → e ∈ dn) {x3 x4 x5 : Option T} (o3 : okS x3) (hrb : RB ar n dn rl) (E : DEnds)
    (hE : ∀ rl' x3, RB ar n (dn ++ [u]) rl' → okS x3 → E.nx (wEnv c n ar (outsO n ar) i r rl' x3 x4 x5 (some (.fr (nD u))))) :
    b_Web_keep_l7 E (wEnv c n ar o i r rl x3 x4 x5 (some (.fr (nD u)))) := by
  have hpo : pf_outs c := by (have hc2 := hc; simp only [webC, List.mem_cons, List.not_mem_nil, or_false] at hc2; show c ∈ _; simp only [List.mem_cons, List.not_mem_nil, or_false]; omega)
  have hpr : pf_reach c := by (have hc2 := hc; simp only [webC, List.mem_cons, List.not_mem_nil, or_false] at hc2; show c ∈ _; simp only [List.mem_cons, List.not_mem_nil, or_false]; omega)
  have a2 : atD ((rowsK n (outsK ar ar.length)).map D.lst) (u : Int) = some (.lst (natsD (outsK ar ar.length u))) := atD_nat (by rw [List.getElem?_map, rowsK_at hu]; rfl)
  have body : ForB (natsD (outsK ar ar.length u)) (wEnv c n ar (outsO n ar) i r rl x3 x4 x5 (some (.fr (nD u)))) (dgName 3) b_Web_keep_b6 E := by
    refine forB (fun j τ => ∃ (rl : List Nat) (x3 : Option T), τ = wEnv c n ar (outsO n ar) i r rl x3 x4 x5 (some (.fr (nD u))) ∧ RBi ar n dn u j rl ∧ okS x3) ⟨rl, x3, rfl, ⟨hrb.1, fun p r hp v => (hrb.2 p r hp v).trans ?_⟩, o3⟩ ?_ ?_
    · by_cases h1 : p ∈ dn
      · rw [if_pos h1, if_pos h1]
      · rw [if_neg h1, if_neg h1]
        by_cases h2 : p = u
        · rw [if_pos h2, h2]
          simp
        · rw [if_neg h2]
    · rintro j d τ hj ⟨rl, x3, rfl, hrl, o3⟩
      rw [natsD_get] at hj
      obtain ⟨k, hk, rfl⟩ := Option.map_eq_some_iff.mp hj
      obtain ⟨e, hke⟩ := outsK_mem.mp (List.mem_of_getElem? hk)
      have hea := List.mem_of_getElem? hke
      have hen := (h.lt _ hea).2
      have hed := hh e hea
      have hul : u < rl.length := by rw [hrl.1]; exact hu
      have hel : e < rl.length := by rw [hrl.1]; exact hen
      have b1 : atD (natsD rl) (u : Int) = some (nD rl[u]) := atD_nat (by rw [natsD_get, List.getElem?_eq_getElem hul]; rfl)
      have b2 : atD (natsD rl) (e : Int) = some (nD rl[e]) := atD_nat (by rw [natsD_get, List.getElem?_eq_getElem hel]; rfl)
      have b3 : atD (ar.map arrD) (k : Int) = some (arrD (u, e)) := atD_nat (by rw [List.getElem?_map, hke]; rfl)
      simp only [wEnv, kEnv, arsD, b_Web_keep_b6, dSetIxF, dSeq, dSet, dRet, dRetN, dDrop, dIfS, dNext, dFr, dFz, dVar, dC, dOp, dB, dChain, dAnd, dOr, dNot, dAndV, dOrV, dNotV, dIf, dNeg, dRev, dBack, dDic0, dCons, dNil, dTup, dLst, dRep, dIxV, dInV, dLenV, dCallB, dCall, dIsi, dItems, dRange1, dEnum, dZip, dYes, dgName, dgTup, dgCons, dgNil, dAsg, dApp, dPopAt, dAugIx, dSetIx, dCallL, dBits, dLstRg1, dFldV, dSetF, dMake, dCut, dPart, dNoPart, rCut, endsOf, exitT, peek, setOk, withOw, isOw, withT, lentQ, l_lend1, l_lend2, l_lend3, l_back1, l_back2, l_back3, l_kind1, l_kind2, l_kind3, l_kind4, l_kind5, l_kind6, l_frz1, l_frz2, l_frz3, l_frz4, noOw, wipeT, restT, cLen, cInt, cAbs, cTuple, cList, cStr, keyD, rIsB, rIsNotB, rAdd, rSub, rMul, rMod, rDiv, rPow, rShl, rShr, rBand, rBor, rLt, rLe, rGt, rGe, rAddI, rIx, l_at0, l_at1, l_at2, l_at3, l_at4, Int.reduceToNat, l_eqI, l_neI, l_eqB, l_neB, List.getElem?_cons_zero, List.getElem?_cons_succ, List.set_cons_zero, List.set_cons_succ, List.map_cons, List.map_nil, List.append_nil, List.cons_append, List.nil_append, List.replicate_succ, List.replicate_zero, Option.isSome_some, List.getD_cons_zero, List.getD_cons_succ, forall_const, true_and, and_true]
      refine ⟨o3, .inr ⟨true, c, _, _, rfl, hpr, gF6e .., ?_⟩⟩
      simp only [b1, dSeq, dSet, dRet, dRetN, dDrop, dIfS, dNext, dFr, dFz, dVar, dC, dOp, dB, dChain, dAnd, dOr, dNot, dAndV, dOrV, dNotV, dIf, dNeg, dRev, dBack, dDic0, dCons, dNil, dTup, dLst, dRep, dIxV, dInV, dLenV, dCallB, dCall, dIsi, dItems, dRange1, dEnum, dZip, dYes, dgName, dgTup, dgCons, dgNil, dAsg, dApp, dPopAt, dAugIx, dSetIx, dCallL, dBits, dLstRg1, dFldV, dSetF, dMake, dCut, dPart, dNoPart, rCut, endsOf, exitT, peek, setOk, withOw, isOw, withT, lentQ, l_lend1, l_lend2, l_lend3, l_back1, l_back2, l_back3, l_kind1, l_kind2, l_kind3, l_kind4, l_kind5, l_kind6, l_frz1, l_frz2, l_frz3, l_frz4, noOw, wipeT, restT, cLen, cInt, cAbs, cTuple, cList, cStr, keyD, rIsB, rIsNotB, rAdd, rSub, rMul, rMod, rDiv, rPow, rShl, rShr, rBand, rBor, rLt, rLe, rGt, rGe, rAddI, rIx, l_at0, l_at1, l_at2, l_at3, l_at4, Int.reduceToNat, l_eqI, l_neI, l_eqB, l_neB, List.getElem?_cons_zero, List.getElem?_cons_succ, List.set_cons_zero, List.set_cons_succ, List.map_cons, List.map_nil, List.append_nil, List.cons_append, List.nil_append, List.replicate_succ, List.replicate_zero, Option.isSome_some, List.getD_cons_zero, List.getD_cons_succ, forall_const, true_and, and_true]
      refine .inr ⟨true, c, _, _, rfl, hpr, gF6e .., ?_⟩
      simp only [b3, arrD, b2, l_or, dSeq, dSet, dRet, dRetN, dDrop, dIfS, dNext, dFr, dFz, dVar, dC, dOp, dB, dChain, dAnd, dOr, dNot, dAndV, dOrV, dNotV, dIf, dNeg, dRev, dBack, dDic0, dCons, dNil, dTup, dLst, dRep, dIxV, dInV, dLenV, dCallB, dCall, dIsi, dItems, dRange1, dEnum, dZip, dYes, dgName, dgTup, dgCons, dgNil, dAsg, dApp, dPopAt, dAugIx, dSetIx, dCallL, dBits, dLstRg1, dFldV, dSetF, dMake, dCut, dPart, dNoPart, rCut, endsOf, exitT, peek, setOk, withOw, isOw, withT, lentQ, l_lend1, l_lend2, l_lend3, l_back1, l_back2, l_back3, l_kind1, l_kind2, l_kind3, l_kind4, l_kind5, l_kind6, l_frz1, l_frz2, l_frz3, l_frz4, noOw, wipeT, restT, cLen, cInt, cAbs, cTuple, cList, cStr, keyD, rIsB, rIsNotB, rAdd, rSub, rMul, rMod, rDiv, rPow, rShl, rShr, rBand, rBor, rLt, rLe, rGt, rGe, rAddI, rIx, l_at0, l_at1, l_at2, l_at3, l_at4, Int.reduceToNat, l_eqI, l_neI, l_eqB, l_neB, List.getElem?_cons_zero, List.getElem?_cons_succ, List.set_cons_zero, List.set_cons_succ, List.map_cons, List.map_nil, List.append_nil, List.cons_append, List.nil_append, List.replicate_succ, List.replicate_zero, Option.isSome_some, List.getD_cons_zero, List.getD_cons_succ, forall_const, true_and, and_true]
      refine ⟨true, c, _, _, rfl, hpr, gF6e .., ?_⟩
      refine ⟨(u : Int), rfl, by omega, by rw [natsD_length, Int.toNat_natCast]; exact hul, ?_⟩
      rw [pF6e, Int.toNat_natCast, show (natsD rl).set u (D.int ((rl[u] ||| rl[e] : Nat) : Int)) = natsD (rl.set u (rl[u] ||| rl[e])) from (List.map_set ..).symm]
      refine ⟨rl.set u (rl[u] ||| rl[e]), some (.fr (nD k)), rfl, ⟨by rw [List.length_set]; exact hrl.1, fun p r hp v => ?_⟩, rfl⟩
      have etk : (outsK ar ar.length u).take (j + 1) = (outsK ar ar.length u).take j ++ [k] := by
        rw [List.take_add_one, hk]
        rfl
      by_cases hpu : p = u
      · subst hpu
        rw [List.getElem?_set_self hul] at hp
        cases hp
        rw [Nat.testBit_or, Bool.or_eq_true, hrl.2 p _ (List.getElem?_eq_getElem hul) v, hrl.2 e _ (List.getElem?_eq_getElem hel) v, if_neg hud, if_pos rfl, if_pos hed, if_neg hud, if_pos rfl, etk]
        constructor
        · rintro ((h1 | ⟨k', h2, h3⟩) | h4)
          · exact .inl h1
          · exact .inr ⟨k', List.mem_append_left _ h2, h3⟩
          · exact .inr ⟨k, by simp, _, hke, h4⟩
        · rintro (h1 | ⟨k', h2, a, h3, h4⟩)
          · exact .inl (.inl h1)
          · rcases List.mem_append.mp h2 with h2 | h2
            · exact .inl (.inr ⟨k', h2, a, h3, h4⟩)
            · rw [List.mem_singleton.mp h2, hke] at h3
              cases h3
              exact .inr h4
      · rw [List.getElem?_set_ne fun z => hpu z.symm] at hp
        have := hrl.2 p r hp v
        rw [if_neg hpu] at this ⊢
        exact this
    · rintro τ ⟨rl, x3, rfl, hrl, o3⟩
      rw [natsD_length] at hrl
      exact hE rl x3 (rbi_end hud hrl) o3
  unfold b_Web_keep_l7 dFor
  rcases ho with rfl | rfl
  · refine .inl ⟨hpo, ?_⟩
    simp only [gF6o, pF6o, O.frz, dVar, rIx, a2, kEnv, wEnv, List.getElem?_cons_zero, List.getElem?_cons_succ, List.set_cons_zero]
    exact body
  · refine .inl ⟨hpo, ?_⟩
    simp only [gF6o, outsO, dVar, rIx, a2, kEnv, wEnv, List.getElem?_cons_zero, List.getElem?_cons_succ, List.set_cons_zero]
    exact body
theorem take_rev_mem {ord : List Nat} {i j : Nat} {e : Nat} (hj : ord[j]? = some e) (h : ord.length - i ≤ j) : e ∈ ord.reverse.take i := by
  have hlt := (List.getElem?_eq_some_iff.mp hj).1
  rw [List.mem_iff_getElem?]
  refine ⟨ord.length - 1 - j, ?_⟩
  rw [List.getElem?_take, if_pos (by omega), List.getElem?_reverse (by omega), show ord.length - 1 - (ord.length - 1 - j) = j by omega]
  exact hj
theorem shl_nat (p : Nat) : (1 : Int) * 2 ^ ((p : Int)).toNat = ((2 ^ p : Nat) : Int) := by
  rw [Int.toNat_natCast, Int.one_mul]
  norm_cast
theorem rb_start (ar : Ar) (n : Nat) : RB ar n [] ((List.range n).map fun p => 2 ^ p) := by
  refine ⟨by simp, fun p r hp v => ?_⟩
  rw [if_neg (by simp)]
  by_cases h : p < n
  · rw [row_at _ h] at hp
    cases hp
    rw [Nat.testBit_two_pow]
    simp
    exact eq_comm
  · rw [List.getElem?_eq_none (by simp; omega)] at hp
    cases hp
theorem keep_l9 {c n : Nat} {ar : Ar} (hc : webC c) (h : ArOk n ar) {ord : List Nat} (ho : OrdIn n ar ord) {x3 x4 x5 : Option T} (o3 : okS x3) (E : DEnds)
    (hE : ∀ o rl x3 x6, (o = .o2 (rowsK n (outsK ar ar.length)) ∨ o = outsO n ar) → RB ar n ord.reverse rl → E.nx (wEnv c n ar o (.o2 (rowsK n (insK ar ar.length))) (.fr (.lst (natsD ord))) rl x3 x4 x5 x6)) :
    b_Web_keep_l9 E (wEnv c n ar (.o2 (rowsK n (outsK ar ar.length))) (.o2 (rowsK n (insK ar ar.length))) (.fr (.lst (natsD ord))) ((List.range n).map fun p => 2 ^ p) x3 x4 x5 none) := by
  have hpo : pf_order c := by (have hc2 := hc; simp only [webC, List.mem_cons, List.not_mem_nil, or_false] at hc2; show c ∈ _; simp only [List.mem_cons, List.not_mem_nil, or_false]; omega)
  have body : ForB (natsD ord.reverse) (wEnv c n ar (.o2 (rowsK n (outsK ar ar.length))) (.o2 (rowsK n (insK ar ar.length))) (.fr (.lst (natsD ord))) ((List.range n).map fun p => 2 ^ p) x3 x4 x5 none) (dgName 6) b_Web_keep_b8 E := by
    refine forB (fun i τ => ∃ (o : O) (rl : List Nat) (x3 x6 : Option T), τ = wEnv c n ar o (.o2 (rowsK n (insK ar ar.length))) (.fr (.lst (natsD ord))) rl x3 x4 x5 x6 ∧ (o = .o2 (rowsK n (outsK ar ar.length)) ∨ o = outsO n ar) ∧ RB ar n (ord.reverse.take i) rl ∧ okS x3 ∧ okS x6) ⟨_, _, x3, none, rfl, .inl rfl, rb_start ar n, o3, trivial⟩ ?_ ?_
    · rintro i d τ hi ⟨o, rl, x3, x6, rfl, hoo, hrb, o3, o6⟩
      rw [natsD_get] at hi
      obtain ⟨u, hu, rfl⟩ := Option.map_eq_some_iff.mp hi
      have hlt : i < ord.length := by
        have := (List.getElem?_eq_some_iff.mp hu).1
        rw [List.length_reverse] at this
        exact this
      have hun : u < n := ho.lt u (List.mem_reverse.mp (List.mem_of_getElem? hu))
      have hu2 : ord[ord.length - 1 - i]? = some u := by
        rw [List.getElem?_reverse hlt] at hu
        exact hu
      have etk : ord.reverse.take (i + 1) = ord.reverse.take i ++ [u] := by
        rw [List.take_add_one, hu]
        rfl
      have hud : u ∉ ord.reverse.take i := fun z => by
        have nd : (ord.reverse.take (i + 1)).Nodup := List.Nodup.sublist (List.take_sublist _ _) ((List.reverse_perm ord).nodup_iff.mpr ho.nd)
        rw [etk, List.nodup_append] at nd
        exact nd.2.2 u z u (by simp) rfl
      have hh : ∀ e, (u, e) ∈ ar → e ∈ ord.reverse.take i := fun e ha => by
        have hef : e ∈ ord := Classical.byContradiction fun z => by
          have hl := ord_full h ho
          have := nodup_le (List.nodup_cons.mpr ⟨z, ho.nd⟩) (n := n) fun v hv => by
            rcases List.mem_cons.mp hv with hv | hv
            · rw [hv]; exact (h.lt _ ha).2
            · exact ho.lt v hv
          rw [List.length_cons] at this
          omega
        obtain ⟨j, hj⟩ := List.mem_iff_getElem?.mp hef
        obtain ⟨k, hk1, hk2⟩ := ho.topo _ ha j hj
        have hkl := (List.getElem?_eq_some_iff.mp hk2).1
        have := (List.getElem?_inj hkl ho.nd).mp (hk2.trans hu2.symm)
        exact take_rev_mem hj (by omega)
      simp only [wEnv, kEnv, dgName, setOk, List.getElem?_cons_zero, List.getElem?_cons_succ, List.set_cons_zero, List.set_cons_succ]
      refine ⟨o6, ?_⟩
      refine keep_l7 hc h.toArIn hoo hun hud hh o3 hrb _ fun rl' x3 hrb' o3 => ?_
      exact ⟨_, rl', x3, _, rfl, .inr rfl, by rw [etk]; exact hrb', o3, rfl⟩
    · rintro τ ⟨o, rl, x3, x6, rfl, hoo, hrb, o3, o6⟩
      rw [natsD_length, List.take_length] at hrb
      exact hE o rl x3 x6 hoo hrb
  unfold b_Web_keep_l9 dFor
  refine ⟨hpo, ?_⟩
  have er : (natsD ord).reverse = natsD ord.reverse := (List.map_reverse ..).symm
  simp only [gF6r, wEnv, kEnv, er, l_frz2]
  exact body
theorem m_Web_keep : ∀ ts Q R, sp_Web_keep ts Q R → b_Web_keep (endsOf ts Q R) (startT N_Web_keep.length ts) := by
  rintro ts Q R ⟨c, n, ar, hc, rfl, h, q⟩
  have e : startT N_Web_keep.length [.oi true c [], .fr (nD n), .fr (arsD ar)] = [some (.oi true c []), some (.fr (nD n)), some (.fr (arsD ar)), none, none, none, none] := rfl
  rw [e]
  have hn := h.nfew
  have hp1 : pf_places c := by (have hc2 := hc; simp only [webC, List.mem_cons, List.not_mem_nil, or_false] at hc2; show c ∈ _; simp only [List.mem_cons, List.not_mem_nil, or_false]; omega)
  have hp2 : pf_arrows c := by (have hc2 := hc; simp only [webC, List.mem_cons, List.not_mem_nil, or_false] at hc2; show c ∈ _; simp only [List.mem_cons, List.not_mem_nil, or_false]; omega)
  have hp3 : pf_outs c := by (have hc2 := hc; simp only [webC, List.mem_cons, List.not_mem_nil, or_false] at hc2; show c ∈ _; simp only [List.mem_cons, List.not_mem_nil, or_false]; omega)
  have hp4 : pf_ins c := by (have hc2 := hc; simp only [webC, List.mem_cons, List.not_mem_nil, or_false] at hc2; show c ∈ _; simp only [List.mem_cons, List.not_mem_nil, or_false]; omega)
  have hp5 : pf_order c := by (have hc2 := hc; simp only [webC, List.mem_cons, List.not_mem_nil, or_false] at hc2; show c ∈ _; simp only [List.mem_cons, List.not_mem_nil, or_false]; omega)
  have hp6 : pf_reach c := by (have hc2 := hc; simp only [webC, List.mem_cons, List.not_mem_nil, or_false] at hc2; show c ∈ _; simp only [List.mem_cons, List.not_mem_nil, or_false]; omega)
  unfold b_Web_keep
  refine ⟨true, c, _, .fr (nD n), rfl, hp1, by decide, rfl, ?_⟩
  rw [pF1]
  refine ⟨true, c, _, .fr (arsD ar), rfl, hp2, by show 1 < 1000; decide, rfl, ?_⟩
  rw [pF2]
  show dSeq _ _ _ [some (.oi true c (wF2 n ar)), some (.fr (nD n)), some (.fr (arsD ar)), none, none, none, none]
  refine ⟨by omega, by omega, ?_⟩
  rw [rgD_nat]
  refine lcO_map nD (fun _ => []) (List.range n) (by rw [List.length_range]; omega) (by simp [noOw]) (fun x hx Y hy => ?_) ?_
  · simp only [dSeq, dSet, dRet, dRetN, dDrop, dIfS, dNext, dFr, dFz, dVar, dC, dOp, dB, dChain, dAnd, dOr, dNot, dAndV, dOrV, dNotV, dIf, dNeg, dRev, dBack, dDic0, dCons, dNil, dTup, dLst, dRep, dIxV, dInV, dLenV, dCallB, dCall, dIsi, dItems, dRange1, dEnum, dZip, dYes, dgName, dgTup, dgCons, dgNil, dAsg, dApp, dPopAt, dAugIx, dSetIx, dCallL, dBits, dLstRg1, dFldV, dSetF, dMake, dCut, dPart, dNoPart, rCut, endsOf, exitT, peek, setOk, withOw, isOw, withT, lentQ, l_lend1, l_lend2, l_lend3, l_back1, l_back2, l_back3, l_kind1, l_kind2, l_kind3, l_kind4, l_kind5, l_kind6, l_frz1, l_frz2, l_frz3, l_frz4, noOw, wipeT, restT, cLen, cInt, cAbs, cTuple, cList, cStr, keyD, rIsB, rIsNotB, rAdd, rSub, rMul, rMod, rDiv, rPow, rShl, rShr, rBand, rBor, rLt, rLe, rGt, rGe, rAddI, rIx, l_at0, l_at1, l_at2, l_at3, l_at4, Int.reduceToNat, l_eqI, l_neI, l_eqB, l_neB, List.getElem?_cons_zero, List.getElem?_cons_succ, List.set_cons_zero, List.set_cons_succ, List.map_cons, List.map_nil, List.append_nil, List.cons_append, List.nil_append, List.replicate_succ, List.replicate_zero, Option.isSome_some, List.getD_cons_zero, List.getD_cons_succ, forall_const, true_and, and_true]
    exact ⟨by simp, [], rfl, hy⟩
  refine ⟨true, c, wF2 n ar, .o2 ((List.range n).map fun _ => []), rfl, hp3, by show 2 < 1000; decide, rfl, ?_⟩
  rw [pF3]
  show b_Web_keep_r14 _ [some (.oi true c (wF3 n ar (.o2 ((List.range n).map fun _ => [])))), some (.fr (nD n)), some (.fr (arsD ar)), none, none, none, none]
  refine ⟨by omega, by omega, ?_⟩
  rw [rgD_nat]
  refine lcO_map nD (fun _ => []) (List.range n) (by rw [List.length_range]; omega) (by simp [noOw]) (fun x hx Y hy => ?_) ?_
  · simp only [dSeq, dSet, dRet, dRetN, dDrop, dIfS, dNext, dFr, dFz, dVar, dC, dOp, dB, dChain, dAnd, dOr, dNot, dAndV, dOrV, dNotV, dIf, dNeg, dRev, dBack, dDic0, dCons, dNil, dTup, dLst, dRep, dIxV, dInV, dLenV, dCallB, dCall, dIsi, dItems, dRange1, dEnum, dZip, dYes, dgName, dgTup, dgCons, dgNil, dAsg, dApp, dPopAt, dAugIx, dSetIx, dCallL, dBits, dLstRg1, dFldV, dSetF, dMake, dCut, dPart, dNoPart, rCut, endsOf, exitT, peek, setOk, withOw, isOw, withT, lentQ, l_lend1, l_lend2, l_lend3, l_back1, l_back2, l_back3, l_kind1, l_kind2, l_kind3, l_kind4, l_kind5, l_kind6, l_frz1, l_frz2, l_frz3, l_frz4, noOw, wipeT, restT, cLen, cInt, cAbs, cTuple, cList, cStr, keyD, rIsB, rIsNotB, rAdd, rSub, rMul, rMod, rDiv, rPow, rShl, rShr, rBand, rBor, rLt, rLe, rGt, rGe, rAddI, rIx, l_at0, l_at1, l_at2, l_at3, l_at4, Int.reduceToNat, l_eqI, l_neI, l_eqB, l_neB, List.getElem?_cons_zero, List.getElem?_cons_succ, List.set_cons_zero, List.set_cons_succ, List.map_cons, List.map_nil, List.append_nil, List.cons_append, List.nil_append, List.replicate_succ, List.replicate_zero, Option.isSome_some, List.getD_cons_zero, List.getD_cons_succ, forall_const, true_and, and_true]
    exact ⟨by simp, [], rfl, hy⟩
  refine ⟨true, c, wF3 n ar (.o2 ((List.range n).map fun _ => [])), .o2 ((List.range n).map fun _ => []), rfl, hp4, by show 3 < 1000; decide, rfl, ?_⟩
  rw [pF4]
  refine keep_l4 hc h.toArIn _ fun x3 x4 x5 o3 o4 o5 => ?_
  show b_Web_keep_r12 _ (kEnv c n ar _ x3 x4 x5 none)
  refine ⟨n, ar, rfl, h.toArIn, fun ord ho => ?_⟩
  refine ⟨true, c, wF4 n ar (.o2 (rowsK n (outsK ar ar.length))) (.o2 (rowsK n (insK ar ar.length))), .fr (.lst (natsD ord)), rfl, hp5, by show 4 < 1000; decide, rfl, ?_⟩
  rw [pF5]
  show b_Web_keep_r11 _ (kEnv c n ar (wF5 n ar (.o2 (rowsK n (outsK ar ar.length))) (.o2 (rowsK n (insK ar ar.length))) (.fr (.lst (natsD ord)))) x3 x4 x5 none)
  refine ⟨by omega, by omega, ?_⟩
  rw [rgD_nat]
  refine lc_map nD (fun p => nD (2 ^ p)) (List.range n) (by rw [List.length_range]; omega) (by simp [noOw, kEnv]) (fun p hp Y N hy => ?_) ?_
  · have := List.mem_range.mp hp
    simp only [kEnv, dSeq, dSet, dRet, dRetN, dDrop, dIfS, dNext, dFr, dFz, dVar, dC, dOp, dB, dChain, dAnd, dOr, dNot, dAndV, dOrV, dNotV, dIf, dNeg, dRev, dBack, dDic0, dCons, dNil, dTup, dLst, dRep, dIxV, dInV, dLenV, dCallB, dCall, dIsi, dItems, dRange1, dEnum, dZip, dYes, dgName, dgTup, dgCons, dgNil, dAsg, dApp, dPopAt, dAugIx, dSetIx, dCallL, dBits, dLstRg1, dFldV, dSetF, dMake, dCut, dPart, dNoPart, rCut, endsOf, exitT, peek, setOk, withOw, isOw, withT, lentQ, l_lend1, l_lend2, l_lend3, l_back1, l_back2, l_back3, l_kind1, l_kind2, l_kind3, l_kind4, l_kind5, l_kind6, l_frz1, l_frz2, l_frz3, l_frz4, noOw, wipeT, restT, cLen, cInt, cAbs, cTuple, cList, cStr, keyD, rIsB, rIsNotB, rAdd, rSub, rMul, rMod, rDiv, rPow, rShl, rShr, rBand, rBor, rLt, rLe, rGt, rGe, rAddI, rIx, l_at0, l_at1, l_at2, l_at3, l_at4, Int.reduceToNat, l_eqI, l_neI, l_eqB, l_neB, List.getElem?_cons_zero, List.getElem?_cons_succ, List.set_cons_zero, List.set_cons_succ, List.map_cons, List.map_nil, List.append_nil, List.cons_append, List.nil_append, List.replicate_succ, List.replicate_zero, Option.isSome_some, List.getD_cons_zero, List.getD_cons_succ, forall_const, true_and, and_true, shl_nat]
    exact ⟨⟨by omega, by omega, by decide⟩, hy⟩
  refine ⟨true, c, wF5 n ar (.o2 (rowsK n (outsK ar ar.length))) (.o2 (rowsK n (insK ar ar.length))) (.fr (.lst (natsD ord))), .ol ((List.range n).map fun p => nD (2 ^ p)), rfl, hp6, by show 5 < 1000; decide, rfl, ?_⟩
  rw [pF6, show ((List.range n).map fun p => nD (2 ^ p)) = natsD ((List.range n).map fun p => 2 ^ p) by unfold natsD; rw [List.map_map]; rfl]
  refine keep_l9 hc h ho o3 _ fun o rl x3 x6 hoo hrb => ?_
  refine q _ ord rl ⟨h, ho, ⟨hrb.1, fun p r hp v => (hrb.2 p r hp v).trans ?_⟩⟩ ?_
  · have hpn : p < n := by
      have := (List.getElem?_eq_some_iff.mp hp).1
      rw [hrb.1] at this
      exact this
    have hm : p ∈ ord.reverse := by
      rw [List.mem_reverse]
      refine Classical.byContradiction fun z => ?_
      have hl := ord_full h ho
      have := nodup_le (List.nodup_cons.mpr ⟨z, ho.nd⟩) (n := n) fun v hv => by
        rcases List.mem_cons.mp hv with hv | hv
        · rw [hv]; exact hpn
        · exact ho.lt v hv
      rw [List.length_cons] at this
      omega
    rw [if_pos hm]
  · have e1 : ∀ f : Nat → List Nat, D.lst ((rowsK n f).map .lst) = rowsD n f := fun f => by
      unfold rowsK rowsD
      rw [List.map_map]
      rfl
    rcases hoo with rfl | rfl
    · show [(_, _), (_, _), (_, D.lst ((rowsK n (outsK ar ar.length)).map .lst)), (_, D.lst ((rowsK n (insK ar ar.length)).map .lst)), (_, _), (_, _)] = _
      rw [e1, e1]
      rfl
    · show [(_, _), (_, _), (_, D.lst ((rowsK n (outsK ar ar.length)).map .lst)), (_, D.lst ((rowsK n (insK ar ar.length)).map .lst)), (_, _), (_, _)] = _
      rw [e1, e1]
      rfl
theorem fwd_ok {n : Nat} {ord : List Nat} {ar : Ar} (hp : ord.Perm (List.range n)) (hf : ∀ a ∈ ar, Fwd ord a) (hl : ar.length ≤ 100000) (hn : n ≤ 100000) : ArOk n ar := by
  have nd : ord.Nodup := hp.nodup_iff.mpr List.nodup_range
  have lt : ∀ {i v : Nat}, ord[i]? = some v → v < n := fun h => List.mem_range.mp (hp.mem_iff.mp (List.mem_of_getElem? h))
  refine ⟨⟨fun a ha => ?_, hl, hn⟩, fun v => ord.idxOf v, fun a ha => ?_⟩
  · obtain ⟨i, j, _, h1, h2⟩ := hf a ha
    exact ⟨lt h1, lt h2⟩
  · obtain ⟨i, j, h0, h1, h2⟩ := hf a ha
    have ix : ∀ {i v : Nat}, ord[i]? = some v → ord.idxOf v = i := fun {i v} h => by
      have hi := (List.getElem?_eq_some_iff.mp h).1
      have hm : v ∈ ord := List.mem_of_getElem? h
      have h3 : ord[ord.idxOf v]? = some v := by
        have hlt := List.idxOf_lt_length_of_mem hm
        rw [List.getElem?_eq_getElem hlt, List.getElem_idxOf]
      exact (List.getElem?_inj (List.idxOf_lt_length_of_mem hm) nd).mp (h3.trans h.symm)
    show ord.idxOf a.1 < ord.idxOf a.2
    rw [ix h1, ix h2]
    exact h0
end EC
/-! N1: ways, their plain laws. -/
namespace EC
open PySem PySem.Spec PyProof.Rows L2
def Lnk (ar : Ar) (p : List Nat) : Prop := ∀ (i x y : Nat), p[i]? = some x → p[i + 1]? = some y → endA ar x = begA ar y
structure WayOk (ar : Ar) (p : List Nat) : Prop where
  ne : p ≠ []
  lt : ∀ k ∈ p, k < ar.length
  lk : Lnk ar p
theorem natD_nD (k : Nat) : natD (nD k) = k := Int.toNat_natCast k
theorem lnk_cons {ar : Ar} {x y : Nat} {r : List Nat} : Lnk ar (x :: y :: r) ↔ endA ar x = begA ar y ∧ Lnk ar (y :: r) := by
  refine ⟨fun h => ⟨h 0 x y rfl rfl, fun i a b ha hb => h (i + 1) a b ha hb⟩, fun h i a b ha hb => ?_⟩
  cases i with
  | zero =>
    cases ha
    cases hb
    exact h.1
  | succ i => exact h.2 i a b ha hb
theorem linkB_iff (ar : Ar) : ∀ p : List Nat, linkB ar (natsD p) = true ↔ Lnk ar p
  | [] => ⟨fun _ i x y h => (nomatch h), fun _ => rfl⟩
  | [x] => ⟨fun _ i a b ha hb => (nomatch hb), fun _ => rfl⟩
  | x :: y :: r => by
    show ((endA ar (natD (nD x)) == begA ar (natD (nD y))) && linkB ar (natsD (y :: r))) = true ↔ _
    rw [natD_nD, natD_nD, Bool.and_eq_true, linkB_iff ar (y :: r), lnk_cons, beq_iff_eq]
theorem okA_nat (m k : Nat) : okA m (nD k) = decide (k < m) := by
  show decide ((0 : Int) ≤ (k : Int) ∧ (k : Int) ≤ (m : Int) - 1) = _
  by_cases h : k < m
  · rw [decide_eq_true h, decide_eq_true]
    omega
  · rw [decide_eq_false h, decide_eq_false]
    omega
theorem ok_all (m : Nat) : ∀ p : List Nat, (natsD p).all (okA m) = true ↔ ∀ k ∈ p, k < m
  | [] => ⟨fun _ _ h => (nomatch h), fun _ => rfl⟩
  | k :: p => by
    show (okA m (nD k) && (natsD p).all (okA m)) = true ↔ _
    rw [Bool.and_eq_true, ok_all m p, okA_nat, decide_eq_true_iff]
    exact ⟨fun h j hj => by
      rcases List.mem_cons.mp hj with e | hj
      · rw [e]; exact h.1
      · exact h.2 j hj, fun h => ⟨h k List.mem_cons_self, fun j hj => h j (List.mem_cons_of_mem _ hj)⟩⟩
theorem ok_is {m : Nat} : ∀ {ds : List D}, ds.all (okA m) = true → ∃ p : List Nat, ds = natsD p ∧ ∀ k ∈ p, k < m
  | [], _ => ⟨[], rfl, fun _ h => nomatch h⟩
  | d :: ds, h => by
    have h' : (okA m d && ds.all (okA m)) = true := h
    rw [Bool.and_eq_true] at h'
    obtain ⟨p, rfl, hp⟩ := ok_is h'.2
    cases d <;> (try exact Bool.noConfusion h'.1)
    rename_i i
    have hi : (0 : Int) ≤ i ∧ i ≤ (m : Int) - 1 := of_decide_eq_true h'.1
    obtain ⟨k, rfl⟩ : ∃ k : Nat, i = k := ⟨i.toNat, by omega⟩
    exact ⟨k :: p, rfl, fun j hj => by
      rcases List.mem_cons.mp hj with e | hj
      · rw [e]; omega
      · exact hp j hj⟩
theorem wayB_iff (ar : Ar) (p : List Nat) : wayB ar (wayD p) = true ↔ WayOk ar p := by
  show (!(natsD p).isEmpty && (natsD p).all (okA ar.length) && linkB ar (natsD p)) = true ↔ _
  rw [Bool.and_eq_true, Bool.and_eq_true, ok_all, linkB_iff]
  refine ⟨fun h => ⟨fun z => ?_, h.1.2, h.2⟩, fun h => ⟨⟨?_, h.lt⟩, h.lk⟩⟩
  · rw [z] at h
    exact Bool.noConfusion h.1.1
  · cases p with
    | nil => exact absurd rfl h.ne
    | cons => rfl
theorem wayB_nats (ar : Ar) (p : List Nat) (b : Bool) (h : b = true ↔ WayOk ar p) : wayB ar (wayD p) = b := Bool.eq_iff_iff.mpr ((wayB_iff ar p).trans h.symm)
theorem WayOk.pos {ar : Ar} {p : List Nat} (h : WayOk ar p) : 0 < p.length := List.length_pos_iff.mpr h.ne
theorem WayOk.take {ar : Ar} {p : List Nat} (h : WayOk ar p) {k : Nat} (hk : 0 < k) : WayOk ar (p.take k) := by
  have hp := h.pos
  refine ⟨fun z => ?_, fun j hj => h.lt j (List.mem_of_mem_take hj), fun i x y hx hy => ?_⟩
  · have := congrArg List.length z
    rw [List.length_take] at this
    simp only [List.length_nil] at this
    omega
  · rw [List.getElem?_take] at hx hy
    split at hx
    · split at hy
      · exact h.lk i x y hx hy
      · cases hy
    · cases hx
theorem WayOk.drop {ar : Ar} {p : List Nat} (h : WayOk ar p) {k : Nat} (hk : k < p.length) : WayOk ar (p.drop k) := by
  refine ⟨fun z => ?_, fun j hj => h.lt j (List.mem_of_mem_drop hj), fun i x y hx hy => ?_⟩
  · have := congrArg List.length z
    rw [List.length_drop] at this
    simp only [List.length_nil] at this
    omega
  · rw [List.getElem?_drop] at hx hy
    exact h.lk (k + i) x y hx hy
theorem begW_get {ar : Ar} {p : List Nat} {x : Nat} (h : p[0]? = some x) : begW ar p = begA ar x := by
  cases p with
  | nil => cases h
  | cons a p =>
    cases h
    rfl
theorem endW_get {ar : Ar} {p : List Nat} {x : Nat} (h : p[p.length - 1]? = some x) : endW ar p = endA ar x := by
  unfold endW
  rw [← List.getLast?_eq_getElem?] at h
  rw [List.getLastD_eq_getLast?, h]
  rfl
theorem way_join {ar : Ar} {p q : List Nat} (hp : WayOk ar p) (hq : WayOk ar q) : WayOk ar (p ++ q) ↔ endW ar p = begW ar q := by
  have h1 := hp.pos
  have h2 := hq.pos
  have e1 : p[p.length - 1]? = some (p[p.length - 1]'(by omega)) := List.getElem?_eq_getElem _
  have e2 : q[0]? = some q[0] := List.getElem?_eq_getElem h2
  rw [endW_get e1, begW_get e2]
  refine ⟨fun h => h.lk (p.length - 1) _ _ (by rw [List.getElem?_append_left (by omega)]; exact e1) (by rw [List.getElem?_append_right (by omega), show p.length - 1 + 1 - p.length = 0 by omega]; exact e2), fun h => ⟨fun z => hp.ne (List.append_eq_nil_iff.mp z).1, fun k hk => ?_, fun i x y hx hy => ?_⟩⟩
  · rcases List.mem_append.mp hk with hk | hk
    · exact hp.lt k hk
    · exact hq.lt k hk
  · by_cases hi : i + 1 < p.length
    · rw [List.getElem?_append_left (by omega)] at hx
      rw [List.getElem?_append_left hi] at hy
      exact hp.lk i x y hx hy
    · by_cases hi2 : i < p.length
      · have : i = p.length - 1 := by omega
        subst this
        rw [List.getElem?_append_left hi2, e1] at hx
        rw [List.getElem?_append_right (by omega), show p.length - 1 + 1 - p.length = 0 by omega, e2] at hy
        cases hx
        cases hy
        exact h
      · rw [List.getElem?_append_right (by omega)] at hx hy
        exact hq.lk (i - p.length) x y hx (by rw [← hy]; congr 1; omega)
theorem begA_get {ar : Ar} {k : Nat} (h : k < ar.length) : (begA ar k, endA ar k) ∈ ar := by
  unfold begA endA
  rw [List.getD_eq_getElem?_getD, List.getElem?_eq_getElem h]
  exact List.getElem_mem h
theorem arr_at {ar : Ar} {k : Nat} (h : k < ar.length) : atD (ar.map arrD) (k : Int) = some (arrD (begA ar k, endA ar k)) := by
  refine atD_nat ?_
  rw [List.getElem?_map, List.getElem?_eq_getElem h]
  unfold begA endA
  rw [List.getD_eq_getElem?_getD, List.getElem?_eq_getElem h]
  rfl
theorem plsW_cons {ar : Ar} {x y : Nat} {r : List Nat} (h : Lnk ar (x :: y :: r)) : plsW ar (x :: y :: r) = begA ar x :: plsW ar (y :: r) := by
  show begA ar x :: endA ar x :: _ = begA ar x :: begA ar y :: _
  rw [(lnk_cons.mp h).1]
theorem way_up {n : Nat} {ar : Ar} {rank : Nat → Nat} (hr : ∀ a ∈ ar, rank a.1 < rank a.2) : ∀ {p : List Nat}, WayOk ar p → (plsW ar p).Pairwise (fun a b => rank a < rank b)
  | [], h => absurd rfl h.ne
  | [x], h => by
    have := hr _ (begA_get (h.lt x List.mem_cons_self))
    show [begA ar x, endA ar x].Pairwise _
    simp only [List.pairwise_cons, List.mem_singleton, List.not_mem_nil, false_imp_iff, implies_true, List.Pairwise.nil, and_true, forall_eq]
    exact this
  | x :: y :: r, h => by
    have h2 := lnk_cons.mp h.lk
    have ih := way_up (n := n) hr (p := y :: r) ⟨List.cons_ne_nil _ _, fun k hk => h.lt k (List.mem_cons_of_mem _ hk), h2.2⟩
    rw [plsW_cons h.lk, List.pairwise_cons]
    refine ⟨fun b hb => ?_, ih⟩
    have h1 : rank (begA ar x) < rank (begA ar y) := by
      rw [← h2.1]
      exact hr _ (begA_get (h.lt x List.mem_cons_self))
    have ih2 := ih
    unfold plsW at ih2 hb
    rw [List.pairwise_cons] at ih2
    rcases List.mem_cons.mp hb with e | hb
    · rw [e]
      exact h1
    · exact Nat.lt_trans h1 (ih2.1 b hb)
theorem pls_nodup {n : Nat} {ar : Ar} (hok : ArOk n ar) {p : List Nat} (h : WayOk ar p) : (plsW ar p).Nodup := by
  obtain ⟨rank, hr⟩ := hok.acy
  refine (way_up (n := n) hr h).imp fun {a b} z e => ?_
  rw [e] at z
  exact Nat.lt_irrefl _ z
theorem endW_mem {ar : Ar} {p : List Nat} (h : WayOk ar p) : endW ar p ∈ p.map (endA ar) := by
  have h1 := h.pos
  have e1 : p[p.length - 1]? = some (p[p.length - 1]'(by omega)) := List.getElem?_eq_getElem _
  rw [endW_get e1]
  exact List.mem_map_of_mem (List.getElem_mem _)
theorem way_turned {n : Nat} {ar : Ar} (hok : ArOk n ar) {p : List Nat} (h : WayOk ar p) {k : Nat} (h0 : 0 < k) (hk : k < p.length) : wayB ar (wayD (p.drop k ++ p.take k)) = false := by
  refine wayB_nats ar _ false ⟨fun z => (nomatch z), fun z => ?_⟩
  have e := (way_join (h.drop hk) (h.take h0)).mp z
  have h1 := h.pos
  obtain ⟨rank, hr⟩ := hok.acy
  have up := way_up (n := n) hr h
  unfold plsW at up
  rw [List.pairwise_cons] at up
  have e1 : p[p.length - 1]? = some (p[p.length - 1]'(by omega)) := List.getElem?_eq_getElem _
  have e2 : (p.drop k)[(p.drop k).length - 1]? = some (p[p.length - 1]'(by omega)) := by
    rw [List.getElem?_drop, List.length_drop, ← e1]
    congr 1
    omega
  have e3 : (p.take k)[0]? = some p[0] := by
    rw [List.getElem?_take, if_pos h0]
    exact List.getElem?_eq_getElem h1
  rw [endW_get e2, begW_get e3] at e
  have := up.1 _ (endW_mem h)
  rw [endW_get e1, e, begW_get (List.getElem?_eq_getElem h1)] at this
  exact absurd this (Nat.lt_irrefl _)
theorem pls_split {ar : Ar} {p : List Nat} (h : WayOk ar p) {k : Nat} (h0 : 0 < k) (hk : k < p.length) : plsW ar (p.take k) ++ (plsW ar (p.drop k)).drop 1 = plsW ar p ∧ endW ar (p.take k) = begW ar (p.drop k) := by
  have hj := (way_join (h.take h0) (h.drop hk)).mp (by rw [List.take_append_drop]; exact h)
  refine ⟨?_, hj⟩
  unfold plsW
  rw [List.drop_succ_cons, List.drop_zero]
  have e3 : (p.take k)[0]? = some p[0] := by
    rw [List.getElem?_take, if_pos h0]
    exact List.getElem?_eq_getElem (by omega)
  rw [begW_get e3, begW_get (List.getElem?_eq_getElem (by omega) : p[0]? = some p[0]), List.cons_append, ← List.map_append, List.take_append_drop]
theorem pls_join {ar : Ar} {p q : List Nat} (hp : WayOk ar p) : plsW ar (p ++ q) = plsW ar p ++ (plsW ar q).drop 1 := by
  have h1 := hp.pos
  unfold plsW
  rw [List.drop_succ_cons, List.drop_zero, List.map_append]
  have e : begW ar (p ++ q) = begW ar p := by
    rw [begW_get (List.getElem?_eq_getElem h1 : p[0]? = some p[0])]
    exact begW_get (by rw [List.getElem?_append_left h1]; exact List.getElem?_eq_getElem h1)
  rw [e]
  rfl
theorem plsW_len (ar : Ar) (p : List Nat) : (plsW ar p).length = p.length + 1 := by
  unfold plsW
  rw [List.length_cons, List.length_map]
theorem pls_first (ar : Ar) (p : List Nat) : atD (natsD (plsW ar p)) 0 = some (nD (begW ar p)) := atD_nat (i := 0) rfl
theorem atD_last {l : List D} {d : D} (h : l[l.length - 1]? = some d) : atD l (-1) = some d := by
  have hl : l ≠ [] := fun z => by
    rw [z] at h
    cases h
  obtain ⟨a, b, rfl⟩ : ∃ a b, l = a ++ [b] := ⟨l.dropLast, l.getLast hl, (List.dropLast_concat_getLast hl).symm⟩
  rw [List.length_append, List.length_singleton, Nat.add_sub_cancel, List.getElem?_append_right (Nat.le_refl _), Nat.sub_self] at h
  cases h
  exact atI_last _ _
theorem pls_last {ar : Ar} {p : List Nat} (h : WayOk ar p) : atD (natsD (plsW ar p)) (-1) = some (nD (endW ar p)) := by
  have h1 := h.pos
  have e1 : p[p.length - 1]? = some (p[p.length - 1]'(by omega)) := List.getElem?_eq_getElem _
  refine atD_last ?_
  rw [natsD_length, plsW_len, natsD_get]
  unfold plsW
  rw [show p.length + 1 - 1 = (p.length - 1) + 1 by omega, List.getElem?_cons_succ, List.getElem?_map, e1, endW_get e1]
  rfl
theorem way_first {ar : Ar} {p : List Nat} (h : WayOk ar p) : ∃ x, x < ar.length ∧ atD (natsD p) 0 = some (nD x) ∧ begW ar p = begA ar x := by
  have h1 := h.pos
  refine ⟨p[0], h.lt _ (List.getElem_mem h1), atD_nat (i := 0) ?_, begW_get (List.getElem?_eq_getElem h1)⟩
  rw [natsD_get, List.getElem?_eq_getElem h1]
  rfl
theorem way_last {ar : Ar} {p : List Nat} (h : WayOk ar p) : ∃ x, x < ar.length ∧ atD (natsD p) (-1) = some (nD x) ∧ endW ar p = endA ar x := by
  have h1 := h.pos
  have e1 : p[p.length - 1]? = some (p[p.length - 1]'(by omega)) := List.getElem?_eq_getElem _
  refine ⟨p[p.length - 1], h.lt _ (List.getElem_mem _), atD_last ?_, endW_get e1⟩
  rw [natsD_length, natsD_get, e1]
  rfl
/-- the pairs of neighbours, all of them -/
theorem link_zip (ar : Ar) : ∀ p : List Nat, ((p.zip (p.drop 1)).map fun q => decide (endA ar q.1 = begA ar q.2)).all id = linkB ar (natsD p)
  | [] => rfl
  | [x] => rfl
  | x :: y :: r => by
    have ih := link_zip ar (y :: r)
    show (decide (endA ar x = begA ar y) && (((y :: r).zip ((y :: r).drop 1)).map fun q => decide (endA ar q.1 = begA ar q.2)).all id) = ((endA ar (natD (nD x)) == begA ar (natD (nD y))) && linkB ar (natsD (y :: r)))
    rw [ih, natD_nD, natD_nD, Bool.beq_eq_decide_eq]
end EC
/-! N2: ways judged and passed: the program's and the law's own defs. -/
namespace EC
open PySem PySem.Spec PyProof.Rows L2
theorem l_arrows (n : Nat) (ar : Ar) (ord reach : List Nat) : (webFs n ar ord reach).lookup (Str.ofString "arrows") = some (arsD ar) := rfl
theorem l_ixF {P : Nat → Prop} {i : Nat} {f : Str} {tj : DE} {τ : Env} {Q : D → Env → Prop} {R : RX} {c : Nat} {fs : List (Str × D)} {d : D} (hp : P c) (hf : fs.lookup f = some d) (h : τ[i]? = some (some (.fr (.ins c fs)))) :
    dIxF P i f tj τ Q R = tj τ (fun j τ1 => rIx d j fun z => Q z τ1) R := by
  refine propext ⟨fun z => ?_, fun z => .inl ?_⟩
  · rcases z with z | ⟨l, c', gs, ds, e, _⟩
    · unfold dOp dFldV at z
      simp only [h, hf] at z
      exact z.2
    · rw [h] at e
      cases e
  · unfold dOp dFldV
    simp only [h, hf]
    exact ⟨hp, z⟩
theorem lc_id (h : D → D) {ds : List D} {τ1 : Env} {g : DG} {cond : DC} {elt : DE} {vs : List Nat} {Q : T → Env → Prop} (hlen : ds.length ≤ 1000000) (hno : ∀ v ∈ vs, noOw τ1 v)
    (step : ∀ x ∈ ds, ∀ (Y : D → Env → Prop) (N : Env → Prop), Y (h x) (wipeT τ1 vs) → g x (wipeT τ1 vs) fun τ2 => cond τ2 (fun b τ3 => match b with
      | true => elt τ3 (fun y τ4 => Y y (wipeT τ4 vs)) noR
      | false => N (wipeT τ3 vs)) noR)
    (fin : Q (.ow false (ds.map h)) (restT τ1 vs (wipeT τ1 vs))) : LcB ds τ1 g cond elt vs Q := by
  have := lc_map (fun d : D => d) h ds (g := g) (cond := cond) (elt := elt) hlen hno step fin
  rw [List.map_id'] at this
  exact this
theorem dec_nat (a b : Nat) : decide ((a : Int) = (b : Int)) = decide (a = b) := decide_eq_decide.mpr Int.ofNat_inj
theorem cut_one {α : Type} (l : List α) : cutD l (some 1) none = l.drop 1 := cut_drop l 1
theorem natsD_drop (k : Nat) (l : List Nat) : (natsD l).drop k = natsD (l.drop k) := List.map_drop.symm
theorem natsD_take (k : Nat) (l : List Nat) : (natsD l).take k = natsD (l.take k) := List.map_take.symm
theorem all_map_ok (m : Nat) (ds : List D) : (ds.map (okA m)).all id = ds.all (okA m) := by
  rw [List.all_map]
  rfl
theorem okA_int (m : Nat) (i : Int) : okA m (.int i) = (decide (0 ≤ i) && decide (i < (m : Int))) := by
  show decide (0 ≤ i ∧ i ≤ (m : Int) - 1) = _
  rw [Bool.decide_and]
  congr 1
  exact decide_eq_decide.mpr ⟨fun _ => by omega, fun _ => by omega⟩
theorem m_is_way_in : ∀ ts Q R, sp_is_way_in ts Q R → b_is_way_in (endsOf ts Q R) (startT N_is_way_in.length ts) := by
  rintro ts Q R ⟨_, n, ar, d, rfl, ⟨c, ord, reach, hc, rfl, w⟩, hd, q⟩
  have hpa : pf_arrows c := by (have hc2 := hc; simp only [webC, List.mem_cons, List.not_mem_nil, or_false] at hc2; show c ∈ _; simp only [List.mem_cons, List.not_mem_nil, or_false]; omega)
  have e : startT N_is_way_in.length [.fr (.ins c (webFs n ar ord reach)), .fr d] = [some (.fr (.ins c (webFs n ar ord reach))), some (.fr d), none, none, none] := rfl
  rw [e]
  have hnt : ∀ s, tyD d = some s → (["tuple"].any (isOne s)) = false → wayB ar d = false → b_is_way_in (endsOf [.fr (.ins c (webFs n ar ord reach)), .fr d] Q R) [some (.fr (.ins c (webFs n ar ord reach))), some (.fr d), none, none, none] := fun s h1 h2 h3 => by
    simp only [b_is_way_in, dDic1, dLenSetT, dSeq, dSet, dRet, dRetN, dDrop, dIfS, dNext, dFr, dFz, dVar, dC, dOp, dB, dChain, dAnd, dOr, dNot, dAndV, dOrV, dNotV, dIf, dNeg, dRev, dBack, dDic0, dCons, dNil, dTup, dLst, dRep, dIxV, dInV, dLenV, dCallB, dCall, dIsi, dItems, dRange1, dEnum, dZip, dYes, dgName, dgTup, dgCons, dgNil, dAsg, dApp, dPopAt, dAugIx, dSetIx, dCallL, dBits, dLstRg1, dFldV, dSetF, dMake, dCut, dPart, dNoPart, rCut, endsOf, exitT, peek, setOk, withOw, isOw, withT, lentQ, l_lend1, l_lend2, l_lend3, l_back1, l_back2, l_back3, l_kind1, l_kind2, l_kind3, l_kind4, l_kind5, l_kind6, l_frz1, l_frz2, l_frz3, l_frz4, noOw, wipeT, restT, cLen, cInt, cAbs, cTuple, cList, cStr, keyD, rIsB, rIsNotB, rAdd, rSub, rMul, rMod, rDiv, rPow, rShl, rShr, rBand, rBor, rLt, rLe, rGt, rGe, rAddI, rIx, l_at0, l_at1, l_at2, l_at3, l_at4, Int.reduceToNat, l_eqI, l_neI, l_eqB, l_neB, List.getElem?_cons_zero, List.getElem?_cons_succ, List.set_cons_zero, List.set_cons_succ, List.map_cons, List.map_nil, List.append_nil, List.cons_append, List.nil_append, List.replicate_succ, List.replicate_zero, Option.isSome_some, List.getD_cons_zero, List.getD_cons_succ, forall_const, true_and, and_true, h1, h2, Bool.not_false]
    rw [h3] at q
    exact q
  cases d with
  | tup ds =>
    obtain ⟨hlen, hty⟩ := hd.2 ds rfl
    simp only [b_is_way_in, dDic1, dLenSetT, dSeq, dSet, dRet, dRetN, dDrop, dIfS, dNext, dFr, dFz, dVar, dC, dOp, dB, dChain, dAnd, dOr, dNot, dAndV, dOrV, dNotV, dIf, dNeg, dRev, dBack, dDic0, dCons, dNil, dTup, dLst, dRep, dIxV, dInV, dLenV, dCallB, dCall, dIsi, dItems, dRange1, dEnum, dZip, dYes, dgName, dgTup, dgCons, dgNil, dAsg, dApp, dPopAt, dAugIx, dSetIx, dCallL, dBits, dLstRg1, dFldV, dSetF, dMake, dCut, dPart, dNoPart, rCut, endsOf, exitT, peek, setOk, withOw, isOw, withT, lentQ, l_lend1, l_lend2, l_lend3, l_back1, l_back2, l_back3, l_kind1, l_kind2, l_kind3, l_kind4, l_kind5, l_kind6, l_frz1, l_frz2, l_frz3, l_frz4, noOw, wipeT, restT, cLen, cInt, cAbs, cTuple, cList, cStr, keyD, rIsB, rIsNotB, rAdd, rSub, rMul, rMod, rDiv, rPow, rShl, rShr, rBand, rBor, rLt, rLe, rGt, rGe, rAddI, rIx, l_at0, l_at1, l_at2, l_at3, l_at4, Int.reduceToNat, l_eqI, l_neI, l_eqB, l_neB, List.getElem?_cons_zero, List.getElem?_cons_succ, List.set_cons_zero, List.set_cons_succ, List.map_cons, List.map_nil, List.append_nil, List.cons_append, List.nil_append, List.replicate_succ, List.replicate_zero, Option.isSome_some, List.getD_cons_zero, List.getD_cons_succ, forall_const, true_and, and_true, tyD, t_Tt, Bool.not_true]
    by_cases h0 : ds = []
    · subst h0
      simp only [List.length_nil, Int.ofNat_zero, dDic1, dLenSetT, dSeq, dSet, dRet, dRetN, dDrop, dIfS, dNext, dFr, dFz, dVar, dC, dOp, dB, dChain, dAnd, dOr, dNot, dAndV, dOrV, dNotV, dIf, dNeg, dRev, dBack, dDic0, dCons, dNil, dTup, dLst, dRep, dIxV, dInV, dLenV, dCallB, dCall, dIsi, dItems, dRange1, dEnum, dZip, dYes, dgName, dgTup, dgCons, dgNil, dAsg, dApp, dPopAt, dAugIx, dSetIx, dCallL, dBits, dLstRg1, dFldV, dSetF, dMake, dCut, dPart, dNoPart, rCut, endsOf, exitT, peek, setOk, withOw, isOw, withT, lentQ, l_lend1, l_lend2, l_lend3, l_back1, l_back2, l_back3, l_kind1, l_kind2, l_kind3, l_kind4, l_kind5, l_kind6, l_frz1, l_frz2, l_frz3, l_frz4, noOw, wipeT, restT, cLen, cInt, cAbs, cTuple, cList, cStr, keyD, rIsB, rIsNotB, rAdd, rSub, rMul, rMod, rDiv, rPow, rShl, rShr, rBand, rBor, rLt, rLe, rGt, rGe, rAddI, rIx, l_at0, l_at1, l_at2, l_at3, l_at4, Int.reduceToNat, l_eqI, l_neI, l_eqB, l_neB, List.getElem?_cons_zero, List.getElem?_cons_succ, List.set_cons_zero, List.set_cons_succ, List.map_cons, List.map_nil, List.append_nil, List.cons_append, List.nil_append, List.replicate_succ, List.replicate_zero, Option.isSome_some, List.getD_cons_zero, List.getD_cons_succ, forall_const, true_and, and_true, decide_true]
      exact q
    have h0' : ¬ ((ds.length : Nat) : Int) = 0 := fun z => h0 (List.eq_nil_of_length_eq_zero (by omega))
    simp only [h0', decide_false, b_is_way_in_r4, dDic1, dLenSetT, dSeq, dSet, dRet, dRetN, dDrop, dIfS, dNext, dFr, dFz, dVar, dC, dOp, dB, dChain, dAnd, dOr, dNot, dAndV, dOrV, dNotV, dIf, dNeg, dRev, dBack, dDic0, dCons, dNil, dTup, dLst, dRep, dIxV, dInV, dLenV, dCallB, dCall, dIsi, dItems, dRange1, dEnum, dZip, dYes, dgName, dgTup, dgCons, dgNil, dAsg, dApp, dPopAt, dAugIx, dSetIx, dCallL, dBits, dLstRg1, dFldV, dSetF, dMake, dCut, dPart, dNoPart, rCut, endsOf, exitT, peek, setOk, withOw, isOw, withT, lentQ, l_lend1, l_lend2, l_lend3, l_back1, l_back2, l_back3, l_kind1, l_kind2, l_kind3, l_kind4, l_kind5, l_kind6, l_frz1, l_frz2, l_frz3, l_frz4, noOw, wipeT, restT, cLen, cInt, cAbs, cTuple, cList, cStr, keyD, rIsB, rIsNotB, rAdd, rSub, rMul, rMod, rDiv, rPow, rShl, rShr, rBand, rBor, rLt, rLe, rGt, rGe, rAddI, rIx, l_at0, l_at1, l_at2, l_at3, l_at4, Int.reduceToNat, l_eqI, l_neI, l_eqB, l_neB, List.getElem?_cons_zero, List.getElem?_cons_succ, List.set_cons_zero, List.set_cons_succ, List.map_cons, List.map_nil, List.append_nil, List.cons_append, List.nil_append, List.replicate_succ, List.replicate_zero, Option.isSome_some, List.getD_cons_zero, List.getD_cons_succ, forall_const, true_and, and_true]
    show LcB ds _ _ _ _ _ _
    refine lc_id (fun d => .bl (okA ar.length d)) (by omega) (by simp [noOw]) (fun x hx Y N hy => ?_) ?_
    · simp only [dDic1, dLenSetT, dSeq, dSet, dRet, dRetN, dDrop, dIfS, dNext, dFr, dFz, dVar, dC, dOp, dB, dChain, dAnd, dOr, dNot, dAndV, dOrV, dNotV, dIf, dNeg, dRev, dBack, dDic0, dCons, dNil, dTup, dLst, dRep, dIxV, dInV, dLenV, dCallB, dCall, dIsi, dItems, dRange1, dEnum, dZip, dYes, dgName, dgTup, dgCons, dgNil, dAsg, dApp, dPopAt, dAugIx, dSetIx, dCallL, dBits, dLstRg1, dFldV, dSetF, dMake, dCut, dPart, dNoPart, rCut, endsOf, exitT, peek, setOk, withOw, isOw, withT, lentQ, l_lend1, l_lend2, l_lend3, l_back1, l_back2, l_back3, l_kind1, l_kind2, l_kind3, l_kind4, l_kind5, l_kind6, l_frz1, l_frz2, l_frz3, l_frz4, noOw, wipeT, restT, cLen, cInt, cAbs, cTuple, cList, cStr, keyD, rIsB, rIsNotB, rAdd, rSub, rMul, rMod, rDiv, rPow, rShl, rShr, rBand, rBor, rLt, rLe, rGt, rGe, rAddI, rIx, l_at0, l_at1, l_at2, l_at3, l_at4, Int.reduceToNat, l_eqI, l_neI, l_eqB, l_neB, List.getElem?_cons_zero, List.getElem?_cons_succ, List.set_cons_zero, List.set_cons_succ, List.map_cons, List.map_nil, List.append_nil, List.cons_append, List.nil_append, List.replicate_succ, List.replicate_zero, Option.isSome_some, List.getD_cons_zero, List.getD_cons_succ, forall_const, true_and, and_true]
      refine ⟨x, rfl, hty x hx, ?_⟩
      cases x with
      | int i =>
        simp only [isIntD, dDic1, dLenSetT, dSeq, dSet, dRet, dRetN, dDrop, dIfS, dNext, dFr, dFz, dVar, dC, dOp, dB, dChain, dAnd, dOr, dNot, dAndV, dOrV, dNotV, dIf, dNeg, dRev, dBack, dDic0, dCons, dNil, dTup, dLst, dRep, dIxV, dInV, dLenV, dCallB, dCall, dIsi, dItems, dRange1, dEnum, dZip, dYes, dgName, dgTup, dgCons, dgNil, dAsg, dApp, dPopAt, dAugIx, dSetIx, dCallL, dBits, dLstRg1, dFldV, dSetF, dMake, dCut, dPart, dNoPart, rCut, endsOf, exitT, peek, setOk, withOw, isOw, withT, lentQ, l_lend1, l_lend2, l_lend3, l_back1, l_back2, l_back3, l_kind1, l_kind2, l_kind3, l_kind4, l_kind5, l_kind6, l_frz1, l_frz2, l_frz3, l_frz4, noOw, wipeT, restT, cLen, cInt, cAbs, cTuple, cList, cStr, keyD, rIsB, rIsNotB, rAdd, rSub, rMul, rMod, rDiv, rPow, rShl, rShr, rBand, rBor, rLt, rLe, rGt, rGe, rAddI, rIx, l_at0, l_at1, l_at2, l_at3, l_at4, Int.reduceToNat, l_eqI, l_neI, l_eqB, l_neB, List.getElem?_cons_zero, List.getElem?_cons_succ, List.set_cons_zero, List.set_cons_succ, List.map_cons, List.map_nil, List.append_nil, List.cons_append, List.nil_append, List.replicate_succ, List.replicate_zero, Option.isSome_some, List.getD_cons_zero, List.getD_cons_succ, forall_const, true_and, and_true]
        by_cases h1 : (0 : Int) ≤ i
        · simp only [h1, decide_true, dDic1, dLenSetT, dSeq, dSet, dRet, dRetN, dDrop, dIfS, dNext, dFr, dFz, dVar, dC, dOp, dB, dChain, dAnd, dOr, dNot, dAndV, dOrV, dNotV, dIf, dNeg, dRev, dBack, dDic0, dCons, dNil, dTup, dLst, dRep, dIxV, dInV, dLenV, dCallB, dCall, dIsi, dItems, dRange1, dEnum, dZip, dYes, dgName, dgTup, dgCons, dgNil, dAsg, dApp, dPopAt, dAugIx, dSetIx, dCallL, dBits, dLstRg1, dFldV, dSetF, dMake, dCut, dPart, dNoPart, rCut, endsOf, exitT, peek, setOk, withOw, isOw, withT, lentQ, l_lend1, l_lend2, l_lend3, l_back1, l_back2, l_back3, l_kind1, l_kind2, l_kind3, l_kind4, l_kind5, l_kind6, l_frz1, l_frz2, l_frz3, l_frz4, noOw, wipeT, restT, cLen, cInt, cAbs, cTuple, cList, cStr, keyD, rIsB, rIsNotB, rAdd, rSub, rMul, rMod, rDiv, rPow, rShl, rShr, rBand, rBor, rLt, rLe, rGt, rGe, rAddI, rIx, l_at0, l_at1, l_at2, l_at3, l_at4, Int.reduceToNat, l_eqI, l_neI, l_eqB, l_neB, List.getElem?_cons_zero, List.getElem?_cons_succ, List.set_cons_zero, List.set_cons_succ, List.map_cons, List.map_nil, List.append_nil, List.cons_append, List.nil_append, List.replicate_succ, List.replicate_zero, Option.isSome_some, List.getD_cons_zero, List.getD_cons_succ, forall_const, true_and, and_true, l_arrows, arsD, List.length_map]
          rw [okA_int, h1 |> decide_eq_true, Bool.true_and] at hy
          exact ⟨hpa, hy⟩
        · simp only [h1, decide_false]
          rw [okA_int, decide_eq_false h1, Bool.false_and] at hy
          exact hy
      | _ => exact hy
    · simp only [dDic1, dLenSetT, dSeq, dSet, dRet, dRetN, dDrop, dIfS, dNext, dFr, dFz, dVar, dC, dOp, dB, dChain, dAnd, dOr, dNot, dAndV, dOrV, dNotV, dIf, dNeg, dRev, dBack, dDic0, dCons, dNil, dTup, dLst, dRep, dIxV, dInV, dLenV, dCallB, dCall, dIsi, dItems, dRange1, dEnum, dZip, dYes, dgName, dgTup, dgCons, dgNil, dAsg, dApp, dPopAt, dAugIx, dSetIx, dCallL, dBits, dLstRg1, dFldV, dSetF, dMake, dCut, dPart, dNoPart, rCut, endsOf, exitT, peek, setOk, withOw, isOw, withT, lentQ, l_lend1, l_lend2, l_lend3, l_back1, l_back2, l_back3, l_kind1, l_kind2, l_kind3, l_kind4, l_kind5, l_kind6, l_frz1, l_frz2, l_frz3, l_frz4, noOw, wipeT, restT, cLen, cInt, cAbs, cTuple, cList, cStr, keyD, rIsB, rIsNotB, rAdd, rSub, rMul, rMod, rDiv, rPow, rShl, rShr, rBand, rBor, rLt, rLe, rGt, rGe, rAddI, rIx, l_at0, l_at1, l_at2, l_at3, l_at4, Int.reduceToNat, l_eqI, l_neI, l_eqB, l_neB, List.getElem?_cons_zero, List.getElem?_cons_succ, List.set_cons_zero, List.set_cons_succ, List.map_cons, List.map_nil, List.append_nil, List.cons_append, List.nil_append, List.replicate_succ, List.replicate_zero, Option.isSome_some, List.getD_cons_zero, List.getD_cons_succ, forall_const, true_and, and_true, cAll]
      refine ⟨ds.map (okA ar.length), by rw [List.map_map]; rfl, ?_⟩
      rw [all_map_ok]
      have hw : wayB ar (.tup ds) = (ds.all (okA ar.length) && linkB ar ds) := by
        show (!ds.isEmpty && ds.all (okA ar.length) && linkB ar ds) = _
        cases ds with
        | nil => exact absurd rfl h0
        | cons => rfl
      by_cases hall : ds.all (okA ar.length) = true
      · rw [hall] at hw ⊢
        obtain ⟨p, rfl, hp⟩ := ok_is hall
        simp only [Bool.not_true, b_is_way_in_r3, dDic1, dLenSetT, dSeq, dSet, dRet, dRetN, dDrop, dIfS, dNext, dFr, dFz, dVar, dC, dOp, dB, dChain, dAnd, dOr, dNot, dAndV, dOrV, dNotV, dIf, dNeg, dRev, dBack, dDic0, dCons, dNil, dTup, dLst, dRep, dIxV, dInV, dLenV, dCallB, dCall, dIsi, dItems, dRange1, dEnum, dZip, dYes, dgName, dgTup, dgCons, dgNil, dAsg, dApp, dPopAt, dAugIx, dSetIx, dCallL, dBits, dLstRg1, dFldV, dSetF, dMake, dCut, dPart, dNoPart, rCut, endsOf, exitT, peek, setOk, withOw, isOw, withT, lentQ, l_lend1, l_lend2, l_lend3, l_back1, l_back2, l_back3, l_kind1, l_kind2, l_kind3, l_kind4, l_kind5, l_kind6, l_frz1, l_frz2, l_frz3, l_frz4, noOw, wipeT, restT, cLen, cInt, cAbs, cTuple, cList, cStr, keyD, rIsB, rIsNotB, rAdd, rSub, rMul, rMod, rDiv, rPow, rShl, rShr, rBand, rBor, rLt, rLe, rGt, rGe, rAddI, rIx, l_at0, l_at1, l_at2, l_at3, l_at4, Int.reduceToNat, l_eqI, l_neI, l_eqB, l_neB, List.getElem?_cons_zero, List.getElem?_cons_succ, List.set_cons_zero, List.set_cons_succ, List.map_cons, List.map_nil, List.append_nil, List.cons_append, List.nil_append, List.replicate_succ, List.replicate_zero, Option.isSome_some, List.getD_cons_zero, List.getD_cons_succ, forall_const, true_and, and_true]
        show LcB (zipD (natsD p) (cutD (natsD p) (some 1) none)) _ _ _ _ _ _
        rw [cut_one, natsD_drop, zip_nats]
        rw [natsD_length] at hlen
        refine lc_map arrD (fun q => .bl (decide (endA ar q.1 = begA ar q.2))) (p.zip (p.drop 1)) (by rw [List.length_zip]; omega) (by simp [noOw]) (fun x hx Y N hy => ?_) ?_
        · have h1 := hp _ (List.of_mem_zip hx).1
          have h2 := hp _ (List.mem_of_mem_drop (List.of_mem_zip hx).2)
          simp only [arrD, dDic1, dLenSetT, dSeq, dSet, dRet, dRetN, dDrop, dIfS, dNext, dFr, dFz, dVar, dC, dOp, dB, dChain, dAnd, dOr, dNot, dAndV, dOrV, dNotV, dIf, dNeg, dRev, dBack, dDic0, dCons, dNil, dTup, dLst, dRep, dIxV, dInV, dLenV, dCallB, dCall, dIsi, dItems, dRange1, dEnum, dZip, dYes, dgName, dgTup, dgCons, dgNil, dAsg, dApp, dPopAt, dAugIx, dSetIx, dCallL, dBits, dLstRg1, dFldV, dSetF, dMake, dCut, dPart, dNoPart, rCut, endsOf, exitT, peek, setOk, withOw, isOw, withT, lentQ, l_lend1, l_lend2, l_lend3, l_back1, l_back2, l_back3, l_kind1, l_kind2, l_kind3, l_kind4, l_kind5, l_kind6, l_frz1, l_frz2, l_frz3, l_frz4, noOw, wipeT, restT, cLen, cInt, cAbs, cTuple, cList, cStr, keyD, rIsB, rIsNotB, rAdd, rSub, rMul, rMod, rDiv, rPow, rShl, rShr, rBand, rBor, rLt, rLe, rGt, rGe, rAddI, rIx, l_at0, l_at1, l_at2, l_at3, l_at4, Int.reduceToNat, l_eqI, l_neI, l_eqB, l_neB, List.getElem?_cons_zero, List.getElem?_cons_succ, List.set_cons_zero, List.set_cons_succ, List.map_cons, List.map_nil, List.append_nil, List.cons_append, List.nil_append, List.replicate_succ, List.replicate_zero, Option.isSome_some, List.getD_cons_zero, List.getD_cons_succ, forall_const, true_and, and_true, l_ixF hpa (l_arrows n ar ord reach), arsD, arr_at h1, arr_at h2]
          rw [dec_nat]
          exact ⟨rfl, hy⟩
        · simp only [dDic1, dLenSetT, dSeq, dSet, dRet, dRetN, dDrop, dIfS, dNext, dFr, dFz, dVar, dC, dOp, dB, dChain, dAnd, dOr, dNot, dAndV, dOrV, dNotV, dIf, dNeg, dRev, dBack, dDic0, dCons, dNil, dTup, dLst, dRep, dIxV, dInV, dLenV, dCallB, dCall, dIsi, dItems, dRange1, dEnum, dZip, dYes, dgName, dgTup, dgCons, dgNil, dAsg, dApp, dPopAt, dAugIx, dSetIx, dCallL, dBits, dLstRg1, dFldV, dSetF, dMake, dCut, dPart, dNoPart, rCut, endsOf, exitT, peek, setOk, withOw, isOw, withT, lentQ, l_lend1, l_lend2, l_lend3, l_back1, l_back2, l_back3, l_kind1, l_kind2, l_kind3, l_kind4, l_kind5, l_kind6, l_frz1, l_frz2, l_frz3, l_frz4, noOw, wipeT, restT, cLen, cInt, cAbs, cTuple, cList, cStr, keyD, rIsB, rIsNotB, rAdd, rSub, rMul, rMod, rDiv, rPow, rShl, rShr, rBand, rBor, rLt, rLe, rGt, rGe, rAddI, rIx, l_at0, l_at1, l_at2, l_at3, l_at4, Int.reduceToNat, l_eqI, l_neI, l_eqB, l_neB, List.getElem?_cons_zero, List.getElem?_cons_succ, List.set_cons_zero, List.set_cons_succ, List.map_cons, List.map_nil, List.append_nil, List.cons_append, List.nil_append, List.replicate_succ, List.replicate_zero, Option.isSome_some, List.getD_cons_zero, List.getD_cons_succ, forall_const, true_and, and_true, cAll]
          refine ⟨(p.zip (p.drop 1)).map fun q => decide (endA ar q.1 = begA ar q.2), by rw [List.map_map]; rfl, ?_⟩
          rw [link_zip]
          rw [hw, Bool.true_and] at q
          exact q
      · have hall := Bool.eq_false_iff.mpr hall
        rw [hall] at hw ⊢
        simp only [Bool.not_false, dDic1, dLenSetT, dSeq, dSet, dRet, dRetN, dDrop, dIfS, dNext, dFr, dFz, dVar, dC, dOp, dB, dChain, dAnd, dOr, dNot, dAndV, dOrV, dNotV, dIf, dNeg, dRev, dBack, dDic0, dCons, dNil, dTup, dLst, dRep, dIxV, dInV, dLenV, dCallB, dCall, dIsi, dItems, dRange1, dEnum, dZip, dYes, dgName, dgTup, dgCons, dgNil, dAsg, dApp, dPopAt, dAugIx, dSetIx, dCallL, dBits, dLstRg1, dFldV, dSetF, dMake, dCut, dPart, dNoPart, rCut, endsOf, exitT, peek, setOk, withOw, isOw, withT, lentQ, l_lend1, l_lend2, l_lend3, l_back1, l_back2, l_back3, l_kind1, l_kind2, l_kind3, l_kind4, l_kind5, l_kind6, l_frz1, l_frz2, l_frz3, l_frz4, noOw, wipeT, restT, cLen, cInt, cAbs, cTuple, cList, cStr, keyD, rIsB, rIsNotB, rAdd, rSub, rMul, rMod, rDiv, rPow, rShl, rShr, rBand, rBor, rLt, rLe, rGt, rGe, rAddI, rIx, l_at0, l_at1, l_at2, l_at3, l_at4, Int.reduceToNat, l_eqI, l_neI, l_eqB, l_neB, List.getElem?_cons_zero, List.getElem?_cons_succ, List.set_cons_zero, List.set_cons_succ, List.map_cons, List.map_nil, List.append_nil, List.cons_append, List.nil_append, List.replicate_succ, List.replicate_zero, Option.isSome_some, List.getD_cons_zero, List.getD_cons_succ, forall_const, true_and, and_true]
        rw [hw, Bool.false_and] at q
        exact q
  | ins => exact Bool.noConfusion hd.1
  | scr => exact Bool.noConfusion hd.1
  | _ => exact hnt _ rfl (by decide +kernel) rfl
theorem m_is_way : ∀ ts Q R, sp_is_way ts Q R → b_is_way (endsOf ts Q R) (startT N_is_way.length ts) := by
  rintro ts Q R ⟨w, n, ar, d, rfl, hw, hd, q⟩
  have e : startT N_is_way.length [.fr w, .fr d] = [some (.fr w), some (.fr d)] := rfl
  rw [e]
  simp only [b_is_way, dDic1, dLenSetT, dSeq, dSet, dRet, dRetN, dDrop, dIfS, dNext, dFr, dFz, dVar, dC, dOp, dB, dChain, dAnd, dOr, dNot, dAndV, dOrV, dNotV, dIf, dNeg, dRev, dBack, dDic0, dCons, dNil, dTup, dLst, dRep, dIxV, dInV, dLenV, dCallB, dCall, dIsi, dItems, dRange1, dEnum, dZip, dYes, dgName, dgTup, dgCons, dgNil, dAsg, dApp, dPopAt, dAugIx, dSetIx, dCallL, dBits, dLstRg1, dFldV, dSetF, dMake, dCut, dPart, dNoPart, rCut, endsOf, exitT, peek, setOk, withOw, isOw, withT, lentQ, l_lend1, l_lend2, l_lend3, l_back1, l_back2, l_back3, l_kind1, l_kind2, l_kind3, l_kind4, l_kind5, l_kind6, l_frz1, l_frz2, l_frz3, l_frz4, noOw, wipeT, restT, cLen, cInt, cAbs, cTuple, cList, cStr, keyD, rIsB, rIsNotB, rAdd, rSub, rMul, rMod, rDiv, rPow, rShl, rShr, rBand, rBor, rLt, rLe, rGt, rGe, rAddI, rIx, l_at0, l_at1, l_at2, l_at3, l_at4, Int.reduceToNat, l_eqI, l_neI, l_eqB, l_neB, List.getElem?_cons_zero, List.getElem?_cons_succ, List.set_cons_zero, List.set_cons_succ, List.map_cons, List.map_nil, List.append_nil, List.cons_append, List.nil_append, List.replicate_succ, List.replicate_zero, Option.isSome_some, List.getD_cons_zero, List.getD_cons_succ, forall_const, true_and, and_true]
  exact ⟨w, n, ar, d, rfl, hw, hd, q⟩
theorem m_check_way : ∀ ts Q R, sp_check_way ts Q R → b_check_way (endsOf ts Q R) (startT N_check_way.length ts) := by
  rintro ts Q R ⟨w, n, ar, d, rfl, hw, hd, hd2, q⟩
  have e : startT N_check_way.length [.fr w, .fr d] = [some (.fr w), some (.fr d)] := rfl
  rw [e]
  simp only [b_check_way, dDic1, dLenSetT, dSeq, dSet, dRet, dRetN, dDrop, dIfS, dNext, dFr, dFz, dVar, dC, dOp, dB, dChain, dAnd, dOr, dNot, dAndV, dOrV, dNotV, dIf, dNeg, dRev, dBack, dDic0, dCons, dNil, dTup, dLst, dRep, dIxV, dInV, dLenV, dCallB, dCall, dIsi, dItems, dRange1, dEnum, dZip, dYes, dgName, dgTup, dgCons, dgNil, dAsg, dApp, dPopAt, dAugIx, dSetIx, dCallL, dBits, dLstRg1, dFldV, dSetF, dMake, dCut, dPart, dNoPart, rCut, endsOf, exitT, peek, setOk, withOw, isOw, withT, lentQ, l_lend1, l_lend2, l_lend3, l_back1, l_back2, l_back3, l_kind1, l_kind2, l_kind3, l_kind4, l_kind5, l_kind6, l_frz1, l_frz2, l_frz3, l_frz4, noOw, wipeT, restT, cLen, cInt, cAbs, cTuple, cList, cStr, keyD, rIsB, rIsNotB, rAdd, rSub, rMul, rMod, rDiv, rPow, rShl, rShr, rBand, rBor, rLt, rLe, rGt, rGe, rAddI, rIx, l_at0, l_at1, l_at2, l_at3, l_at4, Int.reduceToNat, l_eqI, l_neI, l_eqB, l_neB, List.getElem?_cons_zero, List.getElem?_cons_succ, List.set_cons_zero, List.set_cons_succ, List.map_cons, List.map_nil, List.append_nil, List.cons_append, List.nil_append, List.replicate_succ, List.replicate_zero, Option.isSome_some, List.getD_cons_zero, List.getD_cons_succ, forall_const, true_and, and_true]
  refine ⟨w, n, ar, d, rfl, hw, hd, ?_⟩
  simp only [hd2, Bool.not_true, dDic1, dLenSetT, dSeq, dSet, dRet, dRetN, dDrop, dIfS, dNext, dFr, dFz, dVar, dC, dOp, dB, dChain, dAnd, dOr, dNot, dAndV, dOrV, dNotV, dIf, dNeg, dRev, dBack, dDic0, dCons, dNil, dTup, dLst, dRep, dIxV, dInV, dLenV, dCallB, dCall, dIsi, dItems, dRange1, dEnum, dZip, dYes, dgName, dgTup, dgCons, dgNil, dAsg, dApp, dPopAt, dAugIx, dSetIx, dCallL, dBits, dLstRg1, dFldV, dSetF, dMake, dCut, dPart, dNoPart, rCut, endsOf, exitT, peek, setOk, withOw, isOw, withT, lentQ, l_lend1, l_lend2, l_lend3, l_back1, l_back2, l_back3, l_kind1, l_kind2, l_kind3, l_kind4, l_kind5, l_kind6, l_frz1, l_frz2, l_frz3, l_frz4, noOw, wipeT, restT, cLen, cInt, cAbs, cTuple, cList, cStr, keyD, rIsB, rIsNotB, rAdd, rSub, rMul, rMod, rDiv, rPow, rShl, rShr, rBand, rBor, rLt, rLe, rGt, rGe, rAddI, rIx, l_at0, l_at1, l_at2, l_at3, l_at4, Int.reduceToNat, l_eqI, l_neI, l_eqB, l_neB, List.getElem?_cons_zero, List.getElem?_cons_succ, List.set_cons_zero, List.set_cons_succ, List.map_cons, List.map_nil, List.append_nil, List.cons_append, List.nil_append, List.replicate_succ, List.replicate_zero, Option.isSome_some, List.getD_cons_zero, List.getD_cons_succ, forall_const, true_and, and_true]
  exact q
theorem plain_nats {p : List Nat} (h : p.length ≤ 100000) : Plain (wayD p) := ⟨rfl, fun ds e => by
  cases e
  refine ⟨by rw [natsD_length]; exact h, fun x hx => ?_⟩
  obtain ⟨k, _, rfl⟩ := List.mem_map.mp hx
  rfl⟩
theorem IsWay.ok {ar : Ar} {p : List Nat} (h : IsWay ar p) : WayOk ar p := (wayB_iff ar p).mp h.1
theorem IsWay.plain {ar : Ar} {p : List Nat} (h : IsWay ar p) : Plain (wayD p) := plain_nats (by have := h.2; omega)
theorem isWay_of {ar : Ar} {p : List Nat} (h : WayOk ar p) (hl : p.length ≤ 1000) : IsWay ar p := ⟨(wayB_iff ar p).mpr h, hl⟩
theorem m_ends_of : ∀ ts Q R, sp_ends_of ts Q R → b_ends_of (endsOf ts Q R) (startT N_ends_of.length ts) := by
  rintro ts Q R ⟨_, n, ar, p, rfl, ⟨c, ord, reach, hc, rfl, w⟩, hp, q⟩
  have hpa : pf_arrows c := by (have hc2 := hc; simp only [webC, List.mem_cons, List.not_mem_nil, or_false] at hc2; show c ∈ _; simp only [List.mem_cons, List.not_mem_nil, or_false]; omega)
  have e : startT N_ends_of.length [.fr (.ins c (webFs n ar ord reach)), .fr (wayD p)] = [some (.fr (.ins c (webFs n ar ord reach))), some (.fr (.tup (natsD p)))] := rfl
  rw [e]
  obtain ⟨x, hx, x1, x2⟩ := way_first hp.ok
  obtain ⟨y, hy, y1, y2⟩ := way_last hp.ok
  simp only [b_ends_of, dDic1, dLenSetT, dSeq, dSet, dRet, dRetN, dDrop, dIfS, dNext, dFr, dFz, dVar, dC, dOp, dB, dChain, dAnd, dOr, dNot, dAndV, dOrV, dNotV, dIf, dNeg, dRev, dBack, dDic0, dCons, dNil, dTup, dLst, dRep, dIxV, dInV, dLenV, dCallB, dCall, dIsi, dItems, dRange1, dEnum, dZip, dYes, dgName, dgTup, dgCons, dgNil, dAsg, dApp, dPopAt, dAugIx, dSetIx, dCallL, dBits, dLstRg1, dFldV, dSetF, dMake, dCut, dPart, dNoPart, rCut, endsOf, exitT, peek, setOk, withOw, isOw, withT, lentQ, l_lend1, l_lend2, l_lend3, l_back1, l_back2, l_back3, l_kind1, l_kind2, l_kind3, l_kind4, l_kind5, l_kind6, l_frz1, l_frz2, l_frz3, l_frz4, noOw, wipeT, restT, cLen, cInt, cAbs, cTuple, cList, cStr, keyD, rIsB, rIsNotB, rAdd, rSub, rMul, rMod, rDiv, rPow, rShl, rShr, rBand, rBor, rLt, rLe, rGt, rGe, rAddI, rIx, l_at0, l_at1, l_at2, l_at3, l_at4, Int.reduceToNat, l_eqI, l_neI, l_eqB, l_neB, List.getElem?_cons_zero, List.getElem?_cons_succ, List.set_cons_zero, List.set_cons_succ, List.map_cons, List.map_nil, List.append_nil, List.cons_append, List.nil_append, List.replicate_succ, List.replicate_zero, Option.isSome_some, List.getD_cons_zero, List.getD_cons_succ, forall_const, true_and, and_true, l_ixF hpa (l_arrows n ar ord reach), arsD, x1, y1, arr_at hx, arr_at hy, arrD]
  refine ⟨by simp, ?_⟩
  rw [x2, y2] at q
  exact q
theorem m_ends : ∀ ts Q R, sp_ends ts Q R → b_ends (endsOf ts Q R) (startT N_ends.length ts) := by
  rintro ts Q R ⟨w, n, ar, p, rfl, hw, hp, q⟩
  have e : startT N_ends.length [.fr w, .fr (wayD p)] = [some (.fr w), some (.fr (wayD p))] := rfl
  rw [e]
  simp only [b_ends, b_ends_r1, dDic1, dLenSetT, dSeq, dSet, dRet, dRetN, dDrop, dIfS, dNext, dFr, dFz, dVar, dC, dOp, dB, dChain, dAnd, dOr, dNot, dAndV, dOrV, dNotV, dIf, dNeg, dRev, dBack, dDic0, dCons, dNil, dTup, dLst, dRep, dIxV, dInV, dLenV, dCallB, dCall, dIsi, dItems, dRange1, dEnum, dZip, dYes, dgName, dgTup, dgCons, dgNil, dAsg, dApp, dPopAt, dAugIx, dSetIx, dCallL, dBits, dLstRg1, dFldV, dSetF, dMake, dCut, dPart, dNoPart, rCut, endsOf, exitT, peek, setOk, withOw, isOw, withT, lentQ, l_lend1, l_lend2, l_lend3, l_back1, l_back2, l_back3, l_kind1, l_kind2, l_kind3, l_kind4, l_kind5, l_kind6, l_frz1, l_frz2, l_frz3, l_frz4, noOw, wipeT, restT, cLen, cInt, cAbs, cTuple, cList, cStr, keyD, rIsB, rIsNotB, rAdd, rSub, rMul, rMod, rDiv, rPow, rShl, rShr, rBand, rBor, rLt, rLe, rGt, rGe, rAddI, rIx, l_at0, l_at1, l_at2, l_at3, l_at4, Int.reduceToNat, l_eqI, l_neI, l_eqB, l_neB, List.getElem?_cons_zero, List.getElem?_cons_succ, List.set_cons_zero, List.set_cons_succ, List.map_cons, List.map_nil, List.append_nil, List.cons_append, List.nil_append, List.replicate_succ, List.replicate_zero, Option.isSome_some, List.getD_cons_zero, List.getD_cons_succ, forall_const, true_and, and_true]
  exact ⟨w, n, ar, wayD p, rfl, hw, hp.plain, hp.1, w, n, ar, p, rfl, hw, hp, q⟩
theorem pls_D (ar : Ar) (p : List Nat) : [nD (begW ar p)] ++ (p.map fun k => nD (endA ar k)) = natsD (plsW ar p) := by
  show nD (begW ar p) :: _ = nD (begW ar p) :: natsD (p.map (endA ar))
  unfold natsD
  rw [List.map_map]
  rfl
theorem m_passed_by : ∀ ts Q R, sp_passed_by ts Q R → b_passed_by (endsOf ts Q R) (startT N_passed_by.length ts) := by
  rintro ts Q R ⟨_, n, ar, p, rfl, ⟨c, ord, reach, hc, rfl, w⟩, hp, q⟩
  have hpa : pf_arrows c := by (have hc2 := hc; simp only [webC, List.mem_cons, List.not_mem_nil, or_false] at hc2; show c ∈ _; simp only [List.mem_cons, List.not_mem_nil, or_false]; omega)
  have e : startT N_passed_by.length [.fr (.ins c (webFs n ar ord reach)), .fr (wayD p)] = [some (.fr (.ins c (webFs n ar ord reach))), some (.fr (.tup (natsD p))), none] := rfl
  rw [e]
  obtain ⟨x, hx, x1, x2⟩ := way_first hp.ok
  have hl := hp.2
  simp only [b_passed_by, dDic1, dLenSetT, dSeq, dSet, dRet, dRetN, dDrop, dIfS, dNext, dFr, dFz, dVar, dC, dOp, dB, dChain, dAnd, dOr, dNot, dAndV, dOrV, dNotV, dIf, dNeg, dRev, dBack, dDic0, dCons, dNil, dTup, dLst, dRep, dIxV, dInV, dLenV, dCallB, dCall, dIsi, dItems, dRange1, dEnum, dZip, dYes, dgName, dgTup, dgCons, dgNil, dAsg, dApp, dPopAt, dAugIx, dSetIx, dCallL, dBits, dLstRg1, dFldV, dSetF, dMake, dCut, dPart, dNoPart, rCut, endsOf, exitT, peek, setOk, withOw, isOw, withT, lentQ, l_lend1, l_lend2, l_lend3, l_back1, l_back2, l_back3, l_kind1, l_kind2, l_kind3, l_kind4, l_kind5, l_kind6, l_frz1, l_frz2, l_frz3, l_frz4, noOw, wipeT, restT, cLen, cInt, cAbs, cTuple, cList, cStr, keyD, rIsB, rIsNotB, rAdd, rSub, rMul, rMod, rDiv, rPow, rShl, rShr, rBand, rBor, rLt, rLe, rGt, rGe, rAddI, rIx, l_at0, l_at1, l_at2, l_at3, l_at4, Int.reduceToNat, l_eqI, l_neI, l_eqB, l_neB, List.getElem?_cons_zero, List.getElem?_cons_succ, List.set_cons_zero, List.set_cons_succ, List.map_cons, List.map_nil, List.append_nil, List.cons_append, List.nil_append, List.replicate_succ, List.replicate_zero, Option.isSome_some, List.getD_cons_zero, List.getD_cons_succ, forall_const, true_and, and_true, l_ixF hpa (l_arrows n ar ord reach), arsD, x1, arr_at hx, arrD]
  refine ⟨by simp, ?_⟩
  show LcB (natsD p) _ _ _ _ _ _
  refine lc_map nD (fun k => nD (endA ar k)) p (by omega) (by simp [noOw]) (fun k hk Y N hy => ?_) ?_
  · simp only [dDic1, dLenSetT, dSeq, dSet, dRet, dRetN, dDrop, dIfS, dNext, dFr, dFz, dVar, dC, dOp, dB, dChain, dAnd, dOr, dNot, dAndV, dOrV, dNotV, dIf, dNeg, dRev, dBack, dDic0, dCons, dNil, dTup, dLst, dRep, dIxV, dInV, dLenV, dCallB, dCall, dIsi, dItems, dRange1, dEnum, dZip, dYes, dgName, dgTup, dgCons, dgNil, dAsg, dApp, dPopAt, dAugIx, dSetIx, dCallL, dBits, dLstRg1, dFldV, dSetF, dMake, dCut, dPart, dNoPart, rCut, endsOf, exitT, peek, setOk, withOw, isOw, withT, lentQ, l_lend1, l_lend2, l_lend3, l_back1, l_back2, l_back3, l_kind1, l_kind2, l_kind3, l_kind4, l_kind5, l_kind6, l_frz1, l_frz2, l_frz3, l_frz4, noOw, wipeT, restT, cLen, cInt, cAbs, cTuple, cList, cStr, keyD, rIsB, rIsNotB, rAdd, rSub, rMul, rMod, rDiv, rPow, rShl, rShr, rBand, rBor, rLt, rLe, rGt, rGe, rAddI, rIx, l_at0, l_at1, l_at2, l_at3, l_at4, Int.reduceToNat, l_eqI, l_neI, l_eqB, l_neB, List.getElem?_cons_zero, List.getElem?_cons_succ, List.set_cons_zero, List.set_cons_succ, List.map_cons, List.map_nil, List.append_nil, List.cons_append, List.nil_append, List.replicate_succ, List.replicate_zero, Option.isSome_some, List.getD_cons_zero, List.getD_cons_succ, forall_const, true_and, and_true, l_ixF hpa (l_arrows n ar ord reach), arsD, arr_at (hp.ok.lt k hk), arrD]
    exact hy
  · simp only [dDic1, dLenSetT, dSeq, dSet, dRet, dRetN, dDrop, dIfS, dNext, dFr, dFz, dVar, dC, dOp, dB, dChain, dAnd, dOr, dNot, dAndV, dOrV, dNotV, dIf, dNeg, dRev, dBack, dDic0, dCons, dNil, dTup, dLst, dRep, dIxV, dInV, dLenV, dCallB, dCall, dIsi, dItems, dRange1, dEnum, dZip, dYes, dgName, dgTup, dgCons, dgNil, dAsg, dApp, dPopAt, dAugIx, dSetIx, dCallL, dBits, dLstRg1, dFldV, dSetF, dMake, dCut, dPart, dNoPart, rCut, endsOf, exitT, peek, setOk, withOw, isOw, withT, lentQ, l_lend1, l_lend2, l_lend3, l_back1, l_back2, l_back3, l_kind1, l_kind2, l_kind3, l_kind4, l_kind5, l_kind6, l_frz1, l_frz2, l_frz3, l_frz4, noOw, wipeT, restT, cLen, cInt, cAbs, cTuple, cList, cStr, keyD, rIsB, rIsNotB, rAdd, rSub, rMul, rMod, rDiv, rPow, rShl, rShr, rBand, rBor, rLt, rLe, rGt, rGe, rAddI, rIx, l_at0, l_at1, l_at2, l_at3, l_at4, Int.reduceToNat, l_eqI, l_neI, l_eqB, l_neB, List.getElem?_cons_zero, List.getElem?_cons_succ, List.set_cons_zero, List.set_cons_succ, List.map_cons, List.map_nil, List.append_nil, List.cons_append, List.nil_append, List.replicate_succ, List.replicate_zero, Option.isSome_some, List.getD_cons_zero, List.getD_cons_succ, forall_const, true_and, and_true]
    refine ⟨by simp; omega, ?_⟩
    rw [← x2]
    have := pls_D ar p
    rw [List.singleton_append] at this
    rw [this]
    exact q
theorem m_passed : ∀ ts Q R, sp_passed ts Q R → b_passed (endsOf ts Q R) (startT N_passed.length ts) := by
  rintro ts Q R ⟨w, n, ar, p, rfl, hw, hp, q⟩
  have e : startT N_passed.length [.fr w, .fr (wayD p)] = [some (.fr w), some (.fr (wayD p))] := rfl
  rw [e]
  simp only [b_passed, b_passed_r1, dDic1, dLenSetT, dSeq, dSet, dRet, dRetN, dDrop, dIfS, dNext, dFr, dFz, dVar, dC, dOp, dB, dChain, dAnd, dOr, dNot, dAndV, dOrV, dNotV, dIf, dNeg, dRev, dBack, dDic0, dCons, dNil, dTup, dLst, dRep, dIxV, dInV, dLenV, dCallB, dCall, dIsi, dItems, dRange1, dEnum, dZip, dYes, dgName, dgTup, dgCons, dgNil, dAsg, dApp, dPopAt, dAugIx, dSetIx, dCallL, dBits, dLstRg1, dFldV, dSetF, dMake, dCut, dPart, dNoPart, rCut, endsOf, exitT, peek, setOk, withOw, isOw, withT, lentQ, l_lend1, l_lend2, l_lend3, l_back1, l_back2, l_back3, l_kind1, l_kind2, l_kind3, l_kind4, l_kind5, l_kind6, l_frz1, l_frz2, l_frz3, l_frz4, noOw, wipeT, restT, cLen, cInt, cAbs, cTuple, cList, cStr, keyD, rIsB, rIsNotB, rAdd, rSub, rMul, rMod, rDiv, rPow, rShl, rShr, rBand, rBor, rLt, rLe, rGt, rGe, rAddI, rIx, l_at0, l_at1, l_at2, l_at3, l_at4, Int.reduceToNat, l_eqI, l_neI, l_eqB, l_neB, List.getElem?_cons_zero, List.getElem?_cons_succ, List.set_cons_zero, List.set_cons_succ, List.map_cons, List.map_nil, List.append_nil, List.cons_append, List.nil_append, List.replicate_succ, List.replicate_zero, Option.isSome_some, List.getD_cons_zero, List.getD_cons_succ, forall_const, true_and, and_true]
  exact ⟨w, n, ar, wayD p, rfl, hw, hp.plain, hp.1, w, n, ar, p, rfl, hw, hp, q⟩
theorem m__law_whole : ∀ ts Q R, sp__law_whole ts Q R → b__law_whole (endsOf ts Q R) (startT N__law_whole.length ts) := by
  rintro ts Q R ⟨d, lo, hi, rfl, h, q⟩
  have e : startT N__law_whole.length [.fr d, .fr (.int lo), .fr (.int hi)] = [some (.fr d), some (.fr (.int lo)), some (.fr (.int hi))] := rfl
  rw [e]
  cases d with
  | int i =>
    have t1 : (["int"].any (isOne "int")) = true := by decide +kernel
    simp only [b__law_whole, dDic1, dLenSetT, dSeq, dSet, dRet, dRetN, dDrop, dIfS, dNext, dFr, dFz, dVar, dC, dOp, dB, dChain, dAnd, dOr, dNot, dAndV, dOrV, dNotV, dIf, dNeg, dRev, dBack, dDic0, dCons, dNil, dTup, dLst, dRep, dIxV, dInV, dLenV, dCallB, dCall, dIsi, dItems, dRange1, dEnum, dZip, dYes, dgName, dgTup, dgCons, dgNil, dAsg, dApp, dPopAt, dAugIx, dSetIx, dCallL, dBits, dLstRg1, dFldV, dSetF, dMake, dCut, dPart, dNoPart, rCut, endsOf, exitT, peek, setOk, withOw, isOw, withT, lentQ, l_lend1, l_lend2, l_lend3, l_back1, l_back2, l_back3, l_kind1, l_kind2, l_kind3, l_kind4, l_kind5, l_kind6, l_frz1, l_frz2, l_frz3, l_frz4, noOw, wipeT, restT, cLen, cInt, cAbs, cTuple, cList, cStr, keyD, rIsB, rIsNotB, rAdd, rSub, rMul, rMod, rDiv, rPow, rShl, rShr, rBand, rBor, rLt, rLe, rGt, rGe, rAddI, rIx, l_at0, l_at1, l_at2, l_at3, l_at4, Int.reduceToNat, l_eqI, l_neI, l_eqB, l_neB, List.getElem?_cons_zero, List.getElem?_cons_succ, List.set_cons_zero, List.set_cons_succ, List.map_cons, List.map_nil, List.append_nil, List.cons_append, List.nil_append, List.replicate_succ, List.replicate_zero, Option.isSome_some, List.getD_cons_zero, List.getD_cons_succ, forall_const, true_and, and_true, tyD, t1, t_Bi, Bool.not_false]
    by_cases h1 : lo ≤ i
    · simpa [h1, inD] using q
    · simpa [h1, inD] using q
  | bl b =>
    have t1 : (["int"].any (isOne "bool")) = true := by decide +kernel
    simp only [b__law_whole, dDic1, dLenSetT, dSeq, dSet, dRet, dRetN, dDrop, dIfS, dNext, dFr, dFz, dVar, dC, dOp, dB, dChain, dAnd, dOr, dNot, dAndV, dOrV, dNotV, dIf, dNeg, dRev, dBack, dDic0, dCons, dNil, dTup, dLst, dRep, dIxV, dInV, dLenV, dCallB, dCall, dIsi, dItems, dRange1, dEnum, dZip, dYes, dgName, dgTup, dgCons, dgNil, dAsg, dApp, dPopAt, dAugIx, dSetIx, dCallL, dBits, dLstRg1, dFldV, dSetF, dMake, dCut, dPart, dNoPart, rCut, endsOf, exitT, peek, setOk, withOw, isOw, withT, lentQ, l_lend1, l_lend2, l_lend3, l_back1, l_back2, l_back3, l_kind1, l_kind2, l_kind3, l_kind4, l_kind5, l_kind6, l_frz1, l_frz2, l_frz3, l_frz4, noOw, wipeT, restT, cLen, cInt, cAbs, cTuple, cList, cStr, keyD, rIsB, rIsNotB, rAdd, rSub, rMul, rMod, rDiv, rPow, rShl, rShr, rBand, rBor, rLt, rLe, rGt, rGe, rAddI, rIx, l_at0, l_at1, l_at2, l_at3, l_at4, Int.reduceToNat, l_eqI, l_neI, l_eqB, l_neB, List.getElem?_cons_zero, List.getElem?_cons_succ, List.set_cons_zero, List.set_cons_succ, List.map_cons, List.map_nil, List.append_nil, List.cons_append, List.nil_append, List.replicate_succ, List.replicate_zero, Option.isSome_some, List.getD_cons_zero, List.getD_cons_succ, forall_const, true_and, and_true, tyD, t1, t_Bb, Bool.not_true]
    exact q
  | ins => exact Bool.noConfusion h
  | scr => exact Bool.noConfusion h
  | non =>
    have t1 : (["int"].any (isOne "NoneType")) = false := by decide +kernel
    simp only [b__law_whole, dDic1, dLenSetT, dSeq, dSet, dRet, dRetN, dDrop, dIfS, dNext, dFr, dFz, dVar, dC, dOp, dB, dChain, dAnd, dOr, dNot, dAndV, dOrV, dNotV, dIf, dNeg, dRev, dBack, dDic0, dCons, dNil, dTup, dLst, dRep, dIxV, dInV, dLenV, dCallB, dCall, dIsi, dItems, dRange1, dEnum, dZip, dYes, dgName, dgTup, dgCons, dgNil, dAsg, dApp, dPopAt, dAugIx, dSetIx, dCallL, dBits, dLstRg1, dFldV, dSetF, dMake, dCut, dPart, dNoPart, rCut, endsOf, exitT, peek, setOk, withOw, isOw, withT, lentQ, l_lend1, l_lend2, l_lend3, l_back1, l_back2, l_back3, l_kind1, l_kind2, l_kind3, l_kind4, l_kind5, l_kind6, l_frz1, l_frz2, l_frz3, l_frz4, noOw, wipeT, restT, cLen, cInt, cAbs, cTuple, cList, cStr, keyD, rIsB, rIsNotB, rAdd, rSub, rMul, rMod, rDiv, rPow, rShl, rShr, rBand, rBor, rLt, rLe, rGt, rGe, rAddI, rIx, l_at0, l_at1, l_at2, l_at3, l_at4, Int.reduceToNat, l_eqI, l_neI, l_eqB, l_neB, List.getElem?_cons_zero, List.getElem?_cons_succ, List.set_cons_zero, List.set_cons_succ, List.map_cons, List.map_nil, List.append_nil, List.cons_append, List.nil_append, List.replicate_succ, List.replicate_zero, Option.isSome_some, List.getD_cons_zero, List.getD_cons_succ, forall_const, true_and, and_true, tyD, t1]
    exact q
  | str s =>
    have t1 : (["int"].any (isOne "str")) = false := by decide +kernel
    simp only [b__law_whole, dDic1, dLenSetT, dSeq, dSet, dRet, dRetN, dDrop, dIfS, dNext, dFr, dFz, dVar, dC, dOp, dB, dChain, dAnd, dOr, dNot, dAndV, dOrV, dNotV, dIf, dNeg, dRev, dBack, dDic0, dCons, dNil, dTup, dLst, dRep, dIxV, dInV, dLenV, dCallB, dCall, dIsi, dItems, dRange1, dEnum, dZip, dYes, dgName, dgTup, dgCons, dgNil, dAsg, dApp, dPopAt, dAugIx, dSetIx, dCallL, dBits, dLstRg1, dFldV, dSetF, dMake, dCut, dPart, dNoPart, rCut, endsOf, exitT, peek, setOk, withOw, isOw, withT, lentQ, l_lend1, l_lend2, l_lend3, l_back1, l_back2, l_back3, l_kind1, l_kind2, l_kind3, l_kind4, l_kind5, l_kind6, l_frz1, l_frz2, l_frz3, l_frz4, noOw, wipeT, restT, cLen, cInt, cAbs, cTuple, cList, cStr, keyD, rIsB, rIsNotB, rAdd, rSub, rMul, rMod, rDiv, rPow, rShl, rShr, rBand, rBor, rLt, rLe, rGt, rGe, rAddI, rIx, l_at0, l_at1, l_at2, l_at3, l_at4, Int.reduceToNat, l_eqI, l_neI, l_eqB, l_neB, List.getElem?_cons_zero, List.getElem?_cons_succ, List.set_cons_zero, List.set_cons_succ, List.map_cons, List.map_nil, List.append_nil, List.cons_append, List.nil_append, List.replicate_succ, List.replicate_zero, Option.isSome_some, List.getD_cons_zero, List.getD_cons_succ, forall_const, true_and, and_true, tyD, t1]
    exact q
  | tup s =>
    have t1 : (["int"].any (isOne "tuple")) = false := by decide +kernel
    simp only [b__law_whole, dDic1, dLenSetT, dSeq, dSet, dRet, dRetN, dDrop, dIfS, dNext, dFr, dFz, dVar, dC, dOp, dB, dChain, dAnd, dOr, dNot, dAndV, dOrV, dNotV, dIf, dNeg, dRev, dBack, dDic0, dCons, dNil, dTup, dLst, dRep, dIxV, dInV, dLenV, dCallB, dCall, dIsi, dItems, dRange1, dEnum, dZip, dYes, dgName, dgTup, dgCons, dgNil, dAsg, dApp, dPopAt, dAugIx, dSetIx, dCallL, dBits, dLstRg1, dFldV, dSetF, dMake, dCut, dPart, dNoPart, rCut, endsOf, exitT, peek, setOk, withOw, isOw, withT, lentQ, l_lend1, l_lend2, l_lend3, l_back1, l_back2, l_back3, l_kind1, l_kind2, l_kind3, l_kind4, l_kind5, l_kind6, l_frz1, l_frz2, l_frz3, l_frz4, noOw, wipeT, restT, cLen, cInt, cAbs, cTuple, cList, cStr, keyD, rIsB, rIsNotB, rAdd, rSub, rMul, rMod, rDiv, rPow, rShl, rShr, rBand, rBor, rLt, rLe, rGt, rGe, rAddI, rIx, l_at0, l_at1, l_at2, l_at3, l_at4, Int.reduceToNat, l_eqI, l_neI, l_eqB, l_neB, List.getElem?_cons_zero, List.getElem?_cons_succ, List.set_cons_zero, List.set_cons_succ, List.map_cons, List.map_nil, List.append_nil, List.cons_append, List.nil_append, List.replicate_succ, List.replicate_zero, Option.isSome_some, List.getD_cons_zero, List.getD_cons_succ, forall_const, true_and, and_true, tyD, t1]
    exact q
  | lst s =>
    have t1 : (["int"].any (isOne "list")) = false := by decide +kernel
    simp only [b__law_whole, dDic1, dLenSetT, dSeq, dSet, dRet, dRetN, dDrop, dIfS, dNext, dFr, dFz, dVar, dC, dOp, dB, dChain, dAnd, dOr, dNot, dAndV, dOrV, dNotV, dIf, dNeg, dRev, dBack, dDic0, dCons, dNil, dTup, dLst, dRep, dIxV, dInV, dLenV, dCallB, dCall, dIsi, dItems, dRange1, dEnum, dZip, dYes, dgName, dgTup, dgCons, dgNil, dAsg, dApp, dPopAt, dAugIx, dSetIx, dCallL, dBits, dLstRg1, dFldV, dSetF, dMake, dCut, dPart, dNoPart, rCut, endsOf, exitT, peek, setOk, withOw, isOw, withT, lentQ, l_lend1, l_lend2, l_lend3, l_back1, l_back2, l_back3, l_kind1, l_kind2, l_kind3, l_kind4, l_kind5, l_kind6, l_frz1, l_frz2, l_frz3, l_frz4, noOw, wipeT, restT, cLen, cInt, cAbs, cTuple, cList, cStr, keyD, rIsB, rIsNotB, rAdd, rSub, rMul, rMod, rDiv, rPow, rShl, rShr, rBand, rBor, rLt, rLe, rGt, rGe, rAddI, rIx, l_at0, l_at1, l_at2, l_at3, l_at4, Int.reduceToNat, l_eqI, l_neI, l_eqB, l_neB, List.getElem?_cons_zero, List.getElem?_cons_succ, List.set_cons_zero, List.set_cons_succ, List.map_cons, List.map_nil, List.append_nil, List.cons_append, List.nil_append, List.replicate_succ, List.replicate_zero, Option.isSome_some, List.getD_cons_zero, List.getD_cons_succ, forall_const, true_and, and_true, tyD, t1]
    exact q
  | dic s =>
    have t1 : (["int"].any (isOne "dict")) = false := by decide +kernel
    simp only [b__law_whole, dDic1, dLenSetT, dSeq, dSet, dRet, dRetN, dDrop, dIfS, dNext, dFr, dFz, dVar, dC, dOp, dB, dChain, dAnd, dOr, dNot, dAndV, dOrV, dNotV, dIf, dNeg, dRev, dBack, dDic0, dCons, dNil, dTup, dLst, dRep, dIxV, dInV, dLenV, dCallB, dCall, dIsi, dItems, dRange1, dEnum, dZip, dYes, dgName, dgTup, dgCons, dgNil, dAsg, dApp, dPopAt, dAugIx, dSetIx, dCallL, dBits, dLstRg1, dFldV, dSetF, dMake, dCut, dPart, dNoPart, rCut, endsOf, exitT, peek, setOk, withOw, isOw, withT, lentQ, l_lend1, l_lend2, l_lend3, l_back1, l_back2, l_back3, l_kind1, l_kind2, l_kind3, l_kind4, l_kind5, l_kind6, l_frz1, l_frz2, l_frz3, l_frz4, noOw, wipeT, restT, cLen, cInt, cAbs, cTuple, cList, cStr, keyD, rIsB, rIsNotB, rAdd, rSub, rMul, rMod, rDiv, rPow, rShl, rShr, rBand, rBor, rLt, rLe, rGt, rGe, rAddI, rIx, l_at0, l_at1, l_at2, l_at3, l_at4, Int.reduceToNat, l_eqI, l_neI, l_eqB, l_neB, List.getElem?_cons_zero, List.getElem?_cons_succ, List.set_cons_zero, List.set_cons_succ, List.map_cons, List.map_nil, List.append_nil, List.cons_append, List.nil_append, List.replicate_succ, List.replicate_zero, Option.isSome_some, List.getD_cons_zero, List.getD_cons_succ, forall_const, true_and, and_true, tyD, t1]
    exact q
theorem m__law_is_way : ∀ ts Q R, sp__law_is_way ts Q R → b__law_is_way (endsOf ts Q R) (startT N__law_is_way.length ts) := by
  rintro ts Q R ⟨ar, d, rfl, hd, har, q⟩
  have e : startT N__law_is_way.length [.fr (arsD ar), .fr d] = [some (.fr (.tup (ar.map arrD))), some (.fr d), none, none, none] := rfl
  rw [e]
  have hnt : ∀ s, tyD d = some s → (["tuple"].any (isOne s)) = false → wayB ar d = false → b__law_is_way (endsOf [.fr (arsD ar), .fr d] Q R) [some (.fr (.tup (ar.map arrD))), some (.fr d), none, none, none] := fun s h1 h2 h3 => by
    simp only [b__law_is_way, dDic1, dLenSetT, dSeq, dSet, dRet, dRetN, dDrop, dIfS, dNext, dFr, dFz, dVar, dC, dOp, dB, dChain, dAnd, dOr, dNot, dAndV, dOrV, dNotV, dIf, dNeg, dRev, dBack, dDic0, dCons, dNil, dTup, dLst, dRep, dIxV, dInV, dLenV, dCallB, dCall, dIsi, dItems, dRange1, dEnum, dZip, dYes, dgName, dgTup, dgCons, dgNil, dAsg, dApp, dPopAt, dAugIx, dSetIx, dCallL, dBits, dLstRg1, dFldV, dSetF, dMake, dCut, dPart, dNoPart, rCut, endsOf, exitT, peek, setOk, withOw, isOw, withT, lentQ, l_lend1, l_lend2, l_lend3, l_back1, l_back2, l_back3, l_kind1, l_kind2, l_kind3, l_kind4, l_kind5, l_kind6, l_frz1, l_frz2, l_frz3, l_frz4, noOw, wipeT, restT, cLen, cInt, cAbs, cTuple, cList, cStr, keyD, rIsB, rIsNotB, rAdd, rSub, rMul, rMod, rDiv, rPow, rShl, rShr, rBand, rBor, rLt, rLe, rGt, rGe, rAddI, rIx, l_at0, l_at1, l_at2, l_at3, l_at4, Int.reduceToNat, l_eqI, l_neI, l_eqB, l_neB, List.getElem?_cons_zero, List.getElem?_cons_succ, List.set_cons_zero, List.set_cons_succ, List.map_cons, List.map_nil, List.append_nil, List.cons_append, List.nil_append, List.replicate_succ, List.replicate_zero, Option.isSome_some, List.getD_cons_zero, List.getD_cons_succ, forall_const, true_and, and_true, h1, h2, Bool.not_false]
    rw [h3] at q
    exact q
  cases d with
  | tup ds =>
    obtain ⟨hlen, hty⟩ := hd.2 ds rfl
    simp only [b__law_is_way, dDic1, dLenSetT, dSeq, dSet, dRet, dRetN, dDrop, dIfS, dNext, dFr, dFz, dVar, dC, dOp, dB, dChain, dAnd, dOr, dNot, dAndV, dOrV, dNotV, dIf, dNeg, dRev, dBack, dDic0, dCons, dNil, dTup, dLst, dRep, dIxV, dInV, dLenV, dCallB, dCall, dIsi, dItems, dRange1, dEnum, dZip, dYes, dgName, dgTup, dgCons, dgNil, dAsg, dApp, dPopAt, dAugIx, dSetIx, dCallL, dBits, dLstRg1, dFldV, dSetF, dMake, dCut, dPart, dNoPart, rCut, endsOf, exitT, peek, setOk, withOw, isOw, withT, lentQ, l_lend1, l_lend2, l_lend3, l_back1, l_back2, l_back3, l_kind1, l_kind2, l_kind3, l_kind4, l_kind5, l_kind6, l_frz1, l_frz2, l_frz3, l_frz4, noOw, wipeT, restT, cLen, cInt, cAbs, cTuple, cList, cStr, keyD, rIsB, rIsNotB, rAdd, rSub, rMul, rMod, rDiv, rPow, rShl, rShr, rBand, rBor, rLt, rLe, rGt, rGe, rAddI, rIx, l_at0, l_at1, l_at2, l_at3, l_at4, Int.reduceToNat, l_eqI, l_neI, l_eqB, l_neB, List.getElem?_cons_zero, List.getElem?_cons_succ, List.set_cons_zero, List.set_cons_succ, List.map_cons, List.map_nil, List.append_nil, List.cons_append, List.nil_append, List.replicate_succ, List.replicate_zero, Option.isSome_some, List.getD_cons_zero, List.getD_cons_succ, forall_const, true_and, and_true, tyD, t_Tt, Bool.not_true]
    by_cases h0 : ds = []
    · subst h0
      simp only [List.length_nil, Int.ofNat_zero, dDic1, dLenSetT, dSeq, dSet, dRet, dRetN, dDrop, dIfS, dNext, dFr, dFz, dVar, dC, dOp, dB, dChain, dAnd, dOr, dNot, dAndV, dOrV, dNotV, dIf, dNeg, dRev, dBack, dDic0, dCons, dNil, dTup, dLst, dRep, dIxV, dInV, dLenV, dCallB, dCall, dIsi, dItems, dRange1, dEnum, dZip, dYes, dgName, dgTup, dgCons, dgNil, dAsg, dApp, dPopAt, dAugIx, dSetIx, dCallL, dBits, dLstRg1, dFldV, dSetF, dMake, dCut, dPart, dNoPart, rCut, endsOf, exitT, peek, setOk, withOw, isOw, withT, lentQ, l_lend1, l_lend2, l_lend3, l_back1, l_back2, l_back3, l_kind1, l_kind2, l_kind3, l_kind4, l_kind5, l_kind6, l_frz1, l_frz2, l_frz3, l_frz4, noOw, wipeT, restT, cLen, cInt, cAbs, cTuple, cList, cStr, keyD, rIsB, rIsNotB, rAdd, rSub, rMul, rMod, rDiv, rPow, rShl, rShr, rBand, rBor, rLt, rLe, rGt, rGe, rAddI, rIx, l_at0, l_at1, l_at2, l_at3, l_at4, Int.reduceToNat, l_eqI, l_neI, l_eqB, l_neB, List.getElem?_cons_zero, List.getElem?_cons_succ, List.set_cons_zero, List.set_cons_succ, List.map_cons, List.map_nil, List.append_nil, List.cons_append, List.nil_append, List.replicate_succ, List.replicate_zero, Option.isSome_some, List.getD_cons_zero, List.getD_cons_succ, forall_const, true_and, and_true, decide_true]
      exact q
    have h0' : ¬ ((ds.length : Nat) : Int) = 0 := fun z => h0 (List.eq_nil_of_length_eq_zero (by omega))
    simp only [h0', decide_false, b__law_is_way_r4, dDic1, dLenSetT, dSeq, dSet, dRet, dRetN, dDrop, dIfS, dNext, dFr, dFz, dVar, dC, dOp, dB, dChain, dAnd, dOr, dNot, dAndV, dOrV, dNotV, dIf, dNeg, dRev, dBack, dDic0, dCons, dNil, dTup, dLst, dRep, dIxV, dInV, dLenV, dCallB, dCall, dIsi, dItems, dRange1, dEnum, dZip, dYes, dgName, dgTup, dgCons, dgNil, dAsg, dApp, dPopAt, dAugIx, dSetIx, dCallL, dBits, dLstRg1, dFldV, dSetF, dMake, dCut, dPart, dNoPart, rCut, endsOf, exitT, peek, setOk, withOw, isOw, withT, lentQ, l_lend1, l_lend2, l_lend3, l_back1, l_back2, l_back3, l_kind1, l_kind2, l_kind3, l_kind4, l_kind5, l_kind6, l_frz1, l_frz2, l_frz3, l_frz4, noOw, wipeT, restT, cLen, cInt, cAbs, cTuple, cList, cStr, keyD, rIsB, rIsNotB, rAdd, rSub, rMul, rMod, rDiv, rPow, rShl, rShr, rBand, rBor, rLt, rLe, rGt, rGe, rAddI, rIx, l_at0, l_at1, l_at2, l_at3, l_at4, Int.reduceToNat, l_eqI, l_neI, l_eqB, l_neB, List.getElem?_cons_zero, List.getElem?_cons_succ, List.set_cons_zero, List.set_cons_succ, List.map_cons, List.map_nil, List.append_nil, List.cons_append, List.nil_append, List.replicate_succ, List.replicate_zero, Option.isSome_some, List.getD_cons_zero, List.getD_cons_succ, forall_const, true_and, and_true]
    show LcB ds _ _ _ _ _ _
    refine lc_id (fun d => .bl (okA ar.length d)) (by omega) (by simp [noOw]) (fun x hx Y N hy => ?_) ?_
    · simp only [dDic1, dLenSetT, dSeq, dSet, dRet, dRetN, dDrop, dIfS, dNext, dFr, dFz, dVar, dC, dOp, dB, dChain, dAnd, dOr, dNot, dAndV, dOrV, dNotV, dIf, dNeg, dRev, dBack, dDic0, dCons, dNil, dTup, dLst, dRep, dIxV, dInV, dLenV, dCallB, dCall, dIsi, dItems, dRange1, dEnum, dZip, dYes, dgName, dgTup, dgCons, dgNil, dAsg, dApp, dPopAt, dAugIx, dSetIx, dCallL, dBits, dLstRg1, dFldV, dSetF, dMake, dCut, dPart, dNoPart, rCut, endsOf, exitT, peek, setOk, withOw, isOw, withT, lentQ, l_lend1, l_lend2, l_lend3, l_back1, l_back2, l_back3, l_kind1, l_kind2, l_kind3, l_kind4, l_kind5, l_kind6, l_frz1, l_frz2, l_frz3, l_frz4, noOw, wipeT, restT, cLen, cInt, cAbs, cTuple, cList, cStr, keyD, rIsB, rIsNotB, rAdd, rSub, rMul, rMod, rDiv, rPow, rShl, rShr, rBand, rBor, rLt, rLe, rGt, rGe, rAddI, rIx, l_at0, l_at1, l_at2, l_at3, l_at4, Int.reduceToNat, l_eqI, l_neI, l_eqB, l_neB, List.getElem?_cons_zero, List.getElem?_cons_succ, List.set_cons_zero, List.set_cons_succ, List.map_cons, List.map_nil, List.append_nil, List.cons_append, List.nil_append, List.replicate_succ, List.replicate_zero, Option.isSome_some, List.getD_cons_zero, List.getD_cons_succ, forall_const, true_and, and_true, List.length_map]
      exact ⟨x, 0, _, rfl, hty x hx, hy⟩
    · simp only [dDic1, dLenSetT, dSeq, dSet, dRet, dRetN, dDrop, dIfS, dNext, dFr, dFz, dVar, dC, dOp, dB, dChain, dAnd, dOr, dNot, dAndV, dOrV, dNotV, dIf, dNeg, dRev, dBack, dDic0, dCons, dNil, dTup, dLst, dRep, dIxV, dInV, dLenV, dCallB, dCall, dIsi, dItems, dRange1, dEnum, dZip, dYes, dgName, dgTup, dgCons, dgNil, dAsg, dApp, dPopAt, dAugIx, dSetIx, dCallL, dBits, dLstRg1, dFldV, dSetF, dMake, dCut, dPart, dNoPart, rCut, endsOf, exitT, peek, setOk, withOw, isOw, withT, lentQ, l_lend1, l_lend2, l_lend3, l_back1, l_back2, l_back3, l_kind1, l_kind2, l_kind3, l_kind4, l_kind5, l_kind6, l_frz1, l_frz2, l_frz3, l_frz4, noOw, wipeT, restT, cLen, cInt, cAbs, cTuple, cList, cStr, keyD, rIsB, rIsNotB, rAdd, rSub, rMul, rMod, rDiv, rPow, rShl, rShr, rBand, rBor, rLt, rLe, rGt, rGe, rAddI, rIx, l_at0, l_at1, l_at2, l_at3, l_at4, Int.reduceToNat, l_eqI, l_neI, l_eqB, l_neB, List.getElem?_cons_zero, List.getElem?_cons_succ, List.set_cons_zero, List.set_cons_succ, List.map_cons, List.map_nil, List.append_nil, List.cons_append, List.nil_append, List.replicate_succ, List.replicate_zero, Option.isSome_some, List.getD_cons_zero, List.getD_cons_succ, forall_const, true_and, and_true, cAll]
      refine ⟨ds.map (okA ar.length), by rw [List.map_map]; rfl, ?_⟩
      rw [all_map_ok]
      have hw : wayB ar (.tup ds) = (ds.all (okA ar.length) && linkB ar ds) := by
        show (!ds.isEmpty && ds.all (okA ar.length) && linkB ar ds) = _
        cases ds with
        | nil => exact absurd rfl h0
        | cons => rfl
      by_cases hall : ds.all (okA ar.length) = true
      · rw [hall] at hw ⊢
        obtain ⟨p, rfl, hp⟩ := ok_is hall
        simp only [Bool.not_true, b__law_is_way_r3, dDic1, dLenSetT, dSeq, dSet, dRet, dRetN, dDrop, dIfS, dNext, dFr, dFz, dVar, dC, dOp, dB, dChain, dAnd, dOr, dNot, dAndV, dOrV, dNotV, dIf, dNeg, dRev, dBack, dDic0, dCons, dNil, dTup, dLst, dRep, dIxV, dInV, dLenV, dCallB, dCall, dIsi, dItems, dRange1, dEnum, dZip, dYes, dgName, dgTup, dgCons, dgNil, dAsg, dApp, dPopAt, dAugIx, dSetIx, dCallL, dBits, dLstRg1, dFldV, dSetF, dMake, dCut, dPart, dNoPart, rCut, endsOf, exitT, peek, setOk, withOw, isOw, withT, lentQ, l_lend1, l_lend2, l_lend3, l_back1, l_back2, l_back3, l_kind1, l_kind2, l_kind3, l_kind4, l_kind5, l_kind6, l_frz1, l_frz2, l_frz3, l_frz4, noOw, wipeT, restT, cLen, cInt, cAbs, cTuple, cList, cStr, keyD, rIsB, rIsNotB, rAdd, rSub, rMul, rMod, rDiv, rPow, rShl, rShr, rBand, rBor, rLt, rLe, rGt, rGe, rAddI, rIx, l_at0, l_at1, l_at2, l_at3, l_at4, Int.reduceToNat, l_eqI, l_neI, l_eqB, l_neB, List.getElem?_cons_zero, List.getElem?_cons_succ, List.set_cons_zero, List.set_cons_succ, List.map_cons, List.map_nil, List.append_nil, List.cons_append, List.nil_append, List.replicate_succ, List.replicate_zero, Option.isSome_some, List.getD_cons_zero, List.getD_cons_succ, forall_const, true_and, and_true]
        show LcB (zipD (natsD p) (cutD (natsD p) (some 1) none)) _ _ _ _ _ _
        rw [cut_one, natsD_drop, zip_nats]
        rw [natsD_length] at hlen
        refine lc_map arrD (fun q => .bl (decide (endA ar q.1 = begA ar q.2))) (p.zip (p.drop 1)) (by rw [List.length_zip]; omega) (by simp [noOw]) (fun x hx Y N hy => ?_) ?_
        · have h1 := hp _ (List.of_mem_zip hx).1
          have h2 := hp _ (List.mem_of_mem_drop (List.of_mem_zip hx).2)
          simp only [arrD, dDic1, dLenSetT, dSeq, dSet, dRet, dRetN, dDrop, dIfS, dNext, dFr, dFz, dVar, dC, dOp, dB, dChain, dAnd, dOr, dNot, dAndV, dOrV, dNotV, dIf, dNeg, dRev, dBack, dDic0, dCons, dNil, dTup, dLst, dRep, dIxV, dInV, dLenV, dCallB, dCall, dIsi, dItems, dRange1, dEnum, dZip, dYes, dgName, dgTup, dgCons, dgNil, dAsg, dApp, dPopAt, dAugIx, dSetIx, dCallL, dBits, dLstRg1, dFldV, dSetF, dMake, dCut, dPart, dNoPart, rCut, endsOf, exitT, peek, setOk, withOw, isOw, withT, lentQ, l_lend1, l_lend2, l_lend3, l_back1, l_back2, l_back3, l_kind1, l_kind2, l_kind3, l_kind4, l_kind5, l_kind6, l_frz1, l_frz2, l_frz3, l_frz4, noOw, wipeT, restT, cLen, cInt, cAbs, cTuple, cList, cStr, keyD, rIsB, rIsNotB, rAdd, rSub, rMul, rMod, rDiv, rPow, rShl, rShr, rBand, rBor, rLt, rLe, rGt, rGe, rAddI, rIx, l_at0, l_at1, l_at2, l_at3, l_at4, Int.reduceToNat, l_eqI, l_neI, l_eqB, l_neB, List.getElem?_cons_zero, List.getElem?_cons_succ, List.set_cons_zero, List.set_cons_succ, List.map_cons, List.map_nil, List.append_nil, List.cons_append, List.nil_append, List.replicate_succ, List.replicate_zero, Option.isSome_some, List.getD_cons_zero, List.getD_cons_succ, forall_const, true_and, and_true, arr_at h1, arr_at h2]
          rw [dec_nat]
          exact ⟨rfl, hy⟩
        · simp only [dDic1, dLenSetT, dSeq, dSet, dRet, dRetN, dDrop, dIfS, dNext, dFr, dFz, dVar, dC, dOp, dB, dChain, dAnd, dOr, dNot, dAndV, dOrV, dNotV, dIf, dNeg, dRev, dBack, dDic0, dCons, dNil, dTup, dLst, dRep, dIxV, dInV, dLenV, dCallB, dCall, dIsi, dItems, dRange1, dEnum, dZip, dYes, dgName, dgTup, dgCons, dgNil, dAsg, dApp, dPopAt, dAugIx, dSetIx, dCallL, dBits, dLstRg1, dFldV, dSetF, dMake, dCut, dPart, dNoPart, rCut, endsOf, exitT, peek, setOk, withOw, isOw, withT, lentQ, l_lend1, l_lend2, l_lend3, l_back1, l_back2, l_back3, l_kind1, l_kind2, l_kind3, l_kind4, l_kind5, l_kind6, l_frz1, l_frz2, l_frz3, l_frz4, noOw, wipeT, restT, cLen, cInt, cAbs, cTuple, cList, cStr, keyD, rIsB, rIsNotB, rAdd, rSub, rMul, rMod, rDiv, rPow, rShl, rShr, rBand, rBor, rLt, rLe, rGt, rGe, rAddI, rIx, l_at0, l_at1, l_at2, l_at3, l_at4, Int.reduceToNat, l_eqI, l_neI, l_eqB, l_neB, List.getElem?_cons_zero, List.getElem?_cons_succ, List.set_cons_zero, List.set_cons_succ, List.map_cons, List.map_nil, List.append_nil, List.cons_append, List.nil_append, List.replicate_succ, List.replicate_zero, Option.isSome_some, List.getD_cons_zero, List.getD_cons_succ, forall_const, true_and, and_true, cAll]
          refine ⟨(p.zip (p.drop 1)).map fun q => decide (endA ar q.1 = begA ar q.2), by rw [List.map_map]; rfl, ?_⟩
          rw [link_zip]
          rw [hw, Bool.true_and] at q
          exact q
      · have hall := Bool.eq_false_iff.mpr hall
        rw [hall] at hw ⊢
        simp only [Bool.not_false, dDic1, dLenSetT, dSeq, dSet, dRet, dRetN, dDrop, dIfS, dNext, dFr, dFz, dVar, dC, dOp, dB, dChain, dAnd, dOr, dNot, dAndV, dOrV, dNotV, dIf, dNeg, dRev, dBack, dDic0, dCons, dNil, dTup, dLst, dRep, dIxV, dInV, dLenV, dCallB, dCall, dIsi, dItems, dRange1, dEnum, dZip, dYes, dgName, dgTup, dgCons, dgNil, dAsg, dApp, dPopAt, dAugIx, dSetIx, dCallL, dBits, dLstRg1, dFldV, dSetF, dMake, dCut, dPart, dNoPart, rCut, endsOf, exitT, peek, setOk, withOw, isOw, withT, lentQ, l_lend1, l_lend2, l_lend3, l_back1, l_back2, l_back3, l_kind1, l_kind2, l_kind3, l_kind4, l_kind5, l_kind6, l_frz1, l_frz2, l_frz3, l_frz4, noOw, wipeT, restT, cLen, cInt, cAbs, cTuple, cList, cStr, keyD, rIsB, rIsNotB, rAdd, rSub, rMul, rMod, rDiv, rPow, rShl, rShr, rBand, rBor, rLt, rLe, rGt, rGe, rAddI, rIx, l_at0, l_at1, l_at2, l_at3, l_at4, Int.reduceToNat, l_eqI, l_neI, l_eqB, l_neB, List.getElem?_cons_zero, List.getElem?_cons_succ, List.set_cons_zero, List.set_cons_succ, List.map_cons, List.map_nil, List.append_nil, List.cons_append, List.nil_append, List.replicate_succ, List.replicate_zero, Option.isSome_some, List.getD_cons_zero, List.getD_cons_succ, forall_const, true_and, and_true]
        rw [hw, Bool.false_and] at q
        exact q
  | ins => exact Bool.noConfusion hd.1
  | scr => exact Bool.noConfusion hd.1
  | _ => exact hnt _ rfl (by decide +kernel) rfl
theorem m__law_places : ∀ ts Q R, sp__law_places ts Q R → b__law_places (endsOf ts Q R) (startT N__law_places.length ts) := by
  rintro ts Q R ⟨ar, p, rfl, hp, q⟩
  have e : startT N__law_places.length [.fr (arsD ar), .fr (wayD p)] = [some (.fr (.tup (ar.map arrD))), some (.fr (.tup (natsD p))), none] := rfl
  rw [e]
  obtain ⟨x, hx, x1, x2⟩ := way_first hp.ok
  have hl := hp.2
  simp only [b__law_places, dDic1, dLenSetT, dSeq, dSet, dRet, dRetN, dDrop, dIfS, dNext, dFr, dFz, dVar, dC, dOp, dB, dChain, dAnd, dOr, dNot, dAndV, dOrV, dNotV, dIf, dNeg, dRev, dBack, dDic0, dCons, dNil, dTup, dLst, dRep, dIxV, dInV, dLenV, dCallB, dCall, dIsi, dItems, dRange1, dEnum, dZip, dYes, dgName, dgTup, dgCons, dgNil, dAsg, dApp, dPopAt, dAugIx, dSetIx, dCallL, dBits, dLstRg1, dFldV, dSetF, dMake, dCut, dPart, dNoPart, rCut, endsOf, exitT, peek, setOk, withOw, isOw, withT, lentQ, l_lend1, l_lend2, l_lend3, l_back1, l_back2, l_back3, l_kind1, l_kind2, l_kind3, l_kind4, l_kind5, l_kind6, l_frz1, l_frz2, l_frz3, l_frz4, noOw, wipeT, restT, cLen, cInt, cAbs, cTuple, cList, cStr, keyD, rIsB, rIsNotB, rAdd, rSub, rMul, rMod, rDiv, rPow, rShl, rShr, rBand, rBor, rLt, rLe, rGt, rGe, rAddI, rIx, l_at0, l_at1, l_at2, l_at3, l_at4, Int.reduceToNat, l_eqI, l_neI, l_eqB, l_neB, List.getElem?_cons_zero, List.getElem?_cons_succ, List.set_cons_zero, List.set_cons_succ, List.map_cons, List.map_nil, List.append_nil, List.cons_append, List.nil_append, List.replicate_succ, List.replicate_zero, Option.isSome_some, List.getD_cons_zero, List.getD_cons_succ, forall_const, true_and, and_true, x1, arr_at hx, arrD]
  refine ⟨by simp, ?_⟩
  show LcB (natsD p) _ _ _ _ _ _
  refine lc_map nD (fun k => nD (endA ar k)) p (by omega) (by simp [noOw]) (fun k hk Y N hy => ?_) ?_
  · simp only [dDic1, dLenSetT, dSeq, dSet, dRet, dRetN, dDrop, dIfS, dNext, dFr, dFz, dVar, dC, dOp, dB, dChain, dAnd, dOr, dNot, dAndV, dOrV, dNotV, dIf, dNeg, dRev, dBack, dDic0, dCons, dNil, dTup, dLst, dRep, dIxV, dInV, dLenV, dCallB, dCall, dIsi, dItems, dRange1, dEnum, dZip, dYes, dgName, dgTup, dgCons, dgNil, dAsg, dApp, dPopAt, dAugIx, dSetIx, dCallL, dBits, dLstRg1, dFldV, dSetF, dMake, dCut, dPart, dNoPart, rCut, endsOf, exitT, peek, setOk, withOw, isOw, withT, lentQ, l_lend1, l_lend2, l_lend3, l_back1, l_back2, l_back3, l_kind1, l_kind2, l_kind3, l_kind4, l_kind5, l_kind6, l_frz1, l_frz2, l_frz3, l_frz4, noOw, wipeT, restT, cLen, cInt, cAbs, cTuple, cList, cStr, keyD, rIsB, rIsNotB, rAdd, rSub, rMul, rMod, rDiv, rPow, rShl, rShr, rBand, rBor, rLt, rLe, rGt, rGe, rAddI, rIx, l_at0, l_at1, l_at2, l_at3, l_at4, Int.reduceToNat, l_eqI, l_neI, l_eqB, l_neB, List.getElem?_cons_zero, List.getElem?_cons_succ, List.set_cons_zero, List.set_cons_succ, List.map_cons, List.map_nil, List.append_nil, List.cons_append, List.nil_append, List.replicate_succ, List.replicate_zero, Option.isSome_some, List.getD_cons_zero, List.getD_cons_succ, forall_const, true_and, and_true, arr_at (hp.ok.lt k hk), arrD]
    exact hy
  · simp only [dDic1, dLenSetT, dSeq, dSet, dRet, dRetN, dDrop, dIfS, dNext, dFr, dFz, dVar, dC, dOp, dB, dChain, dAnd, dOr, dNot, dAndV, dOrV, dNotV, dIf, dNeg, dRev, dBack, dDic0, dCons, dNil, dTup, dLst, dRep, dIxV, dInV, dLenV, dCallB, dCall, dIsi, dItems, dRange1, dEnum, dZip, dYes, dgName, dgTup, dgCons, dgNil, dAsg, dApp, dPopAt, dAugIx, dSetIx, dCallL, dBits, dLstRg1, dFldV, dSetF, dMake, dCut, dPart, dNoPart, rCut, endsOf, exitT, peek, setOk, withOw, isOw, withT, lentQ, l_lend1, l_lend2, l_lend3, l_back1, l_back2, l_back3, l_kind1, l_kind2, l_kind3, l_kind4, l_kind5, l_kind6, l_frz1, l_frz2, l_frz3, l_frz4, noOw, wipeT, restT, cLen, cInt, cAbs, cTuple, cList, cStr, keyD, rIsB, rIsNotB, rAdd, rSub, rMul, rMod, rDiv, rPow, rShl, rShr, rBand, rBor, rLt, rLe, rGt, rGe, rAddI, rIx, l_at0, l_at1, l_at2, l_at3, l_at4, Int.reduceToNat, l_eqI, l_neI, l_eqB, l_neB, List.getElem?_cons_zero, List.getElem?_cons_succ, List.set_cons_zero, List.set_cons_succ, List.map_cons, List.map_nil, List.append_nil, List.cons_append, List.nil_append, List.replicate_succ, List.replicate_zero, Option.isSome_some, List.getD_cons_zero, List.getD_cons_succ, forall_const, true_and, and_true]
    refine ⟨by simp; omega, ?_⟩
    rw [← x2]
    have := pls_D ar p
    rw [List.singleton_append] at this
    rw [this]
    exact q
theorem at_mem {ds : List D} {r : Int} (r0 : 0 ≤ r) (r1 : r < ds.length) : ∃ d ∈ ds, atD ds r = some d := by
  obtain ⟨k, rfl⟩ : ∃ k : Nat, r = k := ⟨r.toNat, by omega⟩
  have hk : k < ds.length := by omega
  exact ⟨ds[k], List.getElem_mem hk, atD_nat (List.getElem?_eq_getElem hk)⟩
theorem plain_tup {ds : List D} (h : ds.length ≤ 100000) (h2 : ∀ x ∈ ds, (tyD x).isSome = true) : Plain (.tup ds) := ⟨rfl, fun _ e => by
  cases e
  exact ⟨h, h2⟩⟩
theorem plain_non : Plain .non := ⟨rfl, fun _ e => nomatch e⟩
theorem plain_bl (b : Bool) : Plain (.bl b) := ⟨rfl, fun _ e => nomatch e⟩
theorem plain_int (i : Int) : Plain (.int i) := ⟨rfl, fun _ e => nomatch e⟩
theorem plain_str (s : Str) : Plain (.str s) := ⟨rfl, fun _ e => nomatch e⟩
theorem plain_lst (ds : List D) : Plain (.lst ds) := ⟨rfl, fun _ e => nomatch e⟩
theorem plain_dic (ks : List (Key × D)) : Plain (.dic ks) := ⟨rfl, fun _ e => nomatch e⟩
theorem m__law_deep : ∀ ts Q R, sp__law_deep ts Q R → b__law_deep (endsOf ts Q R) (startT N__law_deep.length ts) := by
  rintro ts Q R ⟨hs, rfl, h, q⟩
  have e : startT N__law_deep.length [.ow true hs] = [some (.ow true hs), none, none] := rfl
  rw [e]
  simp only [b__law_deep, dDic1, dLenSetT, dSeq, dSet, dRet, dRetN, dDrop, dIfS, dNext, dFr, dFz, dVar, dC, dOp, dB, dChain, dAnd, dOr, dNot, dAndV, dOrV, dNotV, dIf, dNeg, dRev, dBack, dDic0, dCons, dNil, dTup, dLst, dRep, dIxV, dInV, dLenV, dCallB, dCall, dIsi, dItems, dRange1, dEnum, dZip, dYes, dgName, dgTup, dgCons, dgNil, dAsg, dApp, dPopAt, dAugIx, dSetIx, dCallL, dBits, dLstRg1, dFldV, dSetF, dMake, dCut, dPart, dNoPart, rCut, endsOf, exitT, peek, setOk, withOw, isOw, withT, lentQ, l_lend1, l_lend2, l_lend3, l_back1, l_back2, l_back3, l_kind1, l_kind2, l_kind3, l_kind4, l_kind5, l_kind6, l_frz1, l_frz2, l_frz3, l_frz4, noOw, wipeT, restT, cLen, cInt, cAbs, cTuple, cList, cStr, keyD, rIsB, rIsNotB, rAdd, rSub, rMul, rMod, rDiv, rPow, rShl, rShr, rBand, rBor, rLt, rLe, rGt, rGe, rAddI, rIx, l_at0, l_at1, l_at2, l_at3, l_at4, Int.reduceToNat, l_eqI, l_neI, l_eqB, l_neB, List.getElem?_cons_zero, List.getElem?_cons_succ, List.set_cons_zero, List.set_cons_succ, List.map_cons, List.map_nil, List.append_nil, List.cons_append, List.nil_append, List.replicate_succ, List.replicate_zero, Option.isSome_some, List.getD_cons_zero, List.getD_cons_succ, forall_const, true_and, and_true]
  refine ⟨by simp, hs, _, rfl, h, by omega, by omega, fun r hs' r0 r1 h' => ?_⟩
  simp only [dDic1, dLenSetT, dSeq, dSet, dRet, dRetN, dDrop, dIfS, dNext, dFr, dFz, dVar, dC, dOp, dB, dChain, dAnd, dOr, dNot, dAndV, dOrV, dNotV, dIf, dNeg, dRev, dBack, dDic0, dCons, dNil, dTup, dLst, dRep, dIxV, dInV, dLenV, dCallB, dCall, dIsi, dItems, dRange1, dEnum, dZip, dYes, dgName, dgTup, dgCons, dgNil, dAsg, dApp, dPopAt, dAugIx, dSetIx, dCallL, dBits, dLstRg1, dFldV, dSetF, dMake, dCut, dPart, dNoPart, rCut, endsOf, exitT, peek, setOk, withOw, isOw, withT, lentQ, l_lend1, l_lend2, l_lend3, l_back1, l_back2, l_back3, l_kind1, l_kind2, l_kind3, l_kind4, l_kind5, l_kind6, l_frz1, l_frz2, l_frz3, l_frz4, noOw, wipeT, restT, cLen, cInt, cAbs, cTuple, cList, cStr, keyD, rIsB, rIsNotB, rAdd, rSub, rMul, rMod, rDiv, rPow, rShl, rShr, rBand, rBor, rLt, rLe, rGt, rGe, rAddI, rIx, l_at0, l_at1, l_at2, l_at3, l_at4, Int.reduceToNat, l_eqI, l_neI, l_eqB, l_neB, List.getElem?_cons_zero, List.getElem?_cons_succ, List.set_cons_zero, List.set_cons_succ, List.map_cons, List.map_nil, List.append_nil, List.cons_append, List.nil_append, List.replicate_succ, List.replicate_zero, Option.isSome_some, List.getD_cons_zero, List.getD_cons_succ, forall_const, true_and, and_true]
  obtain ⟨d, hd, ed⟩ := at_mem (ds := [.non, .str (Str.ofString "a"), .int (-1), .dic []]) r0 r1
  simp only [ed]
  have hd1 : Plain d := by
    simp only [List.mem_cons, List.not_mem_nil, or_false] at hd
    rcases hd with rfl | rfl | rfl | rfl
    · exact plain_non
    · exact plain_str _
    · exact plain_int _
    · exact plain_dic _
  simp only [b__law_deep_r4, b__law_deep_l2, dFor, dDic1, dLenSetT, dSeq, dSet, dRet, dRetN, dDrop, dIfS, dNext, dFr, dFz, dVar, dC, dOp, dB, dChain, dAnd, dOr, dNot, dAndV, dOrV, dNotV, dIf, dNeg, dRev, dBack, dDic0, dCons, dNil, dTup, dLst, dRep, dIxV, dInV, dLenV, dCallB, dCall, dIsi, dItems, dRange1, dEnum, dZip, dYes, dgName, dgTup, dgCons, dgNil, dAsg, dApp, dPopAt, dAugIx, dSetIx, dCallL, dBits, dLstRg1, dFldV, dSetF, dMake, dCut, dPart, dNoPart, rCut, endsOf, exitT, peek, setOk, withOw, isOw, withT, lentQ, l_lend1, l_lend2, l_lend3, l_back1, l_back2, l_back3, l_kind1, l_kind2, l_kind3, l_kind4, l_kind5, l_kind6, l_frz1, l_frz2, l_frz3, l_frz4, noOw, wipeT, restT, cLen, cInt, cAbs, cTuple, cList, cStr, keyD, rIsB, rIsNotB, rAdd, rSub, rMul, rMod, rDiv, rPow, rShl, rShr, rBand, rBor, rLt, rLe, rGt, rGe, rAddI, rIx, l_at0, l_at1, l_at2, l_at3, l_at4, Int.reduceToNat, l_eqI, l_neI, l_eqB, l_neB, List.getElem?_cons_zero, List.getElem?_cons_succ, List.set_cons_zero, List.set_cons_succ, List.map_cons, List.map_nil, List.append_nil, List.cons_append, List.nil_append, List.replicate_succ, List.replicate_zero, Option.isSome_some, List.getD_cons_zero, List.getD_cons_succ, forall_const, true_and, and_true]
  refine ⟨hs', _, rfl, h', by omega, by omega, fun r hs r0 r1 h => ?_⟩
  simp only [dDic1, dLenSetT, dSeq, dSet, dRet, dRetN, dDrop, dIfS, dNext, dFr, dFz, dVar, dC, dOp, dB, dChain, dAnd, dOr, dNot, dAndV, dOrV, dNotV, dIf, dNeg, dRev, dBack, dDic0, dCons, dNil, dTup, dLst, dRep, dIxV, dInV, dLenV, dCallB, dCall, dIsi, dItems, dRange1, dEnum, dZip, dYes, dgName, dgTup, dgCons, dgNil, dAsg, dApp, dPopAt, dAugIx, dSetIx, dCallL, dBits, dLstRg1, dFldV, dSetF, dMake, dCut, dPart, dNoPart, rCut, endsOf, exitT, peek, setOk, withOw, isOw, withT, lentQ, l_lend1, l_lend2, l_lend3, l_back1, l_back2, l_back3, l_kind1, l_kind2, l_kind3, l_kind4, l_kind5, l_kind6, l_frz1, l_frz2, l_frz3, l_frz4, noOw, wipeT, restT, cLen, cInt, cAbs, cTuple, cList, cStr, keyD, rIsB, rIsNotB, rAdd, rSub, rMul, rMod, rDiv, rPow, rShl, rShr, rBand, rBor, rLt, rLe, rGt, rGe, rAddI, rIx, l_at0, l_at1, l_at2, l_at3, l_at4, Int.reduceToNat, l_eqI, l_neI, l_eqB, l_neB, List.getElem?_cons_zero, List.getElem?_cons_succ, List.set_cons_zero, List.set_cons_succ, List.map_cons, List.map_nil, List.append_nil, List.cons_append, List.nil_append, List.replicate_succ, List.replicate_zero, Option.isSome_some, List.getD_cons_zero, List.getD_cons_succ, forall_const, true_and, and_true]
  refine ⟨by omega, by omega, ?_⟩
  refine forB (fun i τ => ∃ hs d x2, τ = [some (.ow true hs), some (.fr d), x2] ∧ HandOk hs ∧ Plain d ∧ okS x2) ⟨hs, d, none, rfl, h, hd1, trivial⟩ ?_ ?_
  · rintro i z τ hi ⟨hs, d, x2, rfl, h, hd, o2⟩
    simp only [b__law_deep_b1, dDic1, dLenSetT, dSeq, dSet, dRet, dRetN, dDrop, dIfS, dNext, dFr, dFz, dVar, dC, dOp, dB, dChain, dAnd, dOr, dNot, dAndV, dOrV, dNotV, dIf, dNeg, dRev, dBack, dDic0, dCons, dNil, dTup, dLst, dRep, dIxV, dInV, dLenV, dCallB, dCall, dIsi, dItems, dRange1, dEnum, dZip, dYes, dgName, dgTup, dgCons, dgNil, dAsg, dApp, dPopAt, dAugIx, dSetIx, dCallL, dBits, dLstRg1, dFldV, dSetF, dMake, dCut, dPart, dNoPart, rCut, endsOf, exitT, peek, setOk, withOw, isOw, withT, lentQ, l_lend1, l_lend2, l_lend3, l_back1, l_back2, l_back3, l_kind1, l_kind2, l_kind3, l_kind4, l_kind5, l_kind6, l_frz1, l_frz2, l_frz3, l_frz4, noOw, wipeT, restT, cLen, cInt, cAbs, cTuple, cList, cStr, keyD, rIsB, rIsNotB, rAdd, rSub, rMul, rMod, rDiv, rPow, rShl, rShr, rBand, rBor, rLt, rLe, rGt, rGe, rAddI, rIx, l_at0, l_at1, l_at2, l_at3, l_at4, Int.reduceToNat, l_eqI, l_neI, l_eqB, l_neB, List.getElem?_cons_zero, List.getElem?_cons_succ, List.set_cons_zero, List.set_cons_succ, List.map_cons, List.map_nil, List.append_nil, List.cons_append, List.nil_append, List.replicate_succ, List.replicate_zero, Option.isSome_some, List.getD_cons_zero, List.getD_cons_succ, forall_const, true_and, and_true]
    refine ⟨o2, by simp, by simp, by simp, by simp, hs, _, rfl, h, by omega, by omega, fun r hs' r0 r1 h' => ?_⟩
    have ht := hd.1
    have hin : (tyD d).isSome = true := ht
    obtain ⟨d2, hd2, ed⟩ := at_mem (ds := [D.tup [d], D.lst [d], D.tup (cutD [d, d] none (some 1)), D.dic [(Sum.inl 0, d)]]) r0 r1
    simp only [dDic1, dLenSetT, dSeq, dSet, dRet, dRetN, dDrop, dIfS, dNext, dFr, dFz, dVar, dC, dOp, dB, dChain, dAnd, dOr, dNot, dAndV, dOrV, dNotV, dIf, dNeg, dRev, dBack, dDic0, dCons, dNil, dTup, dLst, dRep, dIxV, dInV, dLenV, dCallB, dCall, dIsi, dItems, dRange1, dEnum, dZip, dYes, dgName, dgTup, dgCons, dgNil, dAsg, dApp, dPopAt, dAugIx, dSetIx, dCallL, dBits, dLstRg1, dFldV, dSetF, dMake, dCut, dPart, dNoPart, rCut, endsOf, exitT, peek, setOk, withOw, isOw, withT, lentQ, l_lend1, l_lend2, l_lend3, l_back1, l_back2, l_back3, l_kind1, l_kind2, l_kind3, l_kind4, l_kind5, l_kind6, l_frz1, l_frz2, l_frz3, l_frz4, noOw, wipeT, restT, cLen, cInt, cAbs, cTuple, cList, cStr, keyD, rIsB, rIsNotB, rAdd, rSub, rMul, rMod, rDiv, rPow, rShl, rShr, rBand, rBor, rLt, rLe, rGt, rGe, rAddI, rIx, l_at0, l_at1, l_at2, l_at3, l_at4, Int.reduceToNat, l_eqI, l_neI, l_eqB, l_neB, List.getElem?_cons_zero, List.getElem?_cons_succ, List.set_cons_zero, List.set_cons_succ, List.map_cons, List.map_nil, List.append_nil, List.cons_append, List.nil_append, List.replicate_succ, List.replicate_zero, Option.isSome_some, List.getD_cons_zero, List.getD_cons_succ, forall_const, true_and, and_true, ed]
    refine ⟨_, _, _, rfl, h', ?_, rfl⟩
    simp only [List.mem_cons, List.not_mem_nil, or_false] at hd2
    rcases hd2 with rfl | rfl | rfl | rfl
    · exact plain_tup (by simp) fun x hx => by rw [List.mem_singleton.mp hx]; exact hin
    · exact plain_lst _
    · exact plain_tup (by have := cutD_len [d, d] none (some 1); simp at this; omega) fun x hx => by
        have := cutD_mem hx
        simp only [List.mem_cons, List.not_mem_nil, or_false, or_self] at this
        rw [this]
        exact hin
    · exact plain_dic _
  · rintro τ ⟨hs, d, x2, rfl, h, hd, o2⟩
    simp only [b__law_deep_r3, dDic1, dLenSetT, dSeq, dSet, dRet, dRetN, dDrop, dIfS, dNext, dFr, dFz, dVar, dC, dOp, dB, dChain, dAnd, dOr, dNot, dAndV, dOrV, dNotV, dIf, dNeg, dRev, dBack, dDic0, dCons, dNil, dTup, dLst, dRep, dIxV, dInV, dLenV, dCallB, dCall, dIsi, dItems, dRange1, dEnum, dZip, dYes, dgName, dgTup, dgCons, dgNil, dAsg, dApp, dPopAt, dAugIx, dSetIx, dCallL, dBits, dLstRg1, dFldV, dSetF, dMake, dCut, dPart, dNoPart, rCut, endsOf, exitT, peek, setOk, withOw, isOw, withT, lentQ, l_lend1, l_lend2, l_lend3, l_back1, l_back2, l_back3, l_kind1, l_kind2, l_kind3, l_kind4, l_kind5, l_kind6, l_frz1, l_frz2, l_frz3, l_frz4, noOw, wipeT, restT, cLen, cInt, cAbs, cTuple, cList, cStr, keyD, rIsB, rIsNotB, rAdd, rSub, rMul, rMod, rDiv, rPow, rShl, rShr, rBand, rBor, rLt, rLe, rGt, rGe, rAddI, rIx, l_at0, l_at1, l_at2, l_at3, l_at4, Int.reduceToNat, l_eqI, l_neI, l_eqB, l_neB, List.getElem?_cons_zero, List.getElem?_cons_succ, List.set_cons_zero, List.set_cons_succ, List.map_cons, List.map_nil, List.append_nil, List.cons_append, List.nil_append, List.replicate_succ, List.replicate_zero, Option.isSome_some, List.getD_cons_zero, List.getD_cons_succ, forall_const, true_and, and_true]
    exact q d hs hd h
end EC
/-! N3: walks drawn, ways spoiled. -/
namespace EC
open PySem PySem.Spec PyProof.Rows L2
def wkEnv (hs : List D) (ar : Ar) (most : Nat) (p : List Nat) (x4 x5 : Option T) : Env := [some (.ow true hs), some (.fr (.tup (ar.map arrD))), some (.fr (nD most)), some (.fr (.tup (natsD p))), x4, x5, none]
theorem way_one {ar : Ar} {k : Nat} (h : k < ar.length) : WayOk ar [k] := ⟨List.cons_ne_nil _ _, fun j hj => by rw [List.mem_singleton.mp hj]; exact h, fun i x y hx hy => by
  cases i <;> cases hy⟩
theorem way_more {ar : Ar} {p : List Nat} {k : Nat} (h : WayOk ar p) (hk : k < ar.length) (e : begA ar k = endW ar p) : WayOk ar (p ++ [k]) := (way_join h (way_one hk)).mpr e.symm
theorem m__law_walk : ∀ ts Q R, sp__law_walk ts Q R → b__law_walk (endsOf ts Q R) (startT N__law_walk.length ts) := by
  rintro ts Q R ⟨hs, ar, most, rfl, h, ha0, ha1, hm0, hm1, q⟩
  have e : startT N__law_walk.length [.ow true hs, .fr (arsD ar), .fr (nD most)] = [some (.ow true hs), some (.fr (.tup (ar.map arrD))), some (.fr (nD most)), none, none, none, none] := rfl
  rw [e]
  simp only [b__law_walk, dDic1, dLenSetT, dSeq, dSet, dRet, dRetN, dDrop, dIfS, dNext, dFr, dFz, dVar, dC, dOp, dB, dChain, dAnd, dOr, dNot, dAndV, dOrV, dNotV, dIf, dNeg, dRev, dBack, dDic0, dCons, dNil, dTup, dLst, dRep, dIxV, dInV, dLenV, dCallB, dCall, dIsi, dItems, dRange1, dEnum, dZip, dYes, dgName, dgTup, dgCons, dgNil, dAsg, dApp, dPopAt, dAugIx, dSetIx, dCallL, dBits, dLstRg1, dFldV, dSetF, dMake, dCut, dPart, dNoPart, rCut, endsOf, exitT, peek, setOk, withOw, isOw, withT, lentQ, l_lend1, l_lend2, l_lend3, l_back1, l_back2, l_back3, l_kind1, l_kind2, l_kind3, l_kind4, l_kind5, l_kind6, l_frz1, l_frz2, l_frz3, l_frz4, noOw, wipeT, restT, cLen, cInt, cAbs, cTuple, cList, cStr, keyD, rIsB, rIsNotB, rAdd, rSub, rMul, rMod, rDiv, rPow, rShl, rShr, rBand, rBor, rLt, rLe, rGt, rGe, rAddI, rIx, l_at0, l_at1, l_at2, l_at3, l_at4, Int.reduceToNat, l_eqI, l_neI, l_eqB, l_neB, List.getElem?_cons_zero, List.getElem?_cons_succ, List.set_cons_zero, List.set_cons_succ, List.map_cons, List.map_nil, List.append_nil, List.cons_append, List.nil_append, List.replicate_succ, List.replicate_zero, Option.isSome_some, List.getD_cons_zero, List.getD_cons_succ, forall_const, true_and, and_true]
  refine ⟨hs, _, rfl, h, by simp; omega, by simp; omega, fun r hs' r0 r1 h' => ?_⟩
  obtain ⟨k, rfl⟩ : ∃ k : Nat, r = k := ⟨r.toNat, by omega⟩
  have hk : k < ar.length := by simp at r1; omega
  simp only [dDic1, dLenSetT, dSeq, dSet, dRet, dRetN, dDrop, dIfS, dNext, dFr, dFz, dVar, dC, dOp, dB, dChain, dAnd, dOr, dNot, dAndV, dOrV, dNotV, dIf, dNeg, dRev, dBack, dDic0, dCons, dNil, dTup, dLst, dRep, dIxV, dInV, dLenV, dCallB, dCall, dIsi, dItems, dRange1, dEnum, dZip, dYes, dgName, dgTup, dgCons, dgNil, dAsg, dApp, dPopAt, dAugIx, dSetIx, dCallL, dBits, dLstRg1, dFldV, dSetF, dMake, dCut, dPart, dNoPart, rCut, endsOf, exitT, peek, setOk, withOw, isOw, withT, lentQ, l_lend1, l_lend2, l_lend3, l_back1, l_back2, l_back3, l_kind1, l_kind2, l_kind3, l_kind4, l_kind5, l_kind6, l_frz1, l_frz2, l_frz3, l_frz4, noOw, wipeT, restT, cLen, cInt, cAbs, cTuple, cList, cStr, keyD, rIsB, rIsNotB, rAdd, rSub, rMul, rMod, rDiv, rPow, rShl, rShr, rBand, rBor, rLt, rLe, rGt, rGe, rAddI, rIx, l_at0, l_at1, l_at2, l_at3, l_at4, Int.reduceToNat, l_eqI, l_neI, l_eqB, l_neB, List.getElem?_cons_zero, List.getElem?_cons_succ, List.set_cons_zero, List.set_cons_succ, List.map_cons, List.map_nil, List.append_nil, List.cons_append, List.nil_append, List.replicate_succ, List.replicate_zero, Option.isSome_some, List.getD_cons_zero, List.getD_cons_succ, forall_const, true_and, and_true]
  refine ⟨by simp, ?_⟩
  simp only [b__law_walk_r7, b__law_walk_l5, dFor, dDic1, dLenSetT, dSeq, dSet, dRet, dRetN, dDrop, dIfS, dNext, dFr, dFz, dVar, dC, dOp, dB, dChain, dAnd, dOr, dNot, dAndV, dOrV, dNotV, dIf, dNeg, dRev, dBack, dDic0, dCons, dNil, dTup, dLst, dRep, dIxV, dInV, dLenV, dCallB, dCall, dIsi, dItems, dRange1, dEnum, dZip, dYes, dgName, dgTup, dgCons, dgNil, dAsg, dApp, dPopAt, dAugIx, dSetIx, dCallL, dBits, dLstRg1, dFldV, dSetF, dMake, dCut, dPart, dNoPart, rCut, endsOf, exitT, peek, setOk, withOw, isOw, withT, lentQ, l_lend1, l_lend2, l_lend3, l_back1, l_back2, l_back3, l_kind1, l_kind2, l_kind3, l_kind4, l_kind5, l_kind6, l_frz1, l_frz2, l_frz3, l_frz4, noOw, wipeT, restT, cLen, cInt, cAbs, cTuple, cList, cStr, keyD, rIsB, rIsNotB, rAdd, rSub, rMul, rMod, rDiv, rPow, rShl, rShr, rBand, rBor, rLt, rLe, rGt, rGe, rAddI, rIx, l_at0, l_at1, l_at2, l_at3, l_at4, Int.reduceToNat, l_eqI, l_neI, l_eqB, l_neB, List.getElem?_cons_zero, List.getElem?_cons_succ, List.set_cons_zero, List.set_cons_succ, List.map_cons, List.map_nil, List.append_nil, List.cons_append, List.nil_append, List.replicate_succ, List.replicate_zero, Option.isSome_some, List.getD_cons_zero, List.getD_cons_succ, forall_const, true_and, and_true]
  refine ⟨hs', _, rfl, h', by omega, by omega, fun r hs r0 r1 h => ?_⟩
  simp only [dDic1, dLenSetT, dSeq, dSet, dRet, dRetN, dDrop, dIfS, dNext, dFr, dFz, dVar, dC, dOp, dB, dChain, dAnd, dOr, dNot, dAndV, dOrV, dNotV, dIf, dNeg, dRev, dBack, dDic0, dCons, dNil, dTup, dLst, dRep, dIxV, dInV, dLenV, dCallB, dCall, dIsi, dItems, dRange1, dEnum, dZip, dYes, dgName, dgTup, dgCons, dgNil, dAsg, dApp, dPopAt, dAugIx, dSetIx, dCallL, dBits, dLstRg1, dFldV, dSetF, dMake, dCut, dPart, dNoPart, rCut, endsOf, exitT, peek, setOk, withOw, isOw, withT, lentQ, l_lend1, l_lend2, l_lend3, l_back1, l_back2, l_back3, l_kind1, l_kind2, l_kind3, l_kind4, l_kind5, l_kind6, l_frz1, l_frz2, l_frz3, l_frz4, noOw, wipeT, restT, cLen, cInt, cAbs, cTuple, cList, cStr, keyD, rIsB, rIsNotB, rAdd, rSub, rMul, rMod, rDiv, rPow, rShl, rShr, rBand, rBor, rLt, rLe, rGt, rGe, rAddI, rIx, l_at0, l_at1, l_at2, l_at3, l_at4, Int.reduceToNat, l_eqI, l_neI, l_eqB, l_neB, List.getElem?_cons_zero, List.getElem?_cons_succ, List.set_cons_zero, List.set_cons_succ, List.map_cons, List.map_nil, List.append_nil, List.cons_append, List.nil_append, List.replicate_succ, List.replicate_zero, Option.isSome_some, List.getD_cons_zero, List.getD_cons_succ, forall_const, true_and, and_true]
  refine ⟨by omega, by omega, ?_⟩
  obtain ⟨m, rfl⟩ : ∃ k : Nat, r = k := ⟨r.toNat, by omega⟩
  refine forB (fun i τ => ∃ hs p x4 x5, τ = wkEnv hs ar most p x4 x5 ∧ HandOk hs ∧ WayOk ar p ∧ p.length ≤ i + 1 ∧ okS x4 ∧ okS x5) ⟨hs, [k], none, none, rfl, h, way_one hk, by simp, trivial, trivial⟩ ?_ ?_
  · rintro i z τ hi ⟨hs, p, x4, x5, rfl, h, hp, hl, o4, o5⟩
    have him : i < m := by
      rw [rgD_nat, natsD_get] at hi
      obtain ⟨j, hj, _⟩ := Option.map_eq_some_iff.mp hi
      obtain ⟨hj, _⟩ := List.getElem?_eq_some_iff.mp hj
      rw [List.length_range] at hj
      exact hj
    obtain ⟨y, hy, y1, y2⟩ := way_last hp
    simp only [wkEnv, b__law_walk_b4, dDic1, dLenSetT, dSeq, dSet, dRet, dRetN, dDrop, dIfS, dNext, dFr, dFz, dVar, dC, dOp, dB, dChain, dAnd, dOr, dNot, dAndV, dOrV, dNotV, dIf, dNeg, dRev, dBack, dDic0, dCons, dNil, dTup, dLst, dRep, dIxV, dInV, dLenV, dCallB, dCall, dIsi, dItems, dRange1, dEnum, dZip, dYes, dgName, dgTup, dgCons, dgNil, dAsg, dApp, dPopAt, dAugIx, dSetIx, dCallL, dBits, dLstRg1, dFldV, dSetF, dMake, dCut, dPart, dNoPart, rCut, endsOf, exitT, peek, setOk, withOw, isOw, withT, lentQ, l_lend1, l_lend2, l_lend3, l_back1, l_back2, l_back3, l_kind1, l_kind2, l_kind3, l_kind4, l_kind5, l_kind6, l_frz1, l_frz2, l_frz3, l_frz4, noOw, wipeT, restT, cLen, cInt, cAbs, cTuple, cList, cStr, keyD, rIsB, rIsNotB, rAdd, rSub, rMul, rMod, rDiv, rPow, rShl, rShr, rBand, rBor, rLt, rLe, rGt, rGe, rAddI, rIx, l_at0, l_at1, l_at2, l_at3, l_at4, Int.reduceToNat, l_eqI, l_neI, l_eqB, l_neB, List.getElem?_cons_zero, List.getElem?_cons_succ, List.set_cons_zero, List.set_cons_succ, List.map_cons, List.map_nil, List.append_nil, List.cons_append, List.nil_append, List.replicate_succ, List.replicate_zero, Option.isSome_some, List.getD_cons_zero, List.getD_cons_succ, forall_const, true_and, and_true]
    refine ⟨o4, ?_⟩
    have hlen : ((ar.map arrD).length : Int) = (ar.length : Int) := by rw [List.length_map]
    refine ⟨by omega, by omega, ?_⟩
    show LcB (rgD 0 (((ar.map arrD).length : Nat) : Int)) _ _ _ _ _ _
    rw [hlen, rgD_nat]
    refine lc_nats (fun k => decide (begA ar k = endA ar y)) (by rw [List.length_range]; omega) (by simp [noOw]) (fun j hj Y N hyY hnN => ?_) ?_
    · have hj := List.mem_range.mp hj
      simp only [dDic1, dLenSetT, dSeq, dSet, dRet, dRetN, dDrop, dIfS, dNext, dFr, dFz, dVar, dC, dOp, dB, dChain, dAnd, dOr, dNot, dAndV, dOrV, dNotV, dIf, dNeg, dRev, dBack, dDic0, dCons, dNil, dTup, dLst, dRep, dIxV, dInV, dLenV, dCallB, dCall, dIsi, dItems, dRange1, dEnum, dZip, dYes, dgName, dgTup, dgCons, dgNil, dAsg, dApp, dPopAt, dAugIx, dSetIx, dCallL, dBits, dLstRg1, dFldV, dSetF, dMake, dCut, dPart, dNoPart, rCut, endsOf, exitT, peek, setOk, withOw, isOw, withT, lentQ, l_lend1, l_lend2, l_lend3, l_back1, l_back2, l_back3, l_kind1, l_kind2, l_kind3, l_kind4, l_kind5, l_kind6, l_frz1, l_frz2, l_frz3, l_frz4, noOw, wipeT, restT, cLen, cInt, cAbs, cTuple, cList, cStr, keyD, rIsB, rIsNotB, rAdd, rSub, rMul, rMod, rDiv, rPow, rShl, rShr, rBand, rBor, rLt, rLe, rGt, rGe, rAddI, rIx, l_at0, l_at1, l_at2, l_at3, l_at4, Int.reduceToNat, l_eqI, l_neI, l_eqB, l_neB, List.getElem?_cons_zero, List.getElem?_cons_succ, List.set_cons_zero, List.set_cons_succ, List.map_cons, List.map_nil, List.append_nil, List.cons_append, List.nil_append, List.replicate_succ, List.replicate_zero, Option.isSome_some, List.getD_cons_zero, List.getD_cons_succ, forall_const, true_and, and_true, y1, arr_at hj, arr_at hy, arrD, dec_nat]
      by_cases hjy : begA ar j = endA ar y
      · simp only [hjy, decide_true] at hyY ⊢
        exact hyY trivial
      · simp only [hjy, decide_false] at hnN ⊢
        exact hnN trivial
    · simp only [dDic1, dLenSetT, dSeq, dSet, dRet, dRetN, dDrop, dIfS, dNext, dFr, dFz, dVar, dC, dOp, dB, dChain, dAnd, dOr, dNot, dAndV, dOrV, dNotV, dIf, dNeg, dRev, dBack, dDic0, dCons, dNil, dTup, dLst, dRep, dIxV, dInV, dLenV, dCallB, dCall, dIsi, dItems, dRange1, dEnum, dZip, dYes, dgName, dgTup, dgCons, dgNil, dAsg, dApp, dPopAt, dAugIx, dSetIx, dCallL, dBits, dLstRg1, dFldV, dSetF, dMake, dCut, dPart, dNoPart, rCut, endsOf, exitT, peek, setOk, withOw, isOw, withT, lentQ, l_lend1, l_lend2, l_lend3, l_back1, l_back2, l_back3, l_kind1, l_kind2, l_kind3, l_kind4, l_kind5, l_kind6, l_frz1, l_frz2, l_frz3, l_frz4, noOw, wipeT, restT, cLen, cInt, cAbs, cTuple, cList, cStr, keyD, rIsB, rIsNotB, rAdd, rSub, rMul, rMod, rDiv, rPow, rShl, rShr, rBand, rBor, rLt, rLe, rGt, rGe, rAddI, rIx, l_at0, l_at1, l_at2, l_at3, l_at4, Int.reduceToNat, l_eqI, l_neI, l_eqB, l_neB, List.getElem?_cons_zero, List.getElem?_cons_succ, List.set_cons_zero, List.set_cons_succ, List.map_cons, List.map_nil, List.append_nil, List.cons_append, List.nil_append, List.replicate_succ, List.replicate_zero, Option.isSome_some, List.getD_cons_zero, List.getD_cons_succ, forall_const, true_and, and_true]
      refine ⟨o5, ?_⟩
      generalize hL : (List.range ar.length).filter (fun k => decide (begA ar k = endA ar y)) = L
      have hLm : ∀ j ∈ L, j < ar.length ∧ begA ar j = endA ar y := fun j hj => by
        rw [← hL, List.mem_filter] at hj
        exact ⟨List.mem_range.mp hj.1, of_decide_eq_true hj.2⟩
      have hLl : L.length ≤ ar.length := by
        rw [← hL]
        have := List.length_filter_le (fun k => decide (begA ar k = endA ar y)) (List.range ar.length)
        rw [List.length_range] at this
        exact this
      simp only [b__law_walk_r3, dDic1, dLenSetT, dSeq, dSet, dRet, dRetN, dDrop, dIfS, dNext, dFr, dFz, dVar, dC, dOp, dB, dChain, dAnd, dOr, dNot, dAndV, dOrV, dNotV, dIf, dNeg, dRev, dBack, dDic0, dCons, dNil, dTup, dLst, dRep, dIxV, dInV, dLenV, dCallB, dCall, dIsi, dItems, dRange1, dEnum, dZip, dYes, dgName, dgTup, dgCons, dgNil, dAsg, dApp, dPopAt, dAugIx, dSetIx, dCallL, dBits, dLstRg1, dFldV, dSetF, dMake, dCut, dPart, dNoPart, rCut, endsOf, exitT, peek, setOk, withOw, isOw, withT, lentQ, l_lend1, l_lend2, l_lend3, l_back1, l_back2, l_back3, l_kind1, l_kind2, l_kind3, l_kind4, l_kind5, l_kind6, l_frz1, l_frz2, l_frz3, l_frz4, noOw, wipeT, restT, cLen, cInt, cAbs, cTuple, cList, cStr, keyD, rIsB, rIsNotB, rAdd, rSub, rMul, rMod, rDiv, rPow, rShl, rShr, rBand, rBor, rLt, rLe, rGt, rGe, rAddI, rIx, l_at0, l_at1, l_at2, l_at3, l_at4, Int.reduceToNat, l_eqI, l_neI, l_eqB, l_neB, List.getElem?_cons_zero, List.getElem?_cons_succ, List.set_cons_zero, List.set_cons_succ, List.map_cons, List.map_nil, List.append_nil, List.cons_append, List.nil_append, List.replicate_succ, List.replicate_zero, Option.isSome_some, List.getD_cons_zero, List.getD_cons_succ, forall_const, true_and, and_true, natsD_length]
      by_cases h0 : L.length = 0
      · have h0' : ((L.length : Nat) : Int) = 0 := by omega
        simp only [h0', decide_true, dDic1, dLenSetT, dSeq, dSet, dRet, dRetN, dDrop, dIfS, dNext, dFr, dFz, dVar, dC, dOp, dB, dChain, dAnd, dOr, dNot, dAndV, dOrV, dNotV, dIf, dNeg, dRev, dBack, dDic0, dCons, dNil, dTup, dLst, dRep, dIxV, dInV, dLenV, dCallB, dCall, dIsi, dItems, dRange1, dEnum, dZip, dYes, dgName, dgTup, dgCons, dgNil, dAsg, dApp, dPopAt, dAugIx, dSetIx, dCallL, dBits, dLstRg1, dFldV, dSetF, dMake, dCut, dPart, dNoPart, rCut, endsOf, exitT, peek, setOk, withOw, isOw, withT, lentQ, l_lend1, l_lend2, l_lend3, l_back1, l_back2, l_back3, l_kind1, l_kind2, l_kind3, l_kind4, l_kind5, l_kind6, l_frz1, l_frz2, l_frz3, l_frz4, noOw, wipeT, restT, cLen, cInt, cAbs, cTuple, cList, cStr, keyD, rIsB, rIsNotB, rAdd, rSub, rMul, rMod, rDiv, rPow, rShl, rShr, rBand, rBor, rLt, rLe, rGt, rGe, rAddI, rIx, l_at0, l_at1, l_at2, l_at3, l_at4, Int.reduceToNat, l_eqI, l_neI, l_eqB, l_neB, List.getElem?_cons_zero, List.getElem?_cons_succ, List.set_cons_zero, List.set_cons_succ, List.map_cons, List.map_nil, List.append_nil, List.cons_append, List.nil_append, List.replicate_succ, List.replicate_zero, Option.isSome_some, List.getD_cons_zero, List.getD_cons_succ, forall_const, true_and, and_true]
        exact q p hs (isWay_of hp (by omega)) (by omega) h
      · have h0' : ¬ ((L.length : Nat) : Int) = 0 := by omega
        simp only [h0', decide_false, b__law_walk_r2, dDic1, dLenSetT, dSeq, dSet, dRet, dRetN, dDrop, dIfS, dNext, dFr, dFz, dVar, dC, dOp, dB, dChain, dAnd, dOr, dNot, dAndV, dOrV, dNotV, dIf, dNeg, dRev, dBack, dDic0, dCons, dNil, dTup, dLst, dRep, dIxV, dInV, dLenV, dCallB, dCall, dIsi, dItems, dRange1, dEnum, dZip, dYes, dgName, dgTup, dgCons, dgNil, dAsg, dApp, dPopAt, dAugIx, dSetIx, dCallL, dBits, dLstRg1, dFldV, dSetF, dMake, dCut, dPart, dNoPart, rCut, endsOf, exitT, peek, setOk, withOw, isOw, withT, lentQ, l_lend1, l_lend2, l_lend3, l_back1, l_back2, l_back3, l_kind1, l_kind2, l_kind3, l_kind4, l_kind5, l_kind6, l_frz1, l_frz2, l_frz3, l_frz4, noOw, wipeT, restT, cLen, cInt, cAbs, cTuple, cList, cStr, keyD, rIsB, rIsNotB, rAdd, rSub, rMul, rMod, rDiv, rPow, rShl, rShr, rBand, rBor, rLt, rLe, rGt, rGe, rAddI, rIx, l_at0, l_at1, l_at2, l_at3, l_at4, Int.reduceToNat, l_eqI, l_neI, l_eqB, l_neB, List.getElem?_cons_zero, List.getElem?_cons_succ, List.set_cons_zero, List.set_cons_succ, List.map_cons, List.map_nil, List.append_nil, List.cons_append, List.nil_append, List.replicate_succ, List.replicate_zero, Option.isSome_some, List.getD_cons_zero, List.getD_cons_succ, forall_const, true_and, and_true, natsD_length]
        refine ⟨hs, _, rfl, h, by omega, by omega, fun r hs' r0 r1 h' => ?_⟩
        obtain ⟨j, rfl⟩ : ∃ k : Nat, r = k := ⟨r.toNat, by omega⟩
        have hj : j < L.length := by omega
        have ej : atD (natsD L) (j : Int) = some (nD L[j]) := atD_nat (by rw [natsD_get, List.getElem?_eq_getElem hj]; rfl)
        obtain ⟨k1, k2⟩ := hLm _ (List.getElem_mem hj)
        simp only [dDic1, dLenSetT, dSeq, dSet, dRet, dRetN, dDrop, dIfS, dNext, dFr, dFz, dVar, dC, dOp, dB, dChain, dAnd, dOr, dNot, dAndV, dOrV, dNotV, dIf, dNeg, dRev, dBack, dDic0, dCons, dNil, dTup, dLst, dRep, dIxV, dInV, dLenV, dCallB, dCall, dIsi, dItems, dRange1, dEnum, dZip, dYes, dgName, dgTup, dgCons, dgNil, dAsg, dApp, dPopAt, dAugIx, dSetIx, dCallL, dBits, dLstRg1, dFldV, dSetF, dMake, dCut, dPart, dNoPart, rCut, endsOf, exitT, peek, setOk, withOw, isOw, withT, lentQ, l_lend1, l_lend2, l_lend3, l_back1, l_back2, l_back3, l_kind1, l_kind2, l_kind3, l_kind4, l_kind5, l_kind6, l_frz1, l_frz2, l_frz3, l_frz4, noOw, wipeT, restT, cLen, cInt, cAbs, cTuple, cList, cStr, keyD, rIsB, rIsNotB, rAdd, rSub, rMul, rMod, rDiv, rPow, rShl, rShr, rBand, rBor, rLt, rLe, rGt, rGe, rAddI, rIx, l_at0, l_at1, l_at2, l_at3, l_at4, Int.reduceToNat, l_eqI, l_neI, l_eqB, l_neB, List.getElem?_cons_zero, List.getElem?_cons_succ, List.set_cons_zero, List.set_cons_succ, List.map_cons, List.map_nil, List.append_nil, List.cons_append, List.nil_append, List.replicate_succ, List.replicate_zero, Option.isSome_some, List.getD_cons_zero, List.getD_cons_succ, forall_const, true_and, and_true, ej, natsD_length]
        refine ⟨by simp, by simp; omega, hs', p ++ [L[j]], some (.fr z), some (.ow false (natsD L)), ?_, h', way_more hp k1 (k2.trans y2.symm), by simp; omega, rfl, rfl⟩
        rw [natsD_append]
        rfl
  · rintro τ ⟨hs, p, x4, x5, rfl, h, hp, hl, o4, o5⟩
    rw [rgD_nat, natsD_length, List.length_range] at hl
    simp only [wkEnv, b__law_walk_r6, dDic1, dLenSetT, dSeq, dSet, dRet, dRetN, dDrop, dIfS, dNext, dFr, dFz, dVar, dC, dOp, dB, dChain, dAnd, dOr, dNot, dAndV, dOrV, dNotV, dIf, dNeg, dRev, dBack, dDic0, dCons, dNil, dTup, dLst, dRep, dIxV, dInV, dLenV, dCallB, dCall, dIsi, dItems, dRange1, dEnum, dZip, dYes, dgName, dgTup, dgCons, dgNil, dAsg, dApp, dPopAt, dAugIx, dSetIx, dCallL, dBits, dLstRg1, dFldV, dSetF, dMake, dCut, dPart, dNoPart, rCut, endsOf, exitT, peek, setOk, withOw, isOw, withT, lentQ, l_lend1, l_lend2, l_lend3, l_back1, l_back2, l_back3, l_kind1, l_kind2, l_kind3, l_kind4, l_kind5, l_kind6, l_frz1, l_frz2, l_frz3, l_frz4, noOw, wipeT, restT, cLen, cInt, cAbs, cTuple, cList, cStr, keyD, rIsB, rIsNotB, rAdd, rSub, rMul, rMod, rDiv, rPow, rShl, rShr, rBand, rBor, rLt, rLe, rGt, rGe, rAddI, rIx, l_at0, l_at1, l_at2, l_at3, l_at4, Int.reduceToNat, l_eqI, l_neI, l_eqB, l_neB, List.getElem?_cons_zero, List.getElem?_cons_succ, List.set_cons_zero, List.set_cons_succ, List.map_cons, List.map_nil, List.append_nil, List.cons_append, List.nil_append, List.replicate_succ, List.replicate_zero, Option.isSome_some, List.getD_cons_zero, List.getD_cons_succ, forall_const, true_and, and_true]
    exact q p hs (isWay_of hp (by omega)) (by omega) h
end EC
/-! N4: ways spoiled. -/
namespace EC
open PySem PySem.Spec PyProof.Rows L2
def spE (hs : List D) (ar : Ar) (p : List Nat) (a o : Nat) (odds : List D) (sort : Int) (x7 x8 : Option T) : Env := [some (.ow true hs), some (.fr (.tup (ar.map arrD))), some (.fr (.tup (natsD p))), some (.fr (nD a)), some (.fr (nD o)), some (.ow false odds), some (.fr (.int sort)), x7, x8]
structure Ty (k : Nat) (ds : List D) : Prop where
  len : ds.length ≤ k
  ty : ∀ x ∈ ds, (tyD x).isSome = true
theorem Ty.nats {p : List Nat} {k : Nat} (h : p.length ≤ k) : Ty k (natsD p) := ⟨by rw [natsD_length]; exact h, fun x hx => by
  obtain ⟨j, _, rfl⟩ := List.mem_map.mp hx
  rfl⟩
theorem Ty.cut {k : Nat} {ds : List D} (h : Ty k ds) (lo hi : Option Int) : Ty k (cutD ds lo hi) := ⟨Nat.le_trans (cutD_len _ _ _) h.len, fun x hx => h.ty x (cutD_mem hx)⟩
theorem Ty.app {k j : Nat} {ds es : List D} (h : Ty k ds) (h2 : Ty j es) : Ty (k + j) (ds ++ es) := ⟨by rw [List.length_append]; exact Nat.add_le_add h.len h2.len, fun x hx => (List.mem_append.mp hx).elim (h.ty x) (h2.ty x)⟩
theorem Ty.one {d : D} (h : (tyD d).isSome = true) : Ty 1 [d] := ⟨Nat.le_refl _, fun x hx => by rw [List.mem_singleton.mp hx]; exact h⟩
theorem Ty.rev {k : Nat} {ds : List D} (h : Ty k ds) : Ty k ds.reverse := ⟨by rw [List.length_reverse]; exact h.len, fun x hx => h.ty x (List.mem_reverse.mp hx)⟩
theorem Ty.plain {k : Nat} {ds : List D} (h : Ty k ds) (hk : k ≤ 100000 := by omega) : Plain (.tup ds) := plain_tup (Nat.le_trans h.len hk) h.ty
theorem Ty.at {k : Nat} {ds : List D} (h : Ty k ds) {r : Int} (r0 : 0 ≤ r) (r1 : r < ds.length) : ∃ d, atD ds r = some d ∧ (tyD d).isSome = true := by
  obtain ⟨d, hd, e⟩ := at_mem r0 r1
  exact ⟨d, e, h.ty d hd⟩
section
variable {ar : Ar} {p : List Nat} {E : DEnds}
abbrev spQ (ar : Ar) (p : List Nat) (E : DEnds) : Prop := ∀ d hs' x3 x4 x5 x6 x7 x8, Plain d → HandOk hs' → E.rt (.fr d) [some (.ow true hs'), some (.fr (.tup (ar.map arrD))), some (.fr (.tup (natsD p))), x3, x4, x5, x6, x7, x8]
theorem spoiled_r2 {hs : List D} {a o : Nat} {odds : List D} {sort : Int} (h : HandOk hs) (hp : IsWay ar p) (q : spQ ar p E) : b__law_spoiled_r2 E (spE hs ar p a o odds sort none none) := by
  obtain ⟨x, hx, x1, x2⟩ := way_first hp.ok
  have hl := hp.2
  simp only [b__law_spoiled_r2, spE, dDic1, dLenSetT, dSeq, dSet, dRet, dRetN, dDrop, dIfS, dNext, dFr, dFz, dVar, dC, dOp, dB, dChain, dAnd, dOr, dNot, dAndV, dOrV, dNotV, dIf, dNeg, dRev, dBack, dDic0, dCons, dNil, dTup, dLst, dRep, dIxV, dInV, dLenV, dCallB, dCall, dIsi, dItems, dRange1, dEnum, dZip, dYes, dgName, dgTup, dgCons, dgNil, dAsg, dApp, dPopAt, dAugIx, dSetIx, dCallL, dBits, dLstRg1, dFldV, dSetF, dMake, dCut, dPart, dNoPart, rCut, endsOf, exitT, peek, setOk, withOw, isOw, withT, lentQ, l_lend1, l_lend2, l_lend3, l_back1, l_back2, l_back3, l_kind1, l_kind2, l_kind3, l_kind4, l_kind5, l_kind6, l_frz1, l_frz2, l_frz3, l_frz4, noOw, wipeT, restT, cLen, cInt, cAbs, cTuple, cList, cStr, keyD, rIsB, rIsNotB, rAdd, rSub, rMul, rMod, rDiv, rPow, rShl, rShr, rBand, rBor, rLt, rLe, rGt, rGe, rAddI, rIx, l_at0, l_at1, l_at2, l_at3, l_at4, Int.reduceToNat, l_eqI, l_neI, l_eqB, l_neB, List.getElem?_cons_zero, List.getElem?_cons_succ, List.set_cons_zero, List.set_cons_succ, List.map_cons, List.map_nil, List.append_nil, List.cons_append, List.nil_append, List.replicate_succ, List.replicate_zero, Option.isSome_some, List.getD_cons_zero, List.getD_cons_succ, forall_const, true_and, and_true, x1]
  refine ⟨by simp, by simp, hs, rfl, h, fun d hs' hd h' => ?_⟩
  simp only [dDic1, dLenSetT, dSeq, dSet, dRet, dRetN, dDrop, dIfS, dNext, dFr, dFz, dVar, dC, dOp, dB, dChain, dAnd, dOr, dNot, dAndV, dOrV, dNotV, dIf, dNeg, dRev, dBack, dDic0, dCons, dNil, dTup, dLst, dRep, dIxV, dInV, dLenV, dCallB, dCall, dIsi, dItems, dRange1, dEnum, dZip, dYes, dgName, dgTup, dgCons, dgNil, dAsg, dApp, dPopAt, dAugIx, dSetIx, dCallL, dBits, dLstRg1, dFldV, dSetF, dMake, dCut, dPart, dNoPart, rCut, endsOf, exitT, peek, setOk, withOw, isOw, withT, lentQ, l_lend1, l_lend2, l_lend3, l_back1, l_back2, l_back3, l_kind1, l_kind2, l_kind3, l_kind4, l_kind5, l_kind6, l_frz1, l_frz2, l_frz3, l_frz4, noOw, wipeT, restT, cLen, cInt, cAbs, cTuple, cList, cStr, keyD, rIsB, rIsNotB, rAdd, rSub, rMul, rMod, rDiv, rPow, rShl, rShr, rBand, rBor, rLt, rLe, rGt, rGe, rAddI, rIx, l_at0, l_at1, l_at2, l_at3, l_at4, Int.reduceToNat, l_eqI, l_neI, l_eqB, l_neB, List.getElem?_cons_zero, List.getElem?_cons_succ, List.set_cons_zero, List.set_cons_succ, List.map_cons, List.map_nil, List.append_nil, List.cons_append, List.nil_append, List.replicate_succ, List.replicate_zero, Option.isSome_some, List.getD_cons_zero, List.getD_cons_succ, forall_const, true_and, and_true]
  refine ⟨by simp, hs', _, rfl, h', by omega, by omega, fun r hs' r0 r1 h' => ?_⟩
  obtain ⟨z, hz, ez⟩ := at_mem (ds := [D.lst (natsD p), D.tup (natsD p).reverse, D.dic [], D.non, nD x, D.lst [D.tup (natsD p)], D.tup [D.tup (natsD p)], d, D.str (Str.ofString "")]) r0 r1
  simp only [dDic1, dLenSetT, dSeq, dSet, dRet, dRetN, dDrop, dIfS, dNext, dFr, dFz, dVar, dC, dOp, dB, dChain, dAnd, dOr, dNot, dAndV, dOrV, dNotV, dIf, dNeg, dRev, dBack, dDic0, dCons, dNil, dTup, dLst, dRep, dIxV, dInV, dLenV, dCallB, dCall, dIsi, dItems, dRange1, dEnum, dZip, dYes, dgName, dgTup, dgCons, dgNil, dAsg, dApp, dPopAt, dAugIx, dSetIx, dCallL, dBits, dLstRg1, dFldV, dSetF, dMake, dCut, dPart, dNoPart, rCut, endsOf, exitT, peek, setOk, withOw, isOw, withT, lentQ, l_lend1, l_lend2, l_lend3, l_back1, l_back2, l_back3, l_kind1, l_kind2, l_kind3, l_kind4, l_kind5, l_kind6, l_frz1, l_frz2, l_frz3, l_frz4, noOw, wipeT, restT, cLen, cInt, cAbs, cTuple, cList, cStr, keyD, rIsB, rIsNotB, rAdd, rSub, rMul, rMod, rDiv, rPow, rShl, rShr, rBand, rBor, rLt, rLe, rGt, rGe, rAddI, rIx, l_at0, l_at1, l_at2, l_at3, l_at4, Int.reduceToNat, l_eqI, l_neI, l_eqB, l_neB, List.getElem?_cons_zero, List.getElem?_cons_succ, List.set_cons_zero, List.set_cons_succ, List.map_cons, List.map_nil, List.append_nil, List.cons_append, List.nil_append, List.replicate_succ, List.replicate_zero, Option.isSome_some, List.getD_cons_zero, List.getD_cons_succ, forall_const, true_and, and_true, ez]
  refine q z hs' _ _ _ _ _ _ ?_ h'
  simp only [List.mem_cons, List.not_mem_nil, or_false] at hz
  rcases hz with rfl | rfl | rfl | rfl | rfl | rfl | rfl | rfl | rfl
  · exact plain_lst _
  · exact (Ty.nats hl).rev.plain
  · exact plain_dic _
  · exact plain_non
  · exact plain_int _
  · exact plain_lst _
  · exact (Ty.one rfl).plain
  · exact hd
  · exact plain_str _
theorem way_at {a : Nat} (ha : a < p.length) : atD (natsD p) (a : Int) = some (nD p[a]) := atD_nat (by rw [natsD_get, List.getElem?_eq_getElem ha]; rfl)
theorem spoiled_r1 {hs : List D} {x3 x4 x5 x6 : Option T} {lo hi : Nat} (h : HandOk hs) (hp : IsWay ar p) (h1 : lo < p.length) (h2 : hi < p.length) (q : spQ ar p E) :
    b__law_spoiled_r1 E [some (.ow true hs), some (.fr (.tup (ar.map arrD))), some (.fr (.tup (natsD p))), x3, x4, x5, x6, some (.fr (nD lo)), some (.fr (nD hi))] := by
  have ty : Ty 1000 (natsD p) := Ty.nats hp.2
  simp only [b__law_spoiled_r1, dDic1, dLenSetT, dSeq, dSet, dRet, dRetN, dDrop, dIfS, dNext, dFr, dFz, dVar, dC, dOp, dB, dChain, dAnd, dOr, dNot, dAndV, dOrV, dNotV, dIf, dNeg, dRev, dBack, dDic0, dCons, dNil, dTup, dLst, dRep, dIxV, dInV, dLenV, dCallB, dCall, dIsi, dItems, dRange1, dEnum, dZip, dYes, dgName, dgTup, dgCons, dgNil, dAsg, dApp, dPopAt, dAugIx, dSetIx, dCallL, dBits, dLstRg1, dFldV, dSetF, dMake, dCut, dPart, dNoPart, rCut, endsOf, exitT, peek, setOk, withOw, isOw, withT, lentQ, l_lend1, l_lend2, l_lend3, l_back1, l_back2, l_back3, l_kind1, l_kind2, l_kind3, l_kind4, l_kind5, l_kind6, l_frz1, l_frz2, l_frz3, l_frz4, noOw, wipeT, restT, cLen, cInt, cAbs, cTuple, cList, cStr, keyD, rIsB, rIsNotB, rAdd, rSub, rMul, rMod, rDiv, rPow, rShl, rShr, rBand, rBor, rLt, rLe, rGt, rGe, rAddI, rIx, l_at0, l_at1, l_at2, l_at3, l_at4, Int.reduceToNat, l_eqI, l_neI, l_eqB, l_neB, List.getElem?_cons_zero, List.getElem?_cons_succ, List.set_cons_zero, List.set_cons_succ, List.map_cons, List.map_nil, List.append_nil, List.cons_append, List.nil_append, List.replicate_succ, List.replicate_zero, Option.isSome_some, List.getD_cons_zero, List.getD_cons_succ, forall_const, true_and, and_true, way_at h1, way_at h2]
  have t1 := ty.cut none (some (lo : Int))
  have t2 := t1.app (Ty.one (d := nD p[hi]) rfl)
  have t3 := t2.app (ty.cut (some ((lo : Int) + 1)) (some (hi : Int)))
  have t4 := t3.app (Ty.one (d := nD p[lo]) rfl)
  have t5 := t4.app (ty.cut (some ((hi : Int) + 1)) none)
  have l2 := t2.len
  have l3 := t3.len
  have l4 := t4.len
  have l5 := t5.len
  rw [List.length_append] at l2 l3 l4 l5
  exact ⟨by simp, by omega, by omega, by simp, by omega, by omega, q _ _ _ _ _ _ _ _ t5.plain h⟩
theorem spoiled_r3 {hs : List D} {a o : Nat} {odds : List D} {sort : Int} (h : HandOk hs) (hp : IsWay ar p) (ha : a < p.length) (ho : o < p.length) (q : spQ ar p E) : b__law_spoiled_r3 E (spE hs ar p a o odds sort none none) := by
  have ty : Ty 1000 (natsD p) := Ty.nats hp.2
  by_cases h5 : sort = 5
  · simp only [b__law_spoiled_r3, spE, dDic1, dLenSetT, dSeq, dSet, dRet, dRetN, dDrop, dIfS, dNext, dFr, dFz, dVar, dC, dOp, dB, dChain, dAnd, dOr, dNot, dAndV, dOrV, dNotV, dIf, dNeg, dRev, dBack, dDic0, dCons, dNil, dTup, dLst, dRep, dIxV, dInV, dLenV, dCallB, dCall, dIsi, dItems, dRange1, dEnum, dZip, dYes, dgName, dgTup, dgCons, dgNil, dAsg, dApp, dPopAt, dAugIx, dSetIx, dCallL, dBits, dLstRg1, dFldV, dSetF, dMake, dCut, dPart, dNoPart, rCut, endsOf, exitT, peek, setOk, withOw, isOw, withT, lentQ, l_lend1, l_lend2, l_lend3, l_back1, l_back2, l_back3, l_kind1, l_kind2, l_kind3, l_kind4, l_kind5, l_kind6, l_frz1, l_frz2, l_frz3, l_frz4, noOw, wipeT, restT, cLen, cInt, cAbs, cTuple, cList, cStr, keyD, rIsB, rIsNotB, rAdd, rSub, rMul, rMod, rDiv, rPow, rShl, rShr, rBand, rBor, rLt, rLe, rGt, rGe, rAddI, rIx, l_at0, l_at1, l_at2, l_at3, l_at4, Int.reduceToNat, l_eqI, l_neI, l_eqB, l_neB, List.getElem?_cons_zero, List.getElem?_cons_succ, List.set_cons_zero, List.set_cons_succ, List.map_cons, List.map_nil, List.append_nil, List.cons_append, List.nil_append, List.replicate_succ, List.replicate_zero, Option.isSome_some, List.getD_cons_zero, List.getD_cons_succ, forall_const, true_and, and_true, h5, decide_true, cMin, cMax]
    have e1 : (if (o : Int) < (a : Int) then (o : Int) else (a : Int)) = ((min o a : Nat) : Int) := by split <;> omega
    have e2 : (if (o : Int) > (a : Int) then (o : Int) else (a : Int)) = ((max o a : Nat) : Int) := by split <;> omega
    rw [e1, e2, dec_nat]
    by_cases e : min o a = max o a
    · simp only [e, decide_true]
      exact q _ _ _ _ _ _ _ _ ty.rev.plain h
    · simp only [e, decide_false]
      exact spoiled_r1 h hp (by omega) (by omega) q
  · simp only [b__law_spoiled_r3, spE, dDic1, dLenSetT, dSeq, dSet, dRet, dRetN, dDrop, dIfS, dNext, dFr, dFz, dVar, dC, dOp, dB, dChain, dAnd, dOr, dNot, dAndV, dOrV, dNotV, dIf, dNeg, dRev, dBack, dDic0, dCons, dNil, dTup, dLst, dRep, dIxV, dInV, dLenV, dCallB, dCall, dIsi, dItems, dRange1, dEnum, dZip, dYes, dgName, dgTup, dgCons, dgNil, dAsg, dApp, dPopAt, dAugIx, dSetIx, dCallL, dBits, dLstRg1, dFldV, dSetF, dMake, dCut, dPart, dNoPart, rCut, endsOf, exitT, peek, setOk, withOw, isOw, withT, lentQ, l_lend1, l_lend2, l_lend3, l_back1, l_back2, l_back3, l_kind1, l_kind2, l_kind3, l_kind4, l_kind5, l_kind6, l_frz1, l_frz2, l_frz3, l_frz4, noOw, wipeT, restT, cLen, cInt, cAbs, cTuple, cList, cStr, keyD, rIsB, rIsNotB, rAdd, rSub, rMul, rMod, rDiv, rPow, rShl, rShr, rBand, rBor, rLt, rLe, rGt, rGe, rAddI, rIx, l_at0, l_at1, l_at2, l_at3, l_at4, Int.reduceToNat, l_eqI, l_neI, l_eqB, l_neB, List.getElem?_cons_zero, List.getElem?_cons_succ, List.set_cons_zero, List.set_cons_succ, List.map_cons, List.map_nil, List.append_nil, List.cons_append, List.nil_append, List.replicate_succ, List.replicate_zero, Option.isSome_some, List.getD_cons_zero, List.getD_cons_succ, forall_const, true_and, and_true, h5, decide_false]
    exact spoiled_r2 h hp q
theorem spoiled_r4 {hs : List D} {a o : Nat} {odds : List D} {sort : Int} (h : HandOk hs) (hp : IsWay ar p) (ha : a < p.length) (ho : o < p.length) (q : spQ ar p E) : b__law_spoiled_r4 E (spE hs ar p a o odds sort none none) := by
  have ty : Ty 1000 (natsD p) := Ty.nats hp.2
  by_cases h5 : sort = 4
  · simp only [b__law_spoiled_r4, spE, dDic1, dLenSetT, dSeq, dSet, dRet, dRetN, dDrop, dIfS, dNext, dFr, dFz, dVar, dC, dOp, dB, dChain, dAnd, dOr, dNot, dAndV, dOrV, dNotV, dIf, dNeg, dRev, dBack, dDic0, dCons, dNil, dTup, dLst, dRep, dIxV, dInV, dLenV, dCallB, dCall, dIsi, dItems, dRange1, dEnum, dZip, dYes, dgName, dgTup, dgCons, dgNil, dAsg, dApp, dPopAt, dAugIx, dSetIx, dCallL, dBits, dLstRg1, dFldV, dSetF, dMake, dCut, dPart, dNoPart, rCut, endsOf, exitT, peek, setOk, withOw, isOw, withT, lentQ, l_lend1, l_lend2, l_lend3, l_back1, l_back2, l_back3, l_kind1, l_kind2, l_kind3, l_kind4, l_kind5, l_kind6, l_frz1, l_frz2, l_frz3, l_frz4, noOw, wipeT, restT, cLen, cInt, cAbs, cTuple, cList, cStr, keyD, rIsB, rIsNotB, rAdd, rSub, rMul, rMod, rDiv, rPow, rShl, rShr, rBand, rBor, rLt, rLe, rGt, rGe, rAddI, rIx, l_at0, l_at1, l_at2, l_at3, l_at4, Int.reduceToNat, l_eqI, l_neI, l_eqB, l_neB, List.getElem?_cons_zero, List.getElem?_cons_succ, List.set_cons_zero, List.set_cons_succ, List.map_cons, List.map_nil, List.append_nil, List.cons_append, List.nil_append, List.replicate_succ, List.replicate_zero, Option.isSome_some, List.getD_cons_zero, List.getD_cons_succ, forall_const, true_and, and_true, h5, decide_true, way_at ha]
    have t1 := ty.cut none (some (a : Int))
    have t2 := t1.app (Ty.one (d := nD p[a]) rfl)
    have t3 := t2.app (ty.cut (some (a : Int)) none)
    have l2 := t2.len
    have l3 := t3.len
    rw [List.length_append] at l2 l3
    exact ⟨by simp, by omega, by omega, q _ _ _ _ _ _ _ _ t3.plain h⟩
  · simp only [b__law_spoiled_r4, spE, dDic1, dLenSetT, dSeq, dSet, dRet, dRetN, dDrop, dIfS, dNext, dFr, dFz, dVar, dC, dOp, dB, dChain, dAnd, dOr, dNot, dAndV, dOrV, dNotV, dIf, dNeg, dRev, dBack, dDic0, dCons, dNil, dTup, dLst, dRep, dIxV, dInV, dLenV, dCallB, dCall, dIsi, dItems, dRange1, dEnum, dZip, dYes, dgName, dgTup, dgCons, dgNil, dAsg, dApp, dPopAt, dAugIx, dSetIx, dCallL, dBits, dLstRg1, dFldV, dSetF, dMake, dCut, dPart, dNoPart, rCut, endsOf, exitT, peek, setOk, withOw, isOw, withT, lentQ, l_lend1, l_lend2, l_lend3, l_back1, l_back2, l_back3, l_kind1, l_kind2, l_kind3, l_kind4, l_kind5, l_kind6, l_frz1, l_frz2, l_frz3, l_frz4, noOw, wipeT, restT, cLen, cInt, cAbs, cTuple, cList, cStr, keyD, rIsB, rIsNotB, rAdd, rSub, rMul, rMod, rDiv, rPow, rShl, rShr, rBand, rBor, rLt, rLe, rGt, rGe, rAddI, rIx, l_at0, l_at1, l_at2, l_at3, l_at4, Int.reduceToNat, l_eqI, l_neI, l_eqB, l_neB, List.getElem?_cons_zero, List.getElem?_cons_succ, List.set_cons_zero, List.set_cons_succ, List.map_cons, List.map_nil, List.append_nil, List.cons_append, List.nil_append, List.replicate_succ, List.replicate_zero, Option.isSome_some, List.getD_cons_zero, List.getD_cons_succ, forall_const, true_and, and_true, h5, decide_false]
    exact spoiled_r3 h hp ha ho q
theorem spoiled_r5 {hs : List D} {a o : Nat} {odds : List D} {sort : Int} (h : HandOk hs) (hp : IsWay ar p) (ha : a < p.length) (ho : o < p.length) (q : spQ ar p E) : b__law_spoiled_r5 E (spE hs ar p a o odds sort none none) := by
  have ty : Ty 1000 (natsD p) := Ty.nats hp.2
  by_cases h5 : sort = 3
  · simp only [b__law_spoiled_r5, spE, dDic1, dLenSetT, dSeq, dSet, dRet, dRetN, dDrop, dIfS, dNext, dFr, dFz, dVar, dC, dOp, dB, dChain, dAnd, dOr, dNot, dAndV, dOrV, dNotV, dIf, dNeg, dRev, dBack, dDic0, dCons, dNil, dTup, dLst, dRep, dIxV, dInV, dLenV, dCallB, dCall, dIsi, dItems, dRange1, dEnum, dZip, dYes, dgName, dgTup, dgCons, dgNil, dAsg, dApp, dPopAt, dAugIx, dSetIx, dCallL, dBits, dLstRg1, dFldV, dSetF, dMake, dCut, dPart, dNoPart, rCut, endsOf, exitT, peek, setOk, withOw, isOw, withT, lentQ, l_lend1, l_lend2, l_lend3, l_back1, l_back2, l_back3, l_kind1, l_kind2, l_kind3, l_kind4, l_kind5, l_kind6, l_frz1, l_frz2, l_frz3, l_frz4, noOw, wipeT, restT, cLen, cInt, cAbs, cTuple, cList, cStr, keyD, rIsB, rIsNotB, rAdd, rSub, rMul, rMod, rDiv, rPow, rShl, rShr, rBand, rBor, rLt, rLe, rGt, rGe, rAddI, rIx, l_at0, l_at1, l_at2, l_at3, l_at4, Int.reduceToNat, l_eqI, l_neI, l_eqB, l_neB, List.getElem?_cons_zero, List.getElem?_cons_succ, List.set_cons_zero, List.set_cons_succ, List.map_cons, List.map_nil, List.append_nil, List.cons_append, List.nil_append, List.replicate_succ, List.replicate_zero, Option.isSome_some, List.getD_cons_zero, List.getD_cons_succ, forall_const, true_and, and_true, h5, decide_true]
    have t1 := ty.cut none (some (a : Int))
    have t3 := t1.app (ty.cut (some ((a : Int) + 1)) none)
    have l3 := t3.len
    rw [List.length_append] at l3
    exact ⟨by omega, q _ _ _ _ _ _ _ _ t3.plain h⟩
  · simp only [b__law_spoiled_r5, spE, dDic1, dLenSetT, dSeq, dSet, dRet, dRetN, dDrop, dIfS, dNext, dFr, dFz, dVar, dC, dOp, dB, dChain, dAnd, dOr, dNot, dAndV, dOrV, dNotV, dIf, dNeg, dRev, dBack, dDic0, dCons, dNil, dTup, dLst, dRep, dIxV, dInV, dLenV, dCallB, dCall, dIsi, dItems, dRange1, dEnum, dZip, dYes, dgName, dgTup, dgCons, dgNil, dAsg, dApp, dPopAt, dAugIx, dSetIx, dCallL, dBits, dLstRg1, dFldV, dSetF, dMake, dCut, dPart, dNoPart, rCut, endsOf, exitT, peek, setOk, withOw, isOw, withT, lentQ, l_lend1, l_lend2, l_lend3, l_back1, l_back2, l_back3, l_kind1, l_kind2, l_kind3, l_kind4, l_kind5, l_kind6, l_frz1, l_frz2, l_frz3, l_frz4, noOw, wipeT, restT, cLen, cInt, cAbs, cTuple, cList, cStr, keyD, rIsB, rIsNotB, rAdd, rSub, rMul, rMod, rDiv, rPow, rShl, rShr, rBand, rBor, rLt, rLe, rGt, rGe, rAddI, rIx, l_at0, l_at1, l_at2, l_at3, l_at4, Int.reduceToNat, l_eqI, l_neI, l_eqB, l_neB, List.getElem?_cons_zero, List.getElem?_cons_succ, List.set_cons_zero, List.set_cons_succ, List.map_cons, List.map_nil, List.append_nil, List.cons_append, List.nil_append, List.replicate_succ, List.replicate_zero, Option.isSome_some, List.getD_cons_zero, List.getD_cons_succ, forall_const, true_and, and_true, h5, decide_false]
    exact spoiled_r4 h hp ha ho q
theorem spoiled_r6 {hs : List D} {a o : Nat} {odds : List D} {sort : Int} (h : HandOk hs) (hp : IsWay ar p) (ha : a < p.length) (ho : o < p.length) (hod : Ty 9 odds) (hol : odds.length = 9) (q : spQ ar p E) : b__law_spoiled_r6 E (spE hs ar p a o odds sort none none) := by
  have ty : Ty 1000 (natsD p) := Ty.nats hp.2
  have fin : ∀ d hs', (tyD d).isSome = true → HandOk hs' → ∀ x3 x4 x5 x6 x7 x8, 1 ≤ 1000000 ∧ (cutD (natsD p) none (some (a : Int))).length + 1 ≤ 1000000 ∧ (cutD (natsD p) none (some (a : Int)) ++ [d]).length + (cutD (natsD p) (some ((a : Int) + 1)) none).length ≤ 1000000 ∧
      E.rt (.fr (.tup (cutD (natsD p) none (some (a : Int)) ++ [d] ++ cutD (natsD p) (some ((a : Int) + 1)) none))) [some (.ow true hs'), some (.fr (.tup (ar.map arrD))), some (.fr (.tup (natsD p))), x3, x4, x5, x6, x7, x8] := fun d hs' hd h' x3 x4 x5 x6 x7 x8 => by
    have t1 := ty.cut none (some (a : Int))
    have t2 := t1.app (Ty.one hd)
    have t3 := t2.app (ty.cut (some ((a : Int) + 1)) none)
    have l1 := t1.len
    have l3 := t3.len
    rw [List.length_append] at l3
    exact ⟨by omega, by omega, by omega, q _ _ _ _ _ _ _ _ t3.plain h'⟩
  by_cases h5 : sort < 3
  · simp only [b__law_spoiled_r6, spE, dDic1, dLenSetT, dSeq, dSet, dRet, dRetN, dDrop, dIfS, dNext, dFr, dFz, dVar, dC, dOp, dB, dChain, dAnd, dOr, dNot, dAndV, dOrV, dNotV, dIf, dNeg, dRev, dBack, dDic0, dCons, dNil, dTup, dLst, dRep, dIxV, dInV, dLenV, dCallB, dCall, dIsi, dItems, dRange1, dEnum, dZip, dYes, dgName, dgTup, dgCons, dgNil, dAsg, dApp, dPopAt, dAugIx, dSetIx, dCallL, dBits, dLstRg1, dFldV, dSetF, dMake, dCut, dPart, dNoPart, rCut, endsOf, exitT, peek, setOk, withOw, isOw, withT, lentQ, l_lend1, l_lend2, l_lend3, l_back1, l_back2, l_back3, l_kind1, l_kind2, l_kind3, l_kind4, l_kind5, l_kind6, l_frz1, l_frz2, l_frz3, l_frz4, noOw, wipeT, restT, cLen, cInt, cAbs, cTuple, cList, cStr, keyD, rIsB, rIsNotB, rAdd, rSub, rMul, rMod, rDiv, rPow, rShl, rShr, rBand, rBor, rLt, rLe, rGt, rGe, rAddI, rIx, l_at0, l_at1, l_at2, l_at3, l_at4, Int.reduceToNat, l_eqI, l_neI, l_eqB, l_neB, List.getElem?_cons_zero, List.getElem?_cons_succ, List.set_cons_zero, List.set_cons_succ, List.map_cons, List.map_nil, List.append_nil, List.cons_append, List.nil_append, List.replicate_succ, List.replicate_zero, Option.isSome_some, List.getD_cons_zero, List.getD_cons_succ, forall_const, true_and, and_true, h5, decide_true]
    by_cases h6 : 0 < sort
    · simp only [h6, decide_true, dDic1, dLenSetT, dSeq, dSet, dRet, dRetN, dDrop, dIfS, dNext, dFr, dFz, dVar, dC, dOp, dB, dChain, dAnd, dOr, dNot, dAndV, dOrV, dNotV, dIf, dNeg, dRev, dBack, dDic0, dCons, dNil, dTup, dLst, dRep, dIxV, dInV, dLenV, dCallB, dCall, dIsi, dItems, dRange1, dEnum, dZip, dYes, dgName, dgTup, dgCons, dgNil, dAsg, dApp, dPopAt, dAugIx, dSetIx, dCallL, dBits, dLstRg1, dFldV, dSetF, dMake, dCut, dPart, dNoPart, rCut, endsOf, exitT, peek, setOk, withOw, isOw, withT, lentQ, l_lend1, l_lend2, l_lend3, l_back1, l_back2, l_back3, l_kind1, l_kind2, l_kind3, l_kind4, l_kind5, l_kind6, l_frz1, l_frz2, l_frz3, l_frz4, noOw, wipeT, restT, cLen, cInt, cAbs, cTuple, cList, cStr, keyD, rIsB, rIsNotB, rAdd, rSub, rMul, rMod, rDiv, rPow, rShl, rShr, rBand, rBor, rLt, rLe, rGt, rGe, rAddI, rIx, l_at0, l_at1, l_at2, l_at3, l_at4, Int.reduceToNat, l_eqI, l_neI, l_eqB, l_neB, List.getElem?_cons_zero, List.getElem?_cons_succ, List.set_cons_zero, List.set_cons_succ, List.map_cons, List.map_nil, List.append_nil, List.cons_append, List.nil_append, List.replicate_succ, List.replicate_zero, Option.isSome_some, List.getD_cons_zero, List.getD_cons_succ, forall_const, true_and, and_true]
      refine ⟨hs, _, rfl, h, by omega, by omega, fun r hs' r0 r1 h' => ?_⟩
      obtain ⟨d, ed, hd⟩ := hod.at r0 (by omega)
      simp only [dDic1, dLenSetT, dSeq, dSet, dRet, dRetN, dDrop, dIfS, dNext, dFr, dFz, dVar, dC, dOp, dB, dChain, dAnd, dOr, dNot, dAndV, dOrV, dNotV, dIf, dNeg, dRev, dBack, dDic0, dCons, dNil, dTup, dLst, dRep, dIxV, dInV, dLenV, dCallB, dCall, dIsi, dItems, dRange1, dEnum, dZip, dYes, dgName, dgTup, dgCons, dgNil, dAsg, dApp, dPopAt, dAugIx, dSetIx, dCallL, dBits, dLstRg1, dFldV, dSetF, dMake, dCut, dPart, dNoPart, rCut, endsOf, exitT, peek, setOk, withOw, isOw, withT, lentQ, l_lend1, l_lend2, l_lend3, l_back1, l_back2, l_back3, l_kind1, l_kind2, l_kind3, l_kind4, l_kind5, l_kind6, l_frz1, l_frz2, l_frz3, l_frz4, noOw, wipeT, restT, cLen, cInt, cAbs, cTuple, cList, cStr, keyD, rIsB, rIsNotB, rAdd, rSub, rMul, rMod, rDiv, rPow, rShl, rShr, rBand, rBor, rLt, rLe, rGt, rGe, rAddI, rIx, l_at0, l_at1, l_at2, l_at3, l_at4, Int.reduceToNat, l_eqI, l_neI, l_eqB, l_neB, List.getElem?_cons_zero, List.getElem?_cons_succ, List.set_cons_zero, List.set_cons_succ, List.map_cons, List.map_nil, List.append_nil, List.cons_append, List.nil_append, List.replicate_succ, List.replicate_zero, Option.isSome_some, List.getD_cons_zero, List.getD_cons_succ, forall_const, true_and, and_true, ed]
      exact fin d hs' hd h' _ _ _ _ _ _
    · simp only [h6, decide_false, dDic1, dLenSetT, dSeq, dSet, dRet, dRetN, dDrop, dIfS, dNext, dFr, dFz, dVar, dC, dOp, dB, dChain, dAnd, dOr, dNot, dAndV, dOrV, dNotV, dIf, dNeg, dRev, dBack, dDic0, dCons, dNil, dTup, dLst, dRep, dIxV, dInV, dLenV, dCallB, dCall, dIsi, dItems, dRange1, dEnum, dZip, dYes, dgName, dgTup, dgCons, dgNil, dAsg, dApp, dPopAt, dAugIx, dSetIx, dCallL, dBits, dLstRg1, dFldV, dSetF, dMake, dCut, dPart, dNoPart, rCut, endsOf, exitT, peek, setOk, withOw, isOw, withT, lentQ, l_lend1, l_lend2, l_lend3, l_back1, l_back2, l_back3, l_kind1, l_kind2, l_kind3, l_kind4, l_kind5, l_kind6, l_frz1, l_frz2, l_frz3, l_frz4, noOw, wipeT, restT, cLen, cInt, cAbs, cTuple, cList, cStr, keyD, rIsB, rIsNotB, rAdd, rSub, rMul, rMod, rDiv, rPow, rShl, rShr, rBand, rBor, rLt, rLe, rGt, rGe, rAddI, rIx, l_at0, l_at1, l_at2, l_at3, l_at4, Int.reduceToNat, l_eqI, l_neI, l_eqB, l_neB, List.getElem?_cons_zero, List.getElem?_cons_succ, List.set_cons_zero, List.set_cons_succ, List.map_cons, List.map_nil, List.append_nil, List.cons_append, List.nil_append, List.replicate_succ, List.replicate_zero, Option.isSome_some, List.getD_cons_zero, List.getD_cons_succ, forall_const, true_and, and_true]
      obtain ⟨d, ed, hd⟩ := hod.at (r := 0) (by omega) (by omega)
      simp only [dDic1, dLenSetT, dSeq, dSet, dRet, dRetN, dDrop, dIfS, dNext, dFr, dFz, dVar, dC, dOp, dB, dChain, dAnd, dOr, dNot, dAndV, dOrV, dNotV, dIf, dNeg, dRev, dBack, dDic0, dCons, dNil, dTup, dLst, dRep, dIxV, dInV, dLenV, dCallB, dCall, dIsi, dItems, dRange1, dEnum, dZip, dYes, dgName, dgTup, dgCons, dgNil, dAsg, dApp, dPopAt, dAugIx, dSetIx, dCallL, dBits, dLstRg1, dFldV, dSetF, dMake, dCut, dPart, dNoPart, rCut, endsOf, exitT, peek, setOk, withOw, isOw, withT, lentQ, l_lend1, l_lend2, l_lend3, l_back1, l_back2, l_back3, l_kind1, l_kind2, l_kind3, l_kind4, l_kind5, l_kind6, l_frz1, l_frz2, l_frz3, l_frz4, noOw, wipeT, restT, cLen, cInt, cAbs, cTuple, cList, cStr, keyD, rIsB, rIsNotB, rAdd, rSub, rMul, rMod, rDiv, rPow, rShl, rShr, rBand, rBor, rLt, rLe, rGt, rGe, rAddI, rIx, l_at0, l_at1, l_at2, l_at3, l_at4, Int.reduceToNat, l_eqI, l_neI, l_eqB, l_neB, List.getElem?_cons_zero, List.getElem?_cons_succ, List.set_cons_zero, List.set_cons_succ, List.map_cons, List.map_nil, List.append_nil, List.cons_append, List.nil_append, List.replicate_succ, List.replicate_zero, Option.isSome_some, List.getD_cons_zero, List.getD_cons_succ, forall_const, true_and, and_true, ed]
      exact fin d hs hd h _ _ _ _ _ _
  · simp only [b__law_spoiled_r6, spE, dDic1, dLenSetT, dSeq, dSet, dRet, dRetN, dDrop, dIfS, dNext, dFr, dFz, dVar, dC, dOp, dB, dChain, dAnd, dOr, dNot, dAndV, dOrV, dNotV, dIf, dNeg, dRev, dBack, dDic0, dCons, dNil, dTup, dLst, dRep, dIxV, dInV, dLenV, dCallB, dCall, dIsi, dItems, dRange1, dEnum, dZip, dYes, dgName, dgTup, dgCons, dgNil, dAsg, dApp, dPopAt, dAugIx, dSetIx, dCallL, dBits, dLstRg1, dFldV, dSetF, dMake, dCut, dPart, dNoPart, rCut, endsOf, exitT, peek, setOk, withOw, isOw, withT, lentQ, l_lend1, l_lend2, l_lend3, l_back1, l_back2, l_back3, l_kind1, l_kind2, l_kind3, l_kind4, l_kind5, l_kind6, l_frz1, l_frz2, l_frz3, l_frz4, noOw, wipeT, restT, cLen, cInt, cAbs, cTuple, cList, cStr, keyD, rIsB, rIsNotB, rAdd, rSub, rMul, rMod, rDiv, rPow, rShl, rShr, rBand, rBor, rLt, rLe, rGt, rGe, rAddI, rIx, l_at0, l_at1, l_at2, l_at3, l_at4, Int.reduceToNat, l_eqI, l_neI, l_eqB, l_neB, List.getElem?_cons_zero, List.getElem?_cons_succ, List.set_cons_zero, List.set_cons_succ, List.map_cons, List.map_nil, List.append_nil, List.cons_append, List.nil_append, List.replicate_succ, List.replicate_zero, Option.isSome_some, List.getD_cons_zero, List.getD_cons_succ, forall_const, true_and, and_true, h5, decide_false]
    exact spoiled_r5 h hp ha ho q
end
theorem m__law_spoiled : ∀ ts Q R, sp__law_spoiled ts Q R → b__law_spoiled (endsOf ts Q R) (startT N__law_spoiled.length ts) := by
  rintro ts Q R ⟨hs0, ar, p, rfl, h, ha0, ha1, hp, q⟩
  have e : startT N__law_spoiled.length [.ow true hs0, .fr (arsD ar), .fr (wayD p)] = [some (.ow true hs0), some (.fr (.tup (ar.map arrD))), some (.fr (.tup (natsD p))), none, none, none, none, none, none] := rfl
  rw [e]
  have hl := hp.2
  have hl0 := hp.ok.pos
  simp only [b__law_spoiled, dDic1, dLenSetT, dSeq, dSet, dRet, dRetN, dDrop, dIfS, dNext, dFr, dFz, dVar, dC, dOp, dB, dChain, dAnd, dOr, dNot, dAndV, dOrV, dNotV, dIf, dNeg, dRev, dBack, dDic0, dCons, dNil, dTup, dLst, dRep, dIxV, dInV, dLenV, dCallB, dCall, dIsi, dItems, dRange1, dEnum, dZip, dYes, dgName, dgTup, dgCons, dgNil, dAsg, dApp, dPopAt, dAugIx, dSetIx, dCallL, dBits, dLstRg1, dFldV, dSetF, dMake, dCut, dPart, dNoPart, rCut, endsOf, exitT, peek, setOk, withOw, isOw, withT, lentQ, l_lend1, l_lend2, l_lend3, l_back1, l_back2, l_back3, l_kind1, l_kind2, l_kind3, l_kind4, l_kind5, l_kind6, l_frz1, l_frz2, l_frz3, l_frz4, noOw, wipeT, restT, cLen, cInt, cAbs, cTuple, cList, cStr, keyD, rIsB, rIsNotB, rAdd, rSub, rMul, rMod, rDiv, rPow, rShl, rShr, rBand, rBor, rLt, rLe, rGt, rGe, rAddI, rIx, l_at0, l_at1, l_at2, l_at3, l_at4, Int.reduceToNat, l_eqI, l_neI, l_eqB, l_neB, List.getElem?_cons_zero, List.getElem?_cons_succ, List.set_cons_zero, List.set_cons_succ, List.map_cons, List.map_nil, List.append_nil, List.cons_append, List.nil_append, List.replicate_succ, List.replicate_zero, Option.isSome_some, List.getD_cons_zero, List.getD_cons_succ, forall_const, true_and, and_true, natsD_length]
  refine ⟨hs0, _, rfl, h, by omega, by omega, fun r hs r0 r1 h => ?_⟩
  obtain ⟨a, rfl⟩ : ∃ k : Nat, r = k := ⟨r.toNat, by omega⟩
  simp only [b__law_spoiled_r9, dDic1, dLenSetT, dSeq, dSet, dRet, dRetN, dDrop, dIfS, dNext, dFr, dFz, dVar, dC, dOp, dB, dChain, dAnd, dOr, dNot, dAndV, dOrV, dNotV, dIf, dNeg, dRev, dBack, dDic0, dCons, dNil, dTup, dLst, dRep, dIxV, dInV, dLenV, dCallB, dCall, dIsi, dItems, dRange1, dEnum, dZip, dYes, dgName, dgTup, dgCons, dgNil, dAsg, dApp, dPopAt, dAugIx, dSetIx, dCallL, dBits, dLstRg1, dFldV, dSetF, dMake, dCut, dPart, dNoPart, rCut, endsOf, exitT, peek, setOk, withOw, isOw, withT, lentQ, l_lend1, l_lend2, l_lend3, l_back1, l_back2, l_back3, l_kind1, l_kind2, l_kind3, l_kind4, l_kind5, l_kind6, l_frz1, l_frz2, l_frz3, l_frz4, noOw, wipeT, restT, cLen, cInt, cAbs, cTuple, cList, cStr, keyD, rIsB, rIsNotB, rAdd, rSub, rMul, rMod, rDiv, rPow, rShl, rShr, rBand, rBor, rLt, rLe, rGt, rGe, rAddI, rIx, l_at0, l_at1, l_at2, l_at3, l_at4, Int.reduceToNat, l_eqI, l_neI, l_eqB, l_neB, List.getElem?_cons_zero, List.getElem?_cons_succ, List.set_cons_zero, List.set_cons_succ, List.map_cons, List.map_nil, List.append_nil, List.cons_append, List.nil_append, List.replicate_succ, List.replicate_zero, Option.isSome_some, List.getD_cons_zero, List.getD_cons_succ, forall_const, true_and, and_true, natsD_length]
  refine ⟨hs, _, rfl, h, by omega, by omega, fun r hs r0 r1 h => ?_⟩
  obtain ⟨o, rfl⟩ : ∃ k : Nat, r = k := ⟨r.toNat, by omega⟩
  simp only [b__law_spoiled_r8, dDic1, dLenSetT, dSeq, dSet, dRet, dRetN, dDrop, dIfS, dNext, dFr, dFz, dVar, dC, dOp, dB, dChain, dAnd, dOr, dNot, dAndV, dOrV, dNotV, dIf, dNeg, dRev, dBack, dDic0, dCons, dNil, dTup, dLst, dRep, dIxV, dInV, dLenV, dCallB, dCall, dIsi, dItems, dRange1, dEnum, dZip, dYes, dgName, dgTup, dgCons, dgNil, dAsg, dApp, dPopAt, dAugIx, dSetIx, dCallL, dBits, dLstRg1, dFldV, dSetF, dMake, dCut, dPart, dNoPart, rCut, endsOf, exitT, peek, setOk, withOw, isOw, withT, lentQ, l_lend1, l_lend2, l_lend3, l_back1, l_back2, l_back3, l_kind1, l_kind2, l_kind3, l_kind4, l_kind5, l_kind6, l_frz1, l_frz2, l_frz3, l_frz4, noOw, wipeT, restT, cLen, cInt, cAbs, cTuple, cList, cStr, keyD, rIsB, rIsNotB, rAdd, rSub, rMul, rMod, rDiv, rPow, rShl, rShr, rBand, rBor, rLt, rLe, rGt, rGe, rAddI, rIx, l_at0, l_at1, l_at2, l_at3, l_at4, Int.reduceToNat, l_eqI, l_neI, l_eqB, l_neB, List.getElem?_cons_zero, List.getElem?_cons_succ, List.set_cons_zero, List.set_cons_succ, List.map_cons, List.map_nil, List.append_nil, List.cons_append, List.nil_append, List.replicate_succ, List.replicate_zero, Option.isSome_some, List.getD_cons_zero, List.getD_cons_succ, forall_const, true_and, and_true, List.length_map]
  refine ⟨hs, _, rfl, h, by omega, by omega, fun r hs r0 r1 h => ?_⟩
  have ha : a < p.length := by omega
  simp only [dDic1, dLenSetT, dSeq, dSet, dRet, dRetN, dDrop, dIfS, dNext, dFr, dFz, dVar, dC, dOp, dB, dChain, dAnd, dOr, dNot, dAndV, dOrV, dNotV, dIf, dNeg, dRev, dBack, dDic0, dCons, dNil, dTup, dLst, dRep, dIxV, dInV, dLenV, dCallB, dCall, dIsi, dItems, dRange1, dEnum, dZip, dYes, dgName, dgTup, dgCons, dgNil, dAsg, dApp, dPopAt, dAugIx, dSetIx, dCallL, dBits, dLstRg1, dFldV, dSetF, dMake, dCut, dPart, dNoPart, rCut, endsOf, exitT, peek, setOk, withOw, isOw, withT, lentQ, l_lend1, l_lend2, l_lend3, l_back1, l_back2, l_back3, l_kind1, l_kind2, l_kind3, l_kind4, l_kind5, l_kind6, l_frz1, l_frz2, l_frz3, l_frz4, noOw, wipeT, restT, cLen, cInt, cAbs, cTuple, cList, cStr, keyD, rIsB, rIsNotB, rAdd, rSub, rMul, rMod, rDiv, rPow, rShl, rShr, rBand, rBor, rLt, rLe, rGt, rGe, rAddI, rIx, l_at0, l_at1, l_at2, l_at3, l_at4, Int.reduceToNat, l_eqI, l_neI, l_eqB, l_neB, List.getElem?_cons_zero, List.getElem?_cons_succ, List.set_cons_zero, List.set_cons_succ, List.map_cons, List.map_nil, List.append_nil, List.cons_append, List.nil_append, List.replicate_succ, List.replicate_zero, Option.isSome_some, List.getD_cons_zero, List.getD_cons_succ, forall_const, true_and, and_true, way_at ha, cStr, List.length_map]
  have hlog : ((a : Int)).natAbs.log2 < 1920 := by
    rw [Int.natAbs_natCast]
    rcases Nat.eq_zero_or_pos a with h0 | h0
    · rw [h0]
      decide
    · exact (Nat.log2_lt (by omega)).mpr (Nat.lt_of_lt_of_le (show a < 2 ^ 10 by omega) (Nat.pow_le_pow_right (by decide) (by decide)))
  refine ⟨hlog, by simp, ⟨by decide, by decide, by decide⟩, by simp, ?_⟩
  simp only [b__law_spoiled_r7, dDic1, dLenSetT, dSeq, dSet, dRet, dRetN, dDrop, dIfS, dNext, dFr, dFz, dVar, dC, dOp, dB, dChain, dAnd, dOr, dNot, dAndV, dOrV, dNotV, dIf, dNeg, dRev, dBack, dDic0, dCons, dNil, dTup, dLst, dRep, dIxV, dInV, dLenV, dCallB, dCall, dIsi, dItems, dRange1, dEnum, dZip, dYes, dgName, dgTup, dgCons, dgNil, dAsg, dApp, dPopAt, dAugIx, dSetIx, dCallL, dBits, dLstRg1, dFldV, dSetF, dMake, dCut, dPart, dNoPart, rCut, endsOf, exitT, peek, setOk, withOw, isOw, withT, lentQ, l_lend1, l_lend2, l_lend3, l_back1, l_back2, l_back3, l_kind1, l_kind2, l_kind3, l_kind4, l_kind5, l_kind6, l_frz1, l_frz2, l_frz3, l_frz4, noOw, wipeT, restT, cLen, cInt, cAbs, cTuple, cList, cStr, keyD, rIsB, rIsNotB, rAdd, rSub, rMul, rMod, rDiv, rPow, rShl, rShr, rBand, rBor, rLt, rLe, rGt, rGe, rAddI, rIx, l_at0, l_at1, l_at2, l_at3, l_at4, Int.reduceToNat, l_eqI, l_neI, l_eqB, l_neB, List.getElem?_cons_zero, List.getElem?_cons_succ, List.set_cons_zero, List.set_cons_succ, List.map_cons, List.map_nil, List.append_nil, List.cons_append, List.nil_append, List.replicate_succ, List.replicate_zero, Option.isSome_some, List.getD_cons_zero, List.getD_cons_succ, forall_const, true_and, and_true]
  refine ⟨hs, _, rfl, h, by omega, by omega, fun r2 hs r0 r1 h => ?_⟩
  simp only [dDic1, dLenSetT, dSeq, dSet, dRet, dRetN, dDrop, dIfS, dNext, dFr, dFz, dVar, dC, dOp, dB, dChain, dAnd, dOr, dNot, dAndV, dOrV, dNotV, dIf, dNeg, dRev, dBack, dDic0, dCons, dNil, dTup, dLst, dRep, dIxV, dInV, dLenV, dCallB, dCall, dIsi, dItems, dRange1, dEnum, dZip, dYes, dgName, dgTup, dgCons, dgNil, dAsg, dApp, dPopAt, dAugIx, dSetIx, dCallL, dBits, dLstRg1, dFldV, dSetF, dMake, dCut, dPart, dNoPart, rCut, endsOf, exitT, peek, setOk, withOw, isOw, withT, lentQ, l_lend1, l_lend2, l_lend3, l_back1, l_back2, l_back3, l_kind1, l_kind2, l_kind3, l_kind4, l_kind5, l_kind6, l_frz1, l_frz2, l_frz3, l_frz4, noOw, wipeT, restT, cLen, cInt, cAbs, cTuple, cList, cStr, keyD, rIsB, rIsNotB, rAdd, rSub, rMul, rMod, rDiv, rPow, rShl, rShr, rBand, rBor, rLt, rLe, rGt, rGe, rAddI, rIx, l_at0, l_at1, l_at2, l_at3, l_at4, Int.reduceToNat, l_eqI, l_neI, l_eqB, l_neB, List.getElem?_cons_zero, List.getElem?_cons_succ, List.set_cons_zero, List.set_cons_succ, List.map_cons, List.map_nil, List.append_nil, List.cons_append, List.nil_append, List.replicate_succ, List.replicate_zero, Option.isSome_some, List.getD_cons_zero, List.getD_cons_succ, forall_const, true_and, and_true]
  refine spoiled_r6 h hp ha (by omega) ⟨by simp, fun x hx => ?_⟩ rfl fun d hs' x3 x4 x5 x6 x7 x8 hd h' => q d hs' hd h'
  simp only [List.mem_cons, List.not_mem_nil, or_false] at hx
  rcases hx with rfl | rfl | rfl | rfl | rfl | rfl | rfl | rfl | rfl <;> rfl
end EC
/-! N5: k03: a way judged rightly, pairs of arrows, the law. -/
namespace EC
open PySem PySem.Spec PyProof.Rows L2
theorem lis_b {a b : Bool} {Q : T → List T → Prop} {R : Exn → List T → Prop} (e : a = b) (q : Q (.fr (.bl true)) [.fr (.bl a), .fr (.bl b)]) : spt__law_is [.fr (.bl a), .fr (.bl b)] Q R :=
  .inr (.inr ⟨a, b, rfl, by rw [decide_eq_true e]; exact q⟩)
theorem lis_n {a b : List Nat} {Q : T → List T → Prop} {R : Exn → List T → Prop} (e : a = b) (hl : a.length ≤ 100000) (q : Q (.fr (.bl true)) [.fr (.tup (natsD a)), .fr (.tup (natsD b))]) : spt__law_is [.fr (.tup (natsD a)), .fr (.tup (natsD b))] Q R :=
  .inl ⟨a, b, rfl, by decide, hl, by rw [decide_eq_true e]; exact q⟩
section
variable {hs0 : List D} {w : D} {n : Nat} {ar : Ar} {p : List Nat} {E : DEnds}
def wrE (hs : List D) (w : D) (ar : Ar) (p : List Nat) (x5 x6 x7 x8 x9 : Option T) : Env := [some (.ow true hs), some (.fr w), some (.fr (.tup (ar.map arrD))), some (.fr (.tup (natsD p))), some (.fr (.tup (natsD (plsW ar p)))), x5, x6, x7, x8, x9]
abbrev wrQ (w : D) (ar : Ar) (p : List Nat) (E : DEnds) : Prop := ∀ hs' x4 x5 x6 x7 x8 x9, HandOk hs' → E.rt (.fr (.bl true)) [some (.ow true hs'), some (.fr w), some (.fr (.tup (ar.map arrD))), some (.fr (.tup (natsD p))), x4, x5, x6, x7, x8, x9]
theorem wr_r8 {hs : List D} {x5 x6 x7 : Option T} (h : HandOk hs) (hw : IsWeb w n ar) (h0 : 0 < ar.length) (h1 : ar.length ≤ 1000) (hp : IsWay ar p) (q : wrQ w ar p E) : b__law_way_right_r8 E (wrE hs w ar p x5 x6 x7 none none) := by
  simp only [b__law_way_right_r8, b__law_way_right_l6, dFor, wrE, dDic1, dLenSetT, dSeq, dSet, dRet, dRetN, dDrop, dIfS, dNext, dFr, dFz, dVar, dC, dOp, dB, dChain, dAnd, dOr, dNot, dAndV, dOrV, dNotV, dIf, dNeg, dRev, dBack, dDic0, dCons, dNil, dTup, dLst, dRep, dIxV, dInV, dLenV, dCallB, dCall, dIsi, dItems, dRange1, dEnum, dZip, dYes, dgName, dgTup, dgCons, dgNil, dAsg, dApp, dPopAt, dAugIx, dSetIx, dCallL, dBits, dLstRg1, dFldV, dSetF, dMake, dCut, dPart, dNoPart, rCut, endsOf, exitT, peek, setOk, withOw, isOw, withT, lentQ, l_lend1, l_lend2, l_lend3, l_back1, l_back2, l_back3, l_kind1, l_kind2, l_kind3, l_kind4, l_kind5, l_kind6, l_frz1, l_frz2, l_frz3, l_frz4, noOw, wipeT, restT, cLen, cInt, cAbs, cTuple, cList, cStr, keyD, rIsB, rIsNotB, rAdd, rSub, rMul, rMod, rDiv, rPow, rShl, rShr, rBand, rBor, rLt, rLe, rGt, rGe, rAddI, rIx, l_at0, l_at1, l_at2, l_at3, l_at4, Int.reduceToNat, l_eqI, l_neI, l_eqB, l_neB, List.getElem?_cons_zero, List.getElem?_cons_succ, List.set_cons_zero, List.set_cons_succ, List.map_cons, List.map_nil, List.append_nil, List.cons_append, List.nil_append, List.replicate_succ, List.replicate_zero, Option.isSome_some, List.getD_cons_zero, List.getD_cons_succ, forall_const, true_and, and_true]
  refine ⟨by omega, by omega, ?_⟩
  refine forB (fun i τ => ∃ hs x8 x9, τ = wrE hs w ar p x5 x6 x7 x8 x9 ∧ HandOk hs ∧ okS x8 ∧ okS x9) ⟨hs, none, none, rfl, h, trivial, trivial⟩ ?_ ?_
  · rintro i z τ hi ⟨hs, x8, x9, rfl, h, o8, o9⟩
    simp only [wrE, b__law_way_right_b5, dDic1, dLenSetT, dSeq, dSet, dRet, dRetN, dDrop, dIfS, dNext, dFr, dFz, dVar, dC, dOp, dB, dChain, dAnd, dOr, dNot, dAndV, dOrV, dNotV, dIf, dNeg, dRev, dBack, dDic0, dCons, dNil, dTup, dLst, dRep, dIxV, dInV, dLenV, dCallB, dCall, dIsi, dItems, dRange1, dEnum, dZip, dYes, dgName, dgTup, dgCons, dgNil, dAsg, dApp, dPopAt, dAugIx, dSetIx, dCallL, dBits, dLstRg1, dFldV, dSetF, dMake, dCut, dPart, dNoPart, rCut, endsOf, exitT, peek, setOk, withOw, isOw, withT, lentQ, l_lend1, l_lend2, l_lend3, l_back1, l_back2, l_back3, l_kind1, l_kind2, l_kind3, l_kind4, l_kind5, l_kind6, l_frz1, l_frz2, l_frz3, l_frz4, noOw, wipeT, restT, cLen, cInt, cAbs, cTuple, cList, cStr, keyD, rIsB, rIsNotB, rAdd, rSub, rMul, rMod, rDiv, rPow, rShl, rShr, rBand, rBor, rLt, rLe, rGt, rGe, rAddI, rIx, l_at0, l_at1, l_at2, l_at3, l_at4, Int.reduceToNat, l_eqI, l_neI, l_eqB, l_neB, List.getElem?_cons_zero, List.getElem?_cons_succ, List.set_cons_zero, List.set_cons_succ, List.map_cons, List.map_nil, List.append_nil, List.cons_append, List.nil_append, List.replicate_succ, List.replicate_zero, Option.isSome_some, List.getD_cons_zero, List.getD_cons_succ, forall_const, true_and, and_true]
    refine ⟨o8, hs, ar, p, rfl, h, h0, h1, hp, fun d hs' hd h' => ?_⟩
    simp only [b__law_way_right_r4, dDic1, dLenSetT, dSeq, dSet, dRet, dRetN, dDrop, dIfS, dNext, dFr, dFz, dVar, dC, dOp, dB, dChain, dAnd, dOr, dNot, dAndV, dOrV, dNotV, dIf, dNeg, dRev, dBack, dDic0, dCons, dNil, dTup, dLst, dRep, dIxV, dInV, dLenV, dCallB, dCall, dIsi, dItems, dRange1, dEnum, dZip, dYes, dgName, dgTup, dgCons, dgNil, dAsg, dApp, dPopAt, dAugIx, dSetIx, dCallL, dBits, dLstRg1, dFldV, dSetF, dMake, dCut, dPart, dNoPart, rCut, endsOf, exitT, peek, setOk, withOw, isOw, withT, lentQ, l_lend1, l_lend2, l_lend3, l_back1, l_back2, l_back3, l_kind1, l_kind2, l_kind3, l_kind4, l_kind5, l_kind6, l_frz1, l_frz2, l_frz3, l_frz4, noOw, wipeT, restT, cLen, cInt, cAbs, cTuple, cList, cStr, keyD, rIsB, rIsNotB, rAdd, rSub, rMul, rMod, rDiv, rPow, rShl, rShr, rBand, rBor, rLt, rLe, rGt, rGe, rAddI, rIx, l_at0, l_at1, l_at2, l_at3, l_at4, Int.reduceToNat, l_eqI, l_neI, l_eqB, l_neB, List.getElem?_cons_zero, List.getElem?_cons_succ, List.set_cons_zero, List.set_cons_succ, List.map_cons, List.map_nil, List.append_nil, List.cons_append, List.nil_append, List.replicate_succ, List.replicate_zero, Option.isSome_some, List.getD_cons_zero, List.getD_cons_succ, forall_const, true_and, and_true]
    refine ⟨o9, w, n, ar, d, rfl, hw, hd, ar, d, rfl, hd, by omega, ?_⟩
    simp only [dDic1, dLenSetT, dSeq, dSet, dRet, dRetN, dDrop, dIfS, dNext, dFr, dFz, dVar, dC, dOp, dB, dChain, dAnd, dOr, dNot, dAndV, dOrV, dNotV, dIf, dNeg, dRev, dBack, dDic0, dCons, dNil, dTup, dLst, dRep, dIxV, dInV, dLenV, dCallB, dCall, dIsi, dItems, dRange1, dEnum, dZip, dYes, dgName, dgTup, dgCons, dgNil, dAsg, dApp, dPopAt, dAugIx, dSetIx, dCallL, dBits, dLstRg1, dFldV, dSetF, dMake, dCut, dPart, dNoPart, rCut, endsOf, exitT, peek, setOk, withOw, isOw, withT, lentQ, l_lend1, l_lend2, l_lend3, l_back1, l_back2, l_back3, l_kind1, l_kind2, l_kind3, l_kind4, l_kind5, l_kind6, l_frz1, l_frz2, l_frz3, l_frz4, noOw, wipeT, restT, cLen, cInt, cAbs, cTuple, cList, cStr, keyD, rIsB, rIsNotB, rAdd, rSub, rMul, rMod, rDiv, rPow, rShl, rShr, rBand, rBor, rLt, rLe, rGt, rGe, rAddI, rIx, l_at0, l_at1, l_at2, l_at3, l_at4, Int.reduceToNat, l_eqI, l_neI, l_eqB, l_neB, List.getElem?_cons_zero, List.getElem?_cons_succ, List.set_cons_zero, List.set_cons_succ, List.map_cons, List.map_nil, List.append_nil, List.cons_append, List.nil_append, List.replicate_succ, List.replicate_zero, Option.isSome_some, List.getD_cons_zero, List.getD_cons_succ, forall_const, true_and, and_true]
    refine lis_b rfl ?_
    simp only [dDic1, dLenSetT, dSeq, dSet, dRet, dRetN, dDrop, dIfS, dNext, dFr, dFz, dVar, dC, dOp, dB, dChain, dAnd, dOr, dNot, dAndV, dOrV, dNotV, dIf, dNeg, dRev, dBack, dDic0, dCons, dNil, dTup, dLst, dRep, dIxV, dInV, dLenV, dCallB, dCall, dIsi, dItems, dRange1, dEnum, dZip, dYes, dgName, dgTup, dgCons, dgNil, dAsg, dApp, dPopAt, dAugIx, dSetIx, dCallL, dBits, dLstRg1, dFldV, dSetF, dMake, dCut, dPart, dNoPart, rCut, endsOf, exitT, peek, setOk, withOw, isOw, withT, lentQ, l_lend1, l_lend2, l_lend3, l_back1, l_back2, l_back3, l_kind1, l_kind2, l_kind3, l_kind4, l_kind5, l_kind6, l_frz1, l_frz2, l_frz3, l_frz4, noOw, wipeT, restT, cLen, cInt, cAbs, cTuple, cList, cStr, keyD, rIsB, rIsNotB, rAdd, rSub, rMul, rMod, rDiv, rPow, rShl, rShr, rBand, rBor, rLt, rLe, rGt, rGe, rAddI, rIx, l_at0, l_at1, l_at2, l_at3, l_at4, Int.reduceToNat, l_eqI, l_neI, l_eqB, l_neB, List.getElem?_cons_zero, List.getElem?_cons_succ, List.set_cons_zero, List.set_cons_succ, List.map_cons, List.map_nil, List.append_nil, List.cons_append, List.nil_append, List.replicate_succ, List.replicate_zero, Option.isSome_some, List.getD_cons_zero, List.getD_cons_succ, forall_const, true_and, and_true, Bool.not_true]
    exact ⟨hs', some (.fr z), some (.fr d), rfl, h', rfl, rfl⟩
  · rintro τ ⟨hs, x8, x9, rfl, h, o8, o9⟩
    simp only [wrE, b__law_way_right_r7, dDic1, dLenSetT, dSeq, dSet, dRet, dRetN, dDrop, dIfS, dNext, dFr, dFz, dVar, dC, dOp, dB, dChain, dAnd, dOr, dNot, dAndV, dOrV, dNotV, dIf, dNeg, dRev, dBack, dDic0, dCons, dNil, dTup, dLst, dRep, dIxV, dInV, dLenV, dCallB, dCall, dIsi, dItems, dRange1, dEnum, dZip, dYes, dgName, dgTup, dgCons, dgNil, dAsg, dApp, dPopAt, dAugIx, dSetIx, dCallL, dBits, dLstRg1, dFldV, dSetF, dMake, dCut, dPart, dNoPart, rCut, endsOf, exitT, peek, setOk, withOw, isOw, withT, lentQ, l_lend1, l_lend2, l_lend3, l_back1, l_back2, l_back3, l_kind1, l_kind2, l_kind3, l_kind4, l_kind5, l_kind6, l_frz1, l_frz2, l_frz3, l_frz4, noOw, wipeT, restT, cLen, cInt, cAbs, cTuple, cList, cStr, keyD, rIsB, rIsNotB, rAdd, rSub, rMul, rMod, rDiv, rPow, rShl, rShr, rBand, rBor, rLt, rLe, rGt, rGe, rAddI, rIx, l_at0, l_at1, l_at2, l_at3, l_at4, Int.reduceToNat, l_eqI, l_neI, l_eqB, l_neB, List.getElem?_cons_zero, List.getElem?_cons_succ, List.set_cons_zero, List.set_cons_succ, List.map_cons, List.map_nil, List.append_nil, List.cons_append, List.nil_append, List.replicate_succ, List.replicate_zero, Option.isSome_some, List.getD_cons_zero, List.getD_cons_succ, forall_const, true_and, and_true]
    exact q _ _ _ _ _ _ _ h
theorem pls_lim (hp : IsWay ar p) : (plsW ar p).length ≤ 1001 := by
  rw [plsW_len]
  have := hp.2
  omega
theorem wr_r9 {hs : List D} {a : Nat} (h : HandOk hs) (hw : IsWeb w n ar) (h0 : 0 < ar.length) (h1 : ar.length ≤ 1000) (hp : IsWay ar p) (ha : a < p.length) (q : wrQ w ar p E) : b__law_way_right_r9 E (wrE hs w ar p (some (.fr (nD a))) none none none none) := by
  have hok : ArOk n ar := by
    obtain ⟨c, ord, reach, _, _, z⟩ := hw
    exact z.wa
  have hl := hp.2
  have hlim := pls_lim hp
  by_cases hz : 0 < a
  · have hz' : (0 : Int) < (a : Int) := by omega
    have p1 : IsWay ar (p.take a) := isWay_of (hp.ok.take hz) (by rw [List.length_take]; omega)
    have p2 : IsWay ar (p.drop a) := isWay_of (hp.ok.drop ha) (by rw [List.length_drop]; omega)
    obtain ⟨s1, s2⟩ := pls_split hp.ok hz ha
    simp only [b__law_way_right_r9, wrE, dDic1, dLenSetT, dSeq, dSet, dRet, dRetN, dDrop, dIfS, dNext, dFr, dFz, dVar, dC, dOp, dB, dChain, dAnd, dOr, dNot, dAndV, dOrV, dNotV, dIf, dNeg, dRev, dBack, dDic0, dCons, dNil, dTup, dLst, dRep, dIxV, dInV, dLenV, dCallB, dCall, dIsi, dItems, dRange1, dEnum, dZip, dYes, dgName, dgTup, dgCons, dgNil, dAsg, dApp, dPopAt, dAugIx, dSetIx, dCallL, dBits, dLstRg1, dFldV, dSetF, dMake, dCut, dPart, dNoPart, rCut, endsOf, exitT, peek, setOk, withOw, isOw, withT, lentQ, l_lend1, l_lend2, l_lend3, l_back1, l_back2, l_back3, l_kind1, l_kind2, l_kind3, l_kind4, l_kind5, l_kind6, l_frz1, l_frz2, l_frz3, l_frz4, noOw, wipeT, restT, cLen, cInt, cAbs, cTuple, cList, cStr, keyD, rIsB, rIsNotB, rAdd, rSub, rMul, rMod, rDiv, rPow, rShl, rShr, rBand, rBor, rLt, rLe, rGt, rGe, rAddI, rIx, l_at0, l_at1, l_at2, l_at3, l_at4, Int.reduceToNat, l_eqI, l_neI, l_eqB, l_neB, List.getElem?_cons_zero, List.getElem?_cons_succ, List.set_cons_zero, List.set_cons_succ, List.map_cons, List.map_nil, List.append_nil, List.cons_append, List.nil_append, List.replicate_succ, List.replicate_zero, Option.isSome_some, List.getD_cons_zero, List.getD_cons_succ, forall_const, true_and, and_true, hz', decide_true, cut_take, natsD_take]
    refine ⟨w, n, ar, p.take a, rfl, hw, p1, ?_⟩
    simp only [b__law_way_right_r3, dDic1, dLenSetT, dSeq, dSet, dRet, dRetN, dDrop, dIfS, dNext, dFr, dFz, dVar, dC, dOp, dB, dChain, dAnd, dOr, dNot, dAndV, dOrV, dNotV, dIf, dNeg, dRev, dBack, dDic0, dCons, dNil, dTup, dLst, dRep, dIxV, dInV, dLenV, dCallB, dCall, dIsi, dItems, dRange1, dEnum, dZip, dYes, dgName, dgTup, dgCons, dgNil, dAsg, dApp, dPopAt, dAugIx, dSetIx, dCallL, dBits, dLstRg1, dFldV, dSetF, dMake, dCut, dPart, dNoPart, rCut, endsOf, exitT, peek, setOk, withOw, isOw, withT, lentQ, l_lend1, l_lend2, l_lend3, l_back1, l_back2, l_back3, l_kind1, l_kind2, l_kind3, l_kind4, l_kind5, l_kind6, l_frz1, l_frz2, l_frz3, l_frz4, noOw, wipeT, restT, cLen, cInt, cAbs, cTuple, cList, cStr, keyD, rIsB, rIsNotB, rAdd, rSub, rMul, rMod, rDiv, rPow, rShl, rShr, rBand, rBor, rLt, rLe, rGt, rGe, rAddI, rIx, l_at0, l_at1, l_at2, l_at3, l_at4, Int.reduceToNat, l_eqI, l_neI, l_eqB, l_neB, List.getElem?_cons_zero, List.getElem?_cons_succ, List.set_cons_zero, List.set_cons_succ, List.map_cons, List.map_nil, List.append_nil, List.cons_append, List.nil_append, List.replicate_succ, List.replicate_zero, Option.isSome_some, List.getD_cons_zero, List.getD_cons_succ, forall_const, true_and, and_true, cut_drop, natsD_drop]
    refine ⟨w, n, ar, p.drop a, rfl, hw, p2, ?_⟩
    simp only [b__law_way_right_r2, dDic1, dLenSetT, dSeq, dSet, dRet, dRetN, dDrop, dIfS, dNext, dFr, dFz, dVar, dC, dOp, dB, dChain, dAnd, dOr, dNot, dAndV, dOrV, dNotV, dIf, dNeg, dRev, dBack, dDic0, dCons, dNil, dTup, dLst, dRep, dIxV, dInV, dLenV, dCallB, dCall, dIsi, dItems, dRange1, dEnum, dZip, dYes, dgName, dgTup, dgCons, dgNil, dAsg, dApp, dPopAt, dAugIx, dSetIx, dCallL, dBits, dLstRg1, dFldV, dSetF, dMake, dCut, dPart, dNoPart, rCut, endsOf, exitT, peek, setOk, withOw, isOw, withT, lentQ, l_lend1, l_lend2, l_lend3, l_back1, l_back2, l_back3, l_kind1, l_kind2, l_kind3, l_kind4, l_kind5, l_kind6, l_frz1, l_frz2, l_frz3, l_frz4, noOw, wipeT, restT, cLen, cInt, cAbs, cTuple, cList, cStr, keyD, rIsB, rIsNotB, rAdd, rSub, rMul, rMod, rDiv, rPow, rShl, rShr, rBand, rBor, rLt, rLe, rGt, rGe, rAddI, rIx, l_at0, l_at1, l_at2, l_at3, l_at4, Int.reduceToNat, l_eqI, l_neI, l_eqB, l_neB, List.getElem?_cons_zero, List.getElem?_cons_succ, List.set_cons_zero, List.set_cons_succ, List.map_cons, List.map_nil, List.append_nil, List.cons_append, List.nil_append, List.replicate_succ, List.replicate_zero, Option.isSome_some, List.getD_cons_zero, List.getD_cons_succ, forall_const, true_and, and_true, pls_last p1.ok, pls_first, s2, cut_one, natsD_drop, ← natsD_append, decide_false, ne_eq, not_true_eq_false]
    refine ⟨?_, lis_n s1 (by rw [s1]; omega) ?_⟩
    · have := plsW_len ar (p.take a)
      have := plsW_len ar (p.drop a)
      have := p1.2
      have := p2.2
      rw [natsD_length, natsD_length, List.length_drop]
      omega
    simp only [dDic1, dLenSetT, dSeq, dSet, dRet, dRetN, dDrop, dIfS, dNext, dFr, dFz, dVar, dC, dOp, dB, dChain, dAnd, dOr, dNot, dAndV, dOrV, dNotV, dIf, dNeg, dRev, dBack, dDic0, dCons, dNil, dTup, dLst, dRep, dIxV, dInV, dLenV, dCallB, dCall, dIsi, dItems, dRange1, dEnum, dZip, dYes, dgName, dgTup, dgCons, dgNil, dAsg, dApp, dPopAt, dAugIx, dSetIx, dCallL, dBits, dLstRg1, dFldV, dSetF, dMake, dCut, dPart, dNoPart, rCut, endsOf, exitT, peek, setOk, withOw, isOw, withT, lentQ, l_lend1, l_lend2, l_lend3, l_back1, l_back2, l_back3, l_kind1, l_kind2, l_kind3, l_kind4, l_kind5, l_kind6, l_frz1, l_frz2, l_frz3, l_frz4, noOw, wipeT, restT, cLen, cInt, cAbs, cTuple, cList, cStr, keyD, rIsB, rIsNotB, rAdd, rSub, rMul, rMod, rDiv, rPow, rShl, rShr, rBand, rBor, rLt, rLe, rGt, rGe, rAddI, rIx, l_at0, l_at1, l_at2, l_at3, l_at4, Int.reduceToNat, l_eqI, l_neI, l_eqB, l_neB, List.getElem?_cons_zero, List.getElem?_cons_succ, List.set_cons_zero, List.set_cons_succ, List.map_cons, List.map_nil, List.append_nil, List.cons_append, List.nil_append, List.replicate_succ, List.replicate_zero, Option.isSome_some, List.getD_cons_zero, List.getD_cons_succ, forall_const, true_and, and_true, Bool.not_true, b__law_way_right_r1, cut_drop, cut_take, natsD_drop, natsD_take, ← natsD_append]
    have pl : Plain (wayD (p.drop a ++ p.take a)) := plain_nats (by rw [List.length_append, List.length_drop, List.length_take]; omega)
    refine ⟨?_, w, n, ar, _, rfl, hw, pl, ?_⟩
    · rw [natsD_length, natsD_length, List.length_drop, List.length_take]
      omega
    have ew : wayB ar (.tup (natsD (p.drop a ++ p.take a))) = false := way_turned hok hp.ok hz ha
    rw [ew]
    simp only [dDic1, dLenSetT, dSeq, dSet, dRet, dRetN, dDrop, dIfS, dNext, dFr, dFz, dVar, dC, dOp, dB, dChain, dAnd, dOr, dNot, dAndV, dOrV, dNotV, dIf, dNeg, dRev, dBack, dDic0, dCons, dNil, dTup, dLst, dRep, dIxV, dInV, dLenV, dCallB, dCall, dIsi, dItems, dRange1, dEnum, dZip, dYes, dgName, dgTup, dgCons, dgNil, dAsg, dApp, dPopAt, dAugIx, dSetIx, dCallL, dBits, dLstRg1, dFldV, dSetF, dMake, dCut, dPart, dNoPart, rCut, endsOf, exitT, peek, setOk, withOw, isOw, withT, lentQ, l_lend1, l_lend2, l_lend3, l_back1, l_back2, l_back3, l_kind1, l_kind2, l_kind3, l_kind4, l_kind5, l_kind6, l_frz1, l_frz2, l_frz3, l_frz4, noOw, wipeT, restT, cLen, cInt, cAbs, cTuple, cList, cStr, keyD, rIsB, rIsNotB, rAdd, rSub, rMul, rMod, rDiv, rPow, rShl, rShr, rBand, rBor, rLt, rLe, rGt, rGe, rAddI, rIx, l_at0, l_at1, l_at2, l_at3, l_at4, Int.reduceToNat, l_eqI, l_neI, l_eqB, l_neB, List.getElem?_cons_zero, List.getElem?_cons_succ, List.set_cons_zero, List.set_cons_succ, List.map_cons, List.map_nil, List.append_nil, List.cons_append, List.nil_append, List.replicate_succ, List.replicate_zero, Option.isSome_some, List.getD_cons_zero, List.getD_cons_succ, forall_const, true_and, and_true, decide_true, Bool.not_true]
    exact wr_r8 h hw h0 h1 hp q
  · have hz' : ¬ (0 : Int) < (a : Int) := by omega
    simp only [b__law_way_right_r9, wrE, dDic1, dLenSetT, dSeq, dSet, dRet, dRetN, dDrop, dIfS, dNext, dFr, dFz, dVar, dC, dOp, dB, dChain, dAnd, dOr, dNot, dAndV, dOrV, dNotV, dIf, dNeg, dRev, dBack, dDic0, dCons, dNil, dTup, dLst, dRep, dIxV, dInV, dLenV, dCallB, dCall, dIsi, dItems, dRange1, dEnum, dZip, dYes, dgName, dgTup, dgCons, dgNil, dAsg, dApp, dPopAt, dAugIx, dSetIx, dCallL, dBits, dLstRg1, dFldV, dSetF, dMake, dCut, dPart, dNoPart, rCut, endsOf, exitT, peek, setOk, withOw, isOw, withT, lentQ, l_lend1, l_lend2, l_lend3, l_back1, l_back2, l_back3, l_kind1, l_kind2, l_kind3, l_kind4, l_kind5, l_kind6, l_frz1, l_frz2, l_frz3, l_frz4, noOw, wipeT, restT, cLen, cInt, cAbs, cTuple, cList, cStr, keyD, rIsB, rIsNotB, rAdd, rSub, rMul, rMod, rDiv, rPow, rShl, rShr, rBand, rBor, rLt, rLe, rGt, rGe, rAddI, rIx, l_at0, l_at1, l_at2, l_at3, l_at4, Int.reduceToNat, l_eqI, l_neI, l_eqB, l_neB, List.getElem?_cons_zero, List.getElem?_cons_succ, List.set_cons_zero, List.set_cons_succ, List.map_cons, List.map_nil, List.append_nil, List.cons_append, List.nil_append, List.replicate_succ, List.replicate_zero, Option.isSome_some, List.getD_cons_zero, List.getD_cons_succ, forall_const, true_and, and_true, hz', decide_false]
    exact wr_r8 h hw h0 h1 hp q
theorem wr_r10 {hs : List D} (h : HandOk hs) (hw : IsWeb w n ar) (h0 : 0 < ar.length) (h1 : ar.length ≤ 1000) (hp : IsWay ar p) (q : wrQ w ar p E) : b__law_way_right_r10 E (wrE hs w ar p none none none none none) := by
  have hl := hp.2
  have hl0 := hp.ok.pos
  simp only [b__law_way_right_r10, wrE, dDic1, dLenSetT, dSeq, dSet, dRet, dRetN, dDrop, dIfS, dNext, dFr, dFz, dVar, dC, dOp, dB, dChain, dAnd, dOr, dNot, dAndV, dOrV, dNotV, dIf, dNeg, dRev, dBack, dDic0, dCons, dNil, dTup, dLst, dRep, dIxV, dInV, dLenV, dCallB, dCall, dIsi, dItems, dRange1, dEnum, dZip, dYes, dgName, dgTup, dgCons, dgNil, dAsg, dApp, dPopAt, dAugIx, dSetIx, dCallL, dBits, dLstRg1, dFldV, dSetF, dMake, dCut, dPart, dNoPart, rCut, endsOf, exitT, peek, setOk, withOw, isOw, withT, lentQ, l_lend1, l_lend2, l_lend3, l_back1, l_back2, l_back3, l_kind1, l_kind2, l_kind3, l_kind4, l_kind5, l_kind6, l_frz1, l_frz2, l_frz3, l_frz4, noOw, wipeT, restT, cLen, cInt, cAbs, cTuple, cList, cStr, keyD, rIsB, rIsNotB, rAdd, rSub, rMul, rMod, rDiv, rPow, rShl, rShr, rBand, rBor, rLt, rLe, rGt, rGe, rAddI, rIx, l_at0, l_at1, l_at2, l_at3, l_at4, Int.reduceToNat, l_eqI, l_neI, l_eqB, l_neB, List.getElem?_cons_zero, List.getElem?_cons_succ, List.set_cons_zero, List.set_cons_succ, List.map_cons, List.map_nil, List.append_nil, List.cons_append, List.nil_append, List.replicate_succ, List.replicate_zero, Option.isSome_some, List.getD_cons_zero, List.getD_cons_succ, forall_const, true_and, and_true, natsD_length]
  refine ⟨hs, _, rfl, h, by omega, by omega, fun r hs' r0 r1 h' => ?_⟩
  obtain ⟨a, rfl⟩ : ∃ k : Nat, r = k := ⟨r.toNat, by omega⟩
  simp only [dDic1, dLenSetT, dSeq, dSet, dRet, dRetN, dDrop, dIfS, dNext, dFr, dFz, dVar, dC, dOp, dB, dChain, dAnd, dOr, dNot, dAndV, dOrV, dNotV, dIf, dNeg, dRev, dBack, dDic0, dCons, dNil, dTup, dLst, dRep, dIxV, dInV, dLenV, dCallB, dCall, dIsi, dItems, dRange1, dEnum, dZip, dYes, dgName, dgTup, dgCons, dgNil, dAsg, dApp, dPopAt, dAugIx, dSetIx, dCallL, dBits, dLstRg1, dFldV, dSetF, dMake, dCut, dPart, dNoPart, rCut, endsOf, exitT, peek, setOk, withOw, isOw, withT, lentQ, l_lend1, l_lend2, l_lend3, l_back1, l_back2, l_back3, l_kind1, l_kind2, l_kind3, l_kind4, l_kind5, l_kind6, l_frz1, l_frz2, l_frz3, l_frz4, noOw, wipeT, restT, cLen, cInt, cAbs, cTuple, cList, cStr, keyD, rIsB, rIsNotB, rAdd, rSub, rMul, rMod, rDiv, rPow, rShl, rShr, rBand, rBor, rLt, rLe, rGt, rGe, rAddI, rIx, l_at0, l_at1, l_at2, l_at3, l_at4, Int.reduceToNat, l_eqI, l_neI, l_eqB, l_neB, List.getElem?_cons_zero, List.getElem?_cons_succ, List.set_cons_zero, List.set_cons_succ, List.map_cons, List.map_nil, List.append_nil, List.cons_append, List.nil_append, List.replicate_succ, List.replicate_zero, Option.isSome_some, List.getD_cons_zero, List.getD_cons_succ, forall_const, true_and, and_true]
  exact wr_r9 h' hw h0 h1 hp (by omega) q
theorem wr_r11 {hs : List D} (h : HandOk hs) (hw : IsWeb w n ar) (h0 : 0 < ar.length) (h1 : ar.length ≤ 1000) (hp : IsWay ar p) (q : wrQ w ar p E) : b__law_way_right_r11 E (wrE hs w ar p none none none none none) := by
  have hok : ArOk n ar := by
    obtain ⟨c, ord, reach, _, _, z⟩ := hw
    exact z.wa
  have hlim := pls_lim hp
  simp only [b__law_way_right_r11, wrE, dDic1, dLenSetT, dSeq, dSet, dRet, dRetN, dDrop, dIfS, dNext, dFr, dFz, dVar, dC, dOp, dB, dChain, dAnd, dOr, dNot, dAndV, dOrV, dNotV, dIf, dNeg, dRev, dBack, dDic0, dCons, dNil, dTup, dLst, dRep, dIxV, dInV, dLenV, dCallB, dCall, dIsi, dItems, dRange1, dEnum, dZip, dYes, dgName, dgTup, dgCons, dgNil, dAsg, dApp, dPopAt, dAugIx, dSetIx, dCallL, dBits, dLstRg1, dFldV, dSetF, dMake, dCut, dPart, dNoPart, rCut, endsOf, exitT, peek, setOk, withOw, isOw, withT, lentQ, l_lend1, l_lend2, l_lend3, l_back1, l_back2, l_back3, l_kind1, l_kind2, l_kind3, l_kind4, l_kind5, l_kind6, l_frz1, l_frz2, l_frz3, l_frz4, noOw, wipeT, restT, cLen, cInt, cAbs, cTuple, cList, cStr, keyD, rIsB, rIsNotB, rAdd, rSub, rMul, rMod, rDiv, rPow, rShl, rShr, rBand, rBor, rLt, rLe, rGt, rGe, rAddI, rIx, l_at0, l_at1, l_at2, l_at3, l_at4, Int.reduceToNat, l_eqI, l_neI, l_eqB, l_neB, List.getElem?_cons_zero, List.getElem?_cons_succ, List.set_cons_zero, List.set_cons_succ, List.map_cons, List.map_nil, List.append_nil, List.cons_append, List.nil_append, List.replicate_succ, List.replicate_zero, Option.isSome_some, List.getD_cons_zero, List.getD_cons_succ, forall_const, true_and, and_true]
  refine ⟨w, n, ar, p, rfl, hw, hp, lis_n rfl (by omega) ?_⟩
  simp only [dDic1, dLenSetT, dSeq, dSet, dRet, dRetN, dDrop, dIfS, dNext, dFr, dFz, dVar, dC, dOp, dB, dChain, dAnd, dOr, dNot, dAndV, dOrV, dNotV, dIf, dNeg, dRev, dBack, dDic0, dCons, dNil, dTup, dLst, dRep, dIxV, dInV, dLenV, dCallB, dCall, dIsi, dItems, dRange1, dEnum, dZip, dYes, dgName, dgTup, dgCons, dgNil, dAsg, dApp, dPopAt, dAugIx, dSetIx, dCallL, dBits, dLstRg1, dFldV, dSetF, dMake, dCut, dPart, dNoPart, rCut, endsOf, exitT, peek, setOk, withOw, isOw, withT, lentQ, l_lend1, l_lend2, l_lend3, l_back1, l_back2, l_back3, l_kind1, l_kind2, l_kind3, l_kind4, l_kind5, l_kind6, l_frz1, l_frz2, l_frz3, l_frz4, noOw, wipeT, restT, cLen, cInt, cAbs, cTuple, cList, cStr, keyD, rIsB, rIsNotB, rAdd, rSub, rMul, rMod, rDiv, rPow, rShl, rShr, rBand, rBor, rLt, rLe, rGt, rGe, rAddI, rIx, l_at0, l_at1, l_at2, l_at3, l_at4, Int.reduceToNat, l_eqI, l_neI, l_eqB, l_neB, List.getElem?_cons_zero, List.getElem?_cons_succ, List.set_cons_zero, List.set_cons_succ, List.map_cons, List.map_nil, List.append_nil, List.cons_append, List.nil_append, List.replicate_succ, List.replicate_zero, Option.isSome_some, List.getD_cons_zero, List.getD_cons_succ, forall_const, true_and, and_true, Bool.not_true]
  refine ⟨(plsW ar p).map fun (k : Nat) => (k : Int), ?_, ?_, ?_, ?_⟩
  · unfold natsD
    rw [List.map_map]
    rfl
  · exact List.pairwise_map.mpr ((pls_nodup hok hp.ok).imp fun {a b} z e => z (Int.ofNat_inj.mp e))
  · rw [List.length_map]
    omega
  · simp only [List.length_map, natsD_length, ne_eq, not_true_eq_false, decide_false]
    exact wr_r10 h hw h0 h1 hp q
end
theorem m__law_way_right : ∀ ts Q R, sp__law_way_right ts Q R → b__law_way_right (endsOf ts Q R) (startT N__law_way_right.length ts) := by
  rintro ts Q R ⟨hs, w, n, ar, p, rfl, h, hw, h0, h1, hp, q⟩
  have e : startT N__law_way_right.length [.ow true hs, .fr w, .fr (arsD ar), .fr (wayD p)] = [some (.ow true hs), some (.fr w), some (.fr (arsD ar)), some (.fr (wayD p)), none, none, none, none, none, none] := rfl
  rw [e]
  simp only [b__law_way_right, dDic1, dLenSetT, dSeq, dSet, dRet, dRetN, dDrop, dIfS, dNext, dFr, dFz, dVar, dC, dOp, dB, dChain, dAnd, dOr, dNot, dAndV, dOrV, dNotV, dIf, dNeg, dRev, dBack, dDic0, dCons, dNil, dTup, dLst, dRep, dIxV, dInV, dLenV, dCallB, dCall, dIsi, dItems, dRange1, dEnum, dZip, dYes, dgName, dgTup, dgCons, dgNil, dAsg, dApp, dPopAt, dAugIx, dSetIx, dCallL, dBits, dLstRg1, dFldV, dSetF, dMake, dCut, dPart, dNoPart, rCut, endsOf, exitT, peek, setOk, withOw, isOw, withT, lentQ, l_lend1, l_lend2, l_lend3, l_back1, l_back2, l_back3, l_kind1, l_kind2, l_kind3, l_kind4, l_kind5, l_kind6, l_frz1, l_frz2, l_frz3, l_frz4, noOw, wipeT, restT, cLen, cInt, cAbs, cTuple, cList, cStr, keyD, rIsB, rIsNotB, rAdd, rSub, rMul, rMod, rDiv, rPow, rShl, rShr, rBand, rBor, rLt, rLe, rGt, rGe, rAddI, rIx, l_at0, l_at1, l_at2, l_at3, l_at4, Int.reduceToNat, l_eqI, l_neI, l_eqB, l_neB, List.getElem?_cons_zero, List.getElem?_cons_succ, List.set_cons_zero, List.set_cons_succ, List.map_cons, List.map_nil, List.append_nil, List.cons_append, List.nil_append, List.replicate_succ, List.replicate_zero, Option.isSome_some, List.getD_cons_zero, List.getD_cons_succ, forall_const, true_and, and_true]
  refine ⟨ar, p, rfl, hp, ?_⟩
  simp only [b__law_way_right_r12, dDic1, dLenSetT, dSeq, dSet, dRet, dRetN, dDrop, dIfS, dNext, dFr, dFz, dVar, dC, dOp, dB, dChain, dAnd, dOr, dNot, dAndV, dOrV, dNotV, dIf, dNeg, dRev, dBack, dDic0, dCons, dNil, dTup, dLst, dRep, dIxV, dInV, dLenV, dCallB, dCall, dIsi, dItems, dRange1, dEnum, dZip, dYes, dgName, dgTup, dgCons, dgNil, dAsg, dApp, dPopAt, dAugIx, dSetIx, dCallL, dBits, dLstRg1, dFldV, dSetF, dMake, dCut, dPart, dNoPart, rCut, endsOf, exitT, peek, setOk, withOw, isOw, withT, lentQ, l_lend1, l_lend2, l_lend3, l_back1, l_back2, l_back3, l_kind1, l_kind2, l_kind3, l_kind4, l_kind5, l_kind6, l_frz1, l_frz2, l_frz3, l_frz4, noOw, wipeT, restT, cLen, cInt, cAbs, cTuple, cList, cStr, keyD, rIsB, rIsNotB, rAdd, rSub, rMul, rMod, rDiv, rPow, rShl, rShr, rBand, rBor, rLt, rLe, rGt, rGe, rAddI, rIx, l_at0, l_at1, l_at2, l_at3, l_at4, Int.reduceToNat, l_eqI, l_neI, l_eqB, l_neB, List.getElem?_cons_zero, List.getElem?_cons_succ, List.set_cons_zero, List.set_cons_succ, List.map_cons, List.map_nil, List.append_nil, List.cons_append, List.nil_append, List.replicate_succ, List.replicate_zero, Option.isSome_some, List.getD_cons_zero, List.getD_cons_succ, forall_const, true_and, and_true]
  refine ⟨w, n, ar, _, rfl, hw, hp.plain, ?_⟩
  rw [hp.1]
  simp only [dDic1, dLenSetT, dSeq, dSet, dRet, dRetN, dDrop, dIfS, dNext, dFr, dFz, dVar, dC, dOp, dB, dChain, dAnd, dOr, dNot, dAndV, dOrV, dNotV, dIf, dNeg, dRev, dBack, dDic0, dCons, dNil, dTup, dLst, dRep, dIxV, dInV, dLenV, dCallB, dCall, dIsi, dItems, dRange1, dEnum, dZip, dYes, dgName, dgTup, dgCons, dgNil, dAsg, dApp, dPopAt, dAugIx, dSetIx, dCallL, dBits, dLstRg1, dFldV, dSetF, dMake, dCut, dPart, dNoPart, rCut, endsOf, exitT, peek, setOk, withOw, isOw, withT, lentQ, l_lend1, l_lend2, l_lend3, l_back1, l_back2, l_back3, l_kind1, l_kind2, l_kind3, l_kind4, l_kind5, l_kind6, l_frz1, l_frz2, l_frz3, l_frz4, noOw, wipeT, restT, cLen, cInt, cAbs, cTuple, cList, cStr, keyD, rIsB, rIsNotB, rAdd, rSub, rMul, rMod, rDiv, rPow, rShl, rShr, rBand, rBor, rLt, rLe, rGt, rGe, rAddI, rIx, l_at0, l_at1, l_at2, l_at3, l_at4, Int.reduceToNat, l_eqI, l_neI, l_eqB, l_neB, List.getElem?_cons_zero, List.getElem?_cons_succ, List.set_cons_zero, List.set_cons_succ, List.map_cons, List.map_nil, List.append_nil, List.cons_append, List.nil_append, List.replicate_succ, List.replicate_zero, Option.isSome_some, List.getD_cons_zero, List.getD_cons_succ, forall_const, true_and, and_true, decide_true, Bool.not_true]
  refine ⟨w, n, ar, p, rfl, hw, hp, ?_⟩
  simp only [dDic1, dLenSetT, dSeq, dSet, dRet, dRetN, dDrop, dIfS, dNext, dFr, dFz, dVar, dC, dOp, dB, dChain, dAnd, dOr, dNot, dAndV, dOrV, dNotV, dIf, dNeg, dRev, dBack, dDic0, dCons, dNil, dTup, dLst, dRep, dIxV, dInV, dLenV, dCallB, dCall, dIsi, dItems, dRange1, dEnum, dZip, dYes, dgName, dgTup, dgCons, dgNil, dAsg, dApp, dPopAt, dAugIx, dSetIx, dCallL, dBits, dLstRg1, dFldV, dSetF, dMake, dCut, dPart, dNoPart, rCut, endsOf, exitT, peek, setOk, withOw, isOw, withT, lentQ, l_lend1, l_lend2, l_lend3, l_back1, l_back2, l_back3, l_kind1, l_kind2, l_kind3, l_kind4, l_kind5, l_kind6, l_frz1, l_frz2, l_frz3, l_frz4, noOw, wipeT, restT, cLen, cInt, cAbs, cTuple, cList, cStr, keyD, rIsB, rIsNotB, rAdd, rSub, rMul, rMod, rDiv, rPow, rShl, rShr, rBand, rBor, rLt, rLe, rGt, rGe, rAddI, rIx, l_at0, l_at1, l_at2, l_at3, l_at4, Int.reduceToNat, l_eqI, l_neI, l_eqB, l_neB, List.getElem?_cons_zero, List.getElem?_cons_succ, List.set_cons_zero, List.set_cons_succ, List.map_cons, List.map_nil, List.append_nil, List.cons_append, List.nil_append, List.replicate_succ, List.replicate_zero, Option.isSome_some, List.getD_cons_zero, List.getD_cons_succ, forall_const, true_and, and_true, pls_first, pls_last hp.ok]
  refine ⟨by simp, lis_n (a := [begW ar p, endW ar p]) (b := [begW ar p, endW ar p]) rfl (by simp) ?_⟩
  simp only [dDic1, dLenSetT, dSeq, dSet, dRet, dRetN, dDrop, dIfS, dNext, dFr, dFz, dVar, dC, dOp, dB, dChain, dAnd, dOr, dNot, dAndV, dOrV, dNotV, dIf, dNeg, dRev, dBack, dDic0, dCons, dNil, dTup, dLst, dRep, dIxV, dInV, dLenV, dCallB, dCall, dIsi, dItems, dRange1, dEnum, dZip, dYes, dgName, dgTup, dgCons, dgNil, dAsg, dApp, dPopAt, dAugIx, dSetIx, dCallL, dBits, dLstRg1, dFldV, dSetF, dMake, dCut, dPart, dNoPart, rCut, endsOf, exitT, peek, setOk, withOw, isOw, withT, lentQ, l_lend1, l_lend2, l_lend3, l_back1, l_back2, l_back3, l_kind1, l_kind2, l_kind3, l_kind4, l_kind5, l_kind6, l_frz1, l_frz2, l_frz3, l_frz4, noOw, wipeT, restT, cLen, cInt, cAbs, cTuple, cList, cStr, keyD, rIsB, rIsNotB, rAdd, rSub, rMul, rMod, rDiv, rPow, rShl, rShr, rBand, rBor, rLt, rLe, rGt, rGe, rAddI, rIx, l_at0, l_at1, l_at2, l_at3, l_at4, Int.reduceToNat, l_eqI, l_neI, l_eqB, l_neB, List.getElem?_cons_zero, List.getElem?_cons_succ, List.set_cons_zero, List.set_cons_succ, List.map_cons, List.map_nil, List.append_nil, List.cons_append, List.nil_append, List.replicate_succ, List.replicate_zero, Option.isSome_some, List.getD_cons_zero, List.getD_cons_succ, forall_const, true_and, and_true, Bool.not_true]
  exact wr_r11 h hw h0 h1 hp fun hs' x4 x5 x6 x7 x8 x9 h' => q hs' h'
theorem m__law_pairs_right : ∀ ts Q R, sp__law_pairs_right ts Q R → b__law_pairs_right (endsOf ts Q R) (startT N__law_pairs_right.length ts) := by
  rintro ts Q R ⟨hs, w, n, ar, rfl, h, hw, h1, q⟩
  have e : startT N__law_pairs_right.length [.ow true hs, .fr w, .fr (arsD ar)] = [some (.ow true hs), some (.fr w), some (.fr (.tup (ar.map arrD))), none, none, none] := rfl
  rw [e]
  have em : (if ((ar.map arrD).length : Int) < 14 then ((ar.map arrD).length : Int) else 14) = ((min ar.length 14 : Nat) : Int) := by
    rw [List.length_map]
    split <;> omega
  simp only [b__law_pairs_right, b__law_pairs_right_l5, dFor, dDic1, dLenSetT, dSeq, dSet, dRet, dRetN, dDrop, dIfS, dNext, dFr, dFz, dVar, dC, dOp, dB, dChain, dAnd, dOr, dNot, dAndV, dOrV, dNotV, dIf, dNeg, dRev, dBack, dDic0, dCons, dNil, dTup, dLst, dRep, dIxV, dInV, dLenV, dCallB, dCall, dIsi, dItems, dRange1, dEnum, dZip, dYes, dgName, dgTup, dgCons, dgNil, dAsg, dApp, dPopAt, dAugIx, dSetIx, dCallL, dBits, dLstRg1, dFldV, dSetF, dMake, dCut, dPart, dNoPart, rCut, endsOf, exitT, peek, setOk, withOw, isOw, withT, lentQ, l_lend1, l_lend2, l_lend3, l_back1, l_back2, l_back3, l_kind1, l_kind2, l_kind3, l_kind4, l_kind5, l_kind6, l_frz1, l_frz2, l_frz3, l_frz4, noOw, wipeT, restT, cLen, cInt, cAbs, cTuple, cList, cStr, keyD, rIsB, rIsNotB, rAdd, rSub, rMul, rMod, rDiv, rPow, rShl, rShr, rBand, rBor, rLt, rLe, rGt, rGe, rAddI, rIx, l_at0, l_at1, l_at2, l_at3, l_at4, Int.reduceToNat, l_eqI, l_neI, l_eqB, l_neB, List.getElem?_cons_zero, List.getElem?_cons_succ, List.set_cons_zero, List.set_cons_succ, List.map_cons, List.map_nil, List.append_nil, List.cons_append, List.nil_append, List.replicate_succ, List.replicate_zero, Option.isSome_some, List.getD_cons_zero, List.getD_cons_succ, forall_const, true_and, and_true, cMin, em]
  refine ⟨by omega, by omega, ?_⟩
  refine forB (fun i τ => ∃ x3 x4 x5, τ = [some (.ow true hs), some (.fr w), some (.fr (.tup (ar.map arrD))), x3, x4, x5] ∧ okS x3 ∧ okS x4 ∧ okS x5) ⟨none, none, none, rfl, trivial, trivial, trivial⟩ ?_ ?_
  · rintro i z τ hi ⟨x3, x4, x5, rfl, o3, o4, o5⟩
    rw [rgD_nat, natsD_get] at hi
    obtain ⟨one, hi', rfl⟩ := Option.map_eq_some_iff.mp hi
    have hone : one < ar.length := by
      have := List.mem_range.mp (List.mem_of_getElem? hi')
      omega
    simp only [b__law_pairs_right_b4, b__law_pairs_right_l3, dFor, dDic1, dLenSetT, dSeq, dSet, dRet, dRetN, dDrop, dIfS, dNext, dFr, dFz, dVar, dC, dOp, dB, dChain, dAnd, dOr, dNot, dAndV, dOrV, dNotV, dIf, dNeg, dRev, dBack, dDic0, dCons, dNil, dTup, dLst, dRep, dIxV, dInV, dLenV, dCallB, dCall, dIsi, dItems, dRange1, dEnum, dZip, dYes, dgName, dgTup, dgCons, dgNil, dAsg, dApp, dPopAt, dAugIx, dSetIx, dCallL, dBits, dLstRg1, dFldV, dSetF, dMake, dCut, dPart, dNoPart, rCut, endsOf, exitT, peek, setOk, withOw, isOw, withT, lentQ, l_lend1, l_lend2, l_lend3, l_back1, l_back2, l_back3, l_kind1, l_kind2, l_kind3, l_kind4, l_kind5, l_kind6, l_frz1, l_frz2, l_frz3, l_frz4, noOw, wipeT, restT, cLen, cInt, cAbs, cTuple, cList, cStr, keyD, rIsB, rIsNotB, rAdd, rSub, rMul, rMod, rDiv, rPow, rShl, rShr, rBand, rBor, rLt, rLe, rGt, rGe, rAddI, rIx, l_at0, l_at1, l_at2, l_at3, l_at4, Int.reduceToNat, l_eqI, l_neI, l_eqB, l_neB, List.getElem?_cons_zero, List.getElem?_cons_succ, List.set_cons_zero, List.set_cons_succ, List.map_cons, List.map_nil, List.append_nil, List.cons_append, List.nil_append, List.replicate_succ, List.replicate_zero, Option.isSome_some, List.getD_cons_zero, List.getD_cons_succ, forall_const, true_and, and_true, cMin, em]
    refine ⟨o3, by omega, by omega, ?_⟩
    refine forB (fun i τ => ∃ x4 x5, τ = [some (.ow true hs), some (.fr w), some (.fr (.tup (ar.map arrD))), some (.fr (nD one)), x4, x5] ∧ okS x4 ∧ okS x5) ⟨x4, x5, rfl, o4, o5⟩ ?_ ?_
    · rintro j z τ hj ⟨x4, x5, rfl, o4, o5⟩
      rw [rgD_nat, natsD_get] at hj
      obtain ⟨other, hj', rfl⟩ := Option.map_eq_some_iff.mp hj
      have hother : other < ar.length := by
        have := List.mem_range.mp (List.mem_of_getElem? hj')
        omega
      have hnats : D.tup [nD one, nD other] = wayD [one, other] := rfl
      have hpl : Plain (wayD [one, other]) := plain_nats (by simp)
      have hway : WayOk ar [one, other] ↔ endA ar one = begA ar other := way_join (way_one hone) (way_one hother)
      simp only [b__law_pairs_right_b2, dDic1, dLenSetT, dSeq, dSet, dRet, dRetN, dDrop, dIfS, dNext, dFr, dFz, dVar, dC, dOp, dB, dChain, dAnd, dOr, dNot, dAndV, dOrV, dNotV, dIf, dNeg, dRev, dBack, dDic0, dCons, dNil, dTup, dLst, dRep, dIxV, dInV, dLenV, dCallB, dCall, dIsi, dItems, dRange1, dEnum, dZip, dYes, dgName, dgTup, dgCons, dgNil, dAsg, dApp, dPopAt, dAugIx, dSetIx, dCallL, dBits, dLstRg1, dFldV, dSetF, dMake, dCut, dPart, dNoPart, rCut, endsOf, exitT, peek, setOk, withOw, isOw, withT, lentQ, l_lend1, l_lend2, l_lend3, l_back1, l_back2, l_back3, l_kind1, l_kind2, l_kind3, l_kind4, l_kind5, l_kind6, l_frz1, l_frz2, l_frz3, l_frz4, noOw, wipeT, restT, cLen, cInt, cAbs, cTuple, cList, cStr, keyD, rIsB, rIsNotB, rAdd, rSub, rMul, rMod, rDiv, rPow, rShl, rShr, rBand, rBor, rLt, rLe, rGt, rGe, rAddI, rIx, l_at0, l_at1, l_at2, l_at3, l_at4, Int.reduceToNat, l_eqI, l_neI, l_eqB, l_neB, List.getElem?_cons_zero, List.getElem?_cons_succ, List.set_cons_zero, List.set_cons_succ, List.map_cons, List.map_nil, List.append_nil, List.cons_append, List.nil_append, List.replicate_succ, List.replicate_zero, Option.isSome_some, List.getD_cons_zero, List.getD_cons_succ, forall_const, true_and, and_true, arr_at hone, arr_at hother, arrD, dec_nat]
      refine ⟨o4, o5, by simp, w, n, ar, _, rfl, hw, hpl, ?_⟩
      simp only [dDic1, dLenSetT, dSeq, dSet, dRet, dRetN, dDrop, dIfS, dNext, dFr, dFz, dVar, dC, dOp, dB, dChain, dAnd, dOr, dNot, dAndV, dOrV, dNotV, dIf, dNeg, dRev, dBack, dDic0, dCons, dNil, dTup, dLst, dRep, dIxV, dInV, dLenV, dCallB, dCall, dIsi, dItems, dRange1, dEnum, dZip, dYes, dgName, dgTup, dgCons, dgNil, dAsg, dApp, dPopAt, dAugIx, dSetIx, dCallL, dBits, dLstRg1, dFldV, dSetF, dMake, dCut, dPart, dNoPart, rCut, endsOf, exitT, peek, setOk, withOw, isOw, withT, lentQ, l_lend1, l_lend2, l_lend3, l_back1, l_back2, l_back3, l_kind1, l_kind2, l_kind3, l_kind4, l_kind5, l_kind6, l_frz1, l_frz2, l_frz3, l_frz4, noOw, wipeT, restT, cLen, cInt, cAbs, cTuple, cList, cStr, keyD, rIsB, rIsNotB, rAdd, rSub, rMul, rMod, rDiv, rPow, rShl, rShr, rBand, rBor, rLt, rLe, rGt, rGe, rAddI, rIx, l_at0, l_at1, l_at2, l_at3, l_at4, Int.reduceToNat, l_eqI, l_neI, l_eqB, l_neB, List.getElem?_cons_zero, List.getElem?_cons_succ, List.set_cons_zero, List.set_cons_succ, List.map_cons, List.map_nil, List.append_nil, List.cons_append, List.nil_append, List.replicate_succ, List.replicate_zero, Option.isSome_some, List.getD_cons_zero, List.getD_cons_succ, forall_const, true_and, and_true]
      have hb : wayB ar (.tup [nD one, nD other]) = decide (endA ar one = begA ar other) := wayB_nats ar [one, other] _ (by rw [hway]; exact ⟨of_decide_eq_true, decide_eq_true⟩)
      refine lis_b hb ?_
      simp only [dDic1, dLenSetT, dSeq, dSet, dRet, dRetN, dDrop, dIfS, dNext, dFr, dFz, dVar, dC, dOp, dB, dChain, dAnd, dOr, dNot, dAndV, dOrV, dNotV, dIf, dNeg, dRev, dBack, dDic0, dCons, dNil, dTup, dLst, dRep, dIxV, dInV, dLenV, dCallB, dCall, dIsi, dItems, dRange1, dEnum, dZip, dYes, dgName, dgTup, dgCons, dgNil, dAsg, dApp, dPopAt, dAugIx, dSetIx, dCallL, dBits, dLstRg1, dFldV, dSetF, dMake, dCut, dPart, dNoPart, rCut, endsOf, exitT, peek, setOk, withOw, isOw, withT, lentQ, l_lend1, l_lend2, l_lend3, l_back1, l_back2, l_back3, l_kind1, l_kind2, l_kind3, l_kind4, l_kind5, l_kind6, l_frz1, l_frz2, l_frz3, l_frz4, noOw, wipeT, restT, cLen, cInt, cAbs, cTuple, cList, cStr, keyD, rIsB, rIsNotB, rAdd, rSub, rMul, rMod, rDiv, rPow, rShl, rShr, rBand, rBor, rLt, rLe, rGt, rGe, rAddI, rIx, l_at0, l_at1, l_at2, l_at3, l_at4, Int.reduceToNat, l_eqI, l_neI, l_eqB, l_neB, List.getElem?_cons_zero, List.getElem?_cons_succ, List.set_cons_zero, List.set_cons_succ, List.map_cons, List.map_nil, List.append_nil, List.cons_append, List.nil_append, List.replicate_succ, List.replicate_zero, Option.isSome_some, List.getD_cons_zero, List.getD_cons_succ, forall_const, true_and, and_true, Bool.not_true, b__law_pairs_right_r1, arr_at hone, arr_at hother, arrD]
      by_cases hd : endA ar one = begA ar other
      · simp only [hd, decide_true]
        have hp : IsWay ar [one, other] := isWay_of (hway.mpr hd) (by simp)
        refine ⟨by simp, w, n, ar, [one, other], rfl, hw, hp, ?_⟩
        simp only [dDic1, dLenSetT, dSeq, dSet, dRet, dRetN, dDrop, dIfS, dNext, dFr, dFz, dVar, dC, dOp, dB, dChain, dAnd, dOr, dNot, dAndV, dOrV, dNotV, dIf, dNeg, dRev, dBack, dDic0, dCons, dNil, dTup, dLst, dRep, dIxV, dInV, dLenV, dCallB, dCall, dIsi, dItems, dRange1, dEnum, dZip, dYes, dgName, dgTup, dgCons, dgNil, dAsg, dApp, dPopAt, dAugIx, dSetIx, dCallL, dBits, dLstRg1, dFldV, dSetF, dMake, dCut, dPart, dNoPart, rCut, endsOf, exitT, peek, setOk, withOw, isOw, withT, lentQ, l_lend1, l_lend2, l_lend3, l_back1, l_back2, l_back3, l_kind1, l_kind2, l_kind3, l_kind4, l_kind5, l_kind6, l_frz1, l_frz2, l_frz3, l_frz4, noOw, wipeT, restT, cLen, cInt, cAbs, cTuple, cList, cStr, keyD, rIsB, rIsNotB, rAdd, rSub, rMul, rMod, rDiv, rPow, rShl, rShr, rBand, rBor, rLt, rLe, rGt, rGe, rAddI, rIx, l_at0, l_at1, l_at2, l_at3, l_at4, Int.reduceToNat, l_eqI, l_neI, l_eqB, l_neB, List.getElem?_cons_zero, List.getElem?_cons_succ, List.set_cons_zero, List.set_cons_succ, List.map_cons, List.map_nil, List.append_nil, List.cons_append, List.nil_append, List.replicate_succ, List.replicate_zero, Option.isSome_some, List.getD_cons_zero, List.getD_cons_succ, forall_const, true_and, and_true]
        refine ⟨by simp, lis_n (a := plsW ar [one, other]) (b := [begA ar one, begA ar other, endA ar other]) ?_ (by rw [plsW_len]; simp) ?_⟩
        · show [begA ar one, endA ar one, endA ar other] = _
          rw [hd]
        · simp only [dDic1, dLenSetT, dSeq, dSet, dRet, dRetN, dDrop, dIfS, dNext, dFr, dFz, dVar, dC, dOp, dB, dChain, dAnd, dOr, dNot, dAndV, dOrV, dNotV, dIf, dNeg, dRev, dBack, dDic0, dCons, dNil, dTup, dLst, dRep, dIxV, dInV, dLenV, dCallB, dCall, dIsi, dItems, dRange1, dEnum, dZip, dYes, dgName, dgTup, dgCons, dgNil, dAsg, dApp, dPopAt, dAugIx, dSetIx, dCallL, dBits, dLstRg1, dFldV, dSetF, dMake, dCut, dPart, dNoPart, rCut, endsOf, exitT, peek, setOk, withOw, isOw, withT, lentQ, l_lend1, l_lend2, l_lend3, l_back1, l_back2, l_back3, l_kind1, l_kind2, l_kind3, l_kind4, l_kind5, l_kind6, l_frz1, l_frz2, l_frz3, l_frz4, noOw, wipeT, restT, cLen, cInt, cAbs, cTuple, cList, cStr, keyD, rIsB, rIsNotB, rAdd, rSub, rMul, rMod, rDiv, rPow, rShl, rShr, rBand, rBor, rLt, rLe, rGt, rGe, rAddI, rIx, l_at0, l_at1, l_at2, l_at3, l_at4, Int.reduceToNat, l_eqI, l_neI, l_eqB, l_neB, List.getElem?_cons_zero, List.getElem?_cons_succ, List.set_cons_zero, List.set_cons_succ, List.map_cons, List.map_nil, List.append_nil, List.cons_append, List.nil_append, List.replicate_succ, List.replicate_zero, Option.isSome_some, List.getD_cons_zero, List.getD_cons_succ, forall_const, true_and, and_true, Bool.not_true]
          exact ⟨_, _, rfl, rfl, rfl⟩
      · simp only [hd, decide_false]
        exact ⟨_, _, rfl, rfl, rfl⟩
    · rintro τ ⟨x4, x5, rfl, o4, o5⟩
      exact ⟨_, _, _, rfl, rfl, o4, o5⟩
  · rintro τ ⟨x3, x4, x5, rfl, o3, o4, o5⟩
    simp only [b__law_pairs_right_r6, dDic1, dLenSetT, dSeq, dSet, dRet, dRetN, dDrop, dIfS, dNext, dFr, dFz, dVar, dC, dOp, dB, dChain, dAnd, dOr, dNot, dAndV, dOrV, dNotV, dIf, dNeg, dRev, dBack, dDic0, dCons, dNil, dTup, dLst, dRep, dIxV, dInV, dLenV, dCallB, dCall, dIsi, dItems, dRange1, dEnum, dZip, dYes, dgName, dgTup, dgCons, dgNil, dAsg, dApp, dPopAt, dAugIx, dSetIx, dCallL, dBits, dLstRg1, dFldV, dSetF, dMake, dCut, dPart, dNoPart, rCut, endsOf, exitT, peek, setOk, withOw, isOw, withT, lentQ, l_lend1, l_lend2, l_lend3, l_back1, l_back2, l_back3, l_kind1, l_kind2, l_kind3, l_kind4, l_kind5, l_kind6, l_frz1, l_frz2, l_frz3, l_frz4, noOw, wipeT, restT, cLen, cInt, cAbs, cTuple, cList, cStr, keyD, rIsB, rIsNotB, rAdd, rSub, rMul, rMod, rDiv, rPow, rShl, rShr, rBand, rBor, rLt, rLe, rGt, rGe, rAddI, rIx, l_at0, l_at1, l_at2, l_at3, l_at4, Int.reduceToNat, l_eqI, l_neI, l_eqB, l_neB, List.getElem?_cons_zero, List.getElem?_cons_succ, List.set_cons_zero, List.set_cons_succ, List.map_cons, List.map_nil, List.append_nil, List.cons_append, List.nil_append, List.replicate_succ, List.replicate_zero, Option.isSome_some, List.getD_cons_zero, List.getD_cons_succ, forall_const, true_and, and_true]
    exact q hs h
end EC
/-! N6: k03: the law. -/
namespace EC
open PySem PySem.Spec PyProof.Rows L2
def lE (ns : List Int) (hs : List D) (n m o : D) (ar : Ar) (x6 x7 x8 x9 x10 x11 : Option T) : Env := [some (.fr (.scr ns)), some (.ow false hs), some (.fr n), some (.fr m), some (.fr o), some (.fr (arsD ar)), x6, x7, x8, x9, x10, x11, none]
def WebT (w : D) (x : Option T) : Prop := x = some (.fr w) ∨ ∃ fs, x = some (.oi false 200 fs) ∧ w = .ins 200 (frzF fs)
section
variable {ns : List Int} {n : Nat} {pl mn od w : D} {ar : Ar} {E : DEnds}
abbrev lQ (ns : List Int) (E : DEnds) : Prop := ∀ τ, τ.length = 13 → τ[0]? = some (some (.fr (.scr ns))) → E.rt (.fr (.bl true)) τ
theorem law_r9 {hs : List D} {x6 x7 x8 x9 x10 x11 : Option T} (h : HandOk hs) (hx : WebT w x6) (hw : IsWeb w n ar) (h1 : ar.length ≤ 1000) (q : lQ ns E) : b_law_r9 E (lE ns hs pl mn od ar x6 x7 x8 x9 x10 x11) := by
  have e0 : wayB ar (.tup []) = false := rfl
  have p0 : Plain (.tup []) := plain_tup (by simp) (by simp)
  rcases hx with rfl | ⟨fs, rfl, rfl⟩
  · simp only [b_law_r9, lE, dDic1, dLenSetT, dSeq, dSet, dRet, dRetN, dDrop, dIfS, dNext, dFr, dFz, dVar, dC, dOp, dB, dChain, dAnd, dOr, dNot, dAndV, dOrV, dNotV, dIf, dNeg, dRev, dBack, dDic0, dCons, dNil, dTup, dLst, dRep, dIxV, dInV, dLenV, dCallB, dCall, dIsi, dItems, dRange1, dEnum, dZip, dYes, dgName, dgTup, dgCons, dgNil, dAsg, dApp, dPopAt, dAugIx, dSetIx, dCallL, dBits, dLstRg1, dFldV, dSetF, dMake, dCut, dPart, dNoPart, rCut, endsOf, exitT, peek, setOk, withOw, isOw, withT, lentQ, l_lend1, l_lend2, l_lend3, l_back1, l_back2, l_back3, l_kind1, l_kind2, l_kind3, l_kind4, l_kind5, l_kind6, l_frz1, l_frz2, l_frz3, l_frz4, noOw, wipeT, restT, cLen, cInt, cAbs, cTuple, cList, cStr, keyD, rIsB, rIsNotB, rAdd, rSub, rMul, rMod, rDiv, rPow, rShl, rShr, rBand, rBor, rLt, rLe, rGt, rGe, rAddI, rIx, l_at0, l_at1, l_at2, l_at3, l_at4, Int.reduceToNat, l_eqI, l_neI, l_eqB, l_neB, List.getElem?_cons_zero, List.getElem?_cons_succ, List.set_cons_zero, List.set_cons_succ, List.map_cons, List.map_nil, List.append_nil, List.cons_append, List.nil_append, List.replicate_succ, List.replicate_zero, Option.isSome_some, List.getD_cons_zero, List.getD_cons_succ, forall_const, true_and, and_true]
    refine ⟨by simp, w, n, ar, _, rfl, hw, p0, ?_⟩
    rw [e0]
    simp only [dDic1, dLenSetT, dSeq, dSet, dRet, dRetN, dDrop, dIfS, dNext, dFr, dFz, dVar, dC, dOp, dB, dChain, dAnd, dOr, dNot, dAndV, dOrV, dNotV, dIf, dNeg, dRev, dBack, dDic0, dCons, dNil, dTup, dLst, dRep, dIxV, dInV, dLenV, dCallB, dCall, dIsi, dItems, dRange1, dEnum, dZip, dYes, dgName, dgTup, dgCons, dgNil, dAsg, dApp, dPopAt, dAugIx, dSetIx, dCallL, dBits, dLstRg1, dFldV, dSetF, dMake, dCut, dPart, dNoPart, rCut, endsOf, exitT, peek, setOk, withOw, isOw, withT, lentQ, l_lend1, l_lend2, l_lend3, l_back1, l_back2, l_back3, l_kind1, l_kind2, l_kind3, l_kind4, l_kind5, l_kind6, l_frz1, l_frz2, l_frz3, l_frz4, noOw, wipeT, restT, cLen, cInt, cAbs, cTuple, cList, cStr, keyD, rIsB, rIsNotB, rAdd, rSub, rMul, rMod, rDiv, rPow, rShl, rShr, rBand, rBor, rLt, rLe, rGt, rGe, rAddI, rIx, l_at0, l_at1, l_at2, l_at3, l_at4, Int.reduceToNat, l_eqI, l_neI, l_eqB, l_neB, List.getElem?_cons_zero, List.getElem?_cons_succ, List.set_cons_zero, List.set_cons_succ, List.map_cons, List.map_nil, List.append_nil, List.cons_append, List.nil_append, List.replicate_succ, List.replicate_zero, Option.isSome_some, List.getD_cons_zero, List.getD_cons_succ, forall_const, true_and, and_true, decide_true]
    refine ⟨hs, w, n, ar, rfl, h, hw, h1, fun hs' h' => ?_⟩
    exact q _ rfl rfl
  · simp only [b_law_r9, lE, dDic1, dLenSetT, dSeq, dSet, dRet, dRetN, dDrop, dIfS, dNext, dFr, dFz, dVar, dC, dOp, dB, dChain, dAnd, dOr, dNot, dAndV, dOrV, dNotV, dIf, dNeg, dRev, dBack, dDic0, dCons, dNil, dTup, dLst, dRep, dIxV, dInV, dLenV, dCallB, dCall, dIsi, dItems, dRange1, dEnum, dZip, dYes, dgName, dgTup, dgCons, dgNil, dAsg, dApp, dPopAt, dAugIx, dSetIx, dCallL, dBits, dLstRg1, dFldV, dSetF, dMake, dCut, dPart, dNoPart, rCut, endsOf, exitT, peek, setOk, withOw, isOw, withT, lentQ, l_lend1, l_lend2, l_lend3, l_back1, l_back2, l_back3, l_kind1, l_kind2, l_kind3, l_kind4, l_kind5, l_kind6, l_frz1, l_frz2, l_frz3, l_frz4, noOw, wipeT, restT, cLen, cInt, cAbs, cTuple, cList, cStr, keyD, rIsB, rIsNotB, rAdd, rSub, rMul, rMod, rDiv, rPow, rShl, rShr, rBand, rBor, rLt, rLe, rGt, rGe, rAddI, rIx, l_at0, l_at1, l_at2, l_at3, l_at4, Int.reduceToNat, l_eqI, l_neI, l_eqB, l_neB, List.getElem?_cons_zero, List.getElem?_cons_succ, List.set_cons_zero, List.set_cons_succ, List.map_cons, List.map_nil, List.append_nil, List.cons_append, List.nil_append, List.replicate_succ, List.replicate_zero, Option.isSome_some, List.getD_cons_zero, List.getD_cons_succ, forall_const, true_and, and_true]
    refine ⟨by simp, _, n, ar, _, rfl, hw, p0, ?_⟩
    rw [e0]
    simp only [dDic1, dLenSetT, dSeq, dSet, dRet, dRetN, dDrop, dIfS, dNext, dFr, dFz, dVar, dC, dOp, dB, dChain, dAnd, dOr, dNot, dAndV, dOrV, dNotV, dIf, dNeg, dRev, dBack, dDic0, dCons, dNil, dTup, dLst, dRep, dIxV, dInV, dLenV, dCallB, dCall, dIsi, dItems, dRange1, dEnum, dZip, dYes, dgName, dgTup, dgCons, dgNil, dAsg, dApp, dPopAt, dAugIx, dSetIx, dCallL, dBits, dLstRg1, dFldV, dSetF, dMake, dCut, dPart, dNoPart, rCut, endsOf, exitT, peek, setOk, withOw, isOw, withT, lentQ, l_lend1, l_lend2, l_lend3, l_back1, l_back2, l_back3, l_kind1, l_kind2, l_kind3, l_kind4, l_kind5, l_kind6, l_frz1, l_frz2, l_frz3, l_frz4, noOw, wipeT, restT, cLen, cInt, cAbs, cTuple, cList, cStr, keyD, rIsB, rIsNotB, rAdd, rSub, rMul, rMod, rDiv, rPow, rShl, rShr, rBand, rBor, rLt, rLe, rGt, rGe, rAddI, rIx, l_at0, l_at1, l_at2, l_at3, l_at4, Int.reduceToNat, l_eqI, l_neI, l_eqB, l_neB, List.getElem?_cons_zero, List.getElem?_cons_succ, List.set_cons_zero, List.set_cons_succ, List.map_cons, List.map_nil, List.append_nil, List.cons_append, List.nil_append, List.replicate_succ, List.replicate_zero, Option.isSome_some, List.getD_cons_zero, List.getD_cons_succ, forall_const, true_and, and_true, decide_true]
    refine ⟨hs, _, n, ar, rfl, h, hw, h1, fun hs' h' => ?_⟩
    exact q _ rfl rfl
theorem law_b7 {hs : List D} {x8 x11 : Option T} {p1 p2 : List Nat} {ps : List (List Nat)} (hw : IsWeb w n ar) (h1 : IsWay ar p1) (h2 : IsWay ar p2) (l1 : p1.length ≤ 60) (l2 : p2.length ≤ 60) (o11 : okS x11)
    (nx : ∀ y, okS y → E.nx (lE ns hs pl mn od ar (some (.fr w)) (some (.fr (.lst (ps.map wayD)))) x8 (some (.fr (wayD p1))) (some (.fr (wayD p2))) y)) :
    b_law_b7 E (lE ns hs pl mn od ar (some (.fr w)) (some (.fr (.lst (ps.map wayD)))) x8 (some (.fr (wayD p1))) (some (.fr (wayD p2))) x11) := by
  have hj := way_join h1.ok h2.ok
  simp only [b_law_b7, lE, wayD, dDic1, dLenSetT, dSeq, dSet, dRet, dRetN, dDrop, dIfS, dNext, dFr, dFz, dVar, dC, dOp, dB, dChain, dAnd, dOr, dNot, dAndV, dOrV, dNotV, dIf, dNeg, dRev, dBack, dDic0, dCons, dNil, dTup, dLst, dRep, dIxV, dInV, dLenV, dCallB, dCall, dIsi, dItems, dRange1, dEnum, dZip, dYes, dgName, dgTup, dgCons, dgNil, dAsg, dApp, dPopAt, dAugIx, dSetIx, dCallL, dBits, dLstRg1, dFldV, dSetF, dMake, dCut, dPart, dNoPart, rCut, endsOf, exitT, peek, setOk, withOw, isOw, withT, lentQ, l_lend1, l_lend2, l_lend3, l_back1, l_back2, l_back3, l_kind1, l_kind2, l_kind3, l_kind4, l_kind5, l_kind6, l_frz1, l_frz2, l_frz3, l_frz4, noOw, wipeT, restT, cLen, cInt, cAbs, cTuple, cList, cStr, keyD, rIsB, rIsNotB, rAdd, rSub, rMul, rMod, rDiv, rPow, rShl, rShr, rBand, rBor, rLt, rLe, rGt, rGe, rAddI, rIx, l_at0, l_at1, l_at2, l_at3, l_at4, Int.reduceToNat, l_eqI, l_neI, l_eqB, l_neB, List.getElem?_cons_zero, List.getElem?_cons_succ, List.set_cons_zero, List.set_cons_succ, List.map_cons, List.map_nil, List.append_nil, List.cons_append, List.nil_append, List.replicate_succ, List.replicate_zero, Option.isSome_some, List.getD_cons_zero, List.getD_cons_succ, forall_const, true_and, and_true]
  refine ⟨ar, p1, rfl, h1, ?_⟩
  simp only [dDic1, dLenSetT, dSeq, dSet, dRet, dRetN, dDrop, dIfS, dNext, dFr, dFz, dVar, dC, dOp, dB, dChain, dAnd, dOr, dNot, dAndV, dOrV, dNotV, dIf, dNeg, dRev, dBack, dDic0, dCons, dNil, dTup, dLst, dRep, dIxV, dInV, dLenV, dCallB, dCall, dIsi, dItems, dRange1, dEnum, dZip, dYes, dgName, dgTup, dgCons, dgNil, dAsg, dApp, dPopAt, dAugIx, dSetIx, dCallL, dBits, dLstRg1, dFldV, dSetF, dMake, dCut, dPart, dNoPart, rCut, endsOf, exitT, peek, setOk, withOw, isOw, withT, lentQ, l_lend1, l_lend2, l_lend3, l_back1, l_back2, l_back3, l_kind1, l_kind2, l_kind3, l_kind4, l_kind5, l_kind6, l_frz1, l_frz2, l_frz3, l_frz4, noOw, wipeT, restT, cLen, cInt, cAbs, cTuple, cList, cStr, keyD, rIsB, rIsNotB, rAdd, rSub, rMul, rMod, rDiv, rPow, rShl, rShr, rBand, rBor, rLt, rLe, rGt, rGe, rAddI, rIx, l_at0, l_at1, l_at2, l_at3, l_at4, Int.reduceToNat, l_eqI, l_neI, l_eqB, l_neB, List.getElem?_cons_zero, List.getElem?_cons_succ, List.set_cons_zero, List.set_cons_succ, List.map_cons, List.map_nil, List.append_nil, List.cons_append, List.nil_append, List.replicate_succ, List.replicate_zero, Option.isSome_some, List.getD_cons_zero, List.getD_cons_succ, forall_const, true_and, and_true, pls_last h1.ok]
  refine ⟨ar, p2, rfl, h2, ?_⟩
  simp only [dDic1, dLenSetT, dSeq, dSet, dRet, dRetN, dDrop, dIfS, dNext, dFr, dFz, dVar, dC, dOp, dB, dChain, dAnd, dOr, dNot, dAndV, dOrV, dNotV, dIf, dNeg, dRev, dBack, dDic0, dCons, dNil, dTup, dLst, dRep, dIxV, dInV, dLenV, dCallB, dCall, dIsi, dItems, dRange1, dEnum, dZip, dYes, dgName, dgTup, dgCons, dgNil, dAsg, dApp, dPopAt, dAugIx, dSetIx, dCallL, dBits, dLstRg1, dFldV, dSetF, dMake, dCut, dPart, dNoPart, rCut, endsOf, exitT, peek, setOk, withOw, isOw, withT, lentQ, l_lend1, l_lend2, l_lend3, l_back1, l_back2, l_back3, l_kind1, l_kind2, l_kind3, l_kind4, l_kind5, l_kind6, l_frz1, l_frz2, l_frz3, l_frz4, noOw, wipeT, restT, cLen, cInt, cAbs, cTuple, cList, cStr, keyD, rIsB, rIsNotB, rAdd, rSub, rMul, rMod, rDiv, rPow, rShl, rShr, rBand, rBor, rLt, rLe, rGt, rGe, rAddI, rIx, l_at0, l_at1, l_at2, l_at3, l_at4, Int.reduceToNat, l_eqI, l_neI, l_eqB, l_neB, List.getElem?_cons_zero, List.getElem?_cons_succ, List.set_cons_zero, List.set_cons_succ, List.map_cons, List.map_nil, List.append_nil, List.cons_append, List.nil_append, List.replicate_succ, List.replicate_zero, Option.isSome_some, List.getD_cons_zero, List.getD_cons_succ, forall_const, true_and, and_true, pls_first, dec_nat]
  refine ⟨o11, ?_⟩
  simp only [b_law_r6, dDic1, dLenSetT, dSeq, dSet, dRet, dRetN, dDrop, dIfS, dNext, dFr, dFz, dVar, dC, dOp, dB, dChain, dAnd, dOr, dNot, dAndV, dOrV, dNotV, dIf, dNeg, dRev, dBack, dDic0, dCons, dNil, dTup, dLst, dRep, dIxV, dInV, dLenV, dCallB, dCall, dIsi, dItems, dRange1, dEnum, dZip, dYes, dgName, dgTup, dgCons, dgNil, dAsg, dApp, dPopAt, dAugIx, dSetIx, dCallL, dBits, dLstRg1, dFldV, dSetF, dMake, dCut, dPart, dNoPart, rCut, endsOf, exitT, peek, setOk, withOw, isOw, withT, lentQ, l_lend1, l_lend2, l_lend3, l_back1, l_back2, l_back3, l_kind1, l_kind2, l_kind3, l_kind4, l_kind5, l_kind6, l_frz1, l_frz2, l_frz3, l_frz4, noOw, wipeT, restT, cLen, cInt, cAbs, cTuple, cList, cStr, keyD, rIsB, rIsNotB, rAdd, rSub, rMul, rMod, rDiv, rPow, rShl, rShr, rBand, rBor, rLt, rLe, rGt, rGe, rAddI, rIx, l_at0, l_at1, l_at2, l_at3, l_at4, Int.reduceToNat, l_eqI, l_neI, l_eqB, l_neB, List.getElem?_cons_zero, List.getElem?_cons_succ, List.set_cons_zero, List.set_cons_succ, List.map_cons, List.map_nil, List.append_nil, List.cons_append, List.nil_append, List.replicate_succ, List.replicate_zero, Option.isSome_some, List.getD_cons_zero, List.getD_cons_succ, forall_const, true_and, and_true, ← natsD_append]
  have pl12 : Plain (wayD (p1 ++ p2)) := plain_nats (by rw [List.length_append]; omega)
  refine ⟨by rw [natsD_length, natsD_length]; omega, w, n, ar, _, rfl, hw, pl12, ?_⟩
  simp only [dDic1, dLenSetT, dSeq, dSet, dRet, dRetN, dDrop, dIfS, dNext, dFr, dFz, dVar, dC, dOp, dB, dChain, dAnd, dOr, dNot, dAndV, dOrV, dNotV, dIf, dNeg, dRev, dBack, dDic0, dCons, dNil, dTup, dLst, dRep, dIxV, dInV, dLenV, dCallB, dCall, dIsi, dItems, dRange1, dEnum, dZip, dYes, dgName, dgTup, dgCons, dgNil, dAsg, dApp, dPopAt, dAugIx, dSetIx, dCallL, dBits, dLstRg1, dFldV, dSetF, dMake, dCut, dPart, dNoPart, rCut, endsOf, exitT, peek, setOk, withOw, isOw, withT, lentQ, l_lend1, l_lend2, l_lend3, l_back1, l_back2, l_back3, l_kind1, l_kind2, l_kind3, l_kind4, l_kind5, l_kind6, l_frz1, l_frz2, l_frz3, l_frz4, noOw, wipeT, restT, cLen, cInt, cAbs, cTuple, cList, cStr, keyD, rIsB, rIsNotB, rAdd, rSub, rMul, rMod, rDiv, rPow, rShl, rShr, rBand, rBor, rLt, rLe, rGt, rGe, rAddI, rIx, l_at0, l_at1, l_at2, l_at3, l_at4, Int.reduceToNat, l_eqI, l_neI, l_eqB, l_neB, List.getElem?_cons_zero, List.getElem?_cons_succ, List.set_cons_zero, List.set_cons_succ, List.map_cons, List.map_nil, List.append_nil, List.cons_append, List.nil_append, List.replicate_succ, List.replicate_zero, Option.isSome_some, List.getD_cons_zero, List.getD_cons_succ, forall_const, true_and, and_true]
  have hb : wayB ar (.tup (natsD (p1 ++ p2))) = decide (endW ar p1 = begW ar p2) := wayB_nats ar (p1 ++ p2) _ (by rw [hj]; exact ⟨of_decide_eq_true, decide_eq_true⟩)
  refine lis_b hb ?_
  simp only [dDic1, dLenSetT, dSeq, dSet, dRet, dRetN, dDrop, dIfS, dNext, dFr, dFz, dVar, dC, dOp, dB, dChain, dAnd, dOr, dNot, dAndV, dOrV, dNotV, dIf, dNeg, dRev, dBack, dDic0, dCons, dNil, dTup, dLst, dRep, dIxV, dInV, dLenV, dCallB, dCall, dIsi, dItems, dRange1, dEnum, dZip, dYes, dgName, dgTup, dgCons, dgNil, dAsg, dApp, dPopAt, dAugIx, dSetIx, dCallL, dBits, dLstRg1, dFldV, dSetF, dMake, dCut, dPart, dNoPart, rCut, endsOf, exitT, peek, setOk, withOw, isOw, withT, lentQ, l_lend1, l_lend2, l_lend3, l_back1, l_back2, l_back3, l_kind1, l_kind2, l_kind3, l_kind4, l_kind5, l_kind6, l_frz1, l_frz2, l_frz3, l_frz4, noOw, wipeT, restT, cLen, cInt, cAbs, cTuple, cList, cStr, keyD, rIsB, rIsNotB, rAdd, rSub, rMul, rMod, rDiv, rPow, rShl, rShr, rBand, rBor, rLt, rLe, rGt, rGe, rAddI, rIx, l_at0, l_at1, l_at2, l_at3, l_at4, Int.reduceToNat, l_eqI, l_neI, l_eqB, l_neB, List.getElem?_cons_zero, List.getElem?_cons_succ, List.set_cons_zero, List.set_cons_succ, List.map_cons, List.map_nil, List.append_nil, List.cons_append, List.nil_append, List.replicate_succ, List.replicate_zero, Option.isSome_some, List.getD_cons_zero, List.getD_cons_succ, forall_const, true_and, and_true, Bool.not_true, b_law_r5, ← natsD_append]
  by_cases hd : endW ar p1 = begW ar p2
  · simp only [hd, decide_true]
    have hp : IsWay ar (p1 ++ p2) := isWay_of (hj.mpr hd) (by rw [List.length_append]; omega)
    refine ⟨by rw [natsD_length, natsD_length]; omega, w, n, ar, _, rfl, hw, hp, ?_⟩
    simp only [dDic1, dLenSetT, dSeq, dSet, dRet, dRetN, dDrop, dIfS, dNext, dFr, dFz, dVar, dC, dOp, dB, dChain, dAnd, dOr, dNot, dAndV, dOrV, dNotV, dIf, dNeg, dRev, dBack, dDic0, dCons, dNil, dTup, dLst, dRep, dIxV, dInV, dLenV, dCallB, dCall, dIsi, dItems, dRange1, dEnum, dZip, dYes, dgName, dgTup, dgCons, dgNil, dAsg, dApp, dPopAt, dAugIx, dSetIx, dCallL, dBits, dLstRg1, dFldV, dSetF, dMake, dCut, dPart, dNoPart, rCut, endsOf, exitT, peek, setOk, withOw, isOw, withT, lentQ, l_lend1, l_lend2, l_lend3, l_back1, l_back2, l_back3, l_kind1, l_kind2, l_kind3, l_kind4, l_kind5, l_kind6, l_frz1, l_frz2, l_frz3, l_frz4, noOw, wipeT, restT, cLen, cInt, cAbs, cTuple, cList, cStr, keyD, rIsB, rIsNotB, rAdd, rSub, rMul, rMod, rDiv, rPow, rShl, rShr, rBand, rBor, rLt, rLe, rGt, rGe, rAddI, rIx, l_at0, l_at1, l_at2, l_at3, l_at4, Int.reduceToNat, l_eqI, l_neI, l_eqB, l_neB, List.getElem?_cons_zero, List.getElem?_cons_succ, List.set_cons_zero, List.set_cons_succ, List.map_cons, List.map_nil, List.append_nil, List.cons_append, List.nil_append, List.replicate_succ, List.replicate_zero, Option.isSome_some, List.getD_cons_zero, List.getD_cons_succ, forall_const, true_and, and_true]
    refine ⟨w, n, ar, p1, rfl, hw, h1, ?_⟩
    simp only [dDic1, dLenSetT, dSeq, dSet, dRet, dRetN, dDrop, dIfS, dNext, dFr, dFz, dVar, dC, dOp, dB, dChain, dAnd, dOr, dNot, dAndV, dOrV, dNotV, dIf, dNeg, dRev, dBack, dDic0, dCons, dNil, dTup, dLst, dRep, dIxV, dInV, dLenV, dCallB, dCall, dIsi, dItems, dRange1, dEnum, dZip, dYes, dgName, dgTup, dgCons, dgNil, dAsg, dApp, dPopAt, dAugIx, dSetIx, dCallL, dBits, dLstRg1, dFldV, dSetF, dMake, dCut, dPart, dNoPart, rCut, endsOf, exitT, peek, setOk, withOw, isOw, withT, lentQ, l_lend1, l_lend2, l_lend3, l_back1, l_back2, l_back3, l_kind1, l_kind2, l_kind3, l_kind4, l_kind5, l_kind6, l_frz1, l_frz2, l_frz3, l_frz4, noOw, wipeT, restT, cLen, cInt, cAbs, cTuple, cList, cStr, keyD, rIsB, rIsNotB, rAdd, rSub, rMul, rMod, rDiv, rPow, rShl, rShr, rBand, rBor, rLt, rLe, rGt, rGe, rAddI, rIx, l_at0, l_at1, l_at2, l_at3, l_at4, Int.reduceToNat, l_eqI, l_neI, l_eqB, l_neB, List.getElem?_cons_zero, List.getElem?_cons_succ, List.set_cons_zero, List.set_cons_succ, List.map_cons, List.map_nil, List.append_nil, List.cons_append, List.nil_append, List.replicate_succ, List.replicate_zero, Option.isSome_some, List.getD_cons_zero, List.getD_cons_succ, forall_const, true_and, and_true]
    refine ⟨w, n, ar, p2, rfl, hw, h2, ?_⟩
    simp only [dDic1, dLenSetT, dSeq, dSet, dRet, dRetN, dDrop, dIfS, dNext, dFr, dFz, dVar, dC, dOp, dB, dChain, dAnd, dOr, dNot, dAndV, dOrV, dNotV, dIf, dNeg, dRev, dBack, dDic0, dCons, dNil, dTup, dLst, dRep, dIxV, dInV, dLenV, dCallB, dCall, dIsi, dItems, dRange1, dEnum, dZip, dYes, dgName, dgTup, dgCons, dgNil, dAsg, dApp, dPopAt, dAugIx, dSetIx, dCallL, dBits, dLstRg1, dFldV, dSetF, dMake, dCut, dPart, dNoPart, rCut, endsOf, exitT, peek, setOk, withOw, isOw, withT, lentQ, l_lend1, l_lend2, l_lend3, l_back1, l_back2, l_back3, l_kind1, l_kind2, l_kind3, l_kind4, l_kind5, l_kind6, l_frz1, l_frz2, l_frz3, l_frz4, noOw, wipeT, restT, cLen, cInt, cAbs, cTuple, cList, cStr, keyD, rIsB, rIsNotB, rAdd, rSub, rMul, rMod, rDiv, rPow, rShl, rShr, rBand, rBor, rLt, rLe, rGt, rGe, rAddI, rIx, l_at0, l_at1, l_at2, l_at3, l_at4, Int.reduceToNat, l_eqI, l_neI, l_eqB, l_neB, List.getElem?_cons_zero, List.getElem?_cons_succ, List.set_cons_zero, List.set_cons_succ, List.map_cons, List.map_nil, List.append_nil, List.cons_append, List.nil_append, List.replicate_succ, List.replicate_zero, Option.isSome_some, List.getD_cons_zero, List.getD_cons_succ, forall_const, true_and, and_true, cut_one, natsD_drop, ← natsD_append]
    refine ⟨?_, lis_n (pls_join h1.ok) (by rw [plsW_len, List.length_append]; omega) ?_⟩
    · rw [natsD_length, natsD_length, List.length_drop, plsW_len, plsW_len]
      omega
    · simp only [dDic1, dLenSetT, dSeq, dSet, dRet, dRetN, dDrop, dIfS, dNext, dFr, dFz, dVar, dC, dOp, dB, dChain, dAnd, dOr, dNot, dAndV, dOrV, dNotV, dIf, dNeg, dRev, dBack, dDic0, dCons, dNil, dTup, dLst, dRep, dIxV, dInV, dLenV, dCallB, dCall, dIsi, dItems, dRange1, dEnum, dZip, dYes, dgName, dgTup, dgCons, dgNil, dAsg, dApp, dPopAt, dAugIx, dSetIx, dCallL, dBits, dLstRg1, dFldV, dSetF, dMake, dCut, dPart, dNoPart, rCut, endsOf, exitT, peek, setOk, withOw, isOw, withT, lentQ, l_lend1, l_lend2, l_lend3, l_back1, l_back2, l_back3, l_kind1, l_kind2, l_kind3, l_kind4, l_kind5, l_kind6, l_frz1, l_frz2, l_frz3, l_frz4, noOw, wipeT, restT, cLen, cInt, cAbs, cTuple, cList, cStr, keyD, rIsB, rIsNotB, rAdd, rSub, rMul, rMod, rDiv, rPow, rShl, rShr, rBand, rBor, rLt, rLe, rGt, rGe, rAddI, rIx, l_at0, l_at1, l_at2, l_at3, l_at4, Int.reduceToNat, l_eqI, l_neI, l_eqB, l_neB, List.getElem?_cons_zero, List.getElem?_cons_succ, List.set_cons_zero, List.set_cons_succ, List.map_cons, List.map_nil, List.append_nil, List.cons_append, List.nil_append, List.replicate_succ, List.replicate_zero, Option.isSome_some, List.getD_cons_zero, List.getD_cons_succ, forall_const, true_and, and_true, Bool.not_true]
      exact nx _ rfl
  · simp only [hd, decide_false]
    exact nx _ rfl
/-- the ways drawn, all of them -/
structure WysOk (ar : Ar) (ps : List (List Nat)) : Prop where
  way : ∀ p ∈ ps, IsWay ar p ∧ p.length ≤ 60
theorem law_r10 {hs : List D} {x6 x8 : Option T} {ps : List (List Nat)} (h : HandOk hs) (hx : WebT w x6) (hw : IsWeb w n ar) (h1 : ar.length ≤ 1000) (hp : WysOk ar ps) (q : lQ ns E) (hx6 : ps ≠ [] → x6 = some (.fr w)) : b_law_r10 E (lE ns hs pl mn od ar x6 (some (.fr (.lst (ps.map wayD)))) x8 none none none) := by
  simp only [b_law_r10, b_law_l8, dFor, lE, dSeq]
  have e1 : cutD (ps.map wayD) (some 1) none = (ps.drop 1).map wayD := by rw [cut_one, List.map_drop]
  have e2 : zipD (ps.map wayD) ((ps.drop 1).map wayD) = (ps.zip (ps.drop 1)).map fun p => .tup [wayD p.1, wayD p.2] := by
    unfold zipD
    rw [List.zip_map, List.map_map]
    rfl
  show ForB (zipD (ps.map wayD) (cutD (ps.map wayD) (some 1) none)) _ _ _ _
  rw [e1, e2]
  refine forB (fun i τ => ∃ x9 x10 x11, τ = lE ns hs pl mn od ar x6 (some (.fr (.lst (ps.map wayD)))) x8 x9 x10 x11 ∧ okS x9 ∧ okS x10 ∧ okS x11) ⟨none, none, none, rfl, trivial, trivial, trivial⟩ ?_ ?_
  · rintro i z τ hi ⟨x9, x10, x11, rfl, o9, o10, o11⟩
    rw [List.getElem?_map] at hi
    obtain ⟨⟨p1, p2⟩, hi', rfl⟩ := Option.map_eq_some_iff.mp hi
    have hm := List.of_mem_zip (List.mem_of_getElem? hi')
    have w1 := hp.way _ hm.1
    have w2 := hp.way _ (List.mem_of_mem_drop hm.2)
    obtain rfl := hx6 fun z => by
      rw [z] at hm
      exact (nomatch hm.1)
    simp only [lE, dDic1, dLenSetT, dSeq, dSet, dRet, dRetN, dDrop, dIfS, dNext, dFr, dFz, dVar, dC, dOp, dB, dChain, dAnd, dOr, dNot, dAndV, dOrV, dNotV, dIf, dNeg, dRev, dBack, dDic0, dCons, dNil, dTup, dLst, dRep, dIxV, dInV, dLenV, dCallB, dCall, dIsi, dItems, dRange1, dEnum, dZip, dYes, dgName, dgTup, dgCons, dgNil, dAsg, dApp, dPopAt, dAugIx, dSetIx, dCallL, dBits, dLstRg1, dFldV, dSetF, dMake, dCut, dPart, dNoPart, rCut, endsOf, exitT, peek, setOk, withOw, isOw, withT, lentQ, l_lend1, l_lend2, l_lend3, l_back1, l_back2, l_back3, l_kind1, l_kind2, l_kind3, l_kind4, l_kind5, l_kind6, l_frz1, l_frz2, l_frz3, l_frz4, noOw, wipeT, restT, cLen, cInt, cAbs, cTuple, cList, cStr, keyD, rIsB, rIsNotB, rAdd, rSub, rMul, rMod, rDiv, rPow, rShl, rShr, rBand, rBor, rLt, rLe, rGt, rGe, rAddI, rIx, l_at0, l_at1, l_at2, l_at3, l_at4, Int.reduceToNat, l_eqI, l_neI, l_eqB, l_neB, List.getElem?_cons_zero, List.getElem?_cons_succ, List.set_cons_zero, List.set_cons_succ, List.map_cons, List.map_nil, List.append_nil, List.cons_append, List.nil_append, List.replicate_succ, List.replicate_zero, Option.isSome_some, List.getD_cons_zero, List.getD_cons_succ, forall_const, true_and, and_true]
    refine ⟨by simp, o9, o10, ?_⟩
    exact law_b7 hw w1.1 w2.1 w1.2 w2.2 o11 fun y oy => ⟨_, _, _, rfl, rfl, rfl, oy⟩
  · rintro τ ⟨x9, x10, x11, rfl, o9, o10, o11⟩
    exact law_r9 h hx hw h1 q
theorem law_r11 {hs : List D} {x6 : Option T} {ps : List (List Nat)} (h : HandOk hs) (hx : WebT w x6) (hw : IsWeb w n ar) (h0 : 0 < ar.length) (h1 : ar.length ≤ 1000) (hp : WysOk ar ps) (q : lQ ns E) : b_law_r11 E (lE ns hs pl mn od ar x6 (some (.ow false (ps.map wayD))) none none none none) := by
  simp only [b_law_r11, b_law_l4, dFor, lE, dSeq]
  refine ⟨rfl, ?_⟩
  show ForB (ps.map wayD) _ _ _ _
  refine forB (fun i τ => ∃ hs x6 x8, τ = lE ns hs pl mn od ar x6 (some (.fr (.lst (ps.map wayD)))) x8 none none none ∧ HandOk hs ∧ WebT w x6 ∧ okS x8 ∧ (0 < i → x6 = some (.fr w))) ⟨hs, x6, none, rfl, h, hx, trivial, fun z => absurd z (Nat.lt_irrefl _)⟩ ?_ ?_
  · rintro i z τ hi ⟨hs, x6, x8, rfl, h, hx, o8, _⟩
    rw [List.getElem?_map] at hi
    obtain ⟨p, hi', rfl⟩ := Option.map_eq_some_iff.mp hi
    have w1 := hp.way _ (List.mem_of_getElem? hi')
    rcases hx with rfl | ⟨fs, rfl, rfl⟩
    · simp only [lE, b_law_b3, dDic1, dLenSetT, dSeq, dSet, dRet, dRetN, dDrop, dIfS, dNext, dFr, dFz, dVar, dC, dOp, dB, dChain, dAnd, dOr, dNot, dAndV, dOrV, dNotV, dIf, dNeg, dRev, dBack, dDic0, dCons, dNil, dTup, dLst, dRep, dIxV, dInV, dLenV, dCallB, dCall, dIsi, dItems, dRange1, dEnum, dZip, dYes, dgName, dgTup, dgCons, dgNil, dAsg, dApp, dPopAt, dAugIx, dSetIx, dCallL, dBits, dLstRg1, dFldV, dSetF, dMake, dCut, dPart, dNoPart, rCut, endsOf, exitT, peek, setOk, withOw, isOw, withT, lentQ, l_lend1, l_lend2, l_lend3, l_back1, l_back2, l_back3, l_kind1, l_kind2, l_kind3, l_kind4, l_kind5, l_kind6, l_frz1, l_frz2, l_frz3, l_frz4, noOw, wipeT, restT, cLen, cInt, cAbs, cTuple, cList, cStr, keyD, rIsB, rIsNotB, rAdd, rSub, rMul, rMod, rDiv, rPow, rShl, rShr, rBand, rBor, rLt, rLe, rGt, rGe, rAddI, rIx, l_at0, l_at1, l_at2, l_at3, l_at4, Int.reduceToNat, l_eqI, l_neI, l_eqB, l_neB, List.getElem?_cons_zero, List.getElem?_cons_succ, List.set_cons_zero, List.set_cons_succ, List.map_cons, List.map_nil, List.append_nil, List.cons_append, List.nil_append, List.replicate_succ, List.replicate_zero, Option.isSome_some, List.getD_cons_zero, List.getD_cons_succ, forall_const, true_and, and_true]
      refine ⟨o8, hs, w, n, ar, p, rfl, h, hw, h0, h1, w1.1, fun hs' h' => ?_⟩
      simp only [dDic1, dLenSetT, dSeq, dSet, dRet, dRetN, dDrop, dIfS, dNext, dFr, dFz, dVar, dC, dOp, dB, dChain, dAnd, dOr, dNot, dAndV, dOrV, dNotV, dIf, dNeg, dRev, dBack, dDic0, dCons, dNil, dTup, dLst, dRep, dIxV, dInV, dLenV, dCallB, dCall, dIsi, dItems, dRange1, dEnum, dZip, dYes, dgName, dgTup, dgCons, dgNil, dAsg, dApp, dPopAt, dAugIx, dSetIx, dCallL, dBits, dLstRg1, dFldV, dSetF, dMake, dCut, dPart, dNoPart, rCut, endsOf, exitT, peek, setOk, withOw, isOw, withT, lentQ, l_lend1, l_lend2, l_lend3, l_back1, l_back2, l_back3, l_kind1, l_kind2, l_kind3, l_kind4, l_kind5, l_kind6, l_frz1, l_frz2, l_frz3, l_frz4, noOw, wipeT, restT, cLen, cInt, cAbs, cTuple, cList, cStr, keyD, rIsB, rIsNotB, rAdd, rSub, rMul, rMod, rDiv, rPow, rShl, rShr, rBand, rBor, rLt, rLe, rGt, rGe, rAddI, rIx, l_at0, l_at1, l_at2, l_at3, l_at4, Int.reduceToNat, l_eqI, l_neI, l_eqB, l_neB, List.getElem?_cons_zero, List.getElem?_cons_succ, List.set_cons_zero, List.set_cons_succ, List.map_cons, List.map_nil, List.append_nil, List.cons_append, List.nil_append, List.replicate_succ, List.replicate_zero, Option.isSome_some, List.getD_cons_zero, List.getD_cons_succ, forall_const, true_and, and_true, Bool.not_true]
      exact ⟨hs', _, _, rfl, h', .inl rfl, rfl, fun _ => rfl⟩
    · simp only [lE, b_law_b3, dDic1, dLenSetT, dSeq, dSet, dRet, dRetN, dDrop, dIfS, dNext, dFr, dFz, dVar, dC, dOp, dB, dChain, dAnd, dOr, dNot, dAndV, dOrV, dNotV, dIf, dNeg, dRev, dBack, dDic0, dCons, dNil, dTup, dLst, dRep, dIxV, dInV, dLenV, dCallB, dCall, dIsi, dItems, dRange1, dEnum, dZip, dYes, dgName, dgTup, dgCons, dgNil, dAsg, dApp, dPopAt, dAugIx, dSetIx, dCallL, dBits, dLstRg1, dFldV, dSetF, dMake, dCut, dPart, dNoPart, rCut, endsOf, exitT, peek, setOk, withOw, isOw, withT, lentQ, l_lend1, l_lend2, l_lend3, l_back1, l_back2, l_back3, l_kind1, l_kind2, l_kind3, l_kind4, l_kind5, l_kind6, l_frz1, l_frz2, l_frz3, l_frz4, noOw, wipeT, restT, cLen, cInt, cAbs, cTuple, cList, cStr, keyD, rIsB, rIsNotB, rAdd, rSub, rMul, rMod, rDiv, rPow, rShl, rShr, rBand, rBor, rLt, rLe, rGt, rGe, rAddI, rIx, l_at0, l_at1, l_at2, l_at3, l_at4, Int.reduceToNat, l_eqI, l_neI, l_eqB, l_neB, List.getElem?_cons_zero, List.getElem?_cons_succ, List.set_cons_zero, List.set_cons_succ, List.map_cons, List.map_nil, List.append_nil, List.cons_append, List.nil_append, List.replicate_succ, List.replicate_zero, Option.isSome_some, List.getD_cons_zero, List.getD_cons_succ, forall_const, true_and, and_true]
      refine ⟨o8, hs, _, n, ar, p, rfl, h, hw, h0, h1, w1.1, fun hs' h' => ?_⟩
      simp only [dDic1, dLenSetT, dSeq, dSet, dRet, dRetN, dDrop, dIfS, dNext, dFr, dFz, dVar, dC, dOp, dB, dChain, dAnd, dOr, dNot, dAndV, dOrV, dNotV, dIf, dNeg, dRev, dBack, dDic0, dCons, dNil, dTup, dLst, dRep, dIxV, dInV, dLenV, dCallB, dCall, dIsi, dItems, dRange1, dEnum, dZip, dYes, dgName, dgTup, dgCons, dgNil, dAsg, dApp, dPopAt, dAugIx, dSetIx, dCallL, dBits, dLstRg1, dFldV, dSetF, dMake, dCut, dPart, dNoPart, rCut, endsOf, exitT, peek, setOk, withOw, isOw, withT, lentQ, l_lend1, l_lend2, l_lend3, l_back1, l_back2, l_back3, l_kind1, l_kind2, l_kind3, l_kind4, l_kind5, l_kind6, l_frz1, l_frz2, l_frz3, l_frz4, noOw, wipeT, restT, cLen, cInt, cAbs, cTuple, cList, cStr, keyD, rIsB, rIsNotB, rAdd, rSub, rMul, rMod, rDiv, rPow, rShl, rShr, rBand, rBor, rLt, rLe, rGt, rGe, rAddI, rIx, l_at0, l_at1, l_at2, l_at3, l_at4, Int.reduceToNat, l_eqI, l_neI, l_eqB, l_neB, List.getElem?_cons_zero, List.getElem?_cons_succ, List.set_cons_zero, List.set_cons_succ, List.map_cons, List.map_nil, List.append_nil, List.cons_append, List.nil_append, List.replicate_succ, List.replicate_zero, Option.isSome_some, List.getD_cons_zero, List.getD_cons_succ, forall_const, true_and, and_true, Bool.not_true]
      exact ⟨hs', _, _, rfl, h', .inl rfl, rfl, fun _ => rfl⟩
  · rintro τ ⟨hs, x6, x8, rfl, h, hx, o8, h6⟩
    rw [List.length_map] at h6
    exact law_r10 h hx hw h1 hp q fun z => h6 (List.length_pos_iff.mpr z)
theorem law_r12 {hs : List D} {x6 : Option T} (h : HandOk hs) (hx : WebT w x6) (hw : IsWeb w n ar) (h0 : 0 < ar.length) (h1 : ar.length ≤ 1000) (q : lQ ns E) : b_law_r12 E (lE ns hs pl mn od ar x6 none none none none none) := by
  simp only [b_law_r12, dSeq, dSet]
  refine ⟨by decide, by decide, ?_⟩
  show LcB (rgD 0 4) _ _ _ _ _ _
  unfold LcB
  refine ⟨by decide, by simp [noOw, lE], fun i acc τ => ∃ hs ps, acc = ps.map wayD ∧ WysOk ar ps ∧ HandOk hs ∧ τ = lE ns hs pl mn od ar x6 none none none none none, ⟨hs, [], rfl, ⟨by simp⟩, h, rfl⟩, ?_, ?_⟩
  · rintro i d acc τ hi ⟨hs, ps, rfl, hp, h, rfl⟩
    simp only [lE, dDic1, dLenSetT, dSeq, dSet, dRet, dRetN, dDrop, dIfS, dNext, dFr, dFz, dVar, dC, dOp, dB, dChain, dAnd, dOr, dNot, dAndV, dOrV, dNotV, dIf, dNeg, dRev, dBack, dDic0, dCons, dNil, dTup, dLst, dRep, dIxV, dInV, dLenV, dCallB, dCall, dIsi, dItems, dRange1, dEnum, dZip, dYes, dgName, dgTup, dgCons, dgNil, dAsg, dApp, dPopAt, dAugIx, dSetIx, dCallL, dBits, dLstRg1, dFldV, dSetF, dMake, dCut, dPart, dNoPart, rCut, endsOf, exitT, peek, setOk, withOw, isOw, withT, lentQ, l_lend1, l_lend2, l_lend3, l_back1, l_back2, l_back3, l_kind1, l_kind2, l_kind3, l_kind4, l_kind5, l_kind6, l_frz1, l_frz2, l_frz3, l_frz4, noOw, wipeT, restT, cLen, cInt, cAbs, cTuple, cList, cStr, keyD, rIsB, rIsNotB, rAdd, rSub, rMul, rMod, rDiv, rPow, rShl, rShr, rBand, rBor, rLt, rLe, rGt, rGe, rAddI, rIx, l_at0, l_at1, l_at2, l_at3, l_at4, Int.reduceToNat, l_eqI, l_neI, l_eqB, l_neB, List.getElem?_cons_zero, List.getElem?_cons_succ, List.set_cons_zero, List.set_cons_succ, List.map_cons, List.map_nil, List.append_nil, List.cons_append, List.nil_append, List.replicate_succ, List.replicate_zero, Option.isSome_some, List.getD_cons_zero, List.getD_cons_succ, forall_const, true_and, and_true]
    refine ⟨hs, ar, 60, rfl, h, h0, h1, by decide, by decide, fun p hs' hpw hpl h' => ?_⟩
    simp only [dDic1, dLenSetT, dSeq, dSet, dRet, dRetN, dDrop, dIfS, dNext, dFr, dFz, dVar, dC, dOp, dB, dChain, dAnd, dOr, dNot, dAndV, dOrV, dNotV, dIf, dNeg, dRev, dBack, dDic0, dCons, dNil, dTup, dLst, dRep, dIxV, dInV, dLenV, dCallB, dCall, dIsi, dItems, dRange1, dEnum, dZip, dYes, dgName, dgTup, dgCons, dgNil, dAsg, dApp, dPopAt, dAugIx, dSetIx, dCallL, dBits, dLstRg1, dFldV, dSetF, dMake, dCut, dPart, dNoPart, rCut, endsOf, exitT, peek, setOk, withOw, isOw, withT, lentQ, l_lend1, l_lend2, l_lend3, l_back1, l_back2, l_back3, l_kind1, l_kind2, l_kind3, l_kind4, l_kind5, l_kind6, l_frz1, l_frz2, l_frz3, l_frz4, noOw, wipeT, restT, cLen, cInt, cAbs, cTuple, cList, cStr, keyD, rIsB, rIsNotB, rAdd, rSub, rMul, rMod, rDiv, rPow, rShl, rShr, rBand, rBor, rLt, rLe, rGt, rGe, rAddI, rIx, l_at0, l_at1, l_at2, l_at3, l_at4, Int.reduceToNat, l_eqI, l_neI, l_eqB, l_neB, List.getElem?_cons_zero, List.getElem?_cons_succ, List.set_cons_zero, List.set_cons_succ, List.map_cons, List.map_nil, List.append_nil, List.cons_append, List.nil_append, List.replicate_succ, List.replicate_zero, Option.isSome_some, List.getD_cons_zero, List.getD_cons_succ, forall_const, true_and, and_true]
    refine ⟨hs', ps ++ [p], by rw [List.map_append]; rfl, ⟨fun r hr => ?_⟩, h', rfl⟩
    rcases List.mem_append.mp hr with hr | hr
    · exact hp.way r hr
    · rw [List.mem_singleton.mp hr]
      exact ⟨hpw, hpl⟩
  · rintro acc τ ⟨hs, ps, rfl, hp, h, rfl⟩
    simp only [lE, dDic1, dLenSetT, dSeq, dSet, dRet, dRetN, dDrop, dIfS, dNext, dFr, dFz, dVar, dC, dOp, dB, dChain, dAnd, dOr, dNot, dAndV, dOrV, dNotV, dIf, dNeg, dRev, dBack, dDic0, dCons, dNil, dTup, dLst, dRep, dIxV, dInV, dLenV, dCallB, dCall, dIsi, dItems, dRange1, dEnum, dZip, dYes, dgName, dgTup, dgCons, dgNil, dAsg, dApp, dPopAt, dAugIx, dSetIx, dCallL, dBits, dLstRg1, dFldV, dSetF, dMake, dCut, dPart, dNoPart, rCut, endsOf, exitT, peek, setOk, withOw, isOw, withT, lentQ, l_lend1, l_lend2, l_lend3, l_back1, l_back2, l_back3, l_kind1, l_kind2, l_kind3, l_kind4, l_kind5, l_kind6, l_frz1, l_frz2, l_frz3, l_frz4, noOw, wipeT, restT, cLen, cInt, cAbs, cTuple, cList, cStr, keyD, rIsB, rIsNotB, rAdd, rSub, rMul, rMod, rDiv, rPow, rShl, rShr, rBand, rBor, rLt, rLe, rGt, rGe, rAddI, rIx, l_at0, l_at1, l_at2, l_at3, l_at4, Int.reduceToNat, l_eqI, l_neI, l_eqB, l_neB, List.getElem?_cons_zero, List.getElem?_cons_succ, List.set_cons_zero, List.set_cons_succ, List.map_cons, List.map_nil, List.append_nil, List.cons_append, List.nil_append, List.replicate_succ, List.replicate_zero, Option.isSome_some, List.getD_cons_zero, List.getD_cons_succ, forall_const, true_and, and_true]
    exact law_r11 h hx hw h0 h1 hp q
theorem law_r14 {hs : List D} {n m : Nat} (h : HandOk hs) (hn : 2 ≤ n) (hn2 : n ≤ 60) (hm : 1 ≤ m) (hm2 : m ≤ 90) (q : lQ ns E) : b_law_r14 E [some (.fr (.scr ns)), some (.ow false hs), some (.fr (nD n)), some (.fr (nD m)), none, none, none, none, none, none, none, none, none] := by
  simp only [b_law_r14, dDic1, dLenSetT, dSeq, dSet, dRet, dRetN, dDrop, dIfS, dNext, dFr, dFz, dVar, dC, dOp, dB, dChain, dAnd, dOr, dNot, dAndV, dOrV, dNotV, dIf, dNeg, dRev, dBack, dDic0, dCons, dNil, dTup, dLst, dRep, dIxV, dInV, dLenV, dCallB, dCall, dIsi, dItems, dRange1, dEnum, dZip, dYes, dgName, dgTup, dgCons, dgNil, dAsg, dApp, dPopAt, dAugIx, dSetIx, dCallL, dBits, dLstRg1, dFldV, dSetF, dMake, dCut, dPart, dNoPart, rCut, endsOf, exitT, peek, setOk, withOw, isOw, withT, lentQ, l_lend1, l_lend2, l_lend3, l_back1, l_back2, l_back3, l_kind1, l_kind2, l_kind3, l_kind4, l_kind5, l_kind6, l_frz1, l_frz2, l_frz3, l_frz4, noOw, wipeT, restT, cLen, cInt, cAbs, cTuple, cList, cStr, keyD, rIsB, rIsNotB, rAdd, rSub, rMul, rMod, rDiv, rPow, rShl, rShr, rBand, rBor, rLt, rLe, rGt, rGe, rAddI, rIx, l_at0, l_at1, l_at2, l_at3, l_at4, Int.reduceToNat, l_eqI, l_neI, l_eqB, l_neB, List.getElem?_cons_zero, List.getElem?_cons_succ, List.set_cons_zero, List.set_cons_succ, List.map_cons, List.map_nil, List.append_nil, List.cons_append, List.nil_append, List.replicate_succ, List.replicate_zero, Option.isSome_some, List.getD_cons_zero, List.getD_cons_succ, forall_const, true_and, and_true]
  refine ⟨hs, _, rfl, h, by omega, by omega, fun r hs' r0 r1 h' => ?_⟩
  obtain ⟨k, rfl⟩ : ∃ k : Nat, r = k := ⟨r.toNat, by omega⟩
  simp only [dDic1, dLenSetT, dSeq, dSet, dRet, dRetN, dDrop, dIfS, dNext, dFr, dFz, dVar, dC, dOp, dB, dChain, dAnd, dOr, dNot, dAndV, dOrV, dNotV, dIf, dNeg, dRev, dBack, dDic0, dCons, dNil, dTup, dLst, dRep, dIxV, dInV, dLenV, dCallB, dCall, dIsi, dItems, dRange1, dEnum, dZip, dYes, dgName, dgTup, dgCons, dgNil, dAsg, dApp, dPopAt, dAugIx, dSetIx, dCallL, dBits, dLstRg1, dFldV, dSetF, dMake, dCut, dPart, dNoPart, rCut, endsOf, exitT, peek, setOk, withOw, isOw, withT, lentQ, l_lend1, l_lend2, l_lend3, l_back1, l_back2, l_back3, l_kind1, l_kind2, l_kind3, l_kind4, l_kind5, l_kind6, l_frz1, l_frz2, l_frz3, l_frz4, noOw, wipeT, restT, cLen, cInt, cAbs, cTuple, cList, cStr, keyD, rIsB, rIsNotB, rAdd, rSub, rMul, rMod, rDiv, rPow, rShl, rShr, rBand, rBor, rLt, rLe, rGt, rGe, rAddI, rIx, l_at0, l_at1, l_at2, l_at3, l_at4, Int.reduceToNat, l_eqI, l_neI, l_eqB, l_neB, List.getElem?_cons_zero, List.getElem?_cons_succ, List.set_cons_zero, List.set_cons_succ, List.map_cons, List.map_nil, List.append_nil, List.cons_append, List.nil_append, List.replicate_succ, List.replicate_zero, Option.isSome_some, List.getD_cons_zero, List.getD_cons_succ, forall_const, true_and, and_true]
  refine ⟨hs', n, m, k + 1, ?_, h', by omega, by omega, by omega, by omega, by omega, fun ord ar hs2 hp hl hf h2 hge => ?_⟩
  · rw [show (1 : Int) + (k : Int) = ((k + 1 : Nat) : Int) by omega]
  have hok : ArOk n ar := fwd_ok hp hf (by omega) (by omega)
  simp only [dDic1, dLenSetT, dSeq, dSet, dRet, dRetN, dDrop, dIfS, dNext, dFr, dFz, dVar, dC, dOp, dB, dChain, dAnd, dOr, dNot, dAndV, dOrV, dNotV, dIf, dNeg, dRev, dBack, dDic0, dCons, dNil, dTup, dLst, dRep, dIxV, dInV, dLenV, dCallB, dCall, dIsi, dItems, dRange1, dEnum, dZip, dYes, dgName, dgTup, dgCons, dgNil, dAsg, dApp, dPopAt, dAugIx, dSetIx, dCallL, dBits, dLstRg1, dFldV, dSetF, dMake, dCut, dPart, dNoPart, rCut, endsOf, exitT, peek, setOk, withOw, isOw, withT, lentQ, l_lend1, l_lend2, l_lend3, l_back1, l_back2, l_back3, l_kind1, l_kind2, l_kind3, l_kind4, l_kind5, l_kind6, l_frz1, l_frz2, l_frz3, l_frz4, noOw, wipeT, restT, cLen, cInt, cAbs, cTuple, cList, cStr, keyD, rIsB, rIsNotB, rAdd, rSub, rMul, rMod, rDiv, rPow, rShl, rShr, rBand, rBor, rLt, rLe, rGt, rGe, rAddI, rIx, l_at0, l_at1, l_at2, l_at3, l_at4, Int.reduceToNat, l_eqI, l_neI, l_eqB, l_neB, List.getElem?_cons_zero, List.getElem?_cons_succ, List.set_cons_zero, List.set_cons_succ, List.map_cons, List.map_nil, List.append_nil, List.cons_append, List.nil_append, List.replicate_succ, List.replicate_zero, Option.isSome_some, List.getD_cons_zero, List.getD_cons_succ, forall_const, true_and, and_true]
  refine ⟨rfl, ?_⟩
  simp only [b_law_r13, dDic1, dLenSetT, dSeq, dSet, dRet, dRetN, dDrop, dIfS, dNext, dFr, dFz, dVar, dC, dOp, dB, dChain, dAnd, dOr, dNot, dAndV, dOrV, dNotV, dIf, dNeg, dRev, dBack, dDic0, dCons, dNil, dTup, dLst, dRep, dIxV, dInV, dLenV, dCallB, dCall, dIsi, dItems, dRange1, dEnum, dZip, dYes, dgName, dgTup, dgCons, dgNil, dAsg, dApp, dPopAt, dAugIx, dSetIx, dCallL, dBits, dLstRg1, dFldV, dSetF, dMake, dCut, dPart, dNoPart, rCut, endsOf, exitT, peek, setOk, withOw, isOw, withT, lentQ, l_lend1, l_lend2, l_lend3, l_back1, l_back2, l_back3, l_kind1, l_kind2, l_kind3, l_kind4, l_kind5, l_kind6, l_frz1, l_frz2, l_frz3, l_frz4, noOw, wipeT, restT, cLen, cInt, cAbs, cTuple, cList, cStr, keyD, rIsB, rIsNotB, rAdd, rSub, rMul, rMod, rDiv, rPow, rShl, rShr, rBand, rBor, rLt, rLe, rGt, rGe, rAddI, rIx, l_at0, l_at1, l_at2, l_at3, l_at4, Int.reduceToNat, l_eqI, l_neI, l_eqB, l_neB, List.getElem?_cons_zero, List.getElem?_cons_succ, List.set_cons_zero, List.set_cons_succ, List.map_cons, List.map_nil, List.append_nil, List.cons_append, List.nil_append, List.replicate_succ, List.replicate_zero, Option.isSome_some, List.getD_cons_zero, List.getD_cons_succ, forall_const, true_and, and_true]
  refine ⟨n, ar, by omega, hn2, by omega, rfl, hok, fun fs od reach w hfs => ?_⟩
  refine ⟨rfl, fs, _, rfl, ?_⟩
  have hw : IsWeb (.ins 200 (frzF fs)) n ar := by
    rw [hfs]
    exact ⟨200, od, reach, by decide, rfl, w⟩
  have := hge (by omega)
  exact law_r12 h2 (.inr ⟨fs, rfl, rfl⟩) hw (by omega) (by omega) q
end
theorem m_law : ∀ ts Q R, sp_law ts Q R → b_law (endsOf ts Q R) (startT N_law.length ts) := by
  rintro ts Q R ⟨ns, rfl, hl, q⟩
  have e : startT N_law.length [.fr (.scr ns)] = [some (.fr (.scr ns)), none, none, none, none, none, none, none, none, none, none, none, none] := rfl
  rw [e]
  have qE : lQ ns (endsOf [.fr (.scr ns)] Q R) := fun τ _ h0 => by
    cases τ with
    | nil => cases h0
    | cons a τ =>
      cases h0
      exact q
  simp only [b_law, dDic1, dLenSetT, dSeq, dSet, dRet, dRetN, dDrop, dIfS, dNext, dFr, dFz, dVar, dC, dOp, dB, dChain, dAnd, dOr, dNot, dAndV, dOrV, dNotV, dIf, dNeg, dRev, dBack, dDic0, dCons, dNil, dTup, dLst, dRep, dIxV, dInV, dLenV, dCallB, dCall, dIsi, dItems, dRange1, dEnum, dZip, dYes, dgName, dgTup, dgCons, dgNil, dAsg, dApp, dPopAt, dAugIx, dSetIx, dCallL, dBits, dLstRg1, dFldV, dSetF, dMake, dCut, dPart, dNoPart, rCut, endsOf, exitT, peek, setOk, withOw, isOw, withT, lentQ, l_lend1, l_lend2, l_lend3, l_back1, l_back2, l_back3, l_kind1, l_kind2, l_kind3, l_kind4, l_kind5, l_kind6, l_frz1, l_frz2, l_frz3, l_frz4, noOw, wipeT, restT, cLen, cInt, cAbs, cTuple, cList, cStr, keyD, rIsB, rIsNotB, rAdd, rSub, rMul, rMod, rDiv, rPow, rShl, rShr, rBand, rBor, rLt, rLe, rGt, rGe, rAddI, rIx, l_at0, l_at1, l_at2, l_at3, l_at4, Int.reduceToNat, l_eqI, l_neI, l_eqB, l_neB, List.getElem?_cons_zero, List.getElem?_cons_succ, List.set_cons_zero, List.set_cons_succ, List.map_cons, List.map_nil, List.append_nil, List.cons_append, List.nil_append, List.replicate_succ, List.replicate_zero, Option.isSome_some, List.getD_cons_zero, List.getD_cons_succ, forall_const, true_and, and_true]
  refine ⟨ns, rfl, hl, fun hs h => ?_⟩
  simp only [b_law_r17, dDic1, dLenSetT, dSeq, dSet, dRet, dRetN, dDrop, dIfS, dNext, dFr, dFz, dVar, dC, dOp, dB, dChain, dAnd, dOr, dNot, dAndV, dOrV, dNotV, dIf, dNeg, dRev, dBack, dDic0, dCons, dNil, dTup, dLst, dRep, dIxV, dInV, dLenV, dCallB, dCall, dIsi, dItems, dRange1, dEnum, dZip, dYes, dgName, dgTup, dgCons, dgNil, dAsg, dApp, dPopAt, dAugIx, dSetIx, dCallL, dBits, dLstRg1, dFldV, dSetF, dMake, dCut, dPart, dNoPart, rCut, endsOf, exitT, peek, setOk, withOw, isOw, withT, lentQ, l_lend1, l_lend2, l_lend3, l_back1, l_back2, l_back3, l_kind1, l_kind2, l_kind3, l_kind4, l_kind5, l_kind6, l_frz1, l_frz2, l_frz3, l_frz4, noOw, wipeT, restT, cLen, cInt, cAbs, cTuple, cList, cStr, keyD, rIsB, rIsNotB, rAdd, rSub, rMul, rMod, rDiv, rPow, rShl, rShr, rBand, rBor, rLt, rLe, rGt, rGe, rAddI, rIx, l_at0, l_at1, l_at2, l_at3, l_at4, Int.reduceToNat, l_eqI, l_neI, l_eqB, l_neB, List.getElem?_cons_zero, List.getElem?_cons_succ, List.set_cons_zero, List.set_cons_succ, List.map_cons, List.map_nil, List.append_nil, List.cons_append, List.nil_append, List.replicate_succ, List.replicate_zero, Option.isSome_some, List.getD_cons_zero, List.getD_cons_succ, forall_const, true_and, and_true]
  refine ⟨hs, 8, rfl, h, by decide, by decide, fun r hs r0 r1 h => ?_⟩
  obtain ⟨n, rfl⟩ : ∃ k : Nat, r = k := ⟨r.toNat, by omega⟩
  simp only [b_law_r16, dDic1, dLenSetT, dSeq, dSet, dRet, dRetN, dDrop, dIfS, dNext, dFr, dFz, dVar, dC, dOp, dB, dChain, dAnd, dOr, dNot, dAndV, dOrV, dNotV, dIf, dNeg, dRev, dBack, dDic0, dCons, dNil, dTup, dLst, dRep, dIxV, dInV, dLenV, dCallB, dCall, dIsi, dItems, dRange1, dEnum, dZip, dYes, dgName, dgTup, dgCons, dgNil, dAsg, dApp, dPopAt, dAugIx, dSetIx, dCallL, dBits, dLstRg1, dFldV, dSetF, dMake, dCut, dPart, dNoPart, rCut, endsOf, exitT, peek, setOk, withOw, isOw, withT, lentQ, l_lend1, l_lend2, l_lend3, l_back1, l_back2, l_back3, l_kind1, l_kind2, l_kind3, l_kind4, l_kind5, l_kind6, l_frz1, l_frz2, l_frz3, l_frz4, noOw, wipeT, restT, cLen, cInt, cAbs, cTuple, cList, cStr, keyD, rIsB, rIsNotB, rAdd, rSub, rMul, rMod, rDiv, rPow, rShl, rShr, rBand, rBor, rLt, rLe, rGt, rGe, rAddI, rIx, l_at0, l_at1, l_at2, l_at3, l_at4, Int.reduceToNat, l_eqI, l_neI, l_eqB, l_neB, List.getElem?_cons_zero, List.getElem?_cons_succ, List.set_cons_zero, List.set_cons_succ, List.map_cons, List.map_nil, List.append_nil, List.cons_append, List.nil_append, List.replicate_succ, List.replicate_zero, Option.isSome_some, List.getD_cons_zero, List.getD_cons_succ, forall_const, true_and, and_true]
  refine ⟨hs, 14, rfl, h, by decide, by decide, fun r hs r0 r1 h => ?_⟩
  obtain ⟨m, rfl⟩ : ∃ k : Nat, r = k := ⟨r.toNat, by omega⟩
  simp only [b_law_r15, dDic1, dLenSetT, dSeq, dSet, dRet, dRetN, dDrop, dIfS, dNext, dFr, dFz, dVar, dC, dOp, dB, dChain, dAnd, dOr, dNot, dAndV, dOrV, dNotV, dIf, dNeg, dRev, dBack, dDic0, dCons, dNil, dTup, dLst, dRep, dIxV, dInV, dLenV, dCallB, dCall, dIsi, dItems, dRange1, dEnum, dZip, dYes, dgName, dgTup, dgCons, dgNil, dAsg, dApp, dPopAt, dAugIx, dSetIx, dCallL, dBits, dLstRg1, dFldV, dSetF, dMake, dCut, dPart, dNoPart, rCut, endsOf, exitT, peek, setOk, withOw, isOw, withT, lentQ, l_lend1, l_lend2, l_lend3, l_back1, l_back2, l_back3, l_kind1, l_kind2, l_kind3, l_kind4, l_kind5, l_kind6, l_frz1, l_frz2, l_frz3, l_frz4, noOw, wipeT, restT, cLen, cInt, cAbs, cTuple, cList, cStr, keyD, rIsB, rIsNotB, rAdd, rSub, rMul, rMod, rDiv, rPow, rShl, rShr, rBand, rBor, rLt, rLe, rGt, rGe, rAddI, rIx, l_at0, l_at1, l_at2, l_at3, l_at4, Int.reduceToNat, l_eqI, l_neI, l_eqB, l_neB, List.getElem?_cons_zero, List.getElem?_cons_succ, List.set_cons_zero, List.set_cons_succ, List.map_cons, List.map_nil, List.append_nil, List.cons_append, List.nil_append, List.replicate_succ, List.replicate_zero, Option.isSome_some, List.getD_cons_zero, List.getD_cons_succ, forall_const, true_and, and_true]
  refine ⟨hs, 4, rfl, h, by decide, by decide, fun r hs r0 r1 h => ?_⟩
  simp only [dDic1, dLenSetT, dSeq, dSet, dRet, dRetN, dDrop, dIfS, dNext, dFr, dFz, dVar, dC, dOp, dB, dChain, dAnd, dOr, dNot, dAndV, dOrV, dNotV, dIf, dNeg, dRev, dBack, dDic0, dCons, dNil, dTup, dLst, dRep, dIxV, dInV, dLenV, dCallB, dCall, dIsi, dItems, dRange1, dEnum, dZip, dYes, dgName, dgTup, dgCons, dgNil, dAsg, dApp, dPopAt, dAugIx, dSetIx, dCallL, dBits, dLstRg1, dFldV, dSetF, dMake, dCut, dPart, dNoPart, rCut, endsOf, exitT, peek, setOk, withOw, isOw, withT, lentQ, l_lend1, l_lend2, l_lend3, l_back1, l_back2, l_back3, l_kind1, l_kind2, l_kind3, l_kind4, l_kind5, l_kind6, l_frz1, l_frz2, l_frz3, l_frz4, noOw, wipeT, restT, cLen, cInt, cAbs, cTuple, cList, cStr, keyD, rIsB, rIsNotB, rAdd, rSub, rMul, rMod, rDiv, rPow, rShl, rShr, rBand, rBor, rLt, rLe, rGt, rGe, rAddI, rIx, l_at0, l_at1, l_at2, l_at3, l_at4, Int.reduceToNat, l_eqI, l_neI, l_eqB, l_neB, List.getElem?_cons_zero, List.getElem?_cons_succ, List.set_cons_zero, List.set_cons_succ, List.map_cons, List.map_nil, List.append_nil, List.cons_append, List.nil_append, List.replicate_succ, List.replicate_zero, Option.isSome_some, List.getD_cons_zero, List.getD_cons_succ, forall_const, true_and, and_true]
  by_cases hr : r = 0
  · simp only [hr, decide_true, dDic1, dLenSetT, dSeq, dSet, dRet, dRetN, dDrop, dIfS, dNext, dFr, dFz, dVar, dC, dOp, dB, dChain, dAnd, dOr, dNot, dAndV, dOrV, dNotV, dIf, dNeg, dRev, dBack, dDic0, dCons, dNil, dTup, dLst, dRep, dIxV, dInV, dLenV, dCallB, dCall, dIsi, dItems, dRange1, dEnum, dZip, dYes, dgName, dgTup, dgCons, dgNil, dAsg, dApp, dPopAt, dAugIx, dSetIx, dCallL, dBits, dLstRg1, dFldV, dSetF, dMake, dCut, dPart, dNoPart, rCut, endsOf, exitT, peek, setOk, withOw, isOw, withT, lentQ, l_lend1, l_lend2, l_lend3, l_back1, l_back2, l_back3, l_kind1, l_kind2, l_kind3, l_kind4, l_kind5, l_kind6, l_frz1, l_frz2, l_frz3, l_frz4, noOw, wipeT, restT, cLen, cInt, cAbs, cTuple, cList, cStr, keyD, rIsB, rIsNotB, rAdd, rSub, rMul, rMod, rDiv, rPow, rShl, rShr, rBand, rBor, rLt, rLe, rGt, rGe, rAddI, rIx, l_at0, l_at1, l_at2, l_at3, l_at4, Int.reduceToNat, l_eqI, l_neI, l_eqB, l_neB, List.getElem?_cons_zero, List.getElem?_cons_succ, List.set_cons_zero, List.set_cons_succ, List.map_cons, List.map_nil, List.append_nil, List.cons_append, List.nil_append, List.replicate_succ, List.replicate_zero, Option.isSome_some, List.getD_cons_zero, List.getD_cons_succ, forall_const, true_and, and_true]
    refine ⟨hs, 21, rfl, h, by decide, by decide, fun r hs r0 r1 h => ?_⟩
    obtain ⟨n, rfl⟩ : ∃ k : Nat, r = k := ⟨r.toNat, by omega⟩
    simp only [b_law_r1, dDic1, dLenSetT, dSeq, dSet, dRet, dRetN, dDrop, dIfS, dNext, dFr, dFz, dVar, dC, dOp, dB, dChain, dAnd, dOr, dNot, dAndV, dOrV, dNotV, dIf, dNeg, dRev, dBack, dDic0, dCons, dNil, dTup, dLst, dRep, dIxV, dInV, dLenV, dCallB, dCall, dIsi, dItems, dRange1, dEnum, dZip, dYes, dgName, dgTup, dgCons, dgNil, dAsg, dApp, dPopAt, dAugIx, dSetIx, dCallL, dBits, dLstRg1, dFldV, dSetF, dMake, dCut, dPart, dNoPart, rCut, endsOf, exitT, peek, setOk, withOw, isOw, withT, lentQ, l_lend1, l_lend2, l_lend3, l_back1, l_back2, l_back3, l_kind1, l_kind2, l_kind3, l_kind4, l_kind5, l_kind6, l_frz1, l_frz2, l_frz3, l_frz4, noOw, wipeT, restT, cLen, cInt, cAbs, cTuple, cList, cStr, keyD, rIsB, rIsNotB, rAdd, rSub, rMul, rMod, rDiv, rPow, rShl, rShr, rBand, rBor, rLt, rLe, rGt, rGe, rAddI, rIx, l_at0, l_at1, l_at2, l_at3, l_at4, Int.reduceToNat, l_eqI, l_neI, l_eqB, l_neB, List.getElem?_cons_zero, List.getElem?_cons_succ, List.set_cons_zero, List.set_cons_succ, List.map_cons, List.map_nil, List.append_nil, List.cons_append, List.nil_append, List.replicate_succ, List.replicate_zero, Option.isSome_some, List.getD_cons_zero, List.getD_cons_succ, forall_const, true_and, and_true]
    refine ⟨hs, 31, rfl, h, by decide, by decide, fun r hs r0 r1 h => ?_⟩
    obtain ⟨m, rfl⟩ : ∃ k : Nat, r = k := ⟨r.toNat, by omega⟩
    simp only [dDic1, dLenSetT, dSeq, dSet, dRet, dRetN, dDrop, dIfS, dNext, dFr, dFz, dVar, dC, dOp, dB, dChain, dAnd, dOr, dNot, dAndV, dOrV, dNotV, dIf, dNeg, dRev, dBack, dDic0, dCons, dNil, dTup, dLst, dRep, dIxV, dInV, dLenV, dCallB, dCall, dIsi, dItems, dRange1, dEnum, dZip, dYes, dgName, dgTup, dgCons, dgNil, dAsg, dApp, dPopAt, dAugIx, dSetIx, dCallL, dBits, dLstRg1, dFldV, dSetF, dMake, dCut, dPart, dNoPart, rCut, endsOf, exitT, peek, setOk, withOw, isOw, withT, lentQ, l_lend1, l_lend2, l_lend3, l_back1, l_back2, l_back3, l_kind1, l_kind2, l_kind3, l_kind4, l_kind5, l_kind6, l_frz1, l_frz2, l_frz3, l_frz4, noOw, wipeT, restT, cLen, cInt, cAbs, cTuple, cList, cStr, keyD, rIsB, rIsNotB, rAdd, rSub, rMul, rMod, rDiv, rPow, rShl, rShr, rBand, rBor, rLt, rLe, rGt, rGe, rAddI, rIx, l_at0, l_at1, l_at2, l_at3, l_at4, Int.reduceToNat, l_eqI, l_neI, l_eqB, l_neB, List.getElem?_cons_zero, List.getElem?_cons_succ, List.set_cons_zero, List.set_cons_succ, List.map_cons, List.map_nil, List.append_nil, List.cons_append, List.nil_append, List.replicate_succ, List.replicate_zero, Option.isSome_some, List.getD_cons_zero, List.getD_cons_succ, forall_const, true_and, and_true]
    rw [show (40 : Int) + (n : Int) = ((40 + n : Nat) : Int) by omega, show (60 : Int) + (m : Int) = ((60 + m : Nat) : Int) by omega]
    exact law_r14 h (by omega) (by omega) (by omega) (by omega) qE
  · simp only [hr, decide_false, dDic1, dLenSetT, dSeq, dSet, dRet, dRetN, dDrop, dIfS, dNext, dFr, dFz, dVar, dC, dOp, dB, dChain, dAnd, dOr, dNot, dAndV, dOrV, dNotV, dIf, dNeg, dRev, dBack, dDic0, dCons, dNil, dTup, dLst, dRep, dIxV, dInV, dLenV, dCallB, dCall, dIsi, dItems, dRange1, dEnum, dZip, dYes, dgName, dgTup, dgCons, dgNil, dAsg, dApp, dPopAt, dAugIx, dSetIx, dCallL, dBits, dLstRg1, dFldV, dSetF, dMake, dCut, dPart, dNoPart, rCut, endsOf, exitT, peek, setOk, withOw, isOw, withT, lentQ, l_lend1, l_lend2, l_lend3, l_back1, l_back2, l_back3, l_kind1, l_kind2, l_kind3, l_kind4, l_kind5, l_kind6, l_frz1, l_frz2, l_frz3, l_frz4, noOw, wipeT, restT, cLen, cInt, cAbs, cTuple, cList, cStr, keyD, rIsB, rIsNotB, rAdd, rSub, rMul, rMod, rDiv, rPow, rShl, rShr, rBand, rBor, rLt, rLe, rGt, rGe, rAddI, rIx, l_at0, l_at1, l_at2, l_at3, l_at4, Int.reduceToNat, l_eqI, l_neI, l_eqB, l_neB, List.getElem?_cons_zero, List.getElem?_cons_succ, List.set_cons_zero, List.set_cons_succ, List.map_cons, List.map_nil, List.append_nil, List.cons_append, List.nil_append, List.replicate_succ, List.replicate_zero, Option.isSome_some, List.getD_cons_zero, List.getD_cons_succ, forall_const, true_and, and_true]
    rw [show (2 : Int) + (n : Int) = ((2 + n : Nat) : Int) by omega, show (1 : Int) + (m : Int) = ((1 + m : Nat) : Int) by omega]
    exact law_r14 h (by omega) (by omega) (by omega) (by omega) qE
end EC
namespace EC
open PySem PySem.Spec PyProof.Rows L2
theorem Df.mono {P : Program} {w : World} {K : Kc} {mg : Str → Option Value} {base : Heap} {k k' : Nat} {x : Str} {ds : DSp} (h : Df P w K mg base k x ds) (le : k ≤ k') : Df P w K mg base k' x ds := by
  obtain ⟨j, f, fd, ps, h1, h2⟩ := h.ex
  exact ⟨⟨j, f, fd, ps, Nat.le_trans h1 le, h2⟩⟩
theorem DfM.mono {P : Program} {w : World} {K : Kc} {mg : Str → Option Value} {base : Heap} {k k' c : Nat} {x : Str} {ds : DSp} (h : DfM P w K mg base k c x ds) (le : k ≤ k') : DfM P w K mg base k' c x ds := by
  obtain ⟨j, f, fd, ps, h1, h2⟩ := h.ex
  exact ⟨⟨j, f, fd, ps, Nat.le_trans h1 le, h2⟩⟩
theorem DfC.mono {P : Program} {w : World} {K : Kc} {mg : Str → Option Value} {base : Heap} {k k' c : Nat} {x : Str} {ds : DSp} (h : DfC P w K mg base k c x ds) (le : k ≤ k') : DfC P w K mg base k' c x ds := by
  obtain ⟨j, f, fd, ps, h1, h2⟩ := h.ex
  exact ⟨⟨j, f, fd, ps, Nat.le_trans h1 le, h2⟩⟩
theorem fn_none {P : Program} {w : World} {K : Kc} {mg : Str → Option Value} {base : Heap} {f : Addr} {fd : FuncData} {ps : List Str} {k : Nat} : FnOk P w K.K mg base (L2.CX P w) k f fd ps (SpD K fun _ _ _ => False) :=
  ⟨fun vs H Q E h => by
    obtain ⟨_, _, _, _, _, _, _, h, _⟩ := h
    exact h.elim, fun A outer s H args us vs Q E hr he hb hv h => by
    obtain ⟨_, _, _, _, _, _, _, h, _⟩ := h
    exact h.elim⟩
/-- the law's promise, from the written part alone -/
def spTop (K : Fg) : Sp := fun vs H Q _ => ∃ (a : Addr) (ns : List Int), vs = [.ref a] ∧ SqL K H a (ns.map V.int) ∧ ns.length ≤ 63 ∧ ∀ H', Q (.bl true) H'
theorem spTop_ok {K : Kc} {vs : List V} {H : Hp} {Q : VK} {E : XK} (h : spTop K.K vs H Q E) : SpD K sp_law vs H Q E := by
  obtain ⟨a, ns, rfl, hS, hl, k⟩ := h
  refine ⟨H, [.fr (.scr ns)], [], fun t _ => t = .fr (.bl true), fun _ _ => False, ⟨Ex.refl H, .cons (f := []) (F := []) (.fr (.scr hS)) .nil, List.nodup_nil, fun _ z => nomatch z⟩, ?_, ⟨ns, rfl, hl, rfl⟩, ?_, fun x cls dx B' H' ts' F' q _ _ _ _ => q.elim⟩
  · intro t z
    rw [List.mem_singleton.mp z]
    exact .inl ⟨_, rfl⟩
  · rintro v t f B' H' ts' F' rfl _ _ o _ _ _
    cases o with
    | fr d =>
    cases d
    exact k H'
def kc (K : Fg) (CWeb : Addr) : Kc := ⟨K, fun c => CWeb⟩
theorem hasF_one {K : Kc} {f : Str} {a : Nat} (c1 : Cls K.K (K.cl a)) (n1 : NoAttr K.K (K.cl a) f) : ∀ c, c = a → Cls K.K (K.cl c) ∧ NoAttr K.K (K.cl c) f := fun c e => e ▸ ⟨c1, n1⟩
section
variable {P : Program} {w : World} {K : Kc} {mg : Str → Option Value} {base : Heap}
theorem n_order_of : ∀ ts Q R, sp_order_of ts Q R → ts.length = 2 := by
  rintro ts Q R ⟨n, ar, rfl, h, q⟩
  rfl
theorem ok_order_of {k : Nat} (T : Tx K mg) {a : Addr} {fd : FuncData} (F : L2.Fun K.K (Str.ofString "order_of") (Str.ofString "order_of") (topS 12) a fd) : FnOk P w K.K mg base (L2.CX P w) (k + 1) a fd ["places", "arrows"] (SpD K sp_order_of) :=
  fn_ok F sc_order_of n_order_of (fun W => d_order_of T  W) m_order_of
theorem n_Web_keep : ∀ ts Q R, sp_Web_keep ts Q R → ts.length = 3 := by
  rintro ts Q R ⟨c, n, ar, hc, rfl, h, q⟩
  rfl
theorem ok_Web_keep {k : Nat} (T : Tx K mg) {a : Addr} {fd : FuncData} (F : L2.Fun K.K (Str.ofString "keep") (Str.ofString "Web.keep") (inClass (topS 13) 1) a fd) (h_order_of : Df P w K mg base k (Str.ofString "order_of") sp_order_of) : FnOk P w K.K mg base (L2.CX P w) (k + 1) a fd ["self", "places", "arrows"] (SpD K sp_Web_keep) :=
  fn_ok F sc_Web_keep n_Web_keep (fun W => d_Web_keep T h_order_of W) m_Web_keep
theorem n_is_pair : ∀ ts Q R, sp_is_pair ts Q R → ts.length = 1 := by
  rintro ts Q R ⟨d, rfl, h, q⟩
  rfl
theorem ok_is_pair {k : Nat} (T : Tx K mg) {a : Addr} {fd : FuncData} (F : L2.Fun K.K (Str.ofString "is_pair") (Str.ofString "is_pair") (topS 7) a fd) : FnOk P w K.K mg base (L2.CX P w) (k + 1) a fd ["thing"] (SpD K sp_is_pair) :=
  fn_ok F sc_is_pair n_is_pair (fun W => d_is_pair T  W) m_is_pair
theorem n_is_integer : ∀ ts Q R, sp_is_integer ts Q R → ts.length = 1 := by
  rintro ts Q R ⟨d, rfl, h, q⟩
  rfl
theorem ok_is_integer {k : Nat} (T : Tx K mg) {a : Addr} {fd : FuncData} (F : L2.Fun K.K (Str.ofString "is_integer") (Str.ofString "is_integer") (topS 5) a fd) : FnOk P w K.K mg base (L2.CX P w) (k + 1) a fd ["thing"] (SpD K sp_is_integer) :=
  fn_ok F sc_is_integer n_is_integer (fun W => d_is_integer T  W) m_is_integer
theorem n_is_within : ∀ ts Q R, sp_is_within ts Q R → ts.length = 3 := by
  rintro ts Q R ⟨d, lo, hi, rfl, h, q⟩
  rfl
theorem ok_is_within {k : Nat} (T : Tx K mg) {a : Addr} {fd : FuncData} (F : L2.Fun K.K (Str.ofString "is_within") (Str.ofString "is_within") (topS 6) a fd) (h_is_integer : Df P w K mg base k (Str.ofString "is_integer") sp_is_integer) : FnOk P w K.K mg base (L2.CX P w) (k + 1) a fd ["thing", "least", "most"] (SpD K sp_is_within) :=
  fn_ok F sc_is_within n_is_within (fun W => d_is_within T h_is_integer W) m_is_within
theorem n_is_arrow_of : ∀ ts Q R, sp_is_arrow_of ts Q R → ts.length = 2 := by
  rintro ts Q R ⟨n, a, rfl, h1, h2, q⟩
  rfl
theorem ok_is_arrow_of {k : Nat} (T : Tx K mg) {a : Addr} {fd : FuncData} (F : L2.Fun K.K (Str.ofString "is_arrow_of") (Str.ofString "is_arrow_of") (topS 11) a fd) (h_is_pair : Df P w K mg base k (Str.ofString "is_pair") sp_is_pair) (h_is_within : Df P w K mg base k (Str.ofString "is_within") sp_is_within) : FnOk P w K.K mg base (L2.CX P w) (k + 1) a fd ["places", "thing"] (SpD K sp_is_arrow_of) :=
  fn_ok F sc_is_arrow_of n_is_arrow_of (fun W => d_is_arrow_of T h_is_pair h_is_within W) m_is_arrow_of
theorem n_Web_init : ∀ ts Q R, sp_Web_init ts Q R → ts.length = 3 := by
  rintro ts Q R ⟨n, ar, n1, n2, n3, rfl, h, q⟩
  rfl
theorem ok_Web_init {k : Nat} (T : Tx K mg) {a : Addr} {fd : FuncData} (F : L2.Fun K.K (Str.ofString "__init__") (Str.ofString "Web.__init__") (inClass (topS 13) 0) a fd) (h_Web_keep : DfM P w K mg base k 200 (Str.ofString "keep") sp_Web_keep) (h_is_arrow_of : Df P w K mg base k (Str.ofString "is_arrow_of") sp_is_arrow_of) (h_is_within : Df P w K mg base k (Str.ofString "is_within") sp_is_within) (h_order_of : Df P w K mg base k (Str.ofString "order_of") sp_order_of) : FnOk P w K.K mg base (L2.CX P w) (k + 1) a fd ["self", "places", "arrows"] (SpD K sp_Web_init) :=
  fn_ok F sc_Web_init n_Web_init (fun W => d_Web_init T h_Web_keep h_is_arrow_of h_is_within h_order_of W) m_Web_init
theorem n__law_draw : ∀ ts Q R, sp__law_draw ts Q R → ts.length = 2 := by
  rintro ts Q R ⟨hs, many, rfl, h, hm, hm2, q⟩
  rfl
theorem ok__law_draw {k : Nat} (T : Tx K mg) {a : Addr} {fd : FuncData} (F : L2.Fun K.K (Str.ofString "_law_draw") (Str.ofString "_law_draw") (topS 23) a fd) : FnOk P w K.K mg base (L2.CX P w) (k + 1) a fd ["hand", "many"] (SpD K sp__law_draw) :=
  fn_ok F sc__law_draw n__law_draw (fun W => d__law_draw T  W) m__law_draw
theorem n__law_hand : ∀ ts Q R, sp__law_hand ts Q R → ts.length = 1 := by
  rintro ts Q R ⟨ns, rfl, hl, q⟩
  rfl
theorem ok__law_hand {k : Nat} (T : Tx K mg) {a : Addr} {fd : FuncData} (F : L2.Fun K.K (Str.ofString "_law_hand") (Str.ofString "_law_hand") (topS 22) a fd) : FnOk P w K.K mg base (L2.CX P w) (k + 1) a fd ["script"] (SpD K sp__law_hand) :=
  fn_ok F sc__law_hand n__law_hand (fun W => d__law_hand T  W) m__law_hand
theorem n__law_is : ∀ r ts Q R, sp__law_is (r + 1) ts Q R → ts.length = 2 := by
  rintro r ts Q R (⟨a, b, rfl, hr, hal, q⟩ | ⟨a, b, rfl, q⟩ | ⟨a, b, rfl, q⟩) <;> rfl
theorem ok__law_is {k r : Nat} (T : Tx K mg) {a : Addr} {fd : FuncData} (F : L2.Fun K.K (Str.ofString "_law_is") (Str.ofString "_law_is") (topS 24) a fd) (h__law_is : Df P w K mg base k (Str.ofString "_law_is") (sp__law_is r)) : FnOk P w K.K mg base (L2.CX P w) (k + 1) a fd ["told", "due"] (SpD K (sp__law_is (r + 1))) :=
  fn_ok F sc__law_is (n__law_is r) (fun W => d__law_is T h__law_is W) (m__law_is r)
theorem n__law_shuffled : ∀ ts Q R, sp__law_shuffled ts Q R → ts.length = 2 := by
  rintro ts Q R ⟨hs, ds, rfl, h, hl, q⟩
  rfl
theorem ok__law_shuffled {k : Nat} (T : Tx K mg) {a : Addr} {fd : FuncData} (F : L2.Fun K.K (Str.ofString "_law_shuffled") (Str.ofString "_law_shuffled") (topS 27) a fd) (h__law_draw : Df P w K mg base k (Str.ofString "_law_draw") sp__law_draw) : FnOk P w K.K mg base (L2.CX P w) (k + 1) a fd ["hand", "things"] (SpD K sp__law_shuffled) :=
  fn_ok F sc__law_shuffled n__law_shuffled (fun W => d__law_shuffled T h__law_draw W) m__law_shuffled
theorem n__law_ordered : ∀ ts Q R, sp__law_ordered ts Q R → ts.length = 4 := by
  rintro ts Q R ⟨hs, n, many, far, rfl, h, hn1, hn2, hm2, hf1, hf2, q⟩
  rfl
theorem ok__law_ordered {k : Nat} (T : Tx K mg) {a : Addr} {fd : FuncData} (F : L2.Fun K.K (Str.ofString "_law_ordered") (Str.ofString "_law_ordered") (topS 28) a fd) (h__law_draw : Df P w K mg base k (Str.ofString "_law_draw") sp__law_draw) (h__law_shuffled : Df P w K mg base k (Str.ofString "_law_shuffled") sp__law_shuffled) : FnOk P w K.K mg base (L2.CX P w) (k + 1) a fd ["hand", "places", "many", "far"] (SpD K sp__law_ordered) :=
  fn_ok F sc__law_ordered n__law_ordered (fun W => d__law_ordered T h__law_draw h__law_shuffled W) m__law_ordered
theorem n_is_way_in : ∀ ts Q R, sp_is_way_in ts Q R → ts.length = 2 := by
  rintro ts Q R ⟨_, n, ar, d, rfl, ⟨c, ord, reach, hc, rfl, w⟩, hd, q⟩
  rfl
theorem ok_is_way_in {k : Nat} (T : Tx K mg) {a : Addr} {fd : FuncData} (F : L2.Fun K.K (Str.ofString "is_way_in") (Str.ofString "is_way_in") (topS 14) a fd) (h_is_integer : Df P w K mg base k (Str.ofString "is_integer") sp_is_integer) : FnOk P w K.K mg base (L2.CX P w) (k + 1) a fd ["web", "thing"] (SpD K sp_is_way_in) :=
  fn_ok F sc_is_way_in n_is_way_in (fun W => d_is_way_in T h_is_integer W) m_is_way_in
theorem n_is_way : ∀ ts Q R, sp_is_way ts Q R → ts.length = 2 := by
  rintro ts Q R ⟨w, n, ar, d, rfl, hw, hd, q⟩
  rfl
theorem ok_is_way {k : Nat} (T : Tx K mg) {a : Addr} {fd : FuncData} (F : L2.Fun K.K (Str.ofString "is_way") (Str.ofString "is_way") (topS 16) a fd) (h_is_way_in : Df P w K mg base k (Str.ofString "is_way_in") sp_is_way_in) : FnOk P w K.K mg base (L2.CX P w) (k + 1) a fd ["web", "thing"] (SpD K sp_is_way) :=
  fn_ok F sc_is_way n_is_way (fun W => d_is_way T h_is_way_in W) m_is_way
theorem n_check_way : ∀ ts Q R, sp_check_way ts Q R → ts.length = 2 := by
  rintro ts Q R ⟨w, n, ar, d, rfl, hw, hd, hd2, q⟩
  rfl
theorem ok_check_way {k : Nat} (T : Tx K mg) {a : Addr} {fd : FuncData} (F : L2.Fun K.K (Str.ofString "check_way") (Str.ofString "check_way") (topS 15) a fd) (h_is_way_in : Df P w K mg base k (Str.ofString "is_way_in") sp_is_way_in) : FnOk P w K.K mg base (L2.CX P w) (k + 1) a fd ["web", "thing"] (SpD K sp_check_way) :=
  fn_ok F sc_check_way n_check_way (fun W => d_check_way T h_is_way_in W) m_check_way
theorem n_passed_by : ∀ ts Q R, sp_passed_by ts Q R → ts.length = 2 := by
  rintro ts Q R ⟨_, n, ar, p, rfl, ⟨c, ord, reach, hc, rfl, w⟩, hp, q⟩
  rfl
theorem ok_passed_by {k : Nat} (T : Tx K mg) {a : Addr} {fd : FuncData} (F : L2.Fun K.K (Str.ofString "passed_by") (Str.ofString "passed_by") (topS 19) a fd) : FnOk P w K.K mg base (L2.CX P w) (k + 1) a fd ["web", "way"] (SpD K sp_passed_by) :=
  fn_ok F sc_passed_by n_passed_by (fun W => d_passed_by T  W) m_passed_by
theorem n_passed : ∀ ts Q R, sp_passed ts Q R → ts.length = 2 := by
  rintro ts Q R ⟨w, n, ar, p, rfl, hw, hp, q⟩
  rfl
theorem ok_passed {k : Nat} (T : Tx K mg) {a : Addr} {fd : FuncData} (F : L2.Fun K.K (Str.ofString "passed") (Str.ofString "passed") (topS 20) a fd) (h_check_way : Df P w K mg base k (Str.ofString "check_way") sp_check_way) (h_passed_by : Df P w K mg base k (Str.ofString "passed_by") sp_passed_by) : FnOk P w K.K mg base (L2.CX P w) (k + 1) a fd ["web", "way"] (SpD K sp_passed) :=
  fn_ok F sc_passed n_passed (fun W => d_passed T h_check_way h_passed_by W) m_passed
theorem n__law_pairs_right : ∀ ts Q R, sp__law_pairs_right ts Q R → ts.length = 3 := by
  rintro ts Q R ⟨hs, w, n, ar, rfl, h, hw, h1, q⟩
  rfl
theorem ok__law_pairs_right {k : Nat} (T : Tx K mg) {a : Addr} {fd : FuncData} (F : L2.Fun K.K (Str.ofString "_law_pairs_right") (Str.ofString "_law_pairs_right") (topS 34) a fd) (h__law_is : Df P w K mg base k (Str.ofString "_law_is") spt__law_is) (h_is_way : Df P w K mg base k (Str.ofString "is_way") sp_is_way) (h_passed : Df P w K mg base k (Str.ofString "passed") sp_passed) : FnOk P w K.K mg base (L2.CX P w) (k + 1) a fd ["hand", "web", "arrows"] (SpD K sp__law_pairs_right) :=
  fn_ok F sc__law_pairs_right n__law_pairs_right (fun W => d__law_pairs_right T h__law_is h_is_way h_passed W) m__law_pairs_right
theorem n__law_places : ∀ ts Q R, sp__law_places ts Q R → ts.length = 2 := by
  rintro ts Q R ⟨ar, p, rfl, hp, q⟩
  rfl
theorem ok__law_places {k : Nat} (T : Tx K mg) {a : Addr} {fd : FuncData} (F : L2.Fun K.K (Str.ofString "_law_places") (Str.ofString "_law_places") (topS 30) a fd) : FnOk P w K.K mg base (L2.CX P w) (k + 1) a fd ["arrows", "way"] (SpD K sp__law_places) :=
  fn_ok F sc__law_places n__law_places (fun W => d__law_places T  W) m__law_places
theorem n__law_walk : ∀ ts Q R, sp__law_walk ts Q R → ts.length = 3 := by
  rintro ts Q R ⟨hs, ar, most, rfl, h, ha0, ha1, hm0, hm1, q⟩
  rfl
theorem ok__law_walk {k : Nat} (T : Tx K mg) {a : Addr} {fd : FuncData} (F : L2.Fun K.K (Str.ofString "_law_walk") (Str.ofString "_law_walk") (topS 31) a fd) (h__law_draw : Df P w K mg base k (Str.ofString "_law_draw") sp__law_draw) : FnOk P w K.K mg base (L2.CX P w) (k + 1) a fd ["hand", "arrows", "most"] (SpD K sp__law_walk) :=
  fn_ok F sc__law_walk n__law_walk (fun W => d__law_walk T h__law_draw W) m__law_walk
theorem n__law_whole : ∀ ts Q R, sp__law_whole ts Q R → ts.length = 3 := by
  rintro ts Q R ⟨d, lo, hi, rfl, h, q⟩
  rfl
theorem ok__law_whole {k : Nat} (T : Tx K mg) {a : Addr} {fd : FuncData} (F : L2.Fun K.K (Str.ofString "_law_whole") (Str.ofString "_law_whole") (topS 26) a fd) : FnOk P w K.K mg base (L2.CX P w) (k + 1) a fd ["thing", "least", "most"] (SpD K sp__law_whole) :=
  fn_ok F sc__law_whole n__law_whole (fun W => d__law_whole T  W) m__law_whole
theorem n__law_is_way : ∀ ts Q R, sp__law_is_way ts Q R → ts.length = 2 := by
  rintro ts Q R ⟨ar, d, rfl, hd, har, q⟩
  rfl
theorem ok__law_is_way {k : Nat} (T : Tx K mg) {a : Addr} {fd : FuncData} (F : L2.Fun K.K (Str.ofString "_law_is_way") (Str.ofString "_law_is_way") (topS 29) a fd) (h__law_whole : Df P w K mg base k (Str.ofString "_law_whole") sp__law_whole) : FnOk P w K.K mg base (L2.CX P w) (k + 1) a fd ["arrows", "thing"] (SpD K sp__law_is_way) :=
  fn_ok F sc__law_is_way n__law_is_way (fun W => d__law_is_way T h__law_whole W) m__law_is_way
theorem n__law_deep : ∀ ts Q R, sp__law_deep ts Q R → ts.length = 1 := by
  rintro ts Q R ⟨hs, rfl, h, q⟩
  rfl
theorem ok__law_deep {k : Nat} (T : Tx K mg) {a : Addr} {fd : FuncData} (F : L2.Fun K.K (Str.ofString "_law_deep") (Str.ofString "_law_deep") (topS 25) a fd) (h__law_draw : Df P w K mg base k (Str.ofString "_law_draw") sp__law_draw) : FnOk P w K.K mg base (L2.CX P w) (k + 1) a fd ["hand"] (SpD K sp__law_deep) :=
  fn_ok F sc__law_deep n__law_deep (fun W => d__law_deep T h__law_draw W) m__law_deep
theorem n__law_spoiled : ∀ ts Q R, sp__law_spoiled ts Q R → ts.length = 3 := by
  rintro ts Q R ⟨hs0, ar, p, rfl, h, ha0, ha1, hp, q⟩
  rfl
theorem ok__law_spoiled {k : Nat} (T : Tx K mg) {a : Addr} {fd : FuncData} (F : L2.Fun K.K (Str.ofString "_law_spoiled") (Str.ofString "_law_spoiled") (topS 32) a fd) (h__law_deep : Df P w K mg base k (Str.ofString "_law_deep") sp__law_deep) (h__law_draw : Df P w K mg base k (Str.ofString "_law_draw") sp__law_draw) : FnOk P w K.K mg base (L2.CX P w) (k + 1) a fd ["hand", "arrows", "way"] (SpD K sp__law_spoiled) :=
  fn_ok F sc__law_spoiled n__law_spoiled (fun W => d__law_spoiled T h__law_deep h__law_draw W) m__law_spoiled
theorem n_ends_of : ∀ ts Q R, sp_ends_of ts Q R → ts.length = 2 := by
  rintro ts Q R ⟨_, n, ar, p, rfl, ⟨c, ord, reach, hc, rfl, w⟩, hp, q⟩
  rfl
theorem ok_ends_of {k : Nat} (T : Tx K mg) {a : Addr} {fd : FuncData} (F : L2.Fun K.K (Str.ofString "ends_of") (Str.ofString "ends_of") (topS 17) a fd) : FnOk P w K.K mg base (L2.CX P w) (k + 1) a fd ["web", "way"] (SpD K sp_ends_of) :=
  fn_ok F sc_ends_of n_ends_of (fun W => d_ends_of T  W) m_ends_of
theorem n_ends : ∀ ts Q R, sp_ends ts Q R → ts.length = 2 := by
  rintro ts Q R ⟨w, n, ar, p, rfl, hw, hp, q⟩
  rfl
theorem ok_ends {k : Nat} (T : Tx K mg) {a : Addr} {fd : FuncData} (F : L2.Fun K.K (Str.ofString "ends") (Str.ofString "ends") (topS 18) a fd) (h_check_way : Df P w K mg base k (Str.ofString "check_way") sp_check_way) (h_ends_of : Df P w K mg base k (Str.ofString "ends_of") sp_ends_of) : FnOk P w K.K mg base (L2.CX P w) (k + 1) a fd ["web", "way"] (SpD K sp_ends) :=
  fn_ok F sc_ends n_ends (fun W => d_ends T h_check_way h_ends_of W) m_ends
theorem n__law_way_right : ∀ ts Q R, sp__law_way_right ts Q R → ts.length = 4 := by
  rintro ts Q R ⟨hs, w, n, ar, p, rfl, h, hw, h0, h1, hp, q⟩
  rfl
theorem ok__law_way_right {k : Nat} (T : Tx K mg) {a : Addr} {fd : FuncData} (F : L2.Fun K.K (Str.ofString "_law_way_right") (Str.ofString "_law_way_right") (topS 33) a fd) (h__law_draw : Df P w K mg base k (Str.ofString "_law_draw") sp__law_draw) (h__law_is : Df P w K mg base k (Str.ofString "_law_is") spt__law_is) (h__law_is_way : Df P w K mg base k (Str.ofString "_law_is_way") sp__law_is_way) (h__law_places : Df P w K mg base k (Str.ofString "_law_places") sp__law_places) (h__law_spoiled : Df P w K mg base k (Str.ofString "_law_spoiled") sp__law_spoiled) (h_ends : Df P w K mg base k (Str.ofString "ends") sp_ends) (h_is_way : Df P w K mg base k (Str.ofString "is_way") sp_is_way) (h_passed : Df P w K mg base k (Str.ofString "passed") sp_passed) : FnOk P w K.K mg base (L2.CX P w) (k + 1) a fd ["hand", "web", "arrows", "way"] (SpD K sp__law_way_right) :=
  fn_ok F sc__law_way_right n__law_way_right (fun W => d__law_way_right T h__law_draw h__law_is h__law_is_way h__law_places h__law_spoiled h_ends h_is_way h_passed W) m__law_way_right
theorem n_law : ∀ ts Q R, sp_law ts Q R → ts.length = 1 := by
  rintro ts Q R ⟨ns, rfl, hl, q⟩
  rfl
theorem ok_law {k : Nat} (T : Tx K mg) {a : Addr} {fd : FuncData} (F : L2.Fun K.K (Str.ofString "law") (Str.ofString "law") (topS 35) a fd) (h_Web : DfC P w K mg base k 200 (Str.ofString "Web") sp_Web_init) (h__law_draw : Df P w K mg base k (Str.ofString "_law_draw") sp__law_draw) (h__law_hand : Df P w K mg base k (Str.ofString "_law_hand") sp__law_hand) (h__law_is : Df P w K mg base k (Str.ofString "_law_is") spt__law_is) (h__law_ordered : Df P w K mg base k (Str.ofString "_law_ordered") sp__law_ordered) (h__law_pairs_right : Df P w K mg base k (Str.ofString "_law_pairs_right") sp__law_pairs_right) (h__law_places : Df P w K mg base k (Str.ofString "_law_places") sp__law_places) (h__law_walk : Df P w K mg base k (Str.ofString "_law_walk") sp__law_walk) (h__law_way_right : Df P w K mg base k (Str.ofString "_law_way_right") sp__law_way_right) (h_is_way : Df P w K mg base k (Str.ofString "is_way") sp_is_way) (h_passed : Df P w K mg base k (Str.ofString "passed") sp_passed) : FnOk P w K.K mg base (L2.CX P w) (k + 1) a fd ["script"] (SpD K sp_law) :=
  fn_ok F sc_law n_law (fun W => d_law T h_Web h__law_draw h__law_hand h__law_is h__law_ordered h__law_pairs_right h__law_places h__law_walk h__law_way_right h_is_way h_passed W) m_law
end
theorem all_mk {l : PySem.W.OpenLaw} {w : World} {K : Fg} {h : Heap} {mg : Str → Option Value} {fa : Addr} {CWeb : Addr} {f0 : Addr} {od0 an0 : Option Addr} {sl0 : Array (Option Value)} {oc0 kV0 dc0 pm0 cd0 ct0 : Value} {f1 : Addr} {od1 an1 : Option Addr} {sl1 : Array (Option Value)} {oc1 kV1 dc1 pm1 cd1 ct1 : Value} {f2 : Addr} {od2 an2 : Option Addr} {sl2 : Array (Option Value)} {oc2 kV2 dc2 pm2 cd2 ct2 : Value} {f3 : Addr} {od3 an3 : Option Addr} {sl3 : Array (Option Value)} {oc3 kV3 dc3 pm3 cd3 ct3 : Value} {f4 : Addr} {od4 an4 : Option Addr} {sl4 : Array (Option Value)} {oc4 kV4 dc4 pm4 cd4 ct4 : Value} {f5 : Addr} {od5 an5 : Option Addr} {sl5 : Array (Option Value)} {oc5 kV5 dc5 pm5 cd5 ct5 : Value} {f6 : Addr} {od6 an6 : Option Addr} {sl6 : Array (Option Value)} {oc6 kV6 dc6 pm6 cd6 ct6 : Value} {f7 : Addr} {od7 an7 : Option Addr} {sl7 : Array (Option Value)} {oc7 kV7 dc7 pm7 cd7 ct7 : Value} {f8 : Addr} {od8 an8 : Option Addr} {sl8 : Array (Option Value)} {oc8 kV8 dc8 pm8 cd8 ct8 : Value} {f9 : Addr} {od9 an9 : Option Addr} {sl9 : Array (Option Value)} {oc9 kV9 dc9 pm9 cd9 ct9 : Value} {f10 : Addr} {od10 an10 : Option Addr} {sl10 : Array (Option Value)} {oc10 kV10 dc10 pm10 cd10 ct10 : Value} {f11 : Addr} {od11 an11 : Option Addr} {sl11 : Array (Option Value)} {oc11 kV11 dc11 pm11 cd11 ct11 : Value} {f12 : Addr} {od12 an12 : Option Addr} {sl12 : Array (Option Value)} {oc12 kV12 dc12 pm12 cd12 ct12 : Value} {f13 : Addr} {od13 an13 : Option Addr} {sl13 : Array (Option Value)} {oc13 kV13 dc13 pm13 cd13 ct13 : Value} {f14 : Addr} {od14 an14 : Option Addr} {sl14 : Array (Option Value)} {oc14 kV14 dc14 pm14 cd14 ct14 : Value} {f15 : Addr} {od15 an15 : Option Addr} {sl15 : Array (Option Value)} {oc15 kV15 dc15 pm15 cd15 ct15 : Value} {f16 : Addr} {od16 an16 : Option Addr} {sl16 : Array (Option Value)} {oc16 kV16 dc16 pm16 cd16 ct16 : Value} {f17 : Addr} {od17 an17 : Option Addr} {sl17 : Array (Option Value)} {oc17 kV17 dc17 pm17 cd17 ct17 : Value} {f18 : Addr} {od18 an18 : Option Addr} {sl18 : Array (Option Value)} {oc18 kV18 dc18 pm18 cd18 ct18 : Value} {f19 : Addr} {od19 an19 : Option Addr} {sl19 : Array (Option Value)} {oc19 kV19 dc19 pm19 cd19 ct19 : Value} {f20 : Addr} {od20 an20 : Option Addr} {sl20 : Array (Option Value)} {oc20 kV20 dc20 pm20 cd20 ct20 : Value} {f21 : Addr} {od21 an21 : Option Addr} {sl21 : Array (Option Value)} {oc21 kV21 dc21 pm21 cd21 ct21 : Value} {f22 : Addr} {od22 an22 : Option Addr} {sl22 : Array (Option Value)} {oc22 kV22 dc22 pm22 cd22 ct22 : Value} {f23 : Addr} {od23 an23 : Option Addr} {sl23 : Array (Option Value)} {oc23 kV23 dc23 pm23 cd23 ct23 : Value} {f24 : Addr} {od24 an24 : Option Addr} {sl24 : Array (Option Value)} {oc24 kV24 dc24 pm24 cd24 ct24 : Value} {f25 : Addr} {od25 an25 : Option Addr} {sl25 : Array (Option Value)} {oc25 kV25 dc25 pm25 cd25 ct25 : Value} {f26 : Addr} {od26 an26 : Option Addr} {sl26 : Array (Option Value)} {oc26 kV26 dc26 pm26 cd26 ct26 : Value} {f27 : Addr} {od27 an27 : Option Addr} {sl27 : Array (Option Value)} {oc27 kV27 dc27 pm27 cd27 ct27 : Value} {t_MOST_ARROWS : Tok} {t_MOST_PLACES : Tok} (X : K.In h) (G : h.Ns mainGlobals mg) (hfa : mg "law" = some (.ref fa))
    (aC_Web : PySem.W.nsIn K mainGlobals "Web" = some (some (.ref CWeb)))
    (pg_Web : PySem.W.plainGet K CWeb Str.empty = true)
    (hd_Web : PySem.W.hasDictIn K CWeb = true)
    (po_Web : PySem.W.plainOver K CWeb = true)
    (sa_Web : PySem.W.findIn K (.ref CWeb) "__setattr__" = some (some (.builtin "object.__setattr__")))
    (mk_Web : PySem.W.makesIn K CWeb = true)
    (kc_Web : PySem.W.keepIn K (.ref CWeb) = true)
    (nf_Web_arrows : PySem.W.findIn K (.ref CWeb) "arrows" = some none)
    (nf_Web_ins : PySem.W.findIn K (.ref CWeb) "ins" = some none)
    (nf_Web_order : PySem.W.findIn K (.ref CWeb) "order" = some none)
    (nf_Web_outs : PySem.W.findIn K (.ref CWeb) "outs" = some none)
    (nf_Web_places : PySem.W.findIn K (.ref CWeb) "places" = some none)
    (nf_Web_reach : PySem.W.findIn K (.ref CWeb) "reach" = some none)
    (a0 : PySem.W.nsIn K mainGlobals "order_of" = some (some (.ref f0)))
    (l0 : K.lookup f0 = some ⟨oc0, od0, .func (PySem.W.fnOf "order_of" "order_of" (defArgs (topS 12)) (defBody (topS 12)) (defScope (topS 12)) .none kV0 dc0 pm0 an0 cd0 ct0), sl0⟩)
    (c0 : PySem.W.codeIn K cd0 "order_of" = true)
    (k0 : PySem.W.keepIn K (.ref f0) = true)
    (a1 : PySem.W.findIn K (.ref CWeb) "keep" = some (some (.ref f1)))
    (i1 : PySem.W.isFn K (.ref f1) = true)
    (l1 : K.lookup f1 = some ⟨oc1, od1, .func (PySem.W.fnOf "keep" "Web.keep" (defArgs (inClass (topS 13) 1)) (defBody (inClass (topS 13) 1)) (defScope (inClass (topS 13) 1)) .none kV1 dc1 pm1 an1 cd1 ct1), sl1⟩)
    (c1 : PySem.W.codeIn K cd1 "Web.keep" = true)
    (k1 : PySem.W.keepIn K (.ref f1) = true)
    (a2 : PySem.W.nsIn K mainGlobals "is_pair" = some (some (.ref f2)))
    (l2 : K.lookup f2 = some ⟨oc2, od2, .func (PySem.W.fnOf "is_pair" "is_pair" (defArgs (topS 7)) (defBody (topS 7)) (defScope (topS 7)) .none kV2 dc2 pm2 an2 cd2 ct2), sl2⟩)
    (c2 : PySem.W.codeIn K cd2 "is_pair" = true)
    (k2 : PySem.W.keepIn K (.ref f2) = true)
    (a3 : PySem.W.nsIn K mainGlobals "is_integer" = some (some (.ref f3)))
    (l3 : K.lookup f3 = some ⟨oc3, od3, .func (PySem.W.fnOf "is_integer" "is_integer" (defArgs (topS 5)) (defBody (topS 5)) (defScope (topS 5)) .none kV3 dc3 pm3 an3 cd3 ct3), sl3⟩)
    (c3 : PySem.W.codeIn K cd3 "is_integer" = true)
    (k3 : PySem.W.keepIn K (.ref f3) = true)
    (a4 : PySem.W.nsIn K mainGlobals "is_within" = some (some (.ref f4)))
    (l4 : K.lookup f4 = some ⟨oc4, od4, .func (PySem.W.fnOf "is_within" "is_within" (defArgs (topS 6)) (defBody (topS 6)) (defScope (topS 6)) .none kV4 dc4 pm4 an4 cd4 ct4), sl4⟩)
    (c4 : PySem.W.codeIn K cd4 "is_within" = true)
    (k4 : PySem.W.keepIn K (.ref f4) = true)
    (a5 : PySem.W.nsIn K mainGlobals "is_arrow_of" = some (some (.ref f5)))
    (l5 : K.lookup f5 = some ⟨oc5, od5, .func (PySem.W.fnOf "is_arrow_of" "is_arrow_of" (defArgs (topS 11)) (defBody (topS 11)) (defScope (topS 11)) .none kV5 dc5 pm5 an5 cd5 ct5), sl5⟩)
    (c5 : PySem.W.codeIn K cd5 "is_arrow_of" = true)
    (k5 : PySem.W.keepIn K (.ref f5) = true)
    (a6 : PySem.W.findIn K (.ref CWeb) "__init__" = some (some (.ref f6)))
    (i6 : PySem.W.isFn K (.ref f6) = true)
    (l6 : K.lookup f6 = some ⟨oc6, od6, .func (PySem.W.fnOf "__init__" "Web.__init__" (defArgs (inClass (topS 13) 0)) (defBody (inClass (topS 13) 0)) (defScope (inClass (topS 13) 0)) .none kV6 dc6 pm6 an6 cd6 ct6), sl6⟩)
    (c6 : PySem.W.codeIn K cd6 "Web.__init__" = true)
    (k6 : PySem.W.keepIn K (.ref f6) = true)
    (a7 : PySem.W.nsIn K mainGlobals "_law_draw" = some (some (.ref f7)))
    (l7 : K.lookup f7 = some ⟨oc7, od7, .func (PySem.W.fnOf "_law_draw" "_law_draw" (defArgs (topS 23)) (defBody (topS 23)) (defScope (topS 23)) .none kV7 dc7 pm7 an7 cd7 ct7), sl7⟩)
    (c7 : PySem.W.codeIn K cd7 "_law_draw" = true)
    (k7 : PySem.W.keepIn K (.ref f7) = true)
    (a8 : PySem.W.nsIn K mainGlobals "_law_hand" = some (some (.ref f8)))
    (l8 : K.lookup f8 = some ⟨oc8, od8, .func (PySem.W.fnOf "_law_hand" "_law_hand" (defArgs (topS 22)) (defBody (topS 22)) (defScope (topS 22)) .none kV8 dc8 pm8 an8 cd8 ct8), sl8⟩)
    (c8 : PySem.W.codeIn K cd8 "_law_hand" = true)
    (k8 : PySem.W.keepIn K (.ref f8) = true)
    (a9 : PySem.W.nsIn K mainGlobals "_law_is" = some (some (.ref f9)))
    (l9 : K.lookup f9 = some ⟨oc9, od9, .func (PySem.W.fnOf "_law_is" "_law_is" (defArgs (topS 24)) (defBody (topS 24)) (defScope (topS 24)) .none kV9 dc9 pm9 an9 cd9 ct9), sl9⟩)
    (c9 : PySem.W.codeIn K cd9 "_law_is" = true)
    (k9 : PySem.W.keepIn K (.ref f9) = true)
    (a10 : PySem.W.nsIn K mainGlobals "_law_shuffled" = some (some (.ref f10)))
    (l10 : K.lookup f10 = some ⟨oc10, od10, .func (PySem.W.fnOf "_law_shuffled" "_law_shuffled" (defArgs (topS 27)) (defBody (topS 27)) (defScope (topS 27)) .none kV10 dc10 pm10 an10 cd10 ct10), sl10⟩)
    (c10 : PySem.W.codeIn K cd10 "_law_shuffled" = true)
    (k10 : PySem.W.keepIn K (.ref f10) = true)
    (a11 : PySem.W.nsIn K mainGlobals "_law_ordered" = some (some (.ref f11)))
    (l11 : K.lookup f11 = some ⟨oc11, od11, .func (PySem.W.fnOf "_law_ordered" "_law_ordered" (defArgs (topS 28)) (defBody (topS 28)) (defScope (topS 28)) .none kV11 dc11 pm11 an11 cd11 ct11), sl11⟩)
    (c11 : PySem.W.codeIn K cd11 "_law_ordered" = true)
    (k11 : PySem.W.keepIn K (.ref f11) = true)
    (a12 : PySem.W.nsIn K mainGlobals "is_way_in" = some (some (.ref f12)))
    (l12 : K.lookup f12 = some ⟨oc12, od12, .func (PySem.W.fnOf "is_way_in" "is_way_in" (defArgs (topS 14)) (defBody (topS 14)) (defScope (topS 14)) .none kV12 dc12 pm12 an12 cd12 ct12), sl12⟩)
    (c12 : PySem.W.codeIn K cd12 "is_way_in" = true)
    (k12 : PySem.W.keepIn K (.ref f12) = true)
    (a13 : PySem.W.nsIn K mainGlobals "is_way" = some (some (.ref f13)))
    (l13 : K.lookup f13 = some ⟨oc13, od13, .func (PySem.W.fnOf "is_way" "is_way" (defArgs (topS 16)) (defBody (topS 16)) (defScope (topS 16)) .none kV13 dc13 pm13 an13 cd13 ct13), sl13⟩)
    (c13 : PySem.W.codeIn K cd13 "is_way" = true)
    (k13 : PySem.W.keepIn K (.ref f13) = true)
    (a14 : PySem.W.nsIn K mainGlobals "check_way" = some (some (.ref f14)))
    (l14 : K.lookup f14 = some ⟨oc14, od14, .func (PySem.W.fnOf "check_way" "check_way" (defArgs (topS 15)) (defBody (topS 15)) (defScope (topS 15)) .none kV14 dc14 pm14 an14 cd14 ct14), sl14⟩)
    (c14 : PySem.W.codeIn K cd14 "check_way" = true)
    (k14 : PySem.W.keepIn K (.ref f14) = true)
    (a15 : PySem.W.nsIn K mainGlobals "passed_by" = some (some (.ref f15)))
    (l15 : K.lookup f15 = some ⟨oc15, od15, .func (PySem.W.fnOf "passed_by" "passed_by" (defArgs (topS 19)) (defBody (topS 19)) (defScope (topS 19)) .none kV15 dc15 pm15 an15 cd15 ct15), sl15⟩)
    (c15 : PySem.W.codeIn K cd15 "passed_by" = true)
    (k15 : PySem.W.keepIn K (.ref f15) = true)
    (a16 : PySem.W.nsIn K mainGlobals "passed" = some (some (.ref f16)))
    (l16 : K.lookup f16 = some ⟨oc16, od16, .func (PySem.W.fnOf "passed" "passed" (defArgs (topS 20)) (defBody (topS 20)) (defScope (topS 20)) .none kV16 dc16 pm16 an16 cd16 ct16), sl16⟩)
    (c16 : PySem.W.codeIn K cd16 "passed" = true)
    (k16 : PySem.W.keepIn K (.ref f16) = true)
    (a17 : PySem.W.nsIn K mainGlobals "_law_pairs_right" = some (some (.ref f17)))
    (l17 : K.lookup f17 = some ⟨oc17, od17, .func (PySem.W.fnOf "_law_pairs_right" "_law_pairs_right" (defArgs (topS 34)) (defBody (topS 34)) (defScope (topS 34)) .none kV17 dc17 pm17 an17 cd17 ct17), sl17⟩)
    (c17 : PySem.W.codeIn K cd17 "_law_pairs_right" = true)
    (k17 : PySem.W.keepIn K (.ref f17) = true)
    (a18 : PySem.W.nsIn K mainGlobals "_law_places" = some (some (.ref f18)))
    (l18 : K.lookup f18 = some ⟨oc18, od18, .func (PySem.W.fnOf "_law_places" "_law_places" (defArgs (topS 30)) (defBody (topS 30)) (defScope (topS 30)) .none kV18 dc18 pm18 an18 cd18 ct18), sl18⟩)
    (c18 : PySem.W.codeIn K cd18 "_law_places" = true)
    (k18 : PySem.W.keepIn K (.ref f18) = true)
    (a19 : PySem.W.nsIn K mainGlobals "_law_walk" = some (some (.ref f19)))
    (l19 : K.lookup f19 = some ⟨oc19, od19, .func (PySem.W.fnOf "_law_walk" "_law_walk" (defArgs (topS 31)) (defBody (topS 31)) (defScope (topS 31)) .none kV19 dc19 pm19 an19 cd19 ct19), sl19⟩)
    (c19 : PySem.W.codeIn K cd19 "_law_walk" = true)
    (k19 : PySem.W.keepIn K (.ref f19) = true)
    (a20 : PySem.W.nsIn K mainGlobals "_law_whole" = some (some (.ref f20)))
    (l20 : K.lookup f20 = some ⟨oc20, od20, .func (PySem.W.fnOf "_law_whole" "_law_whole" (defArgs (topS 26)) (defBody (topS 26)) (defScope (topS 26)) .none kV20 dc20 pm20 an20 cd20 ct20), sl20⟩)
    (c20 : PySem.W.codeIn K cd20 "_law_whole" = true)
    (k20 : PySem.W.keepIn K (.ref f20) = true)
    (a21 : PySem.W.nsIn K mainGlobals "_law_is_way" = some (some (.ref f21)))
    (l21 : K.lookup f21 = some ⟨oc21, od21, .func (PySem.W.fnOf "_law_is_way" "_law_is_way" (defArgs (topS 29)) (defBody (topS 29)) (defScope (topS 29)) .none kV21 dc21 pm21 an21 cd21 ct21), sl21⟩)
    (c21 : PySem.W.codeIn K cd21 "_law_is_way" = true)
    (k21 : PySem.W.keepIn K (.ref f21) = true)
    (a22 : PySem.W.nsIn K mainGlobals "_law_deep" = some (some (.ref f22)))
    (l22 : K.lookup f22 = some ⟨oc22, od22, .func (PySem.W.fnOf "_law_deep" "_law_deep" (defArgs (topS 25)) (defBody (topS 25)) (defScope (topS 25)) .none kV22 dc22 pm22 an22 cd22 ct22), sl22⟩)
    (c22 : PySem.W.codeIn K cd22 "_law_deep" = true)
    (k22 : PySem.W.keepIn K (.ref f22) = true)
    (a23 : PySem.W.nsIn K mainGlobals "_law_spoiled" = some (some (.ref f23)))
    (l23 : K.lookup f23 = some ⟨oc23, od23, .func (PySem.W.fnOf "_law_spoiled" "_law_spoiled" (defArgs (topS 32)) (defBody (topS 32)) (defScope (topS 32)) .none kV23 dc23 pm23 an23 cd23 ct23), sl23⟩)
    (c23 : PySem.W.codeIn K cd23 "_law_spoiled" = true)
    (k23 : PySem.W.keepIn K (.ref f23) = true)
    (a24 : PySem.W.nsIn K mainGlobals "ends_of" = some (some (.ref f24)))
    (l24 : K.lookup f24 = some ⟨oc24, od24, .func (PySem.W.fnOf "ends_of" "ends_of" (defArgs (topS 17)) (defBody (topS 17)) (defScope (topS 17)) .none kV24 dc24 pm24 an24 cd24 ct24), sl24⟩)
    (c24 : PySem.W.codeIn K cd24 "ends_of" = true)
    (k24 : PySem.W.keepIn K (.ref f24) = true)
    (a25 : PySem.W.nsIn K mainGlobals "ends" = some (some (.ref f25)))
    (l25 : K.lookup f25 = some ⟨oc25, od25, .func (PySem.W.fnOf "ends" "ends" (defArgs (topS 18)) (defBody (topS 18)) (defScope (topS 18)) .none kV25 dc25 pm25 an25 cd25 ct25), sl25⟩)
    (c25 : PySem.W.codeIn K cd25 "ends" = true)
    (k25 : PySem.W.keepIn K (.ref f25) = true)
    (a26 : PySem.W.nsIn K mainGlobals "_law_way_right" = some (some (.ref f26)))
    (l26 : K.lookup f26 = some ⟨oc26, od26, .func (PySem.W.fnOf "_law_way_right" "_law_way_right" (defArgs (topS 33)) (defBody (topS 33)) (defScope (topS 33)) .none kV26 dc26 pm26 an26 cd26 ct26), sl26⟩)
    (c26 : PySem.W.codeIn K cd26 "_law_way_right" = true)
    (k26 : PySem.W.keepIn K (.ref f26) = true)
    (a27 : PySem.W.nsIn K mainGlobals "law" = some (some (.ref f27)))
    (l27 : K.lookup f27 = some ⟨oc27, od27, .func (PySem.W.fnOf "law" "law" (defArgs (topS 35)) (defBody (topS 35)) (defScope (topS 35)) .none kV27 dc27 pm27 an27 cd27 ct27), sl27⟩)
    (c27 : PySem.W.codeIn K cd27 "law" = true)
    (k27 : PySem.W.keepIn K (.ref f27) = true)
    (z_abs : PySem.W.nsIn K mainGlobals "abs" = some none)
    (z_all : PySem.W.nsIn K mainGlobals "all" = some none)
    (z_bool : PySem.W.nsIn K mainGlobals "bool" = some none)
    (z_enumerate : PySem.W.nsIn K mainGlobals "enumerate" = some none)
    (z_int : PySem.W.nsIn K mainGlobals "int" = some none)
    (z_isinstance : PySem.W.nsIn K mainGlobals "isinstance" = some none)
    (z_len : PySem.W.nsIn K mainGlobals "len" = some none)
    (z_list : PySem.W.nsIn K mainGlobals "list" = some none)
    (z_max : PySem.W.nsIn K mainGlobals "max" = some none)
    (z_min : PySem.W.nsIn K mainGlobals "min" = some none)
    (z_range : PySem.W.nsIn K mainGlobals "range" = some none)
    (z_set : PySem.W.nsIn K mainGlobals "set" = some none)
    (z_str : PySem.W.nsIn K mainGlobals "str" = some none)
    (z_tuple : PySem.W.nsIn K mainGlobals "tuple" = some none)
    (z_zip : PySem.W.nsIn K mainGlobals "zip" = some none)
    (g_MOST_ARROWS : PySem.W.nsIn K mainGlobals "MOST_ARROWS" = some (some (.int 400 t_MOST_ARROWS)))
    (g_MOST_PLACES : PySem.W.nsIn K mainGlobals "MOST_PLACES" = some (some (.int 60 t_MOST_PLACES))) :
    ∃ fd : FuncData, (∀ (s : Shared) (v : Value), BindsTo s fd ⟨[v], []⟩ [("script", v)]) ∧ ∀ base : Heap, K.In base → base.Ns mainGlobals mg → FnOk l.prog w K mg base (L2.CX l.prog w) 6 fa fd ["script"] (spTop K) := by
  have e := hfa.symm.trans (PySem.W.mg_of X G a27)
  cases e
  have cls_Web : Cls (kc K CWeb).K ((kc K CWeb).cl 200) := ⟨pg_Web, hd_Web, po_Web, sa_Web⟩
  have T : Tx (kc K CWeb) mg := {
    m_abs := PySem.W.mg_none_of X G z_abs
    m_all := PySem.W.mg_none_of X G z_all
    m_bool := PySem.W.mg_none_of X G z_bool
    m_enumerate := PySem.W.mg_none_of X G z_enumerate
    m_int := PySem.W.mg_none_of X G z_int
    m_isinstance := PySem.W.mg_none_of X G z_isinstance
    m_len := PySem.W.mg_none_of X G z_len
    m_list := PySem.W.mg_none_of X G z_list
    m_max := PySem.W.mg_none_of X G z_max
    m_min := PySem.W.mg_none_of X G z_min
    m_range := PySem.W.mg_none_of X G z_range
    m_set := PySem.W.mg_none_of X G z_set
    m_str := PySem.W.mg_none_of X G z_str
    m_tuple := PySem.W.mg_none_of X G z_tuple
    m_zip := PySem.W.mg_none_of X G z_zip
    g_MOST_ARROWS := ⟨_, PySem.W.mg_of X G g_MOST_ARROWS⟩
    g_MOST_PLACES := ⟨_, PySem.W.mg_of X G g_MOST_PLACES⟩
    f_arrows := ⟨fun c hc => by
      simp only [pf_arrows, List.mem_cons, List.not_mem_nil, or_false] at hc
      subst hc
      exact cls_Web, fun c hc => by
      simp only [pf_arrows, List.mem_cons, List.not_mem_nil, or_false] at hc
      subst hc
      exact nf_Web_arrows⟩
    f_ins := ⟨fun c hc => by
      simp only [pf_ins, List.mem_cons, List.not_mem_nil, or_false] at hc
      subst hc
      exact cls_Web, fun c hc => by
      simp only [pf_ins, List.mem_cons, List.not_mem_nil, or_false] at hc
      subst hc
      exact nf_Web_ins⟩
    f_order := ⟨fun c hc => by
      simp only [pf_order, List.mem_cons, List.not_mem_nil, or_false] at hc
      subst hc
      exact cls_Web, fun c hc => by
      simp only [pf_order, List.mem_cons, List.not_mem_nil, or_false] at hc
      subst hc
      exact nf_Web_order⟩
    f_outs := ⟨fun c hc => by
      simp only [pf_outs, List.mem_cons, List.not_mem_nil, or_false] at hc
      subst hc
      exact cls_Web, fun c hc => by
      simp only [pf_outs, List.mem_cons, List.not_mem_nil, or_false] at hc
      subst hc
      exact nf_Web_outs⟩
    f_places := ⟨fun c hc => by
      simp only [pf_places, List.mem_cons, List.not_mem_nil, or_false] at hc
      subst hc
      exact cls_Web, fun c hc => by
      simp only [pf_places, List.mem_cons, List.not_mem_nil, or_false] at hc
      subst hc
      exact nf_Web_places⟩
    f_reach := ⟨fun c hc => by
      simp only [pf_reach, List.mem_cons, List.not_mem_nil, or_false] at hc
      subst hc
      exact cls_Web, fun c hc => by
      simp only [pf_reach, List.mem_cons, List.not_mem_nil, or_false] at hc
      subst hc
      exact nf_Web_reach⟩ }
  have F0 := fun_mk (st := (topS 12)) l0 c0 k0
  have b0 := F0.binds (ps := ["places", "arrows"]) fun _ _ _ _ _ _ us hl => match us, hl with | [_, _], _ => rfl
  have F1 := fun_mk (st := (inClass (topS 13) 1)) l1 c1 k1
  have b1 := F1.binds (ps := ["self", "places", "arrows"]) fun _ _ _ _ _ _ us hl => match us, hl with | [_, _, _], _ => rfl
  have F2 := fun_mk (st := (topS 7)) l2 c2 k2
  have b2 := F2.binds (ps := ["thing"]) fun _ _ _ _ _ _ us hl => match us, hl with | [_], _ => rfl
  have F3 := fun_mk (st := (topS 5)) l3 c3 k3
  have b3 := F3.binds (ps := ["thing"]) fun _ _ _ _ _ _ us hl => match us, hl with | [_], _ => rfl
  have F4 := fun_mk (st := (topS 6)) l4 c4 k4
  have b4 := F4.binds (ps := ["thing", "least", "most"]) fun _ _ _ _ _ _ us hl => match us, hl with | [_, _, _], _ => rfl
  have F5 := fun_mk (st := (topS 11)) l5 c5 k5
  have b5 := F5.binds (ps := ["places", "thing"]) fun _ _ _ _ _ _ us hl => match us, hl with | [_, _], _ => rfl
  have F6 := fun_mk (st := (inClass (topS 13) 0)) l6 c6 k6
  have b6 := F6.binds (ps := ["self", "places", "arrows"]) fun _ _ _ _ _ _ us hl => match us, hl with | [_, _, _], _ => rfl
  have F7 := fun_mk (st := (topS 23)) l7 c7 k7
  have b7 := F7.binds (ps := ["hand", "many"]) fun _ _ _ _ _ _ us hl => match us, hl with | [_, _], _ => rfl
  have F8 := fun_mk (st := (topS 22)) l8 c8 k8
  have b8 := F8.binds (ps := ["script"]) fun _ _ _ _ _ _ us hl => match us, hl with | [_], _ => rfl
  have F9 := fun_mk (st := (topS 24)) l9 c9 k9
  have b9 := F9.binds (ps := ["told", "due"]) fun _ _ _ _ _ _ us hl => match us, hl with | [_, _], _ => rfl
  have F10 := fun_mk (st := (topS 27)) l10 c10 k10
  have b10 := F10.binds (ps := ["hand", "things"]) fun _ _ _ _ _ _ us hl => match us, hl with | [_, _], _ => rfl
  have F11 := fun_mk (st := (topS 28)) l11 c11 k11
  have b11 := F11.binds (ps := ["hand", "places", "many", "far"]) fun _ _ _ _ _ _ us hl => match us, hl with | [_, _, _, _], _ => rfl
  have F12 := fun_mk (st := (topS 14)) l12 c12 k12
  have b12 := F12.binds (ps := ["web", "thing"]) fun _ _ _ _ _ _ us hl => match us, hl with | [_, _], _ => rfl
  have F13 := fun_mk (st := (topS 16)) l13 c13 k13
  have b13 := F13.binds (ps := ["web", "thing"]) fun _ _ _ _ _ _ us hl => match us, hl with | [_, _], _ => rfl
  have F14 := fun_mk (st := (topS 15)) l14 c14 k14
  have b14 := F14.binds (ps := ["web", "thing"]) fun _ _ _ _ _ _ us hl => match us, hl with | [_, _], _ => rfl
  have F15 := fun_mk (st := (topS 19)) l15 c15 k15
  have b15 := F15.binds (ps := ["web", "way"]) fun _ _ _ _ _ _ us hl => match us, hl with | [_, _], _ => rfl
  have F16 := fun_mk (st := (topS 20)) l16 c16 k16
  have b16 := F16.binds (ps := ["web", "way"]) fun _ _ _ _ _ _ us hl => match us, hl with | [_, _], _ => rfl
  have F17 := fun_mk (st := (topS 34)) l17 c17 k17
  have b17 := F17.binds (ps := ["hand", "web", "arrows"]) fun _ _ _ _ _ _ us hl => match us, hl with | [_, _, _], _ => rfl
  have F18 := fun_mk (st := (topS 30)) l18 c18 k18
  have b18 := F18.binds (ps := ["arrows", "way"]) fun _ _ _ _ _ _ us hl => match us, hl with | [_, _], _ => rfl
  have F19 := fun_mk (st := (topS 31)) l19 c19 k19
  have b19 := F19.binds (ps := ["hand", "arrows", "most"]) fun _ _ _ _ _ _ us hl => match us, hl with | [_, _, _], _ => rfl
  have F20 := fun_mk (st := (topS 26)) l20 c20 k20
  have b20 := F20.binds (ps := ["thing", "least", "most"]) fun _ _ _ _ _ _ us hl => match us, hl with | [_, _, _], _ => rfl
  have F21 := fun_mk (st := (topS 29)) l21 c21 k21
  have b21 := F21.binds (ps := ["arrows", "thing"]) fun _ _ _ _ _ _ us hl => match us, hl with | [_, _], _ => rfl
  have F22 := fun_mk (st := (topS 25)) l22 c22 k22
  have b22 := F22.binds (ps := ["hand"]) fun _ _ _ _ _ _ us hl => match us, hl with | [_], _ => rfl
  have F23 := fun_mk (st := (topS 32)) l23 c23 k23
  have b23 := F23.binds (ps := ["hand", "arrows", "way"]) fun _ _ _ _ _ _ us hl => match us, hl with | [_, _, _], _ => rfl
  have F24 := fun_mk (st := (topS 17)) l24 c24 k24
  have b24 := F24.binds (ps := ["web", "way"]) fun _ _ _ _ _ _ us hl => match us, hl with | [_, _], _ => rfl
  have F25 := fun_mk (st := (topS 18)) l25 c25 k25
  have b25 := F25.binds (ps := ["web", "way"]) fun _ _ _ _ _ _ us hl => match us, hl with | [_, _], _ => rfl
  have F26 := fun_mk (st := (topS 33)) l26 c26 k26
  have b26 := F26.binds (ps := ["hand", "web", "arrows", "way"]) fun _ _ _ _ _ _ us hl => match us, hl with | [_, _, _, _], _ => rfl
  have F27 := fun_mk (st := (topS 35)) l27 c27 k27
  have b27 := F27.binds (ps := ["script"]) fun _ _ _ _ _ _ us hl => match us, hl with | [_], _ => rfl
  refine ⟨PySem.W.fnOf "law" "law" (defArgs (topS 35)) (defBody (topS 35)) (defScope (topS 35)) .none kV27 dc27 pm27 an27 cd27 ct27, fun s v => .of_eq rfl, fun base _ _ => ?_⟩
  have G_order_of := ok_order_of (P := l.prog) (w := w) (K := (kc K CWeb)) (base := base) (k := 0) T F0 
  have D_order_of : Df l.prog w (kc K CWeb) mg base 1 "order_of" sp_order_of := ⟨⟨_, _, _, _, Nat.le_refl _, G_order_of, PySem.W.mg_of X G a0, k0, b0⟩⟩
  have G_Web_keep := ok_Web_keep (P := l.prog) (w := w) (K := (kc K CWeb)) (base := base) (k := 1) T F1 (D_order_of.mono (by decide))
  have D_Web_keep : DfM l.prog w (kc K CWeb) mg base 2 200 "keep" sp_Web_keep := ⟨⟨_, _, _, _, Nat.le_refl _, G_Web_keep, cls_Web, ⟨a1, i1, k1⟩, b1⟩⟩
  have G_is_pair := ok_is_pair (P := l.prog) (w := w) (K := (kc K CWeb)) (base := base) (k := 0) T F2 
  have D_is_pair : Df l.prog w (kc K CWeb) mg base 1 "is_pair" sp_is_pair := ⟨⟨_, _, _, _, Nat.le_refl _, G_is_pair, PySem.W.mg_of X G a2, k2, b2⟩⟩
  have G_is_integer := ok_is_integer (P := l.prog) (w := w) (K := (kc K CWeb)) (base := base) (k := 0) T F3 
  have D_is_integer : Df l.prog w (kc K CWeb) mg base 1 "is_integer" sp_is_integer := ⟨⟨_, _, _, _, Nat.le_refl _, G_is_integer, PySem.W.mg_of X G a3, k3, b3⟩⟩
  have G_is_within := ok_is_within (P := l.prog) (w := w) (K := (kc K CWeb)) (base := base) (k := 1) T F4 (D_is_integer.mono (by decide))
  have D_is_within : Df l.prog w (kc K CWeb) mg base 2 "is_within" sp_is_within := ⟨⟨_, _, _, _, Nat.le_refl _, G_is_within, PySem.W.mg_of X G a4, k4, b4⟩⟩
  have G_is_arrow_of := ok_is_arrow_of (P := l.prog) (w := w) (K := (kc K CWeb)) (base := base) (k := 2) T F5 (D_is_pair.mono (by decide)) (D_is_within.mono (by decide))
  have D_is_arrow_of : Df l.prog w (kc K CWeb) mg base 3 "is_arrow_of" sp_is_arrow_of := ⟨⟨_, _, _, _, Nat.le_refl _, G_is_arrow_of, PySem.W.mg_of X G a5, k5, b5⟩⟩
  have G_Web_init := ok_Web_init (P := l.prog) (w := w) (K := (kc K CWeb)) (base := base) (k := 3) T F6 (D_Web_keep.mono (by decide)) (D_is_arrow_of.mono (by decide)) (D_is_within.mono (by decide)) (D_order_of.mono (by decide))
  have DC_Web : DfC l.prog w (kc K CWeb) mg base 5 200 "Web" sp_Web_init := ⟨⟨_, _, _, _, Nat.le_refl _, G_Web_init, ⟨mk_Web, a6, i6, kc_Web⟩, PySem.W.mg_of X G aC_Web, b6⟩⟩
  have G__law_draw := ok__law_draw (P := l.prog) (w := w) (K := (kc K CWeb)) (base := base) (k := 0) T F7 
  have D__law_draw : Df l.prog w (kc K CWeb) mg base 1 "_law_draw" sp__law_draw := ⟨⟨_, _, _, _, Nat.le_refl _, G__law_draw, PySem.W.mg_of X G a7, k7, b7⟩⟩
  have G__law_hand := ok__law_hand (P := l.prog) (w := w) (K := (kc K CWeb)) (base := base) (k := 0) T F8 
  have D__law_hand : Df l.prog w (kc K CWeb) mg base 1 "_law_hand" sp__law_hand := ⟨⟨_, _, _, _, Nat.le_refl _, G__law_hand, PySem.W.mg_of X G a8, k8, b8⟩⟩
  have D__law_is_0 : Df l.prog w (kc K CWeb) mg base 0 "_law_is" (sp__law_is 0) := ⟨⟨0, _, _, _, Nat.le_refl _, fn_none, PySem.W.mg_of X G a9, k9, b9⟩⟩
  have G__law_is_1 := ok__law_is (P := l.prog) (w := w) (K := (kc K CWeb)) (base := base) (k := 0) (r := 0) T F9 (D__law_is_0.mono (by decide))
  have D__law_is_1 : Df l.prog w (kc K CWeb) mg base 1 "_law_is" (sp__law_is 1) := ⟨⟨_, _, _, _, Nat.le_refl _, G__law_is_1, PySem.W.mg_of X G a9, k9, b9⟩⟩
  have G__law_is_2 := ok__law_is (P := l.prog) (w := w) (K := (kc K CWeb)) (base := base) (k := 1) (r := 1) T F9 (D__law_is_1.mono (by decide))
  have D__law_is_2 : Df l.prog w (kc K CWeb) mg base 2 "_law_is" (sp__law_is 2) := ⟨⟨_, _, _, _, Nat.le_refl _, G__law_is_2, PySem.W.mg_of X G a9, k9, b9⟩⟩
  have D__law_is : Df l.prog w (kc K CWeb) mg base 2 "_law_is" spt__law_is := D__law_is_2
  have G__law_shuffled := ok__law_shuffled (P := l.prog) (w := w) (K := (kc K CWeb)) (base := base) (k := 1) T F10 (D__law_draw.mono (by decide))
  have D__law_shuffled : Df l.prog w (kc K CWeb) mg base 2 "_law_shuffled" sp__law_shuffled := ⟨⟨_, _, _, _, Nat.le_refl _, G__law_shuffled, PySem.W.mg_of X G a10, k10, b10⟩⟩
  have G__law_ordered := ok__law_ordered (P := l.prog) (w := w) (K := (kc K CWeb)) (base := base) (k := 2) T F11 (D__law_draw.mono (by decide)) (D__law_shuffled.mono (by decide))
  have D__law_ordered : Df l.prog w (kc K CWeb) mg base 3 "_law_ordered" sp__law_ordered := ⟨⟨_, _, _, _, Nat.le_refl _, G__law_ordered, PySem.W.mg_of X G a11, k11, b11⟩⟩
  have G_is_way_in := ok_is_way_in (P := l.prog) (w := w) (K := (kc K CWeb)) (base := base) (k := 1) T F12 (D_is_integer.mono (by decide))
  have D_is_way_in : Df l.prog w (kc K CWeb) mg base 2 "is_way_in" sp_is_way_in := ⟨⟨_, _, _, _, Nat.le_refl _, G_is_way_in, PySem.W.mg_of X G a12, k12, b12⟩⟩
  have G_is_way := ok_is_way (P := l.prog) (w := w) (K := (kc K CWeb)) (base := base) (k := 2) T F13 (D_is_way_in.mono (by decide))
  have D_is_way : Df l.prog w (kc K CWeb) mg base 3 "is_way" sp_is_way := ⟨⟨_, _, _, _, Nat.le_refl _, G_is_way, PySem.W.mg_of X G a13, k13, b13⟩⟩
  have G_check_way := ok_check_way (P := l.prog) (w := w) (K := (kc K CWeb)) (base := base) (k := 2) T F14 (D_is_way_in.mono (by decide))
  have D_check_way : Df l.prog w (kc K CWeb) mg base 3 "check_way" sp_check_way := ⟨⟨_, _, _, _, Nat.le_refl _, G_check_way, PySem.W.mg_of X G a14, k14, b14⟩⟩
  have G_passed_by := ok_passed_by (P := l.prog) (w := w) (K := (kc K CWeb)) (base := base) (k := 0) T F15 
  have D_passed_by : Df l.prog w (kc K CWeb) mg base 1 "passed_by" sp_passed_by := ⟨⟨_, _, _, _, Nat.le_refl _, G_passed_by, PySem.W.mg_of X G a15, k15, b15⟩⟩
  have G_passed := ok_passed (P := l.prog) (w := w) (K := (kc K CWeb)) (base := base) (k := 3) T F16 (D_check_way.mono (by decide)) (D_passed_by.mono (by decide))
  have D_passed : Df l.prog w (kc K CWeb) mg base 4 "passed" sp_passed := ⟨⟨_, _, _, _, Nat.le_refl _, G_passed, PySem.W.mg_of X G a16, k16, b16⟩⟩
  have G__law_pairs_right := ok__law_pairs_right (P := l.prog) (w := w) (K := (kc K CWeb)) (base := base) (k := 4) T F17 (D__law_is.mono (by decide)) (D_is_way.mono (by decide)) (D_passed.mono (by decide))
  have D__law_pairs_right : Df l.prog w (kc K CWeb) mg base 5 "_law_pairs_right" sp__law_pairs_right := ⟨⟨_, _, _, _, Nat.le_refl _, G__law_pairs_right, PySem.W.mg_of X G a17, k17, b17⟩⟩
  have G__law_places := ok__law_places (P := l.prog) (w := w) (K := (kc K CWeb)) (base := base) (k := 0) T F18 
  have D__law_places : Df l.prog w (kc K CWeb) mg base 1 "_law_places" sp__law_places := ⟨⟨_, _, _, _, Nat.le_refl _, G__law_places, PySem.W.mg_of X G a18, k18, b18⟩⟩
  have G__law_walk := ok__law_walk (P := l.prog) (w := w) (K := (kc K CWeb)) (base := base) (k := 1) T F19 (D__law_draw.mono (by decide))
  have D__law_walk : Df l.prog w (kc K CWeb) mg base 2 "_law_walk" sp__law_walk := ⟨⟨_, _, _, _, Nat.le_refl _, G__law_walk, PySem.W.mg_of X G a19, k19, b19⟩⟩
  have G__law_whole := ok__law_whole (P := l.prog) (w := w) (K := (kc K CWeb)) (base := base) (k := 0) T F20 
  have D__law_whole : Df l.prog w (kc K CWeb) mg base 1 "_law_whole" sp__law_whole := ⟨⟨_, _, _, _, Nat.le_refl _, G__law_whole, PySem.W.mg_of X G a20, k20, b20⟩⟩
  have G__law_is_way := ok__law_is_way (P := l.prog) (w := w) (K := (kc K CWeb)) (base := base) (k := 1) T F21 (D__law_whole.mono (by decide))
  have D__law_is_way : Df l.prog w (kc K CWeb) mg base 2 "_law_is_way" sp__law_is_way := ⟨⟨_, _, _, _, Nat.le_refl _, G__law_is_way, PySem.W.mg_of X G a21, k21, b21⟩⟩
  have G__law_deep := ok__law_deep (P := l.prog) (w := w) (K := (kc K CWeb)) (base := base) (k := 1) T F22 (D__law_draw.mono (by decide))
  have D__law_deep : Df l.prog w (kc K CWeb) mg base 2 "_law_deep" sp__law_deep := ⟨⟨_, _, _, _, Nat.le_refl _, G__law_deep, PySem.W.mg_of X G a22, k22, b22⟩⟩
  have G__law_spoiled := ok__law_spoiled (P := l.prog) (w := w) (K := (kc K CWeb)) (base := base) (k := 2) T F23 (D__law_deep.mono (by decide)) (D__law_draw.mono (by decide))
  have D__law_spoiled : Df l.prog w (kc K CWeb) mg base 3 "_law_spoiled" sp__law_spoiled := ⟨⟨_, _, _, _, Nat.le_refl _, G__law_spoiled, PySem.W.mg_of X G a23, k23, b23⟩⟩
  have G_ends_of := ok_ends_of (P := l.prog) (w := w) (K := (kc K CWeb)) (base := base) (k := 0) T F24 
  have D_ends_of : Df l.prog w (kc K CWeb) mg base 1 "ends_of" sp_ends_of := ⟨⟨_, _, _, _, Nat.le_refl _, G_ends_of, PySem.W.mg_of X G a24, k24, b24⟩⟩
  have G_ends := ok_ends (P := l.prog) (w := w) (K := (kc K CWeb)) (base := base) (k := 3) T F25 (D_check_way.mono (by decide)) (D_ends_of.mono (by decide))
  have D_ends : Df l.prog w (kc K CWeb) mg base 4 "ends" sp_ends := ⟨⟨_, _, _, _, Nat.le_refl _, G_ends, PySem.W.mg_of X G a25, k25, b25⟩⟩
  have G__law_way_right := ok__law_way_right (P := l.prog) (w := w) (K := (kc K CWeb)) (base := base) (k := 4) T F26 (D__law_draw.mono (by decide)) (D__law_is.mono (by decide)) (D__law_is_way.mono (by decide)) (D__law_places.mono (by decide)) (D__law_spoiled.mono (by decide)) (D_ends.mono (by decide)) (D_is_way.mono (by decide)) (D_passed.mono (by decide))
  have D__law_way_right : Df l.prog w (kc K CWeb) mg base 5 "_law_way_right" sp__law_way_right := ⟨⟨_, _, _, _, Nat.le_refl _, G__law_way_right, PySem.W.mg_of X G a26, k26, b26⟩⟩
  have G_law := ok_law (P := l.prog) (w := w) (K := (kc K CWeb)) (base := base) (k := 5) T F27 (DC_Web.mono (by decide)) (D__law_draw.mono (by decide)) (D__law_hand.mono (by decide)) (D__law_is.mono (by decide)) (D__law_ordered.mono (by decide)) (D__law_pairs_right.mono (by decide)) (D__law_places.mono (by decide)) (D__law_walk.mono (by decide)) (D__law_way_right.mono (by decide)) (D_is_way.mono (by decide)) (D_passed.mono (by decide))
  exact G_law.imp fun vs H Q E q => spTop_ok q
theorem walk {l : PySem.W.OpenLaw} {q : Program} {loose : List Str} {XP : (Str → Option Value) → Heap → Prop} {YP : World → Heap → Prop} {d : DefRec} {K : Params → PySem.W.Frag} (hn : l.most = some 63) (hdf : d.params.defaults = [])
    (hY : ∀ (w : World) (h : Heap), YP w h → (K w.params).In h)
    (F : ∀ (w : World) (mg : Str → Option Value) (fa : Addr) (h : Heap), (K w.params).In h → h.Ns mainGlobals mg → mg d.name = some (.ref fa) →
      ∃ fd : FuncData, (∀ (s : Shared) (u : Value), BindsTo s fd ⟨[u], []⟩ [("script", u)]) ∧ ∀ base : Heap, (K w.params).In base → base.Ns mainGlobals mg → FnOk l.prog w (K w.params) mg base (L2.CX l.prog w) 6 fa fd ["script"] (spTop (K w.params))) :
    PySem.W.WalkO q loose XP YP l.row.toRowW d [] (fun f vs => PySem.call f vs) :=
  L2.walk_of (n := 63) (k := 6) (x := "script") (CX := fun w => L2.CX l.prog w) (sp := fun w => spTop (K w.params)) hn (by decide) hdf ⟨rfl, by decide, by decide⟩ hY F (fun _ _ a ns hl _ hS => ⟨a, ns, rfl, hS, hl, fun _ => rfl⟩) fun _ _ _ _ _ ⟨_, _, _, _, _, _, _, _, _, _, _, _, z⟩ => z
end EC
open PySem PySem.W PyProof.Rows in
set_option maxRecDepth 100000 in
set_option maxHeartbeats 0 in
theorem PySem.Challenge.cw_enoughchecks_k03_whole_ways_judged_and_p_holds : PySem.Challenge.rw_enoughchecks_k03_whole_ways_judged_and_p.Holds := by
  w_on; o_law; k_head; (case hw => w_witness2)
  k_fill
  refine EC.walk (l := PySem.Challenge.rw_enoughchecks_k03_whole_ways_judged_and_p) rfl rfl (fun w h Y => PySem.W.kIn_of Y) ?F
  case F =>
    intro w mg fa h KX G hmg
    refine' EC.all_mk KX G hmg ?aC_Web ?pg_Web ?hd_Web ?po_Web ?sa_Web ?mk_Web ?kc_Web ?nf_Web_arrows ?nf_Web_ins ?nf_Web_order ?nf_Web_outs ?nf_Web_places ?nf_Web_reach ?a0 ?l0 ?c0 ?k0 ?a1 ?i1 ?l1 ?c1 ?k1 ?a2 ?l2 ?c2 ?k2 ?a3 ?l3 ?c3 ?k3 ?a4 ?l4 ?c4 ?k4 ?a5 ?l5 ?c5 ?k5 ?a6 ?i6 ?l6 ?c6 ?k6 ?a7 ?l7 ?c7 ?k7 ?a8 ?l8 ?c8 ?k8 ?a9 ?l9 ?c9 ?k9 ?a10 ?l10 ?c10 ?k10 ?a11 ?l11 ?c11 ?k11 ?a12 ?l12 ?c12 ?k12 ?a13 ?l13 ?c13 ?k13 ?a14 ?l14 ?c14 ?k14 ?a15 ?l15 ?c15 ?k15 ?a16 ?l16 ?c16 ?k16 ?a17 ?l17 ?c17 ?k17 ?a18 ?l18 ?c18 ?k18 ?a19 ?l19 ?c19 ?k19 ?a20 ?l20 ?c20 ?k20 ?a21 ?l21 ?c21 ?k21 ?a22 ?l22 ?c22 ?k22 ?a23 ?l23 ?c23 ?k23 ?a24 ?l24 ?c24 ?k24 ?a25 ?l25 ?c25 ?k25 ?a26 ?l26 ?c26 ?k26 ?a27 ?l27 ?c27 ?k27 ?z_abs ?z_all ?z_bool ?z_enumerate ?z_int ?z_isinstance ?z_len ?z_list ?z_max ?z_min ?z_range ?z_set ?z_str ?z_tuple ?z_zip ?g_MOST_ARROWS ?g_MOST_PLACES
    (case aC_Web => k_is)
    (case pg_Web => k_is)
    (case hd_Web => k_is)
    (case po_Web => k_is)
    (case sa_Web => k_is)
    (case mk_Web => k_is)
    (case kc_Web => k_is)
    (case nf_Web_arrows => k_is)
    (case nf_Web_ins => k_is)
    (case nf_Web_order => k_is)
    (case nf_Web_outs => k_is)
    (case nf_Web_places => k_is)
    (case nf_Web_reach => k_is)
    (case a0 => k_is)
    (case l0 => k_is)
    (case c0 => k_is)
    (case k0 => k_is)
    (case a1 => k_is)
    (case i1 => k_is)
    (case l1 => k_is)
    (case c1 => k_is)
    (case k1 => k_is)
    (case a2 => k_is)
    (case l2 => k_is)
    (case c2 => k_is)
    (case k2 => k_is)
    (case a3 => k_is)
    (case l3 => k_is)
    (case c3 => k_is)
    (case k3 => k_is)
    (case a4 => k_is)
    (case l4 => k_is)
    (case c4 => k_is)
    (case k4 => k_is)
    (case a5 => k_is)
    (case l5 => k_is)
    (case c5 => k_is)
    (case k5 => k_is)
    (case a6 => k_is)
    (case i6 => k_is)
    (case l6 => k_is)
    (case c6 => k_is)
    (case k6 => k_is)
    (case a7 => k_is)
    (case l7 => k_is)
    (case c7 => k_is)
    (case k7 => k_is)
    (case a8 => k_is)
    (case l8 => k_is)
    (case c8 => k_is)
    (case k8 => k_is)
    (case a9 => k_is)
    (case l9 => k_is)
    (case c9 => k_is)
    (case k9 => k_is)
    (case a10 => k_is)
    (case l10 => k_is)
    (case c10 => k_is)
    (case k10 => k_is)
    (case a11 => k_is)
    (case l11 => k_is)
    (case c11 => k_is)
    (case k11 => k_is)
    (case a12 => k_is)
    (case l12 => k_is)
    (case c12 => k_is)
    (case k12 => k_is)
    (case a13 => k_is)
    (case l13 => k_is)
    (case c13 => k_is)
    (case k13 => k_is)
    (case a14 => k_is)
    (case l14 => k_is)
    (case c14 => k_is)
    (case k14 => k_is)
    (case a15 => k_is)
    (case l15 => k_is)
    (case c15 => k_is)
    (case k15 => k_is)
    (case a16 => k_is)
    (case l16 => k_is)
    (case c16 => k_is)
    (case k16 => k_is)
    (case a17 => k_is)
    (case l17 => k_is)
    (case c17 => k_is)
    (case k17 => k_is)
    (case a18 => k_is)
    (case l18 => k_is)
    (case c18 => k_is)
    (case k18 => k_is)
    (case a19 => k_is)
    (case l19 => k_is)
    (case c19 => k_is)
    (case k19 => k_is)
    (case a20 => k_is)
    (case l20 => k_is)
    (case c20 => k_is)
    (case k20 => k_is)
    (case a21 => k_is)
    (case l21 => k_is)
    (case c21 => k_is)
    (case k21 => k_is)
    (case a22 => k_is)
    (case l22 => k_is)
    (case c22 => k_is)
    (case k22 => k_is)
    (case a23 => k_is)
    (case l23 => k_is)
    (case c23 => k_is)
    (case k23 => k_is)
    (case a24 => k_is)
    (case l24 => k_is)
    (case c24 => k_is)
    (case k24 => k_is)
    (case a25 => k_is)
    (case l25 => k_is)
    (case c25 => k_is)
    (case k25 => k_is)
    (case a26 => k_is)
    (case l26 => k_is)
    (case c26 => k_is)
    (case k26 => k_is)
    (case a27 => k_is)
    (case l27 => k_is)
    (case c27 => k_is)
    (case k27 => k_is)
    (case z_abs => k_is)
    (case z_all => k_is)
    (case z_bool => k_is)
    (case z_enumerate => k_is)
    (case z_int => k_is)
    (case z_isinstance => k_is)
    (case z_len => k_is)
    (case z_list => k_is)
    (case z_max => k_is)
    (case z_min => k_is)
    (case z_range => k_is)
    (case z_set => k_is)
    (case z_str => k_is)
    (case z_tuple => k_is)
    (case z_zip => k_is)
    (case g_MOST_ARROWS => k_is)
    (case g_MOST_PLACES => k_is)
