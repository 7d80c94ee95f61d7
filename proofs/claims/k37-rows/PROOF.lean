import PyProof.Rows.All
import Wide.All
import OpenK.AllK
import Wide.FinOn
import HandS.ForMost
import HandS.IsInst
import HandS.Style
import HandS.TupAny
import HandS.Zip
import HandS.SortInts
import HandS.More
import HandS.Conv
import HandS.Wide
import HandS.Deep
import HandS.RaiseMore
import HandS.SortOrd
import HandS.Sort
import PySem.Challenge.RW_cutanywhere_k37_rows_of_a_size
set_option Elab.async false
set_option autoImplicit false
set_option maxRecDepth 100000
set_option maxHeartbeats 4000000
/-! D0: python values as plain data, what stands for them, the state of a def's frame, the judgements -/
namespace DL
open PySem L2

/-- a value as plain data -/
inductive D where
  | non | bl (b : Bool) | int (i : Int) | str (s : Str) | scr (ns : List Int)
  | list (ds : List D) | tup (ds : List D) | dict (kvs : List (Key × D)) | inst (c : String) (fs : List (Str × D))
  deriving Inhabited

mutual
inductive Rep (K : PySem.W.Frag) (cl : String → Option Addr) (G : Hp) : V → D → Prop
  | non : Rep K cl G .non .non
  | bl (b : Bool) : Rep K cl G (.bl b) (.bl b)
  | int (i : Int) : Rep K cl G (.int i) (.int i)
  | str (x : Str) : x.length ≤ sizeLine → Rep K cl G (.str x) (.str x)
  | scr {a : Addr} {ns : List Int} : SqL K G a (ns.map V.int) → ns.length ≤ sizeLine → Rep K cl G (.ref a) (.scr ns)
  | list {a : Addr} {xs : List V} {ds : List D} : G a = some (.lst xs) → xs.length ≤ sizeLine → Reps K cl G xs ds → Rep K cl G (.ref a) (.list ds)
  | tup {a : Addr} {xs : List V} {ds : List D} : SqT K G a xs → xs.length ≤ sizeLine → Reps K cl G xs ds → Rep K cl G (.ref a) (.tup ds)
  | dict {a : Addr} {kvs : List (Key × V)} {ks : List (Key × D)} : G a = some (.dK kvs) → kvs.length ≤ sizeLine → RepK K cl G kvs ks → Rep K cl G (.ref a) (.dict ks)
  | inst {a A dx : Addr} {c : String} {fs : List (Str × V)} {gs : List (Str × D)} : G a = some (.ins A dx fs) → cl c = some A → RepF K cl G fs gs → Rep K cl G (.ref a) (.inst c gs)
inductive Reps (K : PySem.W.Frag) (cl : String → Option Addr) (G : Hp) : List V → List D → Prop
  | nil : Reps K cl G [] []
  | cons {v : V} {d : D} {vs : List V} {ds : List D} : Rep K cl G v d → Reps K cl G vs ds → Reps K cl G (v :: vs) (d :: ds)
inductive RepK (K : PySem.W.Frag) (cl : String → Option Addr) (G : Hp) : List (Key × V) → List (Key × D) → Prop
  | nil : RepK K cl G [] []
  | cons {k : Key} {v : V} {d : D} {vs : List (Key × V)} {ds : List (Key × D)} : Rep K cl G v d → RepK K cl G vs ds → RepK K cl G ((k, v) :: vs) ((k, d) :: ds)
inductive RepF (K : PySem.W.Frag) (cl : String → Option Addr) (G : Hp) : List (Str × V) → List (Str × D) → Prop
  | nil : RepF K cl G [] []
  | cons {k : Str} {v : V} {d : D} {vs : List (Str × V)} {ds : List (Str × D)} : Rep K cl G v d → RepF K cl G vs ds → RepF K cl G ((k, v) :: vs) ((k, d) :: ds)
end

theorem sameT {K : PySem.W.Frag} {H H' : Hp} {a : Addr} {xs : List V} (e : Same H H') (h : SqT K H a xs) : SqT K H' a xs := by
  rcases h with (h | ⟨o, h⟩) | h
  · exact .inl (.inl (e _ _ h))
  · exact .inl (.inr ⟨o, e _ _ h⟩)
  · exact .inr h

section
variable {K : PySem.W.Frag} {cl : String → Option Addr} {G G' : Hp}
mutual
theorem Rep.mono (e : Same G G') : ∀ {v : V} {d : D}, Rep K cl G v d → Rep K cl G' v d
  | _, _, .non => .non
  | _, _, .bl b => .bl b
  | _, _, .int i => .int i
  | _, _, .str x h => .str x h
  | _, _, .scr h l => .scr (e.seq h) l
  | _, _, .list h l r => .list (e _ _ h) l (Reps.mono e r)
  | _, _, .tup h l r => .tup (sameT e h) l (Reps.mono e r)
  | _, _, .dict h l r => .dict (e _ _ h) l (RepK.mono e r)
  | _, _, .inst h c r => .inst (e _ _ h) c (RepF.mono e r)
theorem Reps.mono (e : Same G G') : ∀ {vs : List V} {ds : List D}, Reps K cl G vs ds → Reps K cl G' vs ds
  | _, _, .nil => .nil
  | _, _, .cons h r => .cons (Rep.mono e h) (Reps.mono e r)
theorem RepK.mono (e : Same G G') : ∀ {vs : List (Key × V)} {ds : List (Key × D)}, RepK K cl G vs ds → RepK K cl G' vs ds
  | _, _, .nil => .nil
  | _, _, .cons h r => .cons (Rep.mono e h) (RepK.mono e r)
theorem RepF.mono (e : Same G G') : ∀ {vs : List (Str × V)} {ds : List (Str × D)}, RepF K cl G vs ds → RepF K cl G' vs ds
  | _, _, .nil => .nil
  | _, _, .cons h r => .cons (Rep.mono e h) (RepF.mono e r)
end
theorem Reps.length : ∀ {vs : List V} {ds : List D}, Reps K cl G vs ds → vs.length = ds.length
  | _, _, .nil => rfl
  | _, _, .cons _ r => by simp [Reps.length r]
theorem RepK.length : ∀ {vs : List (Key × V)} {ds : List (Key × D)}, RepK K cl G vs ds → vs.length = ds.length
  | _, _, .nil => rfl
  | _, _, .cons _ r => by simp [RepK.length r]
theorem Reps.get : ∀ {vs : List V} {ds : List D} {i : Nat} {d : D}, Reps K cl G vs ds → ds[i]? = some d → ∃ v, vs[i]? = some v ∧ Rep K cl G v d
  | _, _, _, _, .nil, h => by simp at h
  | _, _, 0, _, .cons h _, e => by simp at e; subst e; exact ⟨_, rfl, h⟩
  | _, _, i + 1, _, .cons _ r, e => by
    obtain ⟨v, h1, h2⟩ := Reps.get (i := i) r (by simpa using e)
    exact ⟨v, by simpa using h1, h2⟩
theorem Reps.append : ∀ {vs ws : List V} {ds es : List D}, Reps K cl G vs ds → Reps K cl G ws es → Reps K cl G (vs ++ ws) (ds ++ es)
  | _, _, _, _, .nil, s => s
  | _, _, _, _, .cons h r, s => .cons h (Reps.append r s)
theorem Reps.take : ∀ {vs : List V} {ds : List D} (n : Nat), Reps K cl G vs ds → Reps K cl G (vs.take n) (ds.take n)
  | _, _, 0, _ => .nil
  | _, _, _ + 1, .nil => .nil
  | _, _, n + 1, .cons h r => .cons h (Reps.take n r)
theorem Reps.drop : ∀ {vs : List V} {ds : List D} (n : Nat), Reps K cl G vs ds → Reps K cl G (vs.drop n) (ds.drop n)
  | _, _, 0, r => r
  | _, _, _ + 1, .nil => .nil
  | _, _, n + 1, .cons _ r => Reps.drop n r
theorem Reps.set : ∀ {vs : List V} {ds : List D} (n : Nat) {v : V} {d : D}, Rep K cl G v d → Reps K cl G vs ds → Reps K cl G (vs.set n v) (ds.set n d)
  | _, _, _, _, _, _, .nil => .nil
  | _, _, 0, _, _, h, .cons _ r => .cons h r
  | _, _, n + 1, _, _, h, .cons k r => .cons k (Reps.set n h r)
theorem Reps.reverse {vs : List V} {ds : List D} (h : Reps K cl G vs ds) : Reps K cl G vs.reverse ds.reverse := by
  have go : ∀ {vs : List V} {ds : List D} {ws : List V} {es : List D}, Reps K cl G vs ds → Reps K cl G ws es → Reps K cl G (vs.reverseAux ws) (ds.reverseAux es) := by
    intro vs
    induction vs with
    | nil => intro ds ws es h s; cases h; exact s
    | cons v vs ih => intro ds ws es h s; cases h with | cons h1 h2 => have q := ih h2 (Reps.cons h1 s); exact q
  exact go h .nil
theorem Reps.ints : ∀ (ns : List Int), Reps K cl G (ns.map V.int) (ns.map D.int)
  | [] => .nil
  | n :: ns => .cons (.int n) (Reps.ints ns)
theorem Reps.strs : ∀ (ns : List Str), (∀ x ∈ ns, x.length ≤ sizeLine) → Reps K cl G (ns.map V.str) (ns.map D.str)
  | [], _ => .nil
  | n :: ns, h => .cons (.str n (h n (by simp))) (Reps.strs ns fun x hx => h x (by simp [hx]))
end

/-- the value's own object read from H, what it holds in G -/
inductive Top (K : PySem.W.Frag) (cl : String → Option Addr) (G H : Hp) : V → D → Prop
  | non : Top K cl G H .non .non
  | bl (b : Bool) : Top K cl G H (.bl b) (.bl b)
  | int (i : Int) : Top K cl G H (.int i) (.int i)
  | str (x : Str) : x.length ≤ sizeLine → Top K cl G H (.str x) (.str x)
  | scr {a : Addr} {ns : List Int} : SqL K G a (ns.map V.int) → ns.length ≤ sizeLine → Top K cl G H (.ref a) (.scr ns)
  | list {a : Addr} {xs : List V} {ds : List D} : H a = some (.lst xs) → xs.length ≤ sizeLine → Reps K cl G xs ds → Top K cl G H (.ref a) (.list ds)
  | tup {a : Addr} {xs : List V} {ds : List D} : SqT K G a xs → xs.length ≤ sizeLine → Reps K cl G xs ds → Top K cl G H (.ref a) (.tup ds)
  | dict {a : Addr} {kvs : List (Key × V)} {ks : List (Key × D)} : H a = some (.dK kvs) → kvs.length ≤ sizeLine → RepK K cl G kvs ks → Top K cl G H (.ref a) (.dict ks)
  | inst {a A dx : Addr} {c : String} {fs : List (Str × V)} {gs : List (Str × D)} : H a = some (.ins A dx fs) → cl c = some A → RepF K cl G fs gs → Top K cl G H (.ref a) (.inst c gs)

section
variable {K : PySem.W.Frag} {cl : String → Option Addr} {G G' H H' : Hp} {v : V} {d : D}
theorem Rep.top (e : Same G H) (h : Rep K cl G v d) : Top K cl G H v d := by
  cases h with
  | non => exact .non
  | bl b => exact .bl b
  | int i => exact .int i
  | str x h => exact .str x h
  | scr h l => exact .scr h l
  | list h l r => exact .list (e _ _ h) l r
  | tup h l r => exact .tup h l r
  | dict h l r => exact .dict (e _ _ h) l r
  | inst h c r => exact .inst (e _ _ h) c r
theorem Top.rep (e : Same G H) (h : Top K cl G H v d) : Rep K cl H v d := by
  cases h with
  | non => exact .non
  | bl b => exact .bl b
  | int i => exact .int i
  | str x h => exact .str x h
  | scr h l => exact .scr (e.seq h) l
  | list h l r => exact .list h l (r.mono e)
  | tup h l r => exact .tup (sameT e h) l (r.mono e)
  | dict h l r => exact .dict h l (r.mono e)
  | inst h c r => exact .inst h c (r.mono e)
theorem Top.mono (e : Same G G') (f : Same H H') (h : Top K cl G H v d) : Top K cl G' H' v d := by
  cases h with
  | non => exact .non
  | bl b => exact .bl b
  | int i => exact .int i
  | str x h => exact .str x h
  | scr h l => exact .scr (e.seq h) l
  | list h l r => exact .list (f _ _ h) l (r.mono e)
  | tup h l r => exact .tup (sameT e h) l (r.mono e)
  | dict h l r => exact .dict (f _ _ h) l (r.mono e)
  | inst h c r => exact .inst (f _ _ h) c (r.mono e)
end

/-- a value whose object may be changed in place -/
def D.mut : D → Bool
  | .list _ => true
  | .dict _ => true
  | .inst _ _ => true
  | _ => false
def OwnAt (K : PySem.W.Frag) (cl : String → Option Addr) (G H : Hp) (a : Addr) (d : D) : Prop := d.mut = true ∧ Top K cl G H (.ref a) d
section
variable {K : PySem.W.Frag} {cl : String → Option Addr} {G G' H H' : Hp} {a : Addr} {d : D}
theorem OwnAt.there (h : OwnAt K cl G H a d) : ∃ o, H a = some o := by
  obtain ⟨m, h⟩ := h
  cases h with
  | list h _ _ => exact ⟨_, h⟩
  | dict h _ _ => exact ⟨_, h⟩
  | inst h _ _ => exact ⟨_, h⟩
  | scr _ _ => cases m
  | tup _ _ _ => cases m
/-- its object alone is asked -/
theorem OwnAt.at (e : Same G G') (f : H' a = H a) (h : OwnAt K cl G H a d) : OwnAt K cl G' H' a d := by
  obtain ⟨m, h⟩ := h
  refine ⟨m, ?_⟩
  cases h with
  | list h l r => exact .list (f.trans h) l (r.mono e)
  | dict h l r => exact .dict (f.trans h) l (r.mono e)
  | inst h l r => exact .inst (f.trans h) l (r.mono e)
  | scr _ _ => cases m
  | tup _ _ _ => cases m
/-- its object made known -/
theorem OwnAt.rep {o : HO} (e : Same G G') (ho : H a = some o) (ha : G' a = some o) (h : OwnAt K cl G H a d) : Rep K cl G' (.ref a) d := by
  obtain ⟨m, h⟩ := h
  cases h with
  | list h l r => rw [ho] at h; cases h; exact .list ha l (r.mono e)
  | dict h l r => rw [ho] at h; cases h; exact .dict ha l (r.mono e)
  | inst h l r => rw [ho] at h; cases h; exact .inst ha l (r.mono e)
  | scr _ _ => cases m
  | tup _ _ _ => cases m
end

/-- a name's place: nothing, a value that nobody changes, an object of its own (none: made here; some j: the j-th one lent by the caller) -/
inductive Sl where
  | emp | val (d : D) | own (w : Option Nat) (d : D) | lck (w : Option Nat) (d : D)
  deriving Inhabited
/-- the object of a place: lck while a loop walks it -/
def Sl.obj : Sl → Option (Option Nat × D)
  | .own w d => some (w, d)
  | .lck w d => some (w, d)
  | _ => none
/-- what is fixed through a def's body: what was known at the entry, the objects lent -/
structure Fm where
  G0 : Hp
  W : List Addr
def WOk (F : Fm) (a : Addr) : Option Nat → Prop
  | none => a ∉ F.W
  | some j => F.W[j]? = some a

/-- what others hold: objects that nobody changes meanwhile; of locked places the address -/
structure Th where
  h : Hp
  l : Nat → Option Addr
structure EOk (K : PySem.W.Frag) (cl : String → Option Addr) (F : Fm) (T : Th) (G H : Hp) (σ : L2.St) (ρ : List Sl) : Prop where
  len : σ.length = ρ.length
  val : ∀ (i : Nat) (d : D), ρ[i]? = some (.val d) → ∃ v, σ[i]? = some (some v) ∧ Rep K cl G v d
  own : ∀ (i : Nat) (w : Option Nat) (d : D), ρ[i]? = some (.own w d) → ∃ a, σ[i]? = some (some (.ref a)) ∧ G a = none ∧ T.h a = none ∧ WOk F a w ∧ OwnAt K cl G H a d
  lck : ∀ (i : Nat) (w : Option Nat) (d : D), ρ[i]? = some (.lck w d) → ∃ a o, σ[i]? = some (some (.ref a)) ∧ G a = none ∧ (T.l i = some a ∧ T.h a = some o) ∧ WOk F a w ∧ OwnAt K cl G H a d
  sep : ∀ (i j : Nat) (a : Addr) (x y : Sl), ρ[i]? = some x → ρ[j]? = some y → x.obj ≠ none → y.obj ≠ none → σ[i]? = some (some (.ref a)) → σ[j]? = some (some (.ref a)) → i = j
  g0 : Same F.G0 G
  gt : ∀ b, G b ≠ none → F.G0 b ≠ none ∨ T.h b = none
  gh : Same G H
  th : Same T.h H
  wh : ∀ a ∈ F.W, H a ≠ none

/-- what an expression yields: a value, or the object of a name's place -/
inductive RV where
  | val (d : D) | ref (i : Nat)
  deriving Inhabited
def RvOk (K : PySem.W.Frag) (cl : String → Option Addr) (G : Hp) (σ : L2.St) (v : V) : RV → Prop
  | .val d => Rep K cl G v d
  | .ref i => σ[i]? = some (some v)
theorem RvOk.mono {K : PySem.W.Frag} {cl : String → Option Addr} {G G' : Hp} {σ : L2.St} {v : V} {r : RV} (e : Same G G') (h : RvOk K cl G σ v r) : RvOk K cl G' σ v r := by
  cases r with
  | val d => exact Rep.mono e h
  | ref i => exact h
inductive RvOks (K : PySem.W.Frag) (cl : String → Option Addr) (G : Hp) (σ : L2.St) : List V → List RV → Prop
  | nil : RvOks K cl G σ [] []
  | cons {v : V} {r : RV} {vs : List V} {rs : List RV} : RvOk K cl G σ v r → RvOks K cl G σ vs rs → RvOks K cl G σ (v :: vs) (r :: rs)
theorem RvOks.mono {K : PySem.W.Frag} {cl : String → Option Addr} {G G' : Hp} {σ : L2.St} (e : Same G G') : ∀ {vs : List V} {rs : List RV}, RvOks K cl G σ vs rs → RvOks K cl G' σ vs rs
  | _, _, .nil => .nil
  | _, _, .cons h r => .cons (h.mono e) (RvOks.mono e r)

/-- what it is now -/
def peek (ρ : List Sl) : RV → Option D
  | .val d => some d
  | .ref i => match ρ[i]? with
    | some (.own _ d) => some d
    | some (.lck _ d) => some d
    | some (.val d) => some d
    | _ => none
def peeks (ρ : List Sl) : List RV → Option (List D)
  | [] => some []
  | r :: rs => (peek ρ r).bind fun d => (peeks ρ rs).map fun ds => d :: ds
/-- it goes out as a value: an object of our own is not changed any more -/
def esc (ρ : List Sl) : RV → Option (D × List Sl)
  | .val d => some (d, ρ)
  | .ref i => match ρ[i]? with
    | some (.own none d) => some (d, ρ.set i (.val d))
    | some (.val d) => some (d, ρ)
    | _ => none
def escs (ρ : List Sl) : List RV → Option (List D × List Sl)
  | [] => some ([], ρ)
  | r :: rs => (esc ρ r).bind fun p => (escs p.2 rs).map fun q => (p.1 :: q.1, q.2)

section
variable {K : PySem.W.Frag} {cl : String → Option Addr} {F : Fm} {T : Th} {G G' H H' : Hp} {σ : L2.St} {ρ ρ' : List Sl} {v : V} {d : D} {r : RV}
theorem EOk.top (E : EOk K cl F T G H σ ρ) (h : RvOk K cl G σ v r) (p : peek ρ r = some d) : Top K cl G H v d := by
  cases r with
  | val e => simp only [peek, Option.some.injEq] at p; subst p; exact Rep.top E.gh h
  | ref i =>
    simp only [peek] at p
    have hv : σ[i]? = some (some v) := h
    split at p
    · rename_i w e q
      cases p
      obtain ⟨a, h1, _, _, _, h2⟩ := E.own i w d q
      rw [h1] at hv; cases hv
      exact h2.2
    · rename_i w e q
      cases p
      obtain ⟨a, o, h1, _, _, _, h2⟩ := E.lck i w d q
      rw [h1] at hv; cases hv
      exact h2.2
    · rename_i e q
      cases p
      obtain ⟨u, h1, h2⟩ := E.val i d q
      rw [h1] at hv; cases hv
      exact h2.top E.gh
    · cases p
theorem EOk.tops (E : EOk K cl F T G H σ ρ) : ∀ {vs : List V} {rs : List RV} {ds : List D}, RvOks K cl G σ vs rs → peeks ρ rs = some ds → Paired (Top K cl G H) vs ds
  | _, _, _, .nil, p => by simp only [peeks, Option.some.injEq] at p; subst p; exact .nil
  | _, _, _, .cons h r, p => by
    simp only [peeks, Option.bind_eq_some_iff, Option.map_eq_some_iff] at p
    obtain ⟨d, h1, ds, h2, e⟩ := p
    subst e
    exact .cons (E.top h h1) (E.tops r h2)
/-- the heap grows, nothing of ours is changed -/
structure Grow (G H G' H' : Hp) : Prop where
  gg : Same G G'
  hh : Same H H'
  gh : Same G' H'
  new : ∀ b, G' b ≠ none → G b ≠ none ∨ H b = none
theorem Grow.refl (e : Same G H) : Grow G H G H := ⟨Same.refl _, Same.refl _, e, fun _ h => .inl h⟩
theorem Grow.trans {G2 H2 : Hp} (a : Grow G H G' H') (b : Grow G' H' G2 H2) : Grow G H G2 H2 := ⟨a.gg.trans b.gg, a.hh.trans b.hh, b.gh, fun c h => by
  rcases b.new c h with q | q
  · exact a.new c q
  · exact .inr (a.hh.free q)⟩
theorem upd_same' {o : HO} {p : Addr} (hp : H p = none) : Same H (upd H p o) := fun b u q => by rw [upd_ne (ne_of_none q hp)]; exact q
/-- a new object laid at p -/
theorem Grow.new_at {o : HO} {p : Addr} (e : Same G H) (hp : H p = none) : Grow G H (upd G p o) (upd H p o) := by
  have gp : G p = none := e.free hp
  refine ⟨upd_same' gp, upd_same' hp, fun b u q => ?_, fun b h => ?_⟩
  · by_cases hb : b = p
    · subst hb; rw [upd_same] at q ⊢; exact q
    · rw [upd_ne hb] at q ⊢; exact e _ _ q
  · by_cases hb : b = p
    · subst hb; exact .inr hp
    · rw [upd_ne hb] at h; exact .inl h
theorem EOk.grow (E : EOk K cl F T G H σ ρ) (g : Grow G H G' H') : EOk K cl F T G' H' σ ρ := by
  have non : ∀ {a : Addr} {o : HO}, G a = none → H a = some o → G' a = none := fun {a o} h2 ho => by
    cases q : G' a with
    | none => rfl
    | some u =>
      rcases g.new a (by rw [q]; simp) with z | z
      · exact absurd h2 z
      · rw [ho] at z; cases z
  refine ⟨E.len, fun i d h => ?_, fun i w d h => ?_, fun i w d h => ?_, E.sep, E.g0.trans g.gg, fun b h => ?_, g.gh, E.th.trans g.hh, fun a ha => ?_⟩
  · obtain ⟨v, h1, h2⟩ := E.val i d h
    exact ⟨v, h1, h2.mono g.gg⟩
  · obtain ⟨a, h1, h2, h3, h4, h5⟩ := E.own i w d h
    obtain ⟨o, ho⟩ := h5.there
    exact ⟨a, h1, non h2 ho, h3, h4, h5.at g.gg ((g.hh _ _ ho).trans ho.symm)⟩
  · obtain ⟨a, o', h1, h2, h3, h4, h5⟩ := E.lck i w d h
    obtain ⟨o, ho⟩ := h5.there
    exact ⟨a, o', h1, non h2 ho, h3, h4, h5.at g.gg ((g.hh _ _ ho).trans ho.symm)⟩
  · rcases g.new b h with z | z
    · exact E.gt b z
    · exact .inr (E.th.free z)
  · intro z
    exact E.wh a ha (g.hh.free z)
/-- a value's object goes out -/
theorem EOk.esc (E : EOk K cl F T G H σ ρ) (h : RvOk K cl G σ v r) (p : DL.esc ρ r = some (d, ρ')) : ∃ G', Same G G' ∧ EOk K cl F T G' H σ ρ' ∧ Rep K cl G' v d := by
  cases r with
  | val e =>
    simp only [DL.esc, Option.some.injEq, Prod.mk.injEq] at p
    obtain ⟨rfl, rfl⟩ := p
    exact ⟨G, Same.refl _, E, h⟩
  | ref i =>
    have hv : σ[i]? = some (some v) := h
    simp only [DL.esc] at p
    split at p
    · rename_i e q
      simp only [Option.some.injEq, Prod.mk.injEq] at p
      obtain ⟨rfl, rfl⟩ := p
      obtain ⟨a, h1, h2, h3, h4, h5⟩ := E.own i none e q
      rw [h1] at hv; cases hv
      obtain ⟨o, ho⟩ := h5.there
      have gg : Same G (upd G a o) := upd_same' h2
      have hi : i < ρ.length := (List.getElem?_eq_some_iff.mp q).1
      refine ⟨upd G a o, gg, ⟨by simpa using E.len, fun j d' h' => ?_, fun j w d' h' => ?_, fun j w d' h' => ?_, fun j k b x y e1 e2 e3 e4 => ?_, E.g0.trans gg, fun b hb => ?_, fun b u hb => ?_, E.th, E.wh⟩, h5.rep gg ho upd_same⟩
      · by_cases hj : i = j
        · subst hj
          rw [List.getElem?_set_self hi] at h'; cases h'
          exact ⟨_, h1, h5.rep gg ho upd_same⟩
        · rw [List.getElem?_set_ne hj] at h'
          obtain ⟨u, k1, k2⟩ := E.val j d' h'
          exact ⟨u, k1, k2.mono gg⟩
      · by_cases hj : i = j
        · subst hj
          rw [List.getElem?_set_self hi] at h'; cases h'
        · rw [List.getElem?_set_ne hj] at h'
          obtain ⟨b, k1, k2, k3, k4, k5⟩ := E.own j w d' h'
          have hb : b ≠ a := fun z => by subst z; exact hj (E.sep i j b _ _ q h' (by simp [Sl.obj]) (by simp [Sl.obj]) h1 k1)
          exact ⟨b, k1, by rw [upd_ne hb]; exact k2, k3, k4, k5.at gg rfl⟩
      · by_cases hj : i = j
        · subst hj
          rw [List.getElem?_set_self hi] at h'; cases h'
        · rw [List.getElem?_set_ne hj] at h'
          obtain ⟨b, o', k1, k2, k3, k4, k5⟩ := E.lck j w d' h'
          have hb : b ≠ a := fun z => by subst z; rw [h3] at k3; cases k3.2
          exact ⟨b, o', k1, by rw [upd_ne hb]; exact k2, k3, k4, k5.at gg rfl⟩
      · by_cases hj : i = j
        · subst hj
          rw [List.getElem?_set_self hi] at e1; cases e1
          exact absurd rfl e3
        · by_cases hk : i = k
          · subst hk
            rw [List.getElem?_set_self hi] at e2; cases e2
            exact absurd rfl e4
          · rw [List.getElem?_set_ne hj] at e1
            rw [List.getElem?_set_ne hk] at e2
            exact E.sep j k b x y e1 e2 e3 e4
      · by_cases hb' : b = a
        · subst hb'; exact .inr h3
        · rw [upd_ne hb'] at hb; exact E.gt b hb
      · by_cases hb' : b = a
        · subst hb'; rw [upd_same] at hb; cases hb; exact ho
        · rw [upd_ne hb'] at hb; exact E.gh b u hb
    · rename_i e q
      simp only [Option.some.injEq, Prod.mk.injEq] at p
      obtain ⟨rfl, rfl⟩ := p
      obtain ⟨u, h1, h2⟩ := E.val i e q
      rw [h1] at hv; cases hv
      exact ⟨G, Same.refl _, E, h2⟩
    · cases p
theorem EOk.escs : ∀ {rs : List RV} {G : Hp} {ρ ρ' : List Sl} {vs : List V} {ds : List D}, EOk K cl F T G H σ ρ → RvOks K cl G σ vs rs → DL.escs ρ rs = some (ds, ρ') → ∃ G', Same G G' ∧ EOk K cl F T G' H σ ρ' ∧ Reps K cl G' vs ds
  | [], G, ρ, ρ', vs, ds, E, h, p => by
    simp only [DL.escs, Option.some.injEq, Prod.mk.injEq] at p
    obtain ⟨rfl, rfl⟩ := p
    cases h
    exact ⟨G, Same.refl _, E, .nil⟩
  | r :: rs, G, ρ, ρ', vs, ds, E, h, p => by
    simp only [DL.escs, Option.bind_eq_some_iff, Option.map_eq_some_iff, Prod.mk.injEq] at p
    obtain ⟨⟨d, ρ1⟩, h1, ⟨ds', ρ2⟩, h2, rfl, rfl⟩ := p
    cases h with
    | cons k1 k2 =>
      obtain ⟨G1, g1, E1, R1⟩ := E.esc k1 h1
      obtain ⟨G2, g2, E2, R2⟩ := EOk.escs E1 (k2.mono g1) h2
      exact ⟨G2, g1.trans g2, E2, .cons (R1.mono g2) R2⟩
/-- a place gets a value -/
theorem EOk.set {i : Nat} (E : EOk K cl F T G H σ ρ) (h : Rep K cl G v d) : EOk K cl F T G H (σ.set i (some v)) (ρ.set i (.val d)) := by
  by_cases hi : i < ρ.length
  · have hs : i < σ.length := by rw [E.len]; exact hi
    refine ⟨by simpa using E.len, fun j d' h' => ?_, fun j w d' h' => ?_, fun j w d' h' => ?_, fun j k b x y e1 e2 e3 e4 e5 e6 => ?_, E.g0, E.gt, E.gh, E.th, E.wh⟩
    · by_cases hj : i = j
      · subst hj
        rw [List.getElem?_set_self hi] at h'; cases h'
        exact ⟨v, List.getElem?_set_self hs, h⟩
      · rw [List.getElem?_set_ne hj] at h' ⊢
        exact E.val j d' h'
    · by_cases hj : i = j
      · subst hj
        rw [List.getElem?_set_self hi] at h'; cases h'
      · rw [List.getElem?_set_ne hj] at h' ⊢
        exact E.own j w d' h'
    · by_cases hj : i = j
      · subst hj
        rw [List.getElem?_set_self hi] at h'; cases h'
      · rw [List.getElem?_set_ne hj] at h' ⊢
        exact E.lck j w d' h'
    · by_cases hj : i = j
      · subst hj
        rw [List.getElem?_set_self hi] at e1; cases e1
        exact absurd rfl e3
      · by_cases hk : i = k
        · subst hk
          rw [List.getElem?_set_self hi] at e2; cases e2
          exact absurd rfl e4
        · rw [List.getElem?_set_ne hj] at e1 e5
          rw [List.getElem?_set_ne hk] at e2 e6
          exact E.sep j k b x y e1 e2 e3 e4 e5 e6
  · rw [List.set_eq_of_length_le (by rw [E.len]; omega), List.set_eq_of_length_le (by omega)]
    exact E
/-- places forgotten -/
theorem EOk.forget {σ' : L2.St} {ρ' : List Sl} (E : EOk K cl F T G H σ ρ) (hl : ρ'.length = ρ.length) (hs : σ'.length = σ.length) (h : ∀ (i : Nat) (x : Sl), ρ'[i]? = some x → x = .emp ∨ (ρ[i]? = some x ∧ σ'[i]? = σ[i]?)) : EOk K cl F T G H σ' ρ' := by
  refine ⟨by rw [hl, hs]; exact E.len, fun j d' h' => ?_, fun j w d' h' => ?_, fun j w d' h' => ?_, fun j k b x y e1 e2 e3 e4 e5 e6 => ?_, E.g0, E.gt, E.gh, E.th, E.wh⟩
  · rcases h j _ h' with z | ⟨z1, z2⟩
    · cases z
    · rw [z2]; exact E.val j d' z1
  · rcases h j _ h' with z | ⟨z1, z2⟩
    · cases z
    · rw [z2]; exact E.own j w d' z1
  · rcases h j _ h' with z | ⟨z1, z2⟩
    · cases z
    · rw [z2]; exact E.lck j w d' z1
  · rcases h j _ e1 with z | ⟨z1, z2⟩
    · subst z; exact absurd rfl e3
    · rcases h k _ e2 with z' | ⟨z3, z4⟩
      · subst z'; exact absurd rfl e4
      · rw [z2] at e5
        rw [z4] at e6
        exact E.sep j k b x y z1 z3 e3 e4 e5 e6
end
end DL

/-! D1: expressions, tests, arguments -/
namespace DL
open PySem L2

abbrev Ex := List Sl → Option (RV × List Sl)
abbrev Tx := List Sl → Option (Bool × List Sl)
abbrev Ax := List Sl → Option (List RV × List Sl)

section
variable (K : PySem.W.Frag) (cl : String → Option Addr)
def tD (m : Ex) : TE := fun σ H Q => ∃ F T G ρ r ρ', EOk K cl F T G H σ ρ ∧ m ρ = some (r, ρ') ∧
  ∀ v G' H', Same G G' → EOk K cl F T G' H' σ ρ' → RvOk K cl G' σ v r → Q v H'
def tDT (m : Tx) : TT := fun σ H Q => ∃ F T G ρ b ρ', EOk K cl F T G H σ ρ ∧ m ρ = some (b, ρ') ∧ ∀ G' H', Same G G' → EOk K cl F T G' H' σ ρ' → Q b H'
def tDA (m : Ax) : TA := fun σ H Q => ∃ F T G ρ rs ρ', EOk K cl F T G H σ ρ ∧ m ρ = some (rs, ρ') ∧
  ∀ vs G' H', Same G G' → EOk K cl F T G' H' σ ρ' → RvOks K cl G' σ vs rs → Q vs H'
end

section
variable {X : Cx} {cl : String → Option Addr}
theorem pe_imp {e : Expr} {t t' : TE} (h : PE X e t) (i : ∀ σ H Q, t' σ H Q → t σ H Q) : PE X e t' := ⟨fun pins s σ H Q I q => h.run pins s σ H Q I (i _ _ _ q)⟩
theorem pt_imp {e : Expr} {t t' : TT} (h : PT X e t) (i : ∀ σ H Q, t' σ H Q → t σ H Q) : PT X e t' := ⟨fun pins s σ H Q I q => h.run pins s σ H Q I (i _ _ _ q)⟩
theorem pw_imp {e : Expr} {t t' : TT} (h : PW X e t) (i : ∀ σ H Q, t' σ H Q → t σ H Q) : PW X e t' := ⟨fun wh pins s σ H Q I q => h.run wh pins s σ H Q I (i _ _ _ q)⟩
theorem pa_imp {es : List Expr} {t t' : TA} (h : PA X es t) (i : ∀ σ H Q, t' σ H Q → t σ H Q) : PA X es t' := ⟨fun p pins s σ H Q I q => h.run p pins s σ H Q I (i _ _ _ q)⟩
abbrev PD (X : Cx) (cl : String → Option Addr) (e : Expr) (m : Ex) : Prop := PE X e (tD X.K cl m)
abbrev PDT (X : Cx) (cl : String → Option Addr) (e : Expr) (m : Tx) : Prop := PT X e (tDT X.K cl m)
abbrev PDW (X : Cx) (cl : String → Option Addr) (e : Expr) (m : Tx) : Prop := PW X e (tDT X.K cl m)
abbrev PDA (X : Cx) (cl : String → Option Addr) (es : List Expr) (m : Ax) : Prop := PA X es (tDA X.K cl m)

/-! ### names and constants -/
def eVar (i : Nat) : Ex := fun ρ => match ρ[i]? with
  | some (.val d) => some (.val d, ρ)
  | some (.own _ _) => some (.ref i, ρ)
  | some (.lck _ _) => some (.ref i, ρ)
  | _ => none
theorem d_var (i : Nat) {x : Str} {pos : Pos} (hN : X.N[i]? = some x := by rfl) (hv : Vis X.env.scope x := by first | exact Or.inl rfl | exact Or.inr (Or.inl rfl) | exact Or.inr (Or.inr rfl)) (hd : (x == ("__debug__" : Str)) = false := by decide)
    (hcd : (x == ("__classdict__" : Str)) = false := by decide) : PD X cl (.Name x pos) (eVar i) := by
  refine pe_imp (pe_var hN hv hd hcd) fun σ H Q h => ?_
  obtain ⟨F, T, G, ρ, r, ρ', E, e, q⟩ := h
  unfold eVar at e
  split at e
  · rename_i d hd
    cases e
    obtain ⟨v, h1, h2⟩ := E.val i d hd
    exact ⟨v, h1, q v G H (Same.refl _) E h2⟩
  · rename_i w d hd
    cases e
    obtain ⟨a, h1, _⟩ := E.own i w d hd
    exact ⟨.ref a, h1, q (.ref a) G H (Same.refl _) E h1⟩
  · rename_i w d hd
    cases e
    obtain ⟨a, o, h1, _⟩ := E.lck i w d hd
    exact ⟨.ref a, h1, q (.ref a) G H (Same.refl _) E h1⟩
  · cases e
/-- a constant -/
def eC (d : D) : Ex := fun ρ => some (.val d, ρ)
theorem d_c {e : Expr} {v : V} {d : D} (h : PE X e (tC v)) (r : ∀ G, Rep X.K cl G v d) : PD X cl e (eC d) := by
  refine pe_imp h fun σ H Q h => ?_
  obtain ⟨F, T, G, ρ, _, _, E, e, q⟩ := h
  cases e
  exact q v G H (Same.refl _) E (r G)
theorem d_int {i j pos} : PD X cl (.Constant (.int i) j pos) (eC (.int i)) := d_c pe_int fun _ => .int i
theorem d_bl {b j pos} : PD X cl (.Constant (.bool b) j pos) (eC (.bl b)) := d_c pe_bl fun _ => .bl b
theorem d_non {j pos} : PD X cl (.Constant .none j pos) (eC .non) := d_c pe_non fun _ => .non
theorem d_str {x j pos} (h : x.length ≤ sizeLine := by decide) : PD X cl (.Constant (.str x) j pos) (eC (.str x)) := d_c pe_str fun _ => .str x h

/-! ### one- and two-place operations -/
def OpD (X : Cx) (cl : String → Option Addr) (f : Value → Value → Sem Value) (g : D → D → Option D) : Prop :=
  OpR X f fun x y H Q => ∃ G d e r, Same G H ∧ Top X.K cl G H x d ∧ Top X.K cl G H y e ∧ g d e = some r ∧ ∀ v G' H', Grow G H G' H' → Rep X.K cl G' v r → Q v H'
def UnD (X : Cx) (cl : String → Option Addr) (f : Value → Sem Value) (g : D → Option D) : Prop :=
  UnR X f fun x H Q => ∃ G d r, Same G H ∧ Top X.K cl G H x d ∧ g d = some r ∧ ∀ v G' H', Grow G H G' H' → Rep X.K cl G' v r → Q v H'
def CallD (X : Cx) (cl : String → Option Addr) (f : Value) (g : List D → Option D) : Prop :=
  CallR X f fun xs H Q => ∃ G ds r, Same G H ∧ Paired (Top X.K cl G H) xs ds ∧ g ds = some r ∧ ∀ v G' H', Grow G H G' H' → Rep X.K cl G' v r → Q v H'
def eBin (g : D → D → Option D) (ma mb : Ex) : Ex := fun ρ =>
  (ma ρ).bind fun p => (mb p.2).bind fun q => (peek q.2 p.1).bind fun d => (peek q.2 q.1).bind fun e => (g d e).map fun r => (.val r, q.2)
def eUn (g : D → Option D) (ma : Ex) : Ex := fun ρ => (ma ρ).bind fun p => (peek p.2 p.1).bind fun d => (g d).map fun r => (.val r, p.2)
theorem bin_run {K : PySem.W.Frag} {g : D → D → Option D} {ma mb : Ex} {σ : L2.St} {H : Hp} {Q : VK} {r : R2}
    (hr : ∀ x y H Q G d e r', Same G H → Top K cl G H x d → Top K cl G H y e → g d e = some r' → (∀ v G' H', Grow G H G' H' → Rep K cl G' v r' → Q v H') → r x y H Q)
    (h : tD K cl (eBin g ma mb) σ H Q) : tOp r (tD K cl ma) (tD K cl mb) σ H Q := by
  obtain ⟨F, T, G, ρ, r1, ρ', E, e, q⟩ := h
  simp only [eBin, Option.bind_eq_some_iff, Option.map_eq_some_iff, Prod.mk.injEq] at e
  obtain ⟨⟨ra, ρ1⟩, e1, ⟨rb, ρ2⟩, e2, d, e3, d', e4, r', e5, rfl, rfl⟩ := e
  refine ⟨F, T, G, ρ, ra, ρ1, E, e1, fun x G1 H1 g1 E1 R1 => ?_⟩
  refine ⟨F, T, G1, ρ1, rb, ρ2, E1, e2, fun y G2 H2 g2 E2 R2 => ?_⟩
  exact hr x y H2 Q G2 d d' r' E2.gh (E2.top (R1.mono g2) e3) (E2.top R2 e4) e5 fun v G3 H3 gr R3 => q v G3 H3 (g1.trans (g2.trans gr.gg)) (E2.grow gr) R3
variable {a b c : Expr} {ma mb mc : Ex} {pos : Pos}
theorem d_bin {op : Operator} {g : D → D → Option D} (ho : OpD X cl (binaryOp op) g) (ha : PD X cl a ma) (hb : PD X cl b mb) : PD X cl (.BinOp a op b pos) (eBin g ma mb) :=
  pe_imp (pe_op ho ha hb) fun σ H Q h => bin_run (fun x y H Q G d e r' h1 h2 h3 h4 h5 => ⟨G, d, e, r', h1, h2, h3, h4, h5⟩) h
theorem d_cmp {op : CmpOp} {g : D → D → Option D} (ho : OpD X cl (compareOp op) g) (ha : PD X cl a ma) (hb : PD X cl b mb) (hm : behindInMarks op b = false) : PD X cl (.Compare a [op] [b] pos) (eBin g ma mb) :=
  pe_imp (pe_cmpR ho ha hb hm) fun σ H Q h => bin_run (fun x y H Q G d e r' h1 h2 h3 h4 h5 => ⟨G, d, e, r', h1, h2, h3, h4, h5⟩) h
theorem d_un {op : UnaryOp} {g : D → Option D} (ho : UnD X cl (unaryOp op) g) (ha : PD X cl a ma) : PD X cl (.UnaryOp op a pos) (eUn g ma) := by
  refine pe_imp (pe_un ho ha) fun σ H Q h => ?_
  obtain ⟨F, T, G, ρ, r1, ρ', E, e, q⟩ := h
  simp only [eUn, Option.bind_eq_some_iff, Option.map_eq_some_iff, Prod.mk.injEq] at e
  obtain ⟨⟨ra, ρ1⟩, e1, d, e3, r', e5, rfl, rfl⟩ := e
  refine ⟨F, T, G, ρ, ra, ρ1, E, e1, fun x G1 H1 g1 E1 R1 => ?_⟩
  exact ⟨G1, d, r', E1.gh, E1.top R1 e3, e5, fun v G3 H3 gr R3 => q v G3 H3 (g1.trans gr.gg) (E1.grow gr) R3⟩

/-! ### tests -/
def asB : RV → Option Bool
  | .val (.bl b) => some b
  | _ => none
/-- a test by a value that is a bool -/
def bVal (m : Ex) : Tx := fun ρ => (m ρ).bind fun p => (asB p.1).map fun b => (b, p.2)
theorem asB_eq {r : RV} {b : Bool} (h : asB r = some b) : r = .val (.bl b) := by
  cases r with
  | val d => cases d <;> simp [asB] at h; subst h; rfl
  | ref i => simp [asB] at h
theorem bval_run {K : PySem.W.Frag} {m : Ex} {σ : L2.St} {H : Hp} {Q : Bool → Hp → Prop} (h : tDT K cl (bVal m) σ H Q) : tTest (tD K cl m) σ H Q := by
  obtain ⟨F, T, G, ρ, b, ρ', E, e, q⟩ := h
  simp only [bVal, Option.bind_eq_some_iff, Option.map_eq_some_iff, Prod.mk.injEq] at e
  obtain ⟨⟨r, ρ1⟩, e1, b', e2, rfl, rfl⟩ := e
  refine ⟨F, T, G, ρ, r, ρ1, E, e1, fun v G' H' g E' R => ?_⟩
  have hr : r = _ := asB_eq e2
  subst hr
  cases R
  exact ⟨b', rfl, q G' H' g E'⟩
theorem t_cmp {op : CmpOp} {g : D → D → Option D} (ho : OpD X cl (compareOp op) g) (ha : PD X cl a ma) (hb : PD X cl b mb) (hm : behindInMarks op b = false) : PDT X cl (.Compare a [op] [b] pos) (bVal (eBin g ma mb)) := by
  refine pt_imp (pt_cmpR ho ha hb hm) fun σ H Q h => ?_
  have h' := bval_run h
  exact bin_run (fun x y H Q G d e r' h1 h2 h3 h4 h5 => ⟨G, d, e, r', h1, h2, h3, h4, h5⟩) h'
/-- a op b op' c -/
def eChain (g g' : D → D → Option D) (ma mb mc : Ex) : Ex := fun ρ =>
  (ma ρ).bind fun p => (mb p.2).bind fun q => (peek q.2 p.1).bind fun d => (peek q.2 q.1).bind fun e => (g d e).bind fun r => match r with
    | .bl true => (mc q.2).bind fun s => (peek s.2 q.1).bind fun e' => (peek s.2 s.1).bind fun f => (g' e' f).map fun r => (.val r, s.2)
    | .bl false => some (.val (.bl false), q.2)
    | _ => none
theorem chain_run {K : PySem.W.Frag} {g g' : D → D → Option D} {σ : L2.St} {H : Hp} {Q : VK} {r r' : R2}
    (hr : ∀ x y H Q G d e r', Same G H → Top K cl G H x d → Top K cl G H y e → g d e = some r' → (∀ v G' H', Grow G H G' H' → Rep K cl G' v r' → Q v H') → r x y H Q)
    (hr' : ∀ x y H Q G d e r1, Same G H → Top K cl G H x d → Top K cl G H y e → g' d e = some r1 → (∀ v G' H', Grow G H G' H' → Rep K cl G' v r1 → Q v H') → r' x y H Q)
    (h : tD K cl (eChain g g' ma mb mc) σ H Q) : tChain r r' (tD K cl ma) (tD K cl mb) (tD K cl mc) σ H Q := by
  obtain ⟨F, T, G, ρ, r1, ρ', E, e, q⟩ := h
  simp only [eChain, Option.bind_eq_some_iff] at e
  obtain ⟨⟨ra, ρ1⟩, e1, ⟨rb, ρ2⟩, e2, d, e3, d', e4, r0, e5, e6⟩ := e
  refine ⟨F, T, G, ρ, ra, ρ1, E, e1, fun x G1 H1 g1 E1 R1 => ?_⟩
  refine ⟨F, T, G1, ρ1, rb, ρ2, E1, e2, fun y G2 H2 g2 E2 R2 => ?_⟩
  refine hr x y H2 _ G2 d d' r0 E2.gh (E2.top (R1.mono g2) e3) (E2.top R2 e4) e5 fun z G3 H3 gr R3 => ?_
  split at e6
  · cases R3
    refine ⟨true, rfl, ?_⟩
    rw [if_pos rfl]
    simp only [Option.bind_eq_some_iff, Option.map_eq_some_iff, Prod.mk.injEq] at e6
    obtain ⟨⟨rc, ρ3⟩, k1, d2, k2, d3, k3, r4, k4, rfl, rfl⟩ := e6
    have E3 := E2.grow gr
    refine ⟨F, T, G3, ρ2, rc, ρ3, E3, k1, fun w G4 H4 g4 E4 R4 => ?_⟩
    exact hr' y w H4 Q G4 d2 d3 r4 E4.gh (E4.top (R2.mono (gr.gg.trans g4)) k2) (E4.top R4 k3) k4 fun v G5 H5 gr5 R5 => q v G5 H5 (g1.trans (g2.trans (gr.gg.trans (g4.trans gr5.gg)))) (E4.grow gr5) R5
  · cases R3
    refine ⟨false, rfl, ?_⟩
    rw [if_neg Bool.false_ne_true]
    simp only [Option.some.injEq, Prod.mk.injEq] at e6
    obtain ⟨rfl, rfl⟩ := e6
    exact q (.bl false) G3 H3 (g1.trans (g2.trans gr.gg)) (E2.grow gr) (Rep.bl false)
  · cases e6
theorem d_chain {op op' : CmpOp} {g g' : D → D → Option D} (ho : OpD X cl (compareOp op) g) (ho' : OpD X cl (compareOp op') g') (ha : PD X cl a ma) (hb : PD X cl b mb) (hc : PD X cl c mc)
    (hm : lastMarks [op, op'] [b, c] = false := by with_unfolding_all rfl) : PD X cl (.Compare a [op, op'] [b, c] pos) (eChain g g' ma mb mc) :=
  pe_imp (pe_chain ho ho' ha hb hc hm) fun σ H Q h => chain_run (fun x y H Q G d e r' h1 h2 h3 h4 h5 => ⟨G, d, e, r', h1, h2, h3, h4, h5⟩) (fun x y H Q G d e r' h1 h2 h3 h4 h5 => ⟨G, d, e, r', h1, h2, h3, h4, h5⟩) h
theorem t_chain {op op' : CmpOp} {g g' : D → D → Option D} (ho : OpD X cl (compareOp op) g) (ho' : OpD X cl (compareOp op') g') (ha : PD X cl a ma) (hb : PD X cl b mb) (hc : PD X cl c mc)
    (hm : lastMarks [op, op'] [b, c] = false := by with_unfolding_all rfl) : PDT X cl (.Compare a [op, op'] [b, c] pos) (bVal (eChain g g' ma mb mc)) := by
  refine pt_imp (pt_chain ho ho' ha hb hc hm) fun σ H Q h => ?_
  have h' := bval_run h
  exact chain_run (fun x y H Q G d e r' h1 h2 h3 h4 h5 => ⟨G, d, e, r', h1, h2, h3, h4, h5⟩) (fun x y H Q G d e r' h1 h2 h3 h4 h5 => ⟨G, d, e, r', h1, h2, h3, h4, h5⟩) h'
/-- truth of any value -/
def truth : D → Option Bool
  | .non => some false
  | .bl b => some b
  | .int i => some (i != 0)
  | .str x => some ((x.length : Int) != 0)
  | .scr ns => some !ns.isEmpty
  | .list ds => some !ds.isEmpty
  | .tup ds => some !ds.isEmpty
  | .dict ks => some !ks.isEmpty
  | .inst _ _ => none
theorem Reps.isEmpty {K : PySem.W.Frag} {G : Hp} {vs : List V} {ds : List D} (h : Reps K cl G vs ds) : vs.isEmpty = ds.isEmpty := by cases h <;> rfl
theorem truth_ok {K : PySem.W.Frag} {G H : Hp} {v : V} {d : D} {b : Bool} (gh : Same G H) (h : Top K cl G H v d) (t : truth d = some b) : TruV K v H b := by
  cases h with
  | non => cases t; rfl
  | bl b => cases t; rfl
  | int i => cases t; rfl
  | str x h => cases t; exact ⟨h, rfl⟩
  | scr h l => cases t; exact .inl ⟨_, gh.seq h, by simp⟩
  | list h l r => cases t; exact .inl ⟨_, SqL.of h, by rw [r.isEmpty]⟩
  | tup h l r => cases t; exact .inr (.inl ⟨_, sameT gh h, by rw [r.isEmpty]⟩)
  | dict h l r => cases t; refine .inr (.inr ⟨_, h, ?_⟩); cases r <;> rfl
  | inst h c r => cases t
def bTru (m : Ex) : Tx := fun ρ => (m ρ).bind fun p => (peek p.2 p.1).bind fun d => (truth d).map fun b => (b, p.2)
theorem t_tru {m : Ex} (h : PD X cl a m) (he : ∀ whole, isTrue a X.env whole = (do let v ← whole; standAt a.pos; holding [v] (truthy v)) := by intro _; rfl) : PDT X cl a (bTru m) := by
  refine pt_imp (pt_truth h he) fun σ H Q h => ?_
  obtain ⟨F, T, G, ρ, b, ρ', E, e, q⟩ := h
  simp only [bTru, Option.bind_eq_some_iff, Option.map_eq_some_iff, Prod.mk.injEq] at e
  obtain ⟨⟨r, ρ1⟩, e1, d, e2, b', e3, rfl, rfl⟩ := e
  exact ⟨F, T, G, ρ, r, ρ1, E, e1, fun v G' H' g E' R => ⟨b', truth_ok E'.gh (E'.top R e2) e3, q G' H' g E'⟩⟩
/-! and, or, not -/
def bNot (m : Tx) : Tx := fun ρ => (m ρ).map fun p => (!p.1, p.2)
def bAnd (m n : Tx) : Tx := fun ρ => (m ρ).bind fun p => if p.1 = true then n p.2 else some (false, p.2)
def bOr (m n : Tx) : Tx := fun ρ => (m ρ).bind fun p => if p.1 = true then some (true, p.2) else n p.2
variable {m n : Tx} {rest : List Expr}
theorem t_not (h : PDT X cl a m) : PDT X cl (.UnaryOp .Not a pos) (bNot m) := by
  refine pt_imp (pt_not h) fun σ H Q h => ?_
  obtain ⟨F, T, G, ρ, b, ρ', E, e, q⟩ := h
  simp only [bNot, Option.map_eq_some_iff, Prod.mk.injEq] at e
  obtain ⟨⟨b', ρ1⟩, e1, rfl, rfl⟩ := e
  exact ⟨F, T, G, ρ, b', ρ1, E, e1, fun G' H' g E' => q G' H' g E'⟩
theorem w_and1 (h : PDT X cl a m) : PDW X cl (.BoolOp .And [a] pos) m := pw_and1 h
theorem w_or1 (h : PDT X cl a m) : PDW X cl (.BoolOp .Or [a] pos) m := pw_or1 h
theorem w_and (h : PDT X cl a m) (k : PDW X cl (.BoolOp .And (b :: rest) pos) n) : PDW X cl (.BoolOp .And (a :: b :: rest) pos) (bAnd m n) := by
  refine pw_imp (pw_and h k) fun σ H Q h => ?_
  obtain ⟨F, T, G, ρ, x, ρ', E, e, q⟩ := h
  simp only [bAnd, Option.bind_eq_some_iff] at e
  obtain ⟨⟨c, ρ1⟩, e1, e2⟩ := e
  refine ⟨F, T, G, ρ, c, ρ1, E, e1, fun G1 H1 g1 E1 => ?_⟩
  cases c with
  | true => exact ⟨F, T, G1, ρ1, x, ρ', E1, by simpa using e2, fun G2 H2 g2 E2 => q G2 H2 (g1.trans g2) E2⟩
  | false =>
    simp at e2
    obtain ⟨rfl, rfl⟩ := e2
    exact q G1 H1 g1 E1
theorem w_or (h : PDT X cl a m) (k : PDW X cl (.BoolOp .Or (b :: rest) pos) n) : PDW X cl (.BoolOp .Or (a :: b :: rest) pos) (bOr m n) := by
  refine pw_imp (pw_or h k) fun σ H Q h => ?_
  obtain ⟨F, T, G, ρ, x, ρ', E, e, q⟩ := h
  simp only [bOr, Option.bind_eq_some_iff] at e
  obtain ⟨⟨c, ρ1⟩, e1, e2⟩ := e
  refine ⟨F, T, G, ρ, c, ρ1, E, e1, fun G1 H1 g1 E1 => ?_⟩
  cases c with
  | true =>
    simp at e2
    obtain ⟨rfl, rfl⟩ := e2
    exact q G1 H1 g1 E1
  | false => exact ⟨F, T, G1, ρ1, x, ρ', E1, by simpa using e2, fun G2 H2 g2 E2 => q G2 H2 (g1.trans g2) E2⟩
theorem t_w (h : PDW X cl a m) : PDT X cl a m := PW.pt h
/-! .. as values: all but the last are bools -/
def eAnd (m n : Ex) : Ex := fun ρ => (m ρ).bind fun p => (asB p.1).bind fun b => if b = true then n p.2 else some (.val (.bl false), p.2)
def eOr (m n : Ex) : Ex := fun ρ => (m ρ).bind fun p => (asB p.1).bind fun b => if b = true then some (.val (.bl true), p.2) else n p.2
theorem d_one {op} {m : Ex} (h : PD X cl a m) : PD X cl (.BoolOp op [a] pos) m := pe_one h
theorem d_and (h : PD X cl a ma) (k : PD X cl (.BoolOp .And (b :: rest) pos) mb) : PD X cl (.BoolOp .And (a :: b :: rest) pos) (eAnd ma mb) := by
  refine pe_imp (pe_and h k) fun σ H Q h => ?_
  obtain ⟨F, T, G, ρ, x, ρ', E, e, q⟩ := h
  simp only [eAnd, Option.bind_eq_some_iff] at e
  obtain ⟨⟨r, ρ1⟩, e1, c, e2, e3⟩ := e
  refine ⟨F, T, G, ρ, r, ρ1, E, e1, fun v G1 H1 g1 E1 R1 => ?_⟩
  have hr : r = _ := asB_eq e2
  subst hr
  cases R1
  refine ⟨c, rfl, ?_⟩
  cases c with
  | true => exact ⟨F, T, G1, ρ1, x, ρ', E1, by simpa using e3, fun v G2 H2 g2 E2 R2 => q v G2 H2 (g1.trans g2) E2 R2⟩
  | false =>
    simp at e3
    obtain ⟨rfl, rfl⟩ := e3
    exact q _ G1 H1 g1 E1 (Rep.bl false)
theorem d_or (h : PD X cl a ma) (k : PD X cl (.BoolOp .Or (b :: rest) pos) mb) : PD X cl (.BoolOp .Or (a :: b :: rest) pos) (eOr ma mb) := by
  refine pe_imp (pe_or h k) fun σ H Q h => ?_
  obtain ⟨F, T, G, ρ, x, ρ', E, e, q⟩ := h
  simp only [eOr, Option.bind_eq_some_iff] at e
  obtain ⟨⟨r, ρ1⟩, e1, c, e2, e3⟩ := e
  refine ⟨F, T, G, ρ, r, ρ1, E, e1, fun v G1 H1 g1 E1 R1 => ?_⟩
  have hr : r = _ := asB_eq e2
  subst hr
  cases R1
  refine ⟨c, rfl, ?_⟩
  cases c with
  | true =>
    simp at e3
    obtain ⟨rfl, rfl⟩ := e3
    exact q _ G1 H1 g1 E1 (Rep.bl true)
  | false => exact ⟨F, T, G1, ρ1, x, ρ', E1, by simpa using e3, fun v G2 H2 g2 E2 R2 => q v G2 H2 (g1.trans g2) E2 R2⟩
def eNot (m : Ex) : Ex := fun ρ => (m ρ).bind fun p => (asB p.1).map fun b => (.val (.bl !b), p.2)
theorem d_not (h : PD X cl a ma) : PD X cl (.UnaryOp .Not a pos) (eNot ma) := by
  refine pe_imp (pe_not h) fun σ H Q h => ?_
  obtain ⟨F, T, G, ρ, x, ρ', E, e, q⟩ := h
  simp only [eNot, Option.bind_eq_some_iff, Option.map_eq_some_iff, Prod.mk.injEq] at e
  obtain ⟨⟨r, ρ1⟩, e1, c, e2, rfl, rfl⟩ := e
  refine ⟨F, T, G, ρ, r, ρ1, E, e1, fun v G1 H1 g1 E1 R1 => ?_⟩
  have hr : r = _ := asB_eq e2
  subst hr
  cases R1
  exact ⟨c, rfl, q _ G1 H1 g1 E1 (Rep.bl _)⟩
/-- a if t else b -/
def eIf (t : Tx) (m n : Ex) : Ex := fun ρ => (t ρ).bind fun p => if p.1 = true then m p.2 else n p.2
theorem d_if {t : Tx} (hc : PDT X cl c t) (ha : PD X cl a ma) (hb : PD X cl b mb) : PD X cl (.IfExp c a b pos) (eIf t ma mb) := by
  refine pe_imp (pe_ifExp hc ha hb) fun σ H Q h => ?_
  obtain ⟨F, T, G, ρ, x, ρ', E, e, q⟩ := h
  simp only [eIf, Option.bind_eq_some_iff] at e
  obtain ⟨⟨c, ρ1⟩, e1, e2⟩ := e
  refine ⟨F, T, G, ρ, c, ρ1, E, e1, fun G1 H1 g1 E1 => ?_⟩
  cases c with
  | true => exact ⟨F, T, G1, ρ1, x, ρ', E1, by simpa using e2, fun v G2 H2 g2 E2 R2 => q v G2 H2 (g1.trans g2) E2 R2⟩
  | false => exact ⟨F, T, G1, ρ1, x, ρ', E1, by simpa using e2, fun v G2 H2 g2 E2 R2 => q v G2 H2 (g1.trans g2) E2 R2⟩

/-! ### arguments and displays -/
def aNil : Ax := fun ρ => some ([], ρ)
def aCons (m : Ex) (n : Ax) : Ax := fun ρ => (m ρ).bind fun p => (n p.2).map fun q => (p.1 :: q.1, q.2)
variable {e : Expr} {es : List Expr} {me : Ex} {mx : Ax}
theorem a_nil : PDA X cl [] aNil := by
  refine pa_imp pa_nil fun σ H Q h => ?_
  obtain ⟨F, T, G, ρ, rs, ρ', E, e, q⟩ := h
  cases e
  exact q [] G H (Same.refl _) E .nil
theorem a_cons (ha : PD X cl e me) (hr : PDA X cl es mx) (hs : starEach (e :: es) X.env = (false, eval e X.env) :: starEach es X.env := by rfl) : PDA X cl (e :: es) (aCons me mx) := by
  refine pa_imp (pa_cons ha hr hs) fun σ H Q h => ?_
  obtain ⟨F, T, G, ρ, rs, ρ', E, e, q⟩ := h
  simp only [aCons, Option.bind_eq_some_iff, Option.map_eq_some_iff, Prod.mk.injEq] at e
  obtain ⟨⟨r, ρ1⟩, e1, ⟨rs', ρ2⟩, e2, rfl, rfl⟩ := e
  refine ⟨F, T, G, ρ, r, ρ1, E, e1, fun v G1 H1 g1 E1 R1 => ?_⟩
  exact ⟨F, T, G1, ρ1, rs', ρ2, E1, e2, fun vs G2 H2 g2 E2 R2 => q (v :: vs) G2 H2 (g1.trans g2) E2 (.cons (R1.mono g2) R2)⟩
def eTup (m : Ax) : Ex := fun ρ => (m ρ).bind fun p => (escs p.2 p.1).bind fun q => if q.1.length ≤ sizeLine then some (.val (.tup q.1), q.2) else none
def eLst (m : Ax) : Ex := fun ρ => (m ρ).bind fun p => (escs p.2 p.1).bind fun q => if q.1.length ≤ sizeLine then some (.val (.list q.1), q.2) else none
theorem d_tup {x1} (h : PDA X cl es mx) : PD X cl (.Tuple es x1 pos) (eTup mx) := by
  refine pe_imp (pe_tup h) fun σ H Q h => ?_
  obtain ⟨F, T, G, ρ, r, ρ', E, e, q⟩ := h
  simp only [eTup, Option.bind_eq_some_iff] at e
  obtain ⟨⟨rs, ρ1⟩, e1, ⟨ds, ρ2⟩, e2, e3⟩ := e
  split at e3
  · rename_i hl
    cases e3
    refine ⟨F, T, G, ρ, rs, ρ1, E, e1, fun vs G1 H1 g1 E1 R1 => ?_⟩
    obtain ⟨G2, g2, E2, R2⟩ := E1.escs R1 e2
    have hlen : vs.length ≤ sizeLine := by rw [R2.length]; exact hl
    refine ⟨hlen, fun p hp => ?_⟩
    have gr := Grow.new_at (o := .tup vs) E2.gh hp
    exact q _ _ _ (g1.trans (g2.trans gr.gg)) (E2.grow gr) (Rep.tup (SqT.of upd_same) hlen (R2.mono gr.gg))
  · cases e3
theorem d_lst (h : PDA X cl es mx) : PD X cl (.List es pos) (eLst mx) := by
  refine pe_imp (pe_lst h) fun σ H Q h => ?_
  obtain ⟨F, T, G, ρ, r, ρ', E, e, q⟩ := h
  simp only [eLst, Option.bind_eq_some_iff] at e
  obtain ⟨⟨rs, ρ1⟩, e1, ⟨ds, ρ2⟩, e2, e3⟩ := e
  split at e3
  · rename_i hl
    cases e3
    refine ⟨F, T, G, ρ, rs, ρ1, E, e1, fun vs G1 H1 g1 E1 R1 => ?_⟩
    obtain ⟨G2, g2, E2, R2⟩ := E1.escs R1 e2
    have hlen : vs.length ≤ sizeLine := by rw [R2.length]; exact hl
    refine ⟨hlen, fun p hp => ?_⟩
    have gr := Grow.new_at (o := .lst vs) E2.gh hp
    exact q _ _ _ (g1.trans (g2.trans gr.gg)) (E2.grow gr) (Rep.list upd_same hlen (R2.mono gr.gg))
  · cases e3

/-! ### calls of built-ins -/
def eCB (g : List D → Option D) (m : Ax) : Ex := fun ρ => (m ρ).bind fun p => (peeks p.2 p.1).bind fun ds => (g ds).map fun r => (.val r, p.2)
theorem cb_run {K : PySem.W.Frag} {g : List D → Option D} {σ : L2.St} {H : Hp} {Q : VK} {r : List V → Hp → VK → Prop}
    (hr : ∀ xs H Q G ds r', Same G H → Paired (Top K cl G H) xs ds → g ds = some r' → (∀ v G' H', Grow G H G' H' → Rep K cl G' v r' → Q v H') → r xs H Q)
    (h : tD K cl (eCB g mx) σ H Q) : tCB r (tDA K cl mx) σ H Q := by
  obtain ⟨F, T, G, ρ, r1, ρ', E, e, q⟩ := h
  simp only [eCB, Option.bind_eq_some_iff, Option.map_eq_some_iff, Prod.mk.injEq] at e
  obtain ⟨⟨rs, ρ1⟩, e1, ds, e2, r', e3, rfl, rfl⟩ := e
  refine ⟨F, T, G, ρ, rs, ρ1, E, e1, fun vs G1 H1 g1 E1 R1 => ?_⟩
  exact hr vs H1 Q G1 ds r' E1.gh (E1.tops R1 e2) e3 fun v G2 H2 gr R2 => q v G2 H2 (g1.trans gr.gg) (E1.grow gr) R2
variable {x : Str} {p : Pos} {id Ty : String} {g : List D → Option D}
theorem d_callB (hc : CallD X cl (.builtin id) g) (hm : X.mg x = none) (ha : PDA X cl (e :: es) mx) (hg : Gl X x := by rfl) (hv : bootBuiltins x = some (.builtin id) := by decide +kernel) (hn : x ≠ "__name__" := by decide) (hdb : (x == ("__debug__" : Str)) = false := by decide)
    (he : starEach (e :: es) X.env = (false, eval e X.env) :: starEach es X.env := by rfl) (hpl : (backTo pos (starEach es X.env)).any (·.1) = false := by rfl) : PD X cl (.Call (.Name x p) (e :: es) [] pos) (eCB g mx) :=
  pe_imp (pe_callB hc hg hm hv ha hn hdb he hpl) fun σ H Q h => cb_run (fun xs H Q G ds r' h1 h2 h3 h4 => ⟨G, ds, r', h1, h2, h3, h4⟩) h
theorem d_callTy (hc : CallD X cl (.type Ty) g) (hm : X.mg x = none) (ha : PDA X cl (e :: es) mx) (hg : Gl X x := by rfl) (hv : bootBuiltins x = some (.type Ty) := by decide +kernel) (hn : x ≠ "__name__" := by decide) (hdb : (x == ("__debug__" : Str)) = false := by decide)
    (he : starEach (e :: es) X.env = (false, eval e X.env) :: starEach es X.env := by rfl) (hpl : (backTo pos (starEach es X.env)).any (·.1) = false := by rfl) : PD X cl (.Call (.Name x p) (e :: es) [] pos) (eCB g mx) :=
  pe_imp (pe_callTy hc hg hm hv ha hn hdb he hpl) fun σ H Q h => cb_run (fun xs H Q G ds r' h1 h2 h3 h4 => ⟨G, ds, r', h1, h2, h3, h4⟩) h

/-! ### items and slices -/
def IxD (X : Cx) (cl : String → Option Addr) (g : D → D → Option D) : Prop :=
  IxR X fun x y H Q => ∃ G d e r, Same G H ∧ Top X.K cl G H x d ∧ Top X.K cl G H y e ∧ g d e = some r ∧ ∀ v G' H', Grow G H G' H' → Rep X.K cl G' v r → Q v H'
theorem d_ix {g : D → D → Option D} (hr : IxD X cl g) (ha : PD X cl a ma) (hb : PD X cl b mb) (hs : PlainIx b := by exact fun _ _ => rfl) : PD X cl (.Subscript a b pos) (eBin g ma mb) :=
  pe_imp (pe_ix hr ha hb hs) fun σ H Q h => bin_run (fun x y H Q G d e r' h1 h2 h3 h4 h5 => ⟨G, d, e, r', h1, h2, h3, h4, h5⟩) h
abbrev Ox := List Sl → Option (Option Int × List Sl)
def tDO (K : PySem.W.Frag) (cl : String → Option Addr) (m : Ox) : TO := fun σ H Q => ∃ F T G ρ o ρ', EOk K cl F T G H σ ρ ∧ m ρ = some (o, ρ') ∧ ∀ G' H', Same G G' → EOk K cl F T G' H' σ ρ' → Q o H'
abbrev PDO (X : Cx) (cl : String → Option Addr) (e : Option Expr) (m : Ox) : Prop := PO X e (tDO X.K cl m)
theorem po_imp {e : Option Expr} {t t' : TO} (h : PO X e t) (i : ∀ σ H Q, t' σ H Q → t σ H Q) : PO X e t' := ⟨fun pins s σ H Q I q => h.run pins s σ H Q I (i _ _ _ q)⟩
def oNone : Ox := fun ρ => some (none, ρ)
def oSome (m : Ex) : Ox := fun ρ => (m ρ).bind fun p => match p.1 with
  | .val (.int i) => some (some i, p.2)
  | _ => none
theorem o_none : PDO X cl none oNone := by
  refine po_imp po_none fun σ H Q h => ?_
  obtain ⟨F, T, G, ρ, o, ρ', E, e, q⟩ := h
  cases e
  exact q G H (Same.refl _) E
theorem o_some (h : PD X cl e me) : PDO X cl (some e) (oSome me) := by
  refine po_imp (po_some h) fun σ H Q h => ?_
  obtain ⟨F, T, G, ρ, o, ρ', E, e, q⟩ := h
  simp only [oSome, Option.bind_eq_some_iff] at e
  obtain ⟨⟨r, ρ1⟩, e1, e2⟩ := e
  refine ⟨F, T, G, ρ, r, ρ1, E, e1, fun v G1 H1 g1 E1 R1 => ?_⟩
  split at e2
  · rename_i i hi
    cases e2
    have hi' : r = .val (.int i) := hi
    subst hi'
    cases R1
    exact ⟨i, rfl, q G1 H1 g1 E1⟩
  · cases e2
def SlD (X : Cx) (cl : String → Option Addr) (g : D → Option Int → Option Int → Option D) : Prop :=
  SlR X fun x lo hi H Q => ∃ G d r, Same G H ∧ Top X.K cl G H x d ∧ g d lo hi = some r ∧ ∀ v G' H', Grow G H G' H' → Rep X.K cl G' v r → Q v H'
def eSl (g : D → Option Int → Option Int → Option D) (m : Ex) (l u : Ox) : Ex := fun ρ => (m ρ).bind fun p => (l p.2).bind fun q => (u q.2).bind fun s => (peek s.2 p.1).bind fun d => (g d q.1 s.1).map fun r => (.val r, s.2)
theorem d_sl {g : D → Option Int → Option Int → Option D} {lo hi : Option Expr} {l u : Ox} {p2 : Pos} (hr : SlD X cl g) (ha : PD X cl a ma) (hl : PDO X cl lo l) (hu : PDO X cl hi u) : PD X cl (.Subscript a (.Slice lo hi none p2) pos) (eSl g ma l u) := by
  refine pe_imp (pe_slice hr ha hl hu) fun σ H Q h => ?_
  obtain ⟨F, T, G, ρ, r, ρ', E, e, q⟩ := h
  simp only [eSl, Option.bind_eq_some_iff, Option.map_eq_some_iff, Prod.mk.injEq] at e
  obtain ⟨⟨ra, ρ1⟩, e1, ⟨i, ρ2⟩, e2, ⟨j, ρ3⟩, e3, d, e4, r', e5, rfl, rfl⟩ := e
  refine ⟨F, T, G, ρ, ra, ρ1, E, e1, fun v G1 H1 g1 E1 R1 => ?_⟩
  refine ⟨F, T, G1, ρ1, i, ρ2, E1, e2, fun G2 H2 g2 E2 => ?_⟩
  refine ⟨F, T, G2, ρ2, j, ρ3, E2, e3, fun G3 H3 g3 E3 => ?_⟩
  exact ⟨G3, d, r', E3.gh, E3.top (R1.mono (g2.trans g3)) e4, e5, fun v G4 H4 gr R4 => q v G4 H4 (g1.trans (g2.trans (g3.trans gr.gg))) (E3.grow gr) R4⟩
end
end DL

/-! D2: the operations on data -/
namespace DL
open PySem L2

/-! ### data for the library's == -/
mutual
def D.py : D → Option PyData
  | .non => some .none
  | .bl b => some (.bool b)
  | .int i => some (.int i)
  | .str x => some (.str x)
  | .list ds => (pyAll ds).map .list
  | .tup ds => (pyAll ds).map .tuple
  | .scr _ => none
  | .dict _ => none
  | .inst _ _ => none
def pyAll : List D → Option (List PyData)
  | [] => some []
  | d :: ds => (D.py d).bind fun p => (pyAll ds).map fun ps => p :: ps
end
section
variable {K : PySem.W.Frag} {cl : String → Option Addr} {H : Hp}
mutual
theorem Rep.dp : ∀ {d : D} {v : V} {p : PyData}, Rep K cl H v d → d.py = some p → Dp K H v p
  | .non, v, p, h, e => by simp only [D.py, Option.some.injEq] at e; subst e; cases h; exact .non
  | .bl b, v, p, h, e => by simp only [D.py, Option.some.injEq] at e; subst e; cases h; exact .bl b
  | .int i, v, p, h, e => by simp only [D.py, Option.some.injEq] at e; subst e; cases h; exact .int i
  | .str x, v, p, h, e => by simp only [D.py, Option.some.injEq] at e; subst e; cases h; exact .str x
  | .list ds, v, p, h, e => by
    simp only [D.py, Option.map_eq_some_iff] at e
    obtain ⟨ps, e1, rfl⟩ := e
    cases h with
    | list k l r => exact .lst (SqL.of k) (Reps.dps r e1)
  | .tup ds, v, p, h, e => by
    simp only [D.py, Option.map_eq_some_iff] at e
    obtain ⟨ps, e1, rfl⟩ := e
    cases h with
    | tup k l r => exact .tup k (Reps.dps r e1)
  | .scr _, v, p, h, e => by simp [D.py] at e
  | .dict _, v, p, h, e => by simp [D.py] at e
  | .inst _ _, v, p, h, e => by simp [D.py] at e
theorem Reps.dps : ∀ {ds : List D} {vs : List V} {ps : List PyData}, Reps K cl H vs ds → pyAll ds = some ps → DpAll K H vs ps
  | [], vs, ps, h, e => by simp only [pyAll, Option.some.injEq] at e; subst e; cases h; exact .nil
  | d :: ds, vs, ps, h, e => by
    simp only [pyAll, Option.bind_eq_some_iff, Option.map_eq_some_iff] at e
    obtain ⟨p, e1, ps', e2, rfl⟩ := e
    cases h with
    | cons h1 h2 => exact .cons (Rep.dp h1 e1) (Reps.dps h2 e2)
end
end

section
variable {X : Cx} {cl : String → Option Addr}

/-! ### numbers, texts, sequences: + - * // % ** -/
def dAdd : D → D → Option D
  | .int i, .int j => some (.int (i + j))
  | .str x, .str y => if x.length + y.length ≤ sizeLine then some (.str (x ++ y)) else none
  | .list xs, .list ys => if xs.length + ys.length ≤ sizeLine then some (.list (xs ++ ys)) else none
  | .tup xs, .tup ys => if xs.length + ys.length ≤ sizeLine then some (.tup (xs ++ ys)) else none
  | _, _ => none
def dSub : D → D → Option D
  | .int i, .int j => some (.int (i - j))
  | _, _ => none
def dMul : D → D → Option D
  | .int i, .int j => if (-(2 ^ 64) < i ∧ i < 2 ^ 64) ∨ (-(2 ^ 64) < j ∧ j < 2 ^ 64) ∨ i.natAbs.log2 + j.natAbs.log2 < 1000000 then some (.int (i * j)) else none
  | _, _ => none
def dFdv : D → D → Option D
  | .int i, .int j => if 0 < j ∧ j.natAbs.log2 < 9000 then some (.int (i / j)) else none
  | _, _ => none
def dMod : D → D → Option D
  | .int i, .int j => if 0 < j then some (.int (i % j)) else none
  | _, _ => none
def dPow : D → D → Option D
  | .int i, .int j => if 0 ≤ j ∧ j ≤ 1000000 ∧ i.natAbs < 2 ^ 64 then some (.int (i ^ j.toNat)) else none
  | _, _ => none
def dNeg : D → Option D
  | .int i => some (.int (-i))
  | _ => none
theorem len_app (x y : Str) : (x ++ y).length = x.length + y.length := by
  show (x.cps ++ y.cps).size = _
  rw [Array.size_append]; rfl
theorem Reps.nil_iff {K : PySem.W.Frag} {G : Hp} {xs : List V} {ds : List D} (r : Reps K cl G xs ds) : xs = [] ↔ ds = [] := by
  cases r <;> simp
theorem new_tup {K : PySem.W.Frag} {G H : Hp} {p : Addr} {xs : List V} {ds : List D} {Q : VK} (gh : Same G H) (hp : H p = none) (l : xs.length ≤ sizeLine) (r : Reps K cl G xs ds) (q : ∀ v G' H', Grow G H G' H' → Rep K cl G' v (.tup ds) → Q v H') : Q (.ref p) (upd H p (.tup xs)) :=
  q _ _ _ (Grow.new_at gh hp) (Rep.tup (SqT.of upd_same) l (r.mono (upd_same' (gh.free hp))))
theorem new_lst {K : PySem.W.Frag} {G H : Hp} {p : Addr} {xs : List V} {ds : List D} {Q : VK} (gh : Same G H) (hp : H p = none) (l : xs.length ≤ sizeLine) (r : Reps K cl G xs ds) (q : ∀ v G' H', Grow G H G' H' → Rep K cl G' v (.list ds) → Q v H') : Q (.ref p) (upd H p (.lst xs)) :=
  q _ _ _ (Grow.new_at gh hp) (Rep.list upd_same l (r.mono (upd_same' (gh.free hp))))
theorem o_add : OpD X cl (binaryOp .Add) dAdd := by
  intro pins s σ H x y v u Q I rx ry h
  obtain ⟨G, d, e, r, gh, h1, h2, h3, q⟩ := h
  cases h1 with
  | int i =>
    cases h2 <;> simp only [dAdd, Option.some.injEq, reduceCtorEq] at h3
    subst h3
    exact op_add pins s σ H _ _ v u Q I rx ry ⟨_, _, rfl, rfl, q _ _ _ (Grow.refl gh) (.int _)⟩
  | str x hx =>
    cases h2 with
    | str y hy =>
      simp only [dAdd] at h3
      split at h3
      · rename_i hz
        cases h3
        exact op_add_str pins s σ H _ _ v u Q I rx ry ⟨_, _, rfl, rfl, hz, q _ _ _ (Grow.refl gh) (.str _ (by rw [len_app]; exact hz))⟩
      · cases h3
    | _ => simp [dAdd] at h3
  | list hx lx rx' =>
    cases h2 with
    | list hy ly ry' =>
      simp only [dAdd] at h3
      split at h3
      · rename_i hz
        cases h3
        rw [← rx'.length, ← ry'.length] at hz
        refine op_cat pins s σ H _ _ v u Q I rx ry ⟨_, _, _, _, rfl, rfl, hx, hy, hz, fun p hp => ?_⟩
        exact new_lst gh hp (by rw [List.length_append]; exact hz) (rx'.append ry') q
      · cases h3
    | _ => simp [dAdd] at h3
  | tup hx lx rx' =>
    cases h2 with
    | tup hy ly ry' =>
      simp only [dAdd] at h3
      split at h3
      · rename_i hz
        cases h3
        rw [← rx'.length, ← ry'.length] at hz
        refine op_catA pins s σ H _ _ v u Q I rx ry ⟨_, _, _, _, rfl, rfl, sameT gh hx, sameT gh hy, hz, fun e => ?_, fun n e => ?_, fun _ _ p hp => ?_⟩
        · subst e
          cases rx'
          exact q _ _ _ (Grow.refl gh) (Rep.tup hy ly ry')
        · subst e
          cases ry'
          rw [List.append_nil] at q
          exact q _ _ _ (Grow.refl gh) (Rep.tup hx lx rx')
        · exact new_tup gh hp (by rw [List.length_append]; exact hz) (rx'.append ry') q
      · cases h3
    | _ => simp [dAdd] at h3
  | _ => cases h2 <;> simp [dAdd] at h3
theorem o_ii {f : Value → Value → Sem Value} {g : D → D → Option D} {C : Int → Int → Prop} {k : Int → Int → Int} (ho : OpR X f (rI C fun i j => .int (k i j)))
    (hg : ∀ d e r, g d e = some r → ∃ i j, d = .int i ∧ e = .int j ∧ C i j ∧ r = .int (k i j)) : OpD X cl f g := by
  intro pins s σ H x y v u Q I rx ry h
  obtain ⟨G, d, e, r, gh, h1, h2, h3, q⟩ := h
  obtain ⟨i, j, rfl, rfl, c, rfl⟩ := hg d e r h3
  cases h1
  cases h2
  exact ho pins s σ H _ _ v u Q I rx ry ⟨i, j, rfl, rfl, c, q _ _ _ (Grow.refl gh) (.int _)⟩
theorem o_sub : OpD X cl (binaryOp .Sub) dSub := by
  intro pins s σ H x y v u Q I rx ry h
  obtain ⟨G, d, e, r, gh, h1, h2, h3, q⟩ := h
  unfold dSub at h3
  split at h3
  · cases h3
    cases h1
    cases h2
    exact op_sub pins s σ H _ _ v u Q I rx ry ⟨_, _, rfl, rfl, q _ _ _ (Grow.refl gh) (.int _)⟩
  · cases h3
def CMulA (i j : Int) : Prop := (-(2 ^ 64) < i ∧ i < 2 ^ 64) ∨ (-(2 ^ 64) < j ∧ j < 2 ^ 64) ∨ i.natAbs.log2 + j.natAbs.log2 < 1000000
theorem op_mulA : OpR X (binaryOp .Mult) (rI CMulA fun i j => .int (i * j)) := by
  intro pins s σ H x y v u Q I rx ry h
  obtain ⟨i, j, rfl, rfl, c, q⟩ := h
  rcases c with c | c | c
  · exact op_mul pins s σ H _ _ v u Q I rx ry ⟨i, j, rfl, rfl, .inl c, q⟩
  · exact op_mul pins s σ H _ _ v u Q I rx ry ⟨i, j, rfl, rfl, .inr c, q⟩
  · exact op_mulW pins s σ H _ _ v u Q I rx ry ⟨i, j, rfl, rfl, c, q⟩
theorem o_mul : OpD X cl (binaryOp .Mult) dMul := o_ii op_mulA fun d e r h => by
  unfold dMul at h
  split at h
  · split at h
    · rename_i i j c
      cases h
      exact ⟨i, j, rfl, rfl, c, rfl⟩
    · cases h
  · cases h
theorem o_fdv : OpD X cl (binaryOp .FloorDiv) dFdv := o_ii op_fdivW fun d e r h => by
  unfold dFdv at h
  split at h
  · split at h
    · rename_i i j c
      cases h
      exact ⟨i, j, rfl, rfl, c, rfl⟩
    · cases h
  · cases h
theorem o_mod : OpD X cl (binaryOp .Mod) dMod := o_ii op_mod fun d e r h => by
  unfold dMod at h
  split at h
  · split at h
    · rename_i i j c
      cases h
      exact ⟨i, j, rfl, rfl, c, rfl⟩
    · cases h
  · cases h
theorem o_pow : OpD X cl (binaryOp .Pow) dPow := o_ii op_pow fun d e r h => by
  unfold dPow at h
  split at h
  · split at h
    · rename_i i j c
      cases h
      exact ⟨i, j, rfl, rfl, c, rfl⟩
    · cases h
  · cases h
theorem o_neg : UnD X cl (unaryOp .USub) dNeg := by
  intro pins s σ H x v Q I rx h
  obtain ⟨G, d, r, gh, h1, h2, q⟩ := h
  unfold dNeg at h2
  split at h2
  · cases h2
    cases h1
    exact un_neg pins s σ H _ v Q I rx ⟨_, rfl, q _ _ _ (Grow.refl gh) (.int _)⟩
  · cases h2

/-! ### comparisons -/
def dLt : D → D → Option D
  | .int i, .int j => some (.bl (decide (i < j)))
  | _, _ => none
def dLe : D → D → Option D
  | .int i, .int j => some (.bl (decide (i ≤ j)))
  | _, _ => none
def dGt : D → D → Option D
  | .int i, .int j => some (.bl (decide (j < i)))
  | _, _ => none
def dGe : D → D → Option D
  | .int i, .int j => some (.bl (decide (j ≤ i)))
  | _, _ => none
theorem o_ib {f : Value → Value → Sem Value} {g : D → D → Option D} {k : Int → Int → Bool} (ho : OpR X f (rI0 fun i j => .bl (k i j)))
    (hg : ∀ d e r, g d e = some r → ∃ i j, d = .int i ∧ e = .int j ∧ r = .bl (k i j)) : OpD X cl f g := by
  intro pins s σ H x y v u Q I rx ry h
  obtain ⟨G, d, e, r, gh, h1, h2, h3, q⟩ := h
  obtain ⟨i, j, rfl, rfl, rfl⟩ := hg d e r h3
  cases h1
  cases h2
  exact ho pins s σ H _ _ v u Q I rx ry ⟨i, j, rfl, rfl, q _ _ _ (Grow.refl gh) (.bl _)⟩
theorem o_lt : OpD X cl (compareOp .Lt) dLt := o_ib op_lt fun d e r h => by
  unfold dLt at h; split at h
  · cases h; exact ⟨_, _, rfl, rfl, rfl⟩
  · cases h
theorem o_le : OpD X cl (compareOp .LtE) dLe := o_ib op_le fun d e r h => by
  unfold dLe at h; split at h
  · cases h; exact ⟨_, _, rfl, rfl, rfl⟩
  · cases h
theorem o_gt : OpD X cl (compareOp .Gt) dGt := o_ib op_gt fun d e r h => by
  unfold dGt at h; split at h
  · cases h; exact ⟨_, _, rfl, rfl, rfl⟩
  · cases h
theorem o_ge : OpD X cl (compareOp .GtE) dGe := o_ib op_ge fun d e r h => by
  unfold dGe at h; split at h
  · cases h; exact ⟨_, _, rfl, rfl, rfl⟩
  · cases h
/-- == -/
def eqB : D → D → Option Bool
  | .int i, .int j => some (decide (i = j))
  | .str x, .str y => some (decide (x = y))
  | d, e => d.py.bind fun p => e.py.bind fun q => if SeqAt.shaped p = true ∧ SeqAt.shaped q = true then some (PyData.eqv p q) else none
def dEq (d e : D) : Option D := (eqB d e).map .bl
def dNe (d e : D) : Option D := (eqB d e).map fun b => .bl !b
theorem eqB_cases {d e : D} {b : Bool} (h : eqB d e = some b) : (∃ i j, d = .int i ∧ e = .int j ∧ b = decide (i = j)) ∨ (∃ x y, d = .str x ∧ e = .str y ∧ b = decide (x = y)) ∨
    ∃ p q, d.py = some p ∧ e.py = some q ∧ SeqAt.shaped p = true ∧ SeqAt.shaped q = true ∧ b = PyData.eqv p q := by
  unfold eqB at h
  split at h
  · cases h; exact .inl ⟨_, _, rfl, rfl, rfl⟩
  · cases h; exact .inr (.inl ⟨_, _, rfl, rfl, rfl⟩)
  · simp only [Option.bind_eq_some_iff] at h
    obtain ⟨p, h1, q, h2, h3⟩ := h
    split at h3
    · rename_i c
      cases h3
      exact .inr (.inr ⟨p, q, h1, h2, c.1, c.2, rfl⟩)
    · cases h3
theorem dec_vint {i j : Int} : decide (V.int i = V.int j) = decide (i = j) := by
  by_cases h : i = j
  · subst h; simp
  · have k : ¬ V.int i = V.int j := fun q => h (V.int.inj q)
    rw [decide_eq_false h, decide_eq_false k]
theorem dec_vstr {i j : Str} : decide (V.str i = V.str j) = decide (i = j) := by
  by_cases h : i = j
  · subst h; simp
  · have k : ¬ V.str i = V.str j := fun q => h (V.str.inj q)
    rw [decide_eq_false h, decide_eq_false k]
theorem o_eq (hu : X.A.units + 64 < cLine) : OpD X cl (compareOp .Eq) dEq := by
  intro pins s σ H x y v u Q I rx ry h
  obtain ⟨G, d, e, r, gh, h1, h2, h3, q⟩ := h
  simp only [dEq, Option.map_eq_some_iff] at h3
  obtain ⟨b, h3, rfl⟩ := h3
  rcases eqB_cases h3 with ⟨i, j, rfl, rfl, rfl⟩ | ⟨a, c, rfl, rfl, rfl⟩ | ⟨p, p', e1, e2, s1, s2, rfl⟩
  · cases h1
    cases h2
    exact op_eq pins s σ H _ _ v u Q I rx ry ⟨rfl, by rw [dec_vint]; exact q _ _ _ (Grow.refl gh) (.bl _)⟩
  · cases h1
    cases h2
    exact op_eq pins s σ H _ _ v u Q I rx ry ⟨rfl, by rw [dec_vstr]; exact q _ _ _ (Grow.refl gh) (.bl _)⟩
  · exact op_eqD hu pins s σ H _ _ v u Q I rx ry ⟨p, p', (h1.rep gh).dp e1, (h2.rep gh).dp e2, s1, s2, q _ _ _ (Grow.refl gh) (.bl _)⟩
theorem o_ne (hu : X.A.units + 64 < cLine) : OpD X cl (compareOp .NotEq) dNe := by
  intro pins s σ H x y v u Q I rx ry h
  obtain ⟨G, d, e, r, gh, h1, h2, h3, q⟩ := h
  simp only [dNe, Option.map_eq_some_iff] at h3
  obtain ⟨b, h3, rfl⟩ := h3
  rcases eqB_cases h3 with ⟨i, j, rfl, rfl, rfl⟩ | ⟨a, c, rfl, rfl, rfl⟩ | ⟨p, p', e1, e2, s1, s2, rfl⟩
  · cases h1
    cases h2
    exact op_ne pins s σ H _ _ v u Q I rx ry ⟨rfl, by rw [dec_vint]; exact q _ _ _ (Grow.refl gh) (.bl _)⟩
  · cases h1
    cases h2
    exact op_ne pins s σ H _ _ v u Q I rx ry ⟨rfl, by rw [dec_vstr]; exact q _ _ _ (Grow.refl gh) (.bl _)⟩
  · exact op_neD hu pins s σ H _ _ v u Q I rx ry ⟨p, p', (h1.rep gh).dp e1, (h2.rep gh).dp e2, s1, s2, q _ _ _ (Grow.refl gh) (.bl _)⟩
/-- in: a list, a tuple of data -/
def inB (d : D) : D → Option Bool
  | .list ds => d.py.bind fun p => (pyAll ds).bind fun ps => if SeqAt.shaped p = true ∧ SeqAt.shaped (.list ps) = true then some (ps.any fun z => PyData.eqv z p) else none
  | .tup ds => d.py.bind fun p => (pyAll ds).bind fun ps => if SeqAt.shaped p = true ∧ SeqAt.shaped (.tuple ps) = true then some (ps.any fun z => PyData.eqv z p) else none
  | _ => none
def dIn (d e : D) : Option D := (inB d e).map .bl
def dNotIn (d e : D) : Option D := (inB d e).map fun b => .bl !b
theorem o_in (hu : X.A.units + 65 < cLine) : OpD X cl (compareOp .In) dIn := by
  intro pins s σ H x y v u Q I rx ry h
  obtain ⟨G, d, e, r, gh, h1, h2, h3, q⟩ := h
  simp only [dIn, Option.map_eq_some_iff] at h3
  obtain ⟨b, h3, rfl⟩ := h3
  unfold inB at h3
  split at h3
  · rename_i ds
    simp only [Option.bind_eq_some_iff] at h3
    obtain ⟨p, e1, ps, e2, h3⟩ := h3
    split at h3
    · rename_i c
      cases h3
      exact op_inD hu pins s σ H _ _ v u Q I rx ry ⟨p, ps, (h1.rep gh).dp e1, (h2.rep gh).dp (by simp [D.py, e2]), c.1, c.2, q _ _ _ (Grow.refl gh) (.bl _)⟩
    · cases h3
  · rename_i ds
    simp only [Option.bind_eq_some_iff] at h3
    obtain ⟨p, e1, ps, e2, h3⟩ := h3
    split at h3
    · rename_i c
      cases h3
      obtain ⟨as, r1⟩ := Dp.reads I p x v ((h1.rep gh).dp e1) rx
      obtain ⟨bs, r2⟩ := Dp.reads I (.tuple ps) y u ((h2.rep gh).dp (by simp [D.py, e2])) ry
      have k2 : PyData.canLayAll0 ps = true := by have := SeqAt.canLay_of_shaped c.2; simpa only [PyData.canLay0] using this
      have k3 := SeqAt.depth_of_shaped c.1
      exact SeqAt.in_tuple_reads r2 r1 k2 (SeqAt.canLay_of_shaped c.1) (by omega) ⟨.bl _, H, I, rfl, q _ _ _ (Grow.refl gh) (.bl _)⟩
    · cases h3
  · cases h3
theorem o_notIn (hu : X.A.units + 65 < cLine) : OpD X cl (compareOp .NotIn) dNotIn := by
  intro pins s σ H x y v u Q I rx ry h
  obtain ⟨G, d, e, r, gh, h1, h2, h3, q⟩ := h
  simp only [dNotIn, Option.map_eq_some_iff] at h3
  obtain ⟨b, h3, rfl⟩ := h3
  unfold inB at h3
  split at h3
  · rename_i ds
    simp only [Option.bind_eq_some_iff] at h3
    obtain ⟨p, e1, ps, e2, h3⟩ := h3
    split at h3
    · rename_i c
      cases h3
      exact op_notInD hu pins s σ H _ _ v u Q I rx ry ⟨p, ps, (h1.rep gh).dp e1, (h2.rep gh).dp (by simp [D.py, e2]), c.1, c.2, q _ _ _ (Grow.refl gh) (.bl _)⟩
    · cases h3
  · rename_i ds
    simp only [Option.bind_eq_some_iff] at h3
    obtain ⟨p, e1, ps, e2, h3⟩ := h3
    split at h3
    · rename_i c
      cases h3
      obtain ⟨as, r1⟩ := Dp.reads I p x v ((h1.rep gh).dp e1) rx
      obtain ⟨bs, r2⟩ := Dp.reads I (.tuple ps) y u ((h2.rep gh).dp (by simp [D.py, e2])) ry
      have k2 : PyData.canLayAll0 ps = true := by have := SeqAt.canLay_of_shaped c.2; simpa only [PyData.canLay0] using this
      have k3 := SeqAt.depth_of_shaped c.1
      exact SeqAt.notIn_tuple_reads r2 r1 k2 (SeqAt.canLay_of_shaped c.1) (by omega) ⟨.bl _, H, I, rfl, q _ _ _ (Grow.refl gh) (.bl _)⟩
    · cases h3
  · cases h3
/-- is None, is True -/
def isNon : D → Bool
  | .non => true
  | _ => false
def dIs : D → D → Option D
  | d, .non => some (.bl (isNon d))
  | .bl a, .bl b => some (.bl (decide (a = b)))
  | _, _ => none
def dIsNot : D → D → Option D
  | d, .non => some (.bl !isNon d)
  | .bl a, .bl b => some (.bl !decide (a = b))
  | _, _ => none
theorem isNon_ok {K : PySem.W.Frag} {G H : Hp} {v : V} {d : D} (h : Top K cl G H v d) : decide (v = .non) = isNon d := by
  cases h <;> simp [isNon]
theorem o_is : OpD X cl (compareOp .Is) dIs := by
  intro pins s σ H x y v u Q I rx ry h
  obtain ⟨G, d, e, r, gh, h1, h2, h3, q⟩ := h
  unfold dIs at h3
  split at h3
  · cases h3
    cases h2
    exact op_isN pins s σ H _ _ v u Q I rx ry ⟨rfl, by rw [isNon_ok h1]; exact q _ _ _ (Grow.refl gh) (.bl _)⟩
  · cases h3
    cases h1
    cases h2
    exact op_isBl pins s σ H _ _ v u Q I rx ry ⟨_, _, rfl, rfl, q _ _ _ (Grow.refl gh) (.bl _)⟩
  · cases h3
theorem o_isNot : OpD X cl (compareOp .IsNot) dIsNot := by
  intro pins s σ H x y v u Q I rx ry h
  obtain ⟨G, d, e, r, gh, h1, h2, h3, q⟩ := h
  unfold dIsNot at h3
  split at h3
  · cases h3
    cases h2
    exact op_notN pins s σ H _ _ v u Q I rx ry ⟨rfl, by rw [isNon_ok h1]; exact q _ _ _ (Grow.refl gh) (.bl _)⟩
  · cases h3
    cases h1
    cases h2
    exact op_notBl pins s σ H _ _ v u Q I rx ry ⟨_, _, rfl, rfl, q _ _ _ (Grow.refl gh) (.bl _)⟩
  · cases h3

/-! ### items and slices -/
def dIx : D → D → Option D
  | .list ds, .int i => atI ds i
  | .tup ds, .int i => atI ds i
  | .str z, .int i => (atI z.cps.toList i).map fun c => .str ⟨#[c]⟩
  | _, _ => none
theorem Reps.atI {K : PySem.W.Frag} {G : Hp} {xs : List V} {ds : List D} {i : Int} {d : D} (r : Reps K cl G xs ds) (h : L2.atI ds i = some d) : ∃ v, L2.atI xs i = some v ∧ Rep K cl G v d := by
  unfold L2.atI at h ⊢
  rw [r.length]
  cases e : ixN ds.length i with
  | none => rw [e] at h; cases h
  | some j =>
    rw [e] at h
    obtain ⟨v, h1, h2⟩ := r.get h
    exact ⟨v, h1, h2⟩
theorem i_ix : IxD X cl dIx := by
  intro va sl pins s σ H x y v u Q I rx ry h hs
  obtain ⟨G, d, e, r, gh, h1, h2, h3, q⟩ := h
  cases h1 with
  | list k l rr =>
    cases h2 with
    | int i =>
      obtain ⟨w, h4, h5⟩ := rr.atI h3
      exact ix_list va sl pins s σ H _ _ v u Q I rx ry ⟨_, _, _, _, rfl, rfl, SqL.of k, h4, q _ _ _ (Grow.refl gh) h5⟩ hs
    | _ => simp [dIx] at h3
  | tup k l rr =>
    cases h2 with
    | int i =>
      obtain ⟨w, h4, h5⟩ := rr.atI h3
      exact ix_tup va sl pins s σ H _ _ v u Q I rx ry ⟨_, _, _, _, rfl, rfl, sameT gh k, h4, q _ _ _ (Grow.refl gh) h5⟩ hs
    | _ => simp [dIx] at h3
  | str z hz =>
    cases h2 with
    | int i =>
      simp only [dIx, Option.map_eq_some_iff] at h3
      obtain ⟨c, h4, rfl⟩ := h3
      exact ix_str va sl pins s σ H _ _ v u Q I rx ry ⟨z, i, c, rfl, rfl, hz, h4, q _ _ _ (Grow.refl gh) (.str _ (by show 1 ≤ sizeLine; decide))⟩ hs
    | _ => simp [dIx] at h3
  | _ => cases h2 <;> simp [dIx] at h3
/-- an item of a sequence or of a dict -/
def keyOf : D → Option Key
  | .int i => some (.inl i)
  | .str x => some (.inr x)
  | _ => none
def valD (ks : List (Key × D)) (k : Key) : Option D := (ks.find? fun kv => decide (kv.1 = k)).map (·.2)
def dAt (d e : D) : Option D := match d with
  | .dict ks => (keyOf e).bind fun k => valD ks k
  | _ => dIx d e
theorem RepK.val {K : PySem.W.Frag} {G : Hp} {k : Key} : ∀ {kvs : List (Key × V)} {ks : List (Key × D)} {d : D}, RepK K cl G kvs ks → valD ks k = some d → ∃ v, valV kvs k = some v ∧ Rep K cl G v d
  | _, _, _, .nil, h => by simp [valD] at h
  | _, _, d, .cons (k := k') (v := v) (d := d') (vs := vs) (ds := ds) h r, e => by
    by_cases c : k' = k
    · have e' : d' = d := by simpa [valD, c] using e
      subst e'
      exact ⟨v, by simp [valV, c], h⟩
    · have e' : valD ds k = some d := by simpa [valD, c] using e
      obtain ⟨w, h1, h2⟩ := RepK.val r e'
      exact ⟨w, by simpa [valV, c] using h1, h2⟩
theorem key_top {K : PySem.W.Frag} {G H : Hp} {v : V} {e : D} {k : Key} (h : Top K cl G H v e) (p : keyOf e = some k) : v = kV k := by
  unfold keyOf at p
  split at p
  · cases p; cases h; rfl
  · cases p; cases h; rfl
  · cases p
theorem pe_either {e : Expr} {t t' : TE} (h : PE X e t) (h' : PE X e t') : PE X e (fun σ H Q => t σ H Q ∨ t' σ H Q) := ⟨fun pins s σ H Q I q => by
  rcases q with q | q
  · exact h.run pins s σ H Q I q
  · exact h'.run pins s σ H Q I q⟩
theorem d_at {a b : Expr} {ma mb : Ex} {pos : Pos} (hu : X.A.units + 64 < cLine) (ha : PD X cl a ma) (hb : PD X cl b mb) (hs : PlainIx b := by exact fun _ _ => rfl) : PD X cl (.Subscript a b pos) (eBin dAt ma mb) := by
  have h2 : PE X (.Subscript a b pos) (tDGet (tD X.K cl ma) (tD X.K cl mb)) := pe_dget (by omega) ha hb hs
  refine pe_imp (pe_either (d_ix i_ix ha hb hs) h2) fun σ H Q h => ?_
  obtain ⟨F, T, G, ρ, r1, ρ', E, e, q⟩ := h
  simp only [eBin, Option.bind_eq_some_iff, Option.map_eq_some_iff, Prod.mk.injEq] at e
  obtain ⟨⟨ra, ρ1⟩, e1, ⟨rb, ρ2⟩, e2, d, e3, d', e4, r', e5, rfl, rfl⟩ := e
  unfold dAt at e5
  split at e5
  · rename_i ks
    simp only [Option.bind_eq_some_iff] at e5
    obtain ⟨k, k1, k2⟩ := e5
    refine .inr ⟨F, T, G, ρ, ra, ρ1, E, e1, fun x G1 H1 g1 E1 R1 => ?_⟩
    refine ⟨F, T, G1, ρ1, rb, ρ2, E1, e2, fun y G2 H2 g2 E2 R2 => ?_⟩
    have t1 := E2.top (R1.mono g2) e3
    have t2 := E2.top R2 e4
    cases t1 with
    | dict hk l rr =>
      obtain ⟨w, h4, h5⟩ := rr.val k2
      refine ⟨_, w, rfl, ?_, q w G2 H2 (g1.trans g2) E2 h5⟩
      rw [key_top t2 k1, ← h4]
      exact DGet.k hk
  · refine .inl ⟨F, T, G, ρ, .val r', ρ2, E, ?_, q⟩
    simp only [eBin, Option.bind_eq_some_iff, Option.map_eq_some_iff, Prod.mk.injEq]
    exact ⟨(ra, ρ1), e1, (rb, ρ2), e2, d, e3, d', e4, r', e5, rfl, rfl⟩
def cutD (ds : List D) (lo hi : Option Int) : List D := (ds.drop (HT.sIx ds.length 0 lo)).take (HT.sIx ds.length ds.length hi - HT.sIx ds.length 0 lo)
def dSl (d : D) (lo hi : Option Int) : Option D := match d with
  | .list ds => some (.list (cutD ds lo hi))
  | .tup ds => some (.tup (cutD ds lo hi))
  | .str z => some (.str (cutS z lo hi))
  | _ => none
theorem Reps.cut {K : PySem.W.Frag} {G : Hp} {xs : List V} {ds : List D} (r : Reps K cl G xs ds) (lo hi : Option Int) : Reps K cl G (cutV xs lo hi) (cutD ds lo hi) := by
  unfold cutV cutD
  rw [r.length]
  exact (r.drop _).take _
theorem cut_whole {xs : List V} {lo hi : Option Int} (c : HT.sIx xs.length 0 lo = 0 ∧ HT.sIx xs.length xs.length hi = xs.length) : cutV xs lo hi = xs := by
  unfold cutV
  rw [c.1, c.2, List.drop_zero, Nat.sub_zero, List.take_length]
theorem s_sl : SlD X cl dSl := by
  intro pins s σ H x v vl vu lo hi sl Q I rx hs pl pu h
  obtain ⟨G, d, r, gh, h1, h2, q⟩ := h
  cases h1 with
  | list k l rr =>
    cases h2
    refine sl_list pins s σ H _ v vl vu lo hi sl Q I rx hs pl pu ⟨_, _, rfl, SqL.of k, fun p hp => ?_⟩
    exact new_lst gh hp (Nat.le_trans (cutV_length _ _ _) l) (rr.cut lo hi) q
  | tup k l rr =>
    cases h2
    refine sl_tupA pins s σ H _ v vl vu lo hi sl Q I rx hs pl pu ⟨_, _, rfl, sameT gh k, fun c => ?_, fun c p hp => ?_⟩
    · refine q _ _ _ (Grow.refl gh) (Rep.tup k l ?_)
      have e := rr.cut lo hi
      rw [cut_whole c] at e
      exact e
    · exact new_tup gh hp (Nat.le_trans (cutV_length _ _ _) l) (rr.cut lo hi) q
  | str z hz =>
    cases h2
    exact sl_str pins s σ H _ v vl vu lo hi sl Q I rx hs pl pu ⟨z, rfl, hz, q _ _ _ (Grow.refl gh) (.str _ (Nat.le_trans (cutS_length _ _ _) hz))⟩
  | _ => simp [dSl] at h2

/-! ### built-ins -/
def gLen : List D → Option D
  | [.list ds] => some (.int ds.length)
  | [.tup ds] => some (.int ds.length)
  | [.str z] => some (.int z.length)
  | [.scr ns] => some (.int ns.length)
  | _ => none
theorem c_len : CallD X cl (.builtin "len") gLen := by
  intro pins s σ H xs us Q I r h
  obtain ⟨G, ds, r', gh, h1, h2, q⟩ := h
  unfold gLen at h2
  split at h2
  · cases h2
    cases h1 with | cons t n =>
    cases n
    cases t with | list k l rr =>
    exact call_len_seq pins s σ H _ us Q I r ⟨_, _, rfl, .inl (SqL.of k), by rw [rr.length]; exact q _ _ _ (Grow.refl gh) (.int _)⟩
  · cases h2
    cases h1 with | cons t n =>
    cases n
    cases t with | tup k l rr =>
    exact call_len_seq pins s σ H _ us Q I r ⟨_, _, rfl, .inr (sameT gh k), by rw [rr.length]; exact q _ _ _ (Grow.refl gh) (.int _)⟩
  · cases h2
    cases h1 with | cons t n =>
    cases n
    cases t with | str z hz =>
    exact call_len_str pins s σ H _ us Q I r ⟨_, rfl, hz, q _ _ _ (Grow.refl gh) (.int _)⟩
  · cases h2
    cases h1 with | cons t n =>
    cases n
    cases t with | scr k l =>
    exact call_len_seq pins s σ H _ us Q I r ⟨_, _, rfl, .inl (gh.seq k), by rw [List.length_map]; exact q _ _ _ (Grow.refl gh) (.int _)⟩
  · cases h2
def gAbs : List D → Option D
  | [.int i] => some (.int (if i < 0 then -i else i))
  | _ => none
theorem c_abs : CallD X cl (.builtin "abs") gAbs := by
  intro pins s σ H xs us Q I r h
  obtain ⟨G, ds, r', gh, h1, h2, q⟩ := h
  unfold gAbs at h2
  split at h2
  · cases h2
    cases h1 with | cons t n =>
    cases n
    cases t
    exact call_abs pins s σ H _ us Q I r ⟨_, rfl, q _ _ _ (Grow.refl gh) (.int _)⟩
  · cases h2
def gInt : List D → Option D
  | [.int i] => some (.int i)
  | [.bl b] => some (.int (if b then 1 else 0))
  | _ => none
theorem c_int : CallD X cl (.type "int") gInt := by
  intro pins s σ H xs us Q I r h
  obtain ⟨G, ds, r', gh, h1, h2, q⟩ := h
  unfold gInt at h2
  split at h2
  · cases h2
    cases h1 with | cons t n =>
    cases n
    cases t
    exact call_int1 pins s σ H _ us Q I r (.inl ⟨_, rfl, q _ _ _ (Grow.refl gh) (.int _)⟩)
  · cases h2
    cases h1 with | cons t n =>
    cases n
    cases t
    exact call_int1 pins s σ H _ us Q I r (.inr ⟨_, rfl, q _ _ _ (Grow.refl gh) (.int _)⟩)
  · cases h2
def gTuple : List D → Option D
  | [.list ds] => some (.tup ds)
  | [.tup ds] => some (.tup ds)
  | _ => none
theorem c_tuple : CallD X cl (.type "tuple") gTuple := by
  intro pins s σ H xs us Q I r h
  obtain ⟨G, ds, r', gh, h1, h2, q⟩ := h
  unfold gTuple at h2
  split at h2
  · cases h2
    cases h1 with | cons t n =>
    cases n
    cases t with | list k l rr =>
    refine call_tuple_of pins s σ H _ us Q I r ⟨_, _, rfl, .inl ⟨SqL.of k, fun p hp => ?_⟩⟩
    exact new_tup gh hp l rr q
  · cases h2
    cases h1 with | cons t n =>
    cases n
    cases t with | tup k l rr =>
    exact call_tuple_of pins s σ H _ us Q I r ⟨_, _, rfl, .inr ⟨sameT gh k, q _ _ _ (Grow.refl gh) (Rep.tup k l rr)⟩⟩
  · cases h2
def gList : List D → Option D
  | [.list ds] => some (.list ds)
  | [.tup ds] => some (.list ds)
  | [.scr ns] => some (.list (ns.map .int))
  | _ => none
theorem c_list : CallD X cl (.type "list") gList := by
  intro pins s σ H xs us Q I r h
  obtain ⟨G, ds, r', gh, h1, h2, q⟩ := h
  unfold gList at h2
  split at h2
  · cases h2
    cases h1 with | cons t n =>
    cases n
    cases t with | list k l rr =>
    refine call_list_of pins s σ H _ us Q I r ⟨_, _, rfl, .inl (SqL.of k), fun p hp => ?_⟩
    exact new_lst gh hp l rr q
  · cases h2
    cases h1 with | cons t n =>
    cases n
    cases t with | tup k l rr =>
    refine call_list_of pins s σ H _ us Q I r ⟨_, _, rfl, .inr (sameT gh k), fun p hp => ?_⟩
    exact new_lst gh hp l rr q
  · cases h2
    cases h1 with | cons t n =>
    cases n
    cases t with | scr k l =>
    refine call_list_of pins s σ H _ us Q I r ⟨_, _, rfl, .inl (gh.seq k), fun p hp => ?_⟩
    exact new_lst gh hp (by rw [List.length_map]; exact l) (Reps.ints _) q
  · cases h2
def ints? : List D → Option (List Int)
  | [] => some []
  | .int i :: ds => (ints? ds).map fun ns => i :: ns
  | _ => none
def bls? : List D → Option (List Bool)
  | [] => some []
  | .bl i :: ds => (bls? ds).map fun ns => i :: ns
  | _ => none
theorem Reps.ints? {K : PySem.W.Frag} {G : Hp} : ∀ {ds : List D} {xs : List V} {ns : List Int}, Reps K cl G xs ds → DL.ints? ds = some ns → xs = ns.map V.int
  | [], _, _, r, h => by cases r; cases h; rfl
  | .int i :: ds, _, _, r, h => by
    simp only [DL.ints?, Option.map_eq_some_iff] at h
    obtain ⟨ns, h, rfl⟩ := h
    cases r with | cons a b =>
    cases a
    rw [Reps.ints? b h]
    rfl
  | .non :: _, _, _, _, h | .bl _ :: _, _, _, _, h | .str _ :: _, _, _, _, h | .scr _ :: _, _, _, _, h | .list _ :: _, _, _, _, h | .tup _ :: _, _, _, _, h | .dict _ :: _, _, _, _, h | .inst _ _ :: _, _, _, _, h => by cases h
theorem Reps.bls? {K : PySem.W.Frag} {G : Hp} : ∀ {ds : List D} {xs : List V} {ns : List Bool}, Reps K cl G xs ds → DL.bls? ds = some ns → xs = ns.map V.bl
  | [], _, _, r, h => by cases r; cases h; rfl
  | .bl i :: ds, _, _, r, h => by
    simp only [DL.bls?, Option.map_eq_some_iff] at h
    obtain ⟨ns, h, rfl⟩ := h
    cases r with | cons a b =>
    cases a
    rw [Reps.bls? b h]
    rfl
  | .non :: _, _, _, _, h | .int _ :: _, _, _, _, h | .str _ :: _, _, _, _, h | .scr _ :: _, _, _, _, h | .list _ :: _, _, _, _, h | .tup _ :: _, _, _, _, h | .dict _ :: _, _, _, _, h | .inst _ _ :: _, _, _, _, h => by cases h
def gSum : List D → Option D
  | [.list ds] => (ints? ds).map fun ns => .int ns.sum
  | _ => none
theorem c_sum (hc : X.calm = true) : CallD X cl (.builtin "sum") gSum := by
  intro pins s σ H xs us Q I r h
  obtain ⟨G, ds, r', gh, h1, h2, q⟩ := h
  unfold gSum at h2
  split at h2
  · simp only [Option.map_eq_some_iff] at h2
    obtain ⟨ns, e, rfl⟩ := h2
    cases h1 with | cons t n =>
    cases n
    cases t with | list k l rr =>
    rw [rr.ints? e] at k
    exact cr_sum hc pins s σ H _ us Q I r ⟨_, _, rfl, SqL.of k, q _ _ _ (Grow.refl gh) (.int _)⟩
  · cases h2
def gAll : List D → Option D
  | [.list ds] => (bls? ds).map fun bs => .bl (bs.all id)
  | _ => none
def gAny : List D → Option D
  | [.list ds] => (bls? ds).map fun bs => .bl (bs.any id)
  | _ => none
theorem c_all (hc : X.calm = true) : CallD X cl (.builtin "all") gAll := by
  intro pins s σ H xs us Q I r h
  obtain ⟨G, ds, r', gh, h1, h2, q⟩ := h
  unfold gAll at h2
  split at h2
  · simp only [Option.map_eq_some_iff] at h2
    obtain ⟨ns, e, rfl⟩ := h2
    cases h1 with | cons t n =>
    cases n
    cases t with | list k l rr =>
    rw [rr.bls? e] at k
    exact cr_all hc pins s σ H _ us Q I r ⟨_, _, rfl, SqL.of k, q _ _ _ (Grow.refl gh) (.bl _)⟩
  · cases h2
theorem c_any (hc : X.calm = true) : CallD X cl (.builtin "any") gAny := by
  intro pins s σ H xs us Q I r h
  obtain ⟨G, ds, r', gh, h1, h2, q⟩ := h
  unfold gAny at h2
  split at h2
  · simp only [Option.map_eq_some_iff] at h2
    obtain ⟨ns, e, rfl⟩ := h2
    cases h1 with | cons t n =>
    cases n
    cases t with | list k l rr =>
    rw [rr.bls? e] at k
    exact cr_any hc pins s σ H _ us Q I r ⟨_, _, rfl, SqL.of k, q _ _ _ (Grow.refl gh) (.bl _)⟩
  · cases h2
/-- the least, the greatest of a list that is not empty -/
def minI : Int → List Int → Int
  | m, [] => m
  | m, n :: ns => minI (if n < m then n else m) ns
def maxI : Int → List Int → Int
  | m, [] => m
  | m, n :: ns => maxI (if m < n then n else m) ns
theorem minI_ok : ∀ (m : Int) (ns : List Int), minI m ns ∈ m :: ns ∧ ∀ y ∈ m :: ns, minI m ns ≤ y
  | m, [] => ⟨by simp [minI], by simp [minI]⟩
  | m, n :: ns => by
    obtain ⟨h1, h2⟩ := minI_ok (if n < m then n else m) ns
    unfold minI
    constructor
    · rcases List.mem_cons.mp h1 with h | h
      · rw [h]; split <;> simp
      · simp [h]
    · intro y hy
      have h3 := h2 (if n < m then n else m) (by simp)
      have h4 : (if n < m then n else m) ≤ m := by split <;> omega
      have h5 : (if n < m then n else m) ≤ n := by split <;> omega
      rcases List.mem_cons.mp hy with rfl | hy
      · exact Int.le_trans h3 h4
      · rcases List.mem_cons.mp hy with rfl | hy
        · exact Int.le_trans h3 h5
        · exact h2 y (by simp [hy])
theorem maxI_ok : ∀ (m : Int) (ns : List Int), maxI m ns ∈ m :: ns ∧ ∀ y ∈ m :: ns, y ≤ maxI m ns
  | m, [] => ⟨by simp [maxI], by simp [maxI]⟩
  | m, n :: ns => by
    obtain ⟨h1, h2⟩ := maxI_ok (if m < n then n else m) ns
    unfold maxI
    constructor
    · rcases List.mem_cons.mp h1 with h | h
      · rw [h]; split <;> simp
      · simp [h]
    · intro y hy
      have h3 := h2 (if m < n then n else m) (by simp)
      have h4 : m ≤ (if m < n then n else m) := by split <;> omega
      have h5 : n ≤ (if m < n then n else m) := by split <;> omega
      rcases List.mem_cons.mp hy with rfl | hy
      · exact Int.le_trans h4 h3
      · rcases List.mem_cons.mp hy with rfl | hy
        · exact Int.le_trans h5 h3
        · exact h2 y (by simp [hy])
def gMin : List D → Option D
  | [.list ds] => (ints? ds).bind fun ns => match ns with
    | [] => none
    | n :: ns => some (.int (minI n ns))
  | [.int i, .int j] => some (.int (if j < i then j else i))
  | _ => none
def gMax : List D → Option D
  | [.list ds] => (ints? ds).bind fun ns => match ns with
    | [] => none
    | n :: ns => some (.int (maxI n ns))
  | [.int i, .int j] => some (.int (if j > i then j else i))
  | _ => none
theorem c_min (hc : X.calm = true) : CallD X cl (.builtin "min") gMin := by
  intro pins s σ H xs us Q I r h
  obtain ⟨G, ds, r', gh, h1, h2, q⟩ := h
  unfold gMin at h2
  split at h2
  · simp only [Option.bind_eq_some_iff] at h2
    obtain ⟨ns, e, h3⟩ := h2
    cases h1 with | cons t n =>
    cases n
    cases t with | list k l rr =>
    rw [rr.ints? e] at k
    cases ns with
    | nil => cases h3
    | cons n ns =>
      cases h3
      refine cr_min hc pins s σ H _ us Q I r ⟨_, _, rfl, SqL.of k, by simp, fun m hm hle => ?_⟩
      have a := minI_ok n ns
      have em : m = minI n ns := Int.le_antisymm (hle _ a.1) (a.2 _ hm)
      rw [em]
      exact q _ _ _ (Grow.refl gh) (.int _)
  · cases h2
    cases h1 with | cons t n =>
    cases n with | cons t2 n =>
    cases n
    cases t
    cases t2
    exact call_min2 hc pins s σ H _ us Q I r ⟨_, _, rfl, q _ _ _ (Grow.refl gh) (.int _)⟩
  · cases h2
theorem c_max (hc : X.calm = true) : CallD X cl (.builtin "max") gMax := by
  intro pins s σ H xs us Q I r h
  obtain ⟨G, ds, r', gh, h1, h2, q⟩ := h
  unfold gMax at h2
  split at h2
  · simp only [Option.bind_eq_some_iff] at h2
    obtain ⟨ns, e, h3⟩ := h2
    cases h1 with | cons t n =>
    cases n
    cases t with | list k l rr =>
    rw [rr.ints? e] at k
    cases ns with
    | nil => cases h3
    | cons n ns =>
      cases h3
      refine cr_max hc pins s σ H _ us Q I r ⟨_, _, rfl, SqL.of k, by simp, fun m hm hle => ?_⟩
      have a := maxI_ok n ns
      have em : m = maxI n ns := Int.le_antisymm (a.2 _ hm) (hle _ a.1)
      rw [em]
      exact q _ _ _ (Grow.refl gh) (.int _)
  · cases h2
    cases h1 with | cons t n =>
    cases n with | cons t2 n =>
    cases n
    cases t
    cases t2
    exact call_max2 hc pins s σ H _ us Q I r ⟨_, _, rfl, q _ _ _ (Grow.refl gh) (.int _)⟩
  · cases h2
/-- sorted, of ints -/
def insI (n : Int) : List Int → List Int
  | [] => [n]
  | m :: ms => if n ≤ m then n :: m :: ms else m :: insI n ms
def sortI : List Int → List Int
  | [] => []
  | n :: ns => insI n (sortI ns)
theorem insI_perm (n : Int) : ∀ ns : List Int, (insI n ns).Perm (n :: ns)
  | [] => List.Perm.refl _
  | m :: ms => by
    unfold insI
    split
    · exact List.Perm.refl _
    · exact ((insI_perm n ms).cons m).trans (List.Perm.swap n m ms)
theorem insI_sorted (n : Int) : ∀ ns : List Int, ns.Pairwise (· ≤ ·) → (insI n ns).Pairwise (· ≤ ·)
  | [], _ => by simp [insI]
  | m :: ms, h => by
    unfold insI
    have h' := List.pairwise_cons.mp h
    split
    · rename_i c
      refine List.pairwise_cons.mpr ⟨fun y hy => ?_, h⟩
      rcases List.mem_cons.mp hy with rfl | hy
      · exact c
      · exact Int.le_trans c (h'.1 y hy)
    · rename_i c
      refine List.pairwise_cons.mpr ⟨fun y hy => ?_, insI_sorted n ms h'.2⟩
      rcases List.mem_cons.mp ((insI_perm n ms).mem_iff.mp hy) with rfl | hy
      · omega
      · exact h'.1 y hy
theorem sortI_perm : ∀ ns : List Int, (sortI ns).Perm ns
  | [] => List.Perm.refl _
  | n :: ns => (insI_perm n _).trans ((sortI_perm ns).cons n)
theorem sortI_sorted : ∀ ns : List Int, (sortI ns).Pairwise (· ≤ ·)
  | [] => List.Pairwise.nil
  | n :: ns => insI_sorted n _ (sortI_sorted ns)
def gSorted : List D → Option D
  | [.list ds] => (ints? ds).map fun ns => .list ((sortI ns).map .int)
  | _ => none
theorem c_sorted : CallD X cl (.builtin "sorted") gSorted := by
  intro pins s σ H xs us Q I r h
  obtain ⟨G, ds, r', gh, h1, h2, q⟩ := h
  unfold gSorted at h2
  split at h2
  · simp only [Option.map_eq_some_iff] at h2
    obtain ⟨ns, e, rfl⟩ := h2
    cases h1 with | cons t n =>
    cases n
    cases t with | list k l rr =>
    have e2 := rr.ints? e
    rw [e2] at k
    refine cr_sortedI pins s σ H _ us Q I r ⟨_, _, rfl, SqL.of k, fun ns' p h3 h4 hp => ?_⟩
    have e3 : ns' = sortI ns := PySem.W.ksm_same (h3.trans (sortI_perm ns).symm) h4 (sortI_sorted ns)
    subst e3
    refine new_lst gh hp ?_ (Reps.ints _) q
    rw [List.length_map, (sortI_perm ns).length_eq]
    rw [e2, List.length_map] at l
    exact l
  · cases h2
end
end DL

/-! D3: what is walked, comprehensions, calls of own defs, isinstance -/
namespace DL
open PySem L2

section
variable {K : PySem.W.Frag} {cl : String → Option Addr} {F : Fm} {T : Th} {G G' H H' : Hp} {σ : L2.St} {ρ ρ' : List Sl} {v : V} {d : D} {r : RV}
/-! ### a place is locked while its list is walked -/
def Th.lock (T : Th) (i : Nat) (a : Addr) (o : HO) : Th := ⟨upd T.h a o, fun j => if j = i then some a else T.l j⟩
theorem EOk.lock {i : Nat} {a : Addr} {o : HO} {w : Option Nat} (E : EOk K cl F T G H σ ρ) (hi : ρ[i]? = some (.own w d)) (ha : σ[i]? = some (some (.ref a))) (ho : H a = some o) : EOk K cl F (T.lock i a o) G H σ (ρ.set i (.lck w d)) ∧ T.h a = none := by
  obtain ⟨a', h1, h2, h3, h4, h5⟩ := E.own i w d hi
  rw [ha] at h1; cases h1
  have hl : i < ρ.length := (List.getElem?_eq_some_iff.mp hi).1
  have apart : ∀ {j : Nat} {b : Addr} {x : Sl}, i ≠ j → ρ[j]? = some x → x.obj ≠ none → σ[j]? = some (some (.ref b)) → b ≠ a := fun {j b x} hj e1 e2 e3 z => by
    subst z
    exact hj (E.sep i j b _ x hi e1 (by simp [Sl.obj]) e2 ha e3)
  refine ⟨⟨by simpa using E.len, fun j d' h' => ?_, fun j w d' h' => ?_, fun j w d' h' => ?_, fun j k b x y e1 e2 e3 e4 e5 e6 => ?_, E.g0, fun b hb => ?_, E.gh, fun b u hb => ?_, E.wh⟩, h3⟩
  · by_cases hj : i = j
    · subst hj; rw [List.getElem?_set_self hl] at h'; cases h'
    · rw [List.getElem?_set_ne hj] at h'; exact E.val j d' h'
  · by_cases hj : i = j
    · subst hj; rw [List.getElem?_set_self hl] at h'; cases h'
    · rw [List.getElem?_set_ne hj] at h'
      obtain ⟨b, k1, k2, k3, k4, k5⟩ := E.own j w d' h'
      exact ⟨b, k1, k2, by show upd T.h a o b = none; rw [upd_ne (apart hj h' (by simp [Sl.obj]) k1)]; exact k3, k4, k5⟩
  · by_cases hj : i = j
    · subst hj; rw [List.getElem?_set_self hl] at h'; cases h'
      exact ⟨a, o, ha, h2, ⟨by simp [Th.lock], upd_same⟩, h4, h5⟩
    · rw [List.getElem?_set_ne hj] at h'
      obtain ⟨b, u, k1, k2, ⟨k3, k3'⟩, k4, k5⟩ := E.lck j w d' h'
      refine ⟨b, u, k1, k2, ⟨?_, ?_⟩, k4, k5⟩
      · show (if j = i then some a else T.l j) = some b
        rw [if_neg (fun z => hj z.symm)]; exact k3
      · show upd T.h a o b = some u
        rw [upd_ne (apart hj h' (by simp [Sl.obj]) k1)]; exact k3'
  · have back : ∀ {j : Nat} {x : Sl}, (ρ.set i (.lck w d))[j]? = some x → x.obj ≠ none → ∃ y, ρ[j]? = some y ∧ y.obj ≠ none := fun {j x} e n => by
      by_cases hj : i = j
      · subst hj; exact ⟨_, hi, by simp [Sl.obj]⟩
      · rw [List.getElem?_set_ne hj] at e; exact ⟨x, e, n⟩
    obtain ⟨x', f1, f2⟩ := back e1 e3
    obtain ⟨y', f3, f4⟩ := back e2 e4
    exact E.sep j k b x' y' f1 f3 f2 f4 e5 e6
  · by_cases hb' : b = a
    · subst hb'; exact absurd h2 hb
    · show F.G0 b ≠ none ∨ upd T.h a o b = none
      rw [upd_ne hb']; exact E.gt b hb
  · by_cases hb' : b = a
    · subst hb'
      have : upd T.h b o b = some u := hb
      rw [upd_same] at this; cases this; exact ho
    · have : upd T.h a o b = some u := hb
      rw [upd_ne hb'] at this; exact E.th b u this
theorem EOk.unlock {i : Nat} {a : Addr} {o : HO} {w : Option Nat} (E : EOk K cl F (T.lock i a o) G H σ ρ) (hi : ρ[i]? = some (.lck w d)) (hT : T.h a = none) : EOk K cl F T G H σ (ρ.set i (.own w d)) := by
  obtain ⟨a', u, h1, h2, ⟨h3, h3'⟩, h4, h5⟩ := E.lck i w d hi
  have ea : a' = a := by
    have : (if i = i then some a else T.l i) = some a' := h3
    rw [if_pos rfl] at this; cases this; rfl
  subst ea
  have hl : i < ρ.length := (List.getElem?_eq_some_iff.mp hi).1
  have apart : ∀ {j : Nat} {b : Addr} {x : Sl}, i ≠ j → ρ[j]? = some x → x.obj ≠ none → σ[j]? = some (some (.ref b)) → b ≠ a' := fun {j b x} hj e1 e2 e3 z => by
    subst z
    exact hj (E.sep i j b _ x hi e1 (by simp [Sl.obj]) e2 h1 e3)
  refine ⟨by simpa using E.len, fun j d' h' => ?_, fun j w d' h' => ?_, fun j w d' h' => ?_, fun j k b x y e1 e2 e3 e4 e5 e6 => ?_, E.g0, fun b hb => ?_, E.gh, fun b u hb => ?_, E.wh⟩
  · by_cases hj : i = j
    · subst hj; rw [List.getElem?_set_self hl] at h'; cases h'
    · rw [List.getElem?_set_ne hj] at h'; exact E.val j d' h'
  · by_cases hj : i = j
    · subst hj; rw [List.getElem?_set_self hl] at h'; cases h'
      exact ⟨a', h1, h2, hT, h4, h5⟩
    · rw [List.getElem?_set_ne hj] at h'
      obtain ⟨b, k1, k2, k3, k4, k5⟩ := E.own j w d' h'
      refine ⟨b, k1, k2, ?_, k4, k5⟩
      have : upd T.h a' o b = none := k3
      rw [upd_ne (apart hj h' (by simp [Sl.obj]) k1)] at this; exact this
  · by_cases hj : i = j
    · subst hj; rw [List.getElem?_set_self hl] at h'; cases h'
    · rw [List.getElem?_set_ne hj] at h'
      obtain ⟨b, u, k1, k2, ⟨k3, k3'⟩, k4, k5⟩ := E.lck j w d' h'
      refine ⟨b, u, k1, k2, ⟨?_, ?_⟩, k4, k5⟩
      · have : (if j = i then some a' else T.l j) = some b := k3
        rw [if_neg (fun z => hj z.symm)] at this; exact this
      · have : upd T.h a' o b = some u := k3'
        rw [upd_ne (apart hj h' (by simp [Sl.obj]) k1)] at this; exact this
  · have back : ∀ {j : Nat} {x : Sl}, (ρ.set i (.own w d))[j]? = some x → x.obj ≠ none → ∃ y, ρ[j]? = some y ∧ y.obj ≠ none := fun {j x} e n => by
      by_cases hj : i = j
      · subst hj; exact ⟨_, hi, by simp [Sl.obj]⟩
      · rw [List.getElem?_set_ne hj] at e; exact ⟨x, e, n⟩
    obtain ⟨x', f1, f2⟩ := back e1 e3
    obtain ⟨y', f3, f4⟩ := back e2 e4
    exact E.sep j k b x' y' f1 f3 f2 f4 e5 e6
  · rcases E.gt b hb with z | z
    · exact .inl z
    · refine .inr ?_
      by_cases hb' : b = a'
      · subst hb'; exact hT
      · have : upd T.h a' o b = none := z
        rw [upd_ne hb'] at this; exact this
  · refine E.th b u ?_
    have hb' : b ≠ a' := fun z => by subst z; rw [hT] at hb; cases hb
    show upd T.h a' o b = some u
    rw [upd_ne hb']; exact hb
def unlk (lk : Option Nat) (ρ : List Sl) : Option (List Sl) := match lk with
  | none => some ρ
  | some i => match ρ[i]? with
    | some (.lck w d) => some (ρ.set i (.own w d))
    | _ => none
/-- T' is T, or T with the place locked -/
def LkOk (T T' : Th) : Option Nat → Prop
  | none => T' = T
  | some i => ∃ a o, T.h a = none ∧ T' = T.lock i a o
theorem EOk.unlk {T' : Th} {lk : Option Nat} (E : EOk K cl F T' G H σ ρ) (l : LkOk T T' lk) (u : DL.unlk lk ρ = some ρ') : EOk K cl F T G H σ ρ' := by
  cases lk with
  | none => cases l; cases u; exact E
  | some i =>
    obtain ⟨a, o, hT, rfl⟩ := l
    simp only [DL.unlk] at u
    split at u
    · rename_i w d q
      cases u
      exact E.unlock q hT
    · cases u
end

/-! ### what is walked -/
abbrev Src := List Sl → Option (List D × Option Nat × List Sl)
structure ItOk (K : PySem.W.Frag) (cl : String → Option Addr) (J : It) (F : Fm) (T0 : Th) (G0 : Hp) (ds : List D) : Prop where
  go : ∀ (T : Th) (G H : Hp) (σ : L2.St) (ρ : List Sl) (i : Nat), EOk K cl F T G H σ ρ → Same G0 G → Same T0.h T.h → i < ds.length → J.go i H
  stop : ∀ (T : Th) (G H : Hp) (σ : L2.St) (ρ : List Sl) (i : Nat), EOk K cl F T G H σ ρ → Same G0 G → Same T0.h T.h → ds.length ≤ i → J.stop i H
  yld : ∀ (T : Th) (G H : Hp) (σ : L2.St) (ρ : List Sl) (i : Nat) (d : D) (x : V) (H' : Hp), EOk K cl F T G H σ ρ → Same G0 G → Same T0.h T.h → ds[i]? = some d → J.yld i H x H' → ∃ G', Grow G H G' H' ∧ Rep K cl G' x d
def tDI (K : PySem.W.Frag) (cl : String → Option Addr) (m : Src) : TI := fun σ H R => ∃ F T G ρ ds lk ρ', EOk K cl F T G H σ ρ ∧ m ρ = some (ds, lk, ρ') ∧
  ∀ J T' G' H', Same G G' → LkOk T T' lk → EOk K cl F T' G' H' σ ρ' → ItOk K cl J F T' G' ds → R J H'
abbrev PDI (X : Cx) (cl : String → Option Addr) (tg it : Expr) (m : Src) : Prop := PI X tg it (tDI X.K cl m)
def srcOf (ρ : List Sl) : RV → Option (List D × Option Nat × List Sl)
  | .val (.list ds) => some (ds, none, ρ)
  | .val (.tup ds) => some (ds, none, ρ)
  | .ref i => match ρ[i]? with
    | some (.own w (.list ds)) => some (ds, some i, ρ.set i (.lck w (.list ds)))
    | some (.lck _ (.list ds)) => some (ds, none, ρ)
    | some (.val (.list ds)) => some (ds, none, ρ)
    | some (.val (.tup ds)) => some (ds, none, ρ)
    | _ => none
  | _ => none
def srcSeq (m : Ex) : Src := fun ρ => (m ρ).bind fun p => srcOf p.2 p.1
section
variable {X : Cx} {cl : String → Option Addr}
theorem pi_imp {tg e : Expr} {t t' : TI} (h : PI X tg e t) (i : ∀ σ H R, t' σ H R → t σ H R) : PI X tg e t' := ⟨fun pins s σ H R I q => h.run pins s σ H R I (i _ _ _ q)⟩
theorem pi_either {tg e : Expr} {t t' : TI} (h : PI X tg e t) (h' : PI X tg e t') : PI X tg e (fun σ H R => t σ H R ∨ t' σ H R) := ⟨fun pins s σ H R I q => by
  rcases q with q | q
  · exact h.run pins s σ H R I q
  · exact h'.run pins s σ H R I q⟩
theorem itl_ok {K : PySem.W.Frag} {F : Fm} {T0 : Th} {G0 : Hp} {a : Addr} {xs : List V} {ds : List D} (h : G0 a = some (.lst xs) ∨ T0.h a = some (.lst xs)) (r : Reps K cl G0 xs ds) : ItOk K cl (Itl K a) F T0 G0 ds := by
  have at_ : ∀ {T : Th} {G H : Hp} {σ : L2.St} {ρ : List Sl}, EOk K cl F T G H σ ρ → Same G0 G → Same T0.h T.h → H a = some (.lst xs) := fun {T G H σ ρ} E g t => by
    rcases h with h | h
    · exact E.gh _ _ (g _ _ h)
    · exact E.th _ _ (t _ _ h)
  refine ⟨fun T G H σ ρ i E g t hi => ?_, fun T G H σ ρ i E g t hi => ?_, fun T G H σ ρ i d x H' E g t hd y => ?_⟩
  · have hx : i < xs.length := by rw [r.length]; exact hi
    exact ⟨xs, xs[i], SqL.of (at_ E g t), by simp [hx]⟩
  · exact ⟨xs, SqL.of (at_ E g t), by rw [r.length]; exact hi⟩
  · obtain ⟨rfl, y⟩ := y
    obtain ⟨w, h1, h2⟩ := r.get hd
    have h3 := y xs (SqL.of (at_ E g t))
    rw [h1] at h3; cases h3
    exact ⟨G, Grow.refl E.gh, h2.mono g⟩
theorem itt_ok {K : PySem.W.Frag} {F : Fm} {T0 : Th} {G0 : Hp} {a : Addr} {xs : List V} {ds : List D} (h : SqT K G0 a xs) (r : Reps K cl G0 xs ds) : ItOk K cl (Itt K a) F T0 G0 ds := by
  have at_ : ∀ {T : Th} {G H : Hp} {σ : L2.St} {ρ : List Sl}, EOk K cl F T G H σ ρ → Same G0 G → SqT K H a xs := fun {T G H σ ρ} E g => sameT E.gh (sameT g h)
  refine ⟨fun T G H σ ρ i E g t hi => ?_, fun T G H σ ρ i E g t hi => ?_, fun T G H σ ρ i d x H' E g t hd y => ?_⟩
  · have hx : i < xs.length := by rw [r.length]; exact hi
    exact ⟨xs, xs[i], at_ E g, by simp [hx]⟩
  · exact ⟨xs, at_ E g, by rw [r.length]; exact hi⟩
  · obtain ⟨rfl, y⟩ := y
    obtain ⟨w, h1, h2⟩ := r.get hd
    have h3 := y xs (at_ E g)
    rw [h1] at h3; cases h3
    exact ⟨G, Grow.refl E.gh, h2.mono g⟩
/-- the source's place and items -/
theorem src_run {K : PySem.W.Frag} {F : Fm} {T : Th} {G H : Hp} {σ : L2.St} {ρ ρ' : List Sl} {v : V} {r : RV} {ds : List D} {lk : Option Nat} (E : EOk K cl F T G H σ ρ) (R : RvOk K cl G σ v r) (h : srcOf ρ r = some (ds, lk, ρ')) :
    ∃ a T', v = .ref a ∧ LkOk T T' lk ∧ EOk K cl F T' G H σ ρ' ∧ ((∃ xs, H a = some (.lst xs) ∧ (G a = some (.lst xs) ∨ T'.h a = some (.lst xs)) ∧ Reps K cl G xs ds) ∨ ∃ xs, SqT K G a xs ∧ Reps K cl G xs ds) := by
  have ofval : ∀ {d : D}, Rep K cl G v d → (d = .list ds ∨ d = .tup ds) → ∃ a, v = .ref a ∧ ((∃ xs, H a = some (.lst xs) ∧ (G a = some (.lst xs) ∨ T.h a = some (.lst xs)) ∧ Reps K cl G xs ds) ∨ ∃ xs, SqT K G a xs ∧ Reps K cl G xs ds) := fun {d} rp hd => by
    rcases hd with rfl | rfl
    · cases rp with
      | list k l r => exact ⟨_, rfl, .inl ⟨_, E.gh _ _ k, .inl k, r⟩⟩
    · cases rp with
      | tup k l r => exact ⟨_, rfl, .inr ⟨_, k, r⟩⟩
  unfold srcOf at h
  split at h
  · cases h
    obtain ⟨a, h1, h2⟩ := ofval R (.inl rfl)
    exact ⟨a, T, h1, rfl, E, h2⟩
  · cases h
    obtain ⟨a, h1, h2⟩ := ofval R (.inr rfl)
    exact ⟨a, T, h1, rfl, E, h2⟩
  · rename_i i
    have hv : σ[i]? = some (some v) := R
    split at h
    · rename_i w es q
      cases h
      obtain ⟨a, h1, h2, h3, h4, h5, h6⟩ := E.own i w _ q
      rw [h1] at hv; cases hv
      cases h6 with
      | list k l r =>
        obtain ⟨E', hT⟩ := E.lock q h1 k
        exact ⟨a, _, rfl, ⟨a, _, hT, rfl⟩, E', .inl ⟨_, k, .inr upd_same, r⟩⟩
    · rename_i w es q
      cases h
      obtain ⟨a, o, h1, h2, h3, h4, h5, h6⟩ := E.lck i w _ q
      rw [h1] at hv; cases hv
      cases h6 with
      | list k l r =>
        have := E.th _ _ h3.2
        rw [k] at this; cases this
        exact ⟨a, T, rfl, rfl, E, .inl ⟨_, k, .inr h3.2, r⟩⟩
    · rename_i es q
      cases h
      obtain ⟨u, h1, h2⟩ := E.val i _ q
      rw [h1] at hv; cases hv
      obtain ⟨a, h1, h2⟩ := ofval h2 (.inl rfl)
      exact ⟨a, T, h1, rfl, E, h2⟩
    · rename_i es q
      cases h
      obtain ⟨u, h1, h2⟩ := E.val i _ q
      rw [h1] at hv; cases hv
      obtain ⟨a, h1, h2⟩ := ofval h2 (.inr rfl)
      exact ⟨a, T, h1, rfl, E, h2⟩
    · cases h
  · cases h
/-- a list or a tuple is walked: which, is seen when it is there -/
theorem pi_seq {tg e : Expr} {te : TE} (h : PE X e te) : PI X tg e (fun σ H R => te σ H fun x H1 => ∃ a, x = .ref a ∧ (((∃ xs, SqL X.K H1 a xs) ∧ R (Itl X.K a) H1) ∨ ((∃ xs, SqT X.K H1 a xs) ∧ R (Itt X.K a) H1))) := by
  refine ⟨fun pins s σ H R I q => thn (h.run pins s σ H _ I q) fun v s1 hv => ?_⟩
  obtain ⟨x, H1, I1, rx, a, rfl, z⟩ := hv
  cases rx
  have old : ∀ (o : Obj) (b : Addr) (u : Obj), s1.heap.get? b = some u → (s1.heap.push o).get? b = some u := fun o b u hu => Heap.get?_push_of_some _ hu
  have own1 : ∀ b ∈ [s1.heap.objs.size], FpOk X pins H1 b := fun b hb => by
    rw [List.mem_singleton] at hb
    exact I1.fpOk (Nat.le_of_eq hb.symm) (I1.hok.fresh (Nat.le_of_eq hb.symm))
  rcases z with ⟨⟨xs, hx⟩, z⟩ | ⟨⟨xs, hx⟩, z⟩
  · obtain ⟨its, _, pl, _⟩ := I1.list hx
    exact wpAny_pyIter_list pl.isList ⟨_, [s1.heap.objs.size], _, _, H1, rfl, I1.kept (t' := s1.toks) (old _), turn_list a _, ⟨_, Heap.get?_push_size _ rfl, rfl, rfl⟩, own1, z⟩
  · obtain ⟨its, _, pl, _⟩ := I1.tuple hx
    exact wpAny_pyIter_tuple (show s1.heap.IsTuple a its.toArray from pl) ⟨_, [s1.heap.objs.size], _, _, H1, rfl, I1.kept (t' := s1.toks) (old _), turn_tuple a _, ⟨_, Heap.get?_push_size _ rfl, rfl, rfl⟩, own1, z⟩
theorem i_seq {tg e : Expr} {me : Ex} (h : PD X cl e me) : PDI X cl tg e (srcSeq me) := by
  refine pi_imp (pi_seq h) fun σ H R q => ?_
  obtain ⟨F, T, G, ρ, ds, lk, ρ', E, e1, q⟩ := q
  simp only [srcSeq, Option.bind_eq_some_iff] at e1
  obtain ⟨⟨r, ρ1⟩, e1, e2⟩ := e1
  refine ⟨F, T, G, ρ, r, ρ1, E, e1, fun v G1 H1 g1 E1 R1 => ?_⟩
  obtain ⟨a, T', rfl, lkk, E2, z⟩ := src_run E1 R1 e2
  refine ⟨a, rfl, ?_⟩
  rcases z with ⟨xs, k1, k2, k3⟩ | ⟨xs, k1, k2⟩
  · exact .inl ⟨⟨xs, SqL.of k1⟩, q _ T' G1 H1 g1 lkk E2 (itl_ok k2 k3)⟩
  · exact .inr ⟨⟨xs, sameT E1.gh k1⟩, q _ T' G1 H1 g1 lkk E2 (itt_ok k1 k2)⟩

/-! range -/
def rgD (lo hi : Int) : List D := (List.range (hi - lo).toNat).map fun i => .int (lo + (i : Nat))
theorem rgD_len (lo hi : Int) : (rgD lo hi).length = (hi - lo).toNat := by simp [rgD]
theorem rgD_at {lo hi : Int} {i : Nat} {d : D} (h : (rgD lo hi)[i]? = some d) : d = .int (lo + (i : Nat)) := by
  unfold rgD at h
  rw [List.getElem?_map] at h
  cases e : (List.range (hi - lo).toNat)[i]? with
  | none => rw [e] at h; cases h
  | some j =>
    rw [e] at h
    obtain ⟨h1, h2⟩ := List.getElem?_eq_some_iff.mp e
    rw [List.getElem_range] at h2
    subst h2
    cases h; rfl
def ok62 (i : Int) : Bool := decide (-(2 ^ 62) ≤ i) && decide (i < 2 ^ 62)
theorem ok62_iff {i : Int} (h : ok62 i = true) : -(2 ^ 62) ≤ i ∧ i < 2 ^ 62 := by
  simp only [ok62, Bool.and_eq_true, decide_eq_true_eq] at h
  exact h
def srcR1 : List D → Option (List D)
  | [.int n] => if ok62 n = true then some (rgD 0 n) else none
  | _ => none
def srcR2 : List D → Option (List D)
  | [.int a, .int b] => if ok62 a = true ∧ ok62 b = true then some (rgD a b) else none
  | _ => none
def srcRg (g : List D → Option (List D)) (m : Ax) : Src := fun ρ => (m ρ).bind fun p => (peeks p.2 p.1).bind fun ds => (g ds).map fun es => (es, none, p.2)
theorem itr_ok {K : PySem.W.Frag} {F : Fm} {T0 : Th} {G0 : Hp} {lo hi : Int} : ItOk K cl (Itr lo (hi - lo).toNat) F T0 G0 (rgD lo hi) := by
  refine ⟨fun T G H σ ρ i E g t hi => ?_, fun T G H σ ρ i E g t hi => ?_, fun T G H σ ρ i d x H' E g t hd y => ?_⟩
  · rw [rgD_len] at hi; exact hi
  · rw [rgD_len] at hi; exact hi
  · obtain ⟨rfl, rfl⟩ := y
    rw [rgD_at hd]
    exact ⟨G, Grow.refl E.gh, .int _⟩
variable {tg a b : Expr} {mx : Ax} {p pos : Pos}
theorem i_range1 (hm : X.mg "range" = none) (ha : PDA X cl [a] mx) (hg : Gl X "range" := by rfl) (hs : starEach [a] X.env = [(false, eval a X.env)] := by rfl) : PDI X cl tg (.Call (.Name "range" p) [a] [] pos) (srcRg srcR1 mx) := by
  refine pi_imp (pi_range1 hg hm ha hs) fun σ H R q => ?_
  obtain ⟨F, T, G, ρ, ds, lk, ρ', E, e1, q⟩ := q
  simp only [srcRg, Option.bind_eq_some_iff, Option.map_eq_some_iff, Prod.mk.injEq] at e1
  obtain ⟨⟨rs, ρ1⟩, e1, es, e2, es', e3, rfl, rfl, rfl⟩ := e1
  refine ⟨F, T, G, ρ, rs, ρ1, E, e1, fun vs G1 H1 g1 E1 R1 => ?_⟩
  have tp := E1.tops R1 e2
  unfold srcR1 at e3
  split at e3
  · rename_i n
    split at e3
    · rename_i c
      cases e3
      cases tp with | cons t1 tr =>
      cases tr
      cases t1
      have c' := ok62_iff c
      refine ⟨n, rfl, c'.1, c'.2, q _ T G1 H1 g1 rfl E1 ?_⟩
      have := itr_ok (cl := cl) (K := X.K) (F := F) (T0 := T) (G0 := G1) (lo := 0) (hi := n)
      rwa [Int.sub_zero] at this
    · cases e3
  · cases e3
theorem i_range2 (hm : X.mg "range" = none) (ha : PDA X cl [a, b] mx) (hg : Gl X "range" := by rfl) (hs : starEach [a, b] X.env = [(false, eval a X.env), (false, eval b X.env)] := by rfl) (hs2 : starEach [b] X.env = [(false, eval b X.env)] := by rfl) :
    PDI X cl tg (.Call (.Name "range" p) [a, b] [] pos) (srcRg srcR2 mx) := by
  refine pi_imp (pi_range2 hg hm ha hs hs2) fun σ H R q => ?_
  obtain ⟨F, T, G, ρ, ds, lk, ρ', E, e1, q⟩ := q
  simp only [srcRg, Option.bind_eq_some_iff, Option.map_eq_some_iff, Prod.mk.injEq] at e1
  obtain ⟨⟨rs, ρ1⟩, e1, es, e2, es', e3, rfl, rfl, rfl⟩ := e1
  refine ⟨F, T, G, ρ, rs, ρ1, E, e1, fun vs G1 H1 g1 E1 R1 => ?_⟩
  have tp := E1.tops R1 e2
  unfold srcR2 at e3
  split at e3
  · rename_i n m
    split at e3
    · rename_i c
      cases e3
      cases tp with | cons t1 tr =>
      cases tr with | cons t2 tr =>
      cases tr
      cases t1
      cases t2
      have c1 := ok62_iff c.1
      have c2 := ok62_iff c.2
      exact ⟨n, m, rfl, ⟨c1.1, c1.2, c2.1, c2.2⟩, q _ T G1 H1 g1 rfl E1 itr_ok⟩
    · cases e3
  · cases e3

/-! zip: pairs of the items, up to the shorter one -/
def zipD : List D → List D → List D
  | a :: as, b :: bs => .tup [a, b] :: zipD as bs
  | _, _ => []
theorem zipD_at : ∀ {as bs : List D} {i : Nat} {d : D}, (zipD as bs)[i]? = some d → ∃ a b, as[i]? = some a ∧ bs[i]? = some b ∧ d = .tup [a, b]
  | [], _, _, _, h => by simp [zipD] at h
  | _ :: _, [], _, _, h => by simp [zipD] at h
  | a :: as, b :: bs, 0, d, h => by simp [zipD] at h; exact ⟨a, b, rfl, rfl, h.symm⟩
  | a :: as, b :: bs, i + 1, d, h => by
    obtain ⟨x, y, h1, h2, h3⟩ := zipD_at (as := as) (bs := bs) (i := i) (d := d) (by simpa [zipD] using h)
    exact ⟨x, y, by simpa using h1, by simpa using h2, h3⟩
theorem zipD_len : ∀ (as bs : List D), (zipD as bs).length = min as.length bs.length
  | [], _ => by simp [zipD]
  | _ :: _, [] => by simp [zipD]
  | a :: as, b :: bs => by simp [zipD, zipD_len as bs]
def srcZ : List D → Option (List D)
  | [.list as, .list bs] => some (zipD as bs)
  | [.tup as, .tup bs] => some (zipD as bs)
  | _ => none
def srcZip (m : Ax) : Src := fun ρ => (m ρ).bind fun p => (escs p.2 p.1).bind fun q => (srcZ q.1).map fun es => (es, none, q.2)
theorem pair_rep {K : PySem.W.Frag} {G H : Hp} {t : Addr} {x y : V} {a b : D} (gh : Same G H) (ht : H t = none) (h1 : Rep K cl G x a) (h2 : Rep K cl G y b) : ∃ G', Grow G H G' (upd H t (.tup [x, y])) ∧ Rep K cl G' (.ref t) (.tup [a, b]) :=
  ⟨_, Grow.new_at gh ht, Rep.tup (SqT.of upd_same) (by show 2 ≤ sizeLine; decide) ((Reps.cons h1 (.cons h2 .nil)).mono (upd_same' (gh.free ht)))⟩
theorem itz_ok {K : PySem.W.Frag} {F : Fm} {T0 : Th} {G0 : Hp} {a b : Addr} {xs ys : List V} {ds es : List D} (ha : G0 a = some (.lst xs)) (hb : G0 b = some (.lst ys)) (r : Reps K cl G0 xs ds) (s : Reps K cl G0 ys es) : ItOk K cl (Itz K a b) F T0 G0 (zipD ds es) := by
  have at_ : ∀ {T : Th} {G H : Hp} {σ : L2.St} {ρ : List Sl}, EOk K cl F T G H σ ρ → Same G0 G → SqL K H a xs ∧ SqL K H b ys := fun {T G H σ ρ} E g => ⟨SqL.of (E.gh _ _ (g _ _ ha)), SqL.of (E.gh _ _ (g _ _ hb))⟩
  refine ⟨fun T G H σ ρ i E g t hi => ?_, fun T G H σ ρ i E g t hi => ?_, fun T G H σ ρ i d x H' E g t hd y => ?_⟩
  · obtain ⟨q1, q2⟩ := at_ E g
    rw [zipD_len, ← r.length, ← s.length] at hi
    have h1 : i < xs.length := by omega
    have h2 : i < ys.length := by omega
    exact ⟨xs, ys, xs[i], ys[i], q1, q2, by simp [h1], by simp [h2]⟩
  · obtain ⟨q1, q2⟩ := at_ E g
    rw [zipD_len, ← r.length, ← s.length] at hi
    exact ⟨xs, ys, q1, q2, by omega⟩
  · obtain ⟨q1, q2⟩ := at_ E g
    obtain ⟨t', u, w, rfl, ht, rfl, k1, k2⟩ := y
    obtain ⟨da, db, e1, e2, rfl⟩ := zipD_at hd
    obtain ⟨x1, f1, f2⟩ := r.get e1
    obtain ⟨y1, f3, f4⟩ := s.get e2
    have g1 := k1 xs q1
    have g2 := k2 ys q2
    rw [f1] at g1; cases g1
    rw [f3] at g2; cases g2
    exact pair_rep E.gh ht (f2.mono g) (f4.mono g)
theorem itzT_ok {K : PySem.W.Frag} {F : Fm} {T0 : Th} {G0 : Hp} {a b : Addr} {xs ys : List V} {ds es : List D} (ha : SqT K G0 a xs) (hb : SqT K G0 b ys) (r : Reps K cl G0 xs ds) (s : Reps K cl G0 ys es) : ItOk K cl (RZ.ItzT K a b) F T0 G0 (zipD ds es) := by
  have at_ : ∀ {T : Th} {G H : Hp} {σ : L2.St} {ρ : List Sl}, EOk K cl F T G H σ ρ → Same G0 G → SqT K H a xs ∧ SqT K H b ys := fun {T G H σ ρ} E g => ⟨sameT E.gh (sameT g ha), sameT E.gh (sameT g hb)⟩
  refine ⟨fun T G H σ ρ i E g t hi => ?_, fun T G H σ ρ i E g t hi => ?_, fun T G H σ ρ i d x H' E g t hd y => ?_⟩
  · obtain ⟨q1, q2⟩ := at_ E g
    rw [zipD_len, ← r.length, ← s.length] at hi
    have h1 : i < xs.length := by omega
    have h2 : i < ys.length := by omega
    exact ⟨xs, ys, xs[i], ys[i], q1, q2, by simp [h1], by simp [h2]⟩
  · obtain ⟨q1, q2⟩ := at_ E g
    rw [zipD_len, ← r.length, ← s.length] at hi
    exact ⟨xs, ys, q1, q2, by omega⟩
  · obtain ⟨q1, q2⟩ := at_ E g
    obtain ⟨t', u, w, rfl, ht, rfl, k1, k2⟩ := y
    obtain ⟨da, db, e1, e2, rfl⟩ := zipD_at hd
    obtain ⟨x1, f1, f2⟩ := r.get e1
    obtain ⟨y1, f3, f4⟩ := s.get e2
    have g1 := k1 xs q1
    have g2 := k2 ys q2
    rw [f1] at g1; cases g1
    rw [f3] at g2; cases g2
    exact pair_rep E.gh ht (f2.mono g) (f4.mono g)
theorem i_zip {elts : List Expr} {kk : Nat} {tpos : Pos} (hm : X.mg "zip" = none) (ha : PDA X cl [a, b] mx) (hg : Gl X "zip" := by rfl)
    (hs : starEach [a, b] X.env = (false, eval a X.env) :: starEach [b] X.env := by rfl) (hpl : (backTo pos (starEach [b] X.env)).any (·.1) = false := by rfl) :
    PDI X cl (.Tuple elts kk tpos) (.Call (.Name "zip" p) [a, b] [] pos) (srcZip mx) := by
  refine pi_imp (RZ.pi_zipA hg hm ha hs hpl) fun σ H R q => ?_
  obtain ⟨F, T, G, ρ, ds, lk, ρ', E, e1, q⟩ := q
  simp only [srcZip, Option.bind_eq_some_iff, Option.map_eq_some_iff, Prod.mk.injEq] at e1
  obtain ⟨⟨rs, ρ1⟩, e1, ⟨es, ρ2⟩, e2, es', e3, rfl, rfl, rfl⟩ := e1
  refine ⟨F, T, G, ρ, rs, ρ1, E, e1, fun vs G1 H1 g1 E1 R1 => ?_⟩
  obtain ⟨G2, g2, E2, R2⟩ := E1.escs R1 e2
  have e3' : srcZ es = some es' := e3
  unfold srcZ at e3'
  split at e3'
  · cases e3'
    cases R2 with | cons t1 tr =>
    cases tr with | cons t2 tr =>
    cases tr
    cases t1 with | list k1 l1 r1 =>
    cases t2 with | list k2 l2 r2 =>
    exact ⟨_, _, _, _, rfl, .inl ⟨SqL.of (E2.gh _ _ k1), SqL.of (E2.gh _ _ k2), q _ T G2 H1 (g1.trans g2) rfl E2 (itz_ok k1 k2 r1 r2)⟩⟩
  · cases e3'
    cases R2 with | cons t1 tr =>
    cases tr with | cons t2 tr =>
    cases tr
    cases t1 with | tup k1 l1 r1 =>
    cases t2 with | tup k2 l2 r2 =>
    exact ⟨_, _, _, _, rfl, .inr ⟨sameT E2.gh k1, sameT E2.gh k2, q _ T G2 H1 (g1.trans g2) rfl E2 (itzT_ok k1 k2 r1 r2)⟩⟩
  · cases e3'
end

/-! ### targets -/
abbrev Tgt := D → List Sl → Option (List Sl)
/-- a pattern is assigned by names alone: nothing else happens -/
def TgOk (K : PySem.W.Frag) (cl : String → Option Addr) (g : TG) (t : Tgt) (vs : List Nat) : Prop := ∀ F T G H σ ρ v d ρ', EOk K cl F T G H σ ρ → Rep K cl G v d → t d ρ = some ρ' →
  ∃ σ', (∀ Q : L2.St → Hp → Prop, Q σ' H → g v σ H Q) ∧ EOk K cl F T G H σ' ρ' ∧ wipe σ' vs = wipe σ vs
def tNm (i : Nat) : Tgt := fun d ρ => some (ρ.set i (.val d))
theorem wipe_set {σ : L2.St} {x : Option V} {i : Nat} : ∀ {vs : List Nat}, i ∈ vs → wipe (σ.set i x) vs = wipe σ vs
  | [], h => nomatch h
  | v :: vs, h => by
    by_cases hv : i = v
    · subst hv
      show (wipe (σ.set i x) vs).set i none = (wipe σ vs).set i none
      by_cases hm : i ∈ vs
      · rw [wipe_set hm]
      · have go : ∀ (vs : List Nat), i ∉ vs → wipe (σ.set i x) vs = (wipe σ vs).set i x := by
          intro vs
          induction vs with
          | nil => intro _; rfl
          | cons w ws ih =>
            intro hn
            simp only [List.mem_cons, not_or] at hn
            show (wipe (σ.set i x) ws).set w none = ((wipe σ ws).set w none).set i x
            rw [ih hn.2, List.set_comm _ _ hn.1]
        rw [go vs hm, List.set_set]
    · have hm : i ∈ vs := by
        rcases List.mem_cons.mp h with z | z
        · exact absurd z hv
        · exact z
      show (wipe (σ.set i x) vs).set v none = (wipe σ vs).set v none
      rw [wipe_set hm]
theorem g_nm {K : PySem.W.Frag} {cl : String → Option Addr} {i : Nat} {vs : List Nat} (h : i ∈ vs := by decide) : TgOk K cl (gName i) (tNm i) vs := by
  intro F T G H σ ρ v d ρ' E R e
  cases e
  exact ⟨σ.set i (some v), fun Q q => q, E.set R, wipe_set h⟩
def TgsOk (K : PySem.W.Frag) (cl : String → Option Addr) (g : TGs) (t : List D → List Sl → Option (List Sl)) (vs : List Nat) : Prop := ∀ F T G H σ ρ us ds ρ', EOk K cl F T G H σ ρ → Reps K cl G us ds → t ds ρ = some ρ' →
  ∃ σ', (∀ Q : L2.St → Hp → Prop, Q σ' H → g us σ H Q) ∧ EOk K cl F T G H σ' ρ' ∧ wipe σ' vs = wipe σ vs
def tsNil : List D → List Sl → Option (List Sl)
  | [], ρ => some ρ
  | _, _ => none
def tsCons (t : Tgt) (u : List D → List Sl → Option (List Sl)) : List D → List Sl → Option (List Sl)
  | d :: ds, ρ => (t d ρ).bind fun ρ1 => u ds ρ1
  | _, _ => none
theorem gs_nil {K : PySem.W.Frag} {cl : String → Option Addr} {vs : List Nat} : TgsOk K cl gNil tsNil vs := by
  intro F T G H σ ρ us ds ρ' E R e
  unfold tsNil at e
  split at e
  · cases e
    cases R
    exact ⟨σ, fun Q q => ⟨rfl, q⟩, E, rfl⟩
  · cases e
theorem gs_cons {K : PySem.W.Frag} {cl : String → Option Addr} {g : TG} {gs : TGs} {t : Tgt} {u : List D → List Sl → Option (List Sl)} {vs : List Nat} (h : TgOk K cl g t vs) (k : TgsOk K cl gs u vs) : TgsOk K cl (gCons g gs) (tsCons t u) vs := by
  intro F T G H σ ρ us ds ρ' E R e
  unfold tsCons at e
  split at e
  · simp only [Option.bind_eq_some_iff] at e
    obtain ⟨ρ1, e1, e2⟩ := e
    cases R with | cons r1 r2 =>
    obtain ⟨σ1, q1, E1, w1⟩ := h _ _ _ _ _ _ _ _ _ E r1 e1
    obtain ⟨σ2, q2, E2, w2⟩ := k _ _ _ _ _ _ _ _ _ E1 r2 e2
    exact ⟨σ2, fun Q q => ⟨_, _, rfl, q1 _ (q2 _ q)⟩, E2, w2.trans w1⟩
  · cases e
def tTp (n : Nat) (u : List D → List Sl → Option (List Sl)) : Tgt := fun d ρ => match d with
  | .tup ds => if ds.length = n then u ds ρ else none
  | _ => none
theorem g_tp {K : PySem.W.Frag} {cl : String → Option Addr} {n : Nat} {gs : TGs} {u : List D → List Sl → Option (List Sl)} {vs : List Nat} (k : TgsOk K cl gs u vs) : TgOk K cl (gTup K n gs) (tTp n u) vs := by
  intro F T G H σ ρ v d ρ' E R e
  unfold tTp at e
  split at e
  · split at e
    · rename_i hn
      cases R with | tup h l r =>
      obtain ⟨σ', q, E', w⟩ := k _ _ _ _ _ _ _ _ _ E r e
      exact ⟨σ', fun Q z => ⟨_, _, rfl, sameT E.gh h, r.length.trans hn, q _ z⟩, E', w⟩
    · cases e
  · cases e

/-! ### comprehensions -/
def wipeE (ρ : List Sl) : List Nat → List Sl
  | [] => ρ
  | v :: vs => (wipeE ρ vs).set v .emp
def restE (ρ0 ρ : List Sl) : List Nat → List Sl
  | [] => ρ
  | v :: vs => (restE ρ0 ρ vs).set v (ρ0.getD v .emp)
def plainE (ρ : List Sl) (vs : List Nat) : Bool := vs.all fun v => match ρ[v]? with
  | some .emp => true
  | some (.val _) => true
  | _ => false
theorem wipeE_len (ρ : List Sl) : ∀ vs, (wipeE ρ vs).length = ρ.length
  | [] => rfl
  | v :: vs => by unfold wipeE; rw [List.length_set, wipeE_len ρ vs]
theorem restE_len (ρ0 ρ : List Sl) : ∀ vs, (restE ρ0 ρ vs).length = ρ.length
  | [] => rfl
  | v :: vs => by unfold restE; rw [List.length_set, restE_len ρ0 ρ vs]
theorem wipeE_at {ρ : List Sl} {i : Nat} {x : Sl} : ∀ {vs : List Nat}, (wipeE ρ vs)[i]? = some x → x = .emp ∨ (ρ[i]? = some x ∧ i ∉ vs)
  | [], h => .inr ⟨h, by simp⟩
  | v :: vs, h => by
    unfold wipeE at h
    by_cases hi : v = i
    · subst hi
      by_cases hv : v < (wipeE ρ vs).length
      · rw [List.getElem?_set_self hv] at h; cases h; exact .inl rfl
      · rw [List.getElem?_eq_none (by simpa using hv)] at h; cases h
    · rw [List.getElem?_set_ne hi] at h
      rcases wipeE_at h with z | ⟨z1, z2⟩
      · exact .inl z
      · exact .inr ⟨z1, by simp only [List.mem_cons, not_or]; exact ⟨fun e => hi e.symm, z2⟩⟩
theorem wipe_at {σ : L2.St} {i : Nat} : ∀ {vs : List Nat}, i ∉ vs → (wipe σ vs)[i]? = σ[i]?
  | [], _ => rfl
  | v :: vs, h => by
    simp only [List.mem_cons, not_or] at h
    unfold wipe
    rw [List.getElem?_set_ne (fun e => h.1 e.symm), wipe_at h.2]
theorem EOk.wipe {K : PySem.W.Frag} {cl : String → Option Addr} {F : Fm} {T : Th} {G H : Hp} {σ : L2.St} {ρ : List Sl} (E : EOk K cl F T G H σ ρ) (vs : List Nat) : EOk K cl F T G H (L2.wipe σ vs) (wipeE ρ vs) :=
  E.forget (wipeE_len ρ vs) (wipe_length σ vs) fun i x h => by
    rcases wipeE_at h with z | ⟨z1, z2⟩
    · exact .inl z
    · exact .inr ⟨z1, wipe_at z2⟩
theorem restE_at {ρ0 ρ : List Sl} {i : Nat} {x : Sl} : ∀ {vs : List Nat}, (restE ρ0 ρ vs)[i]? = some x → (i ∈ vs ∧ x = ρ0.getD i .emp) ∨ (ρ[i]? = some x ∧ i ∉ vs)
  | [], h => .inr ⟨h, by simp⟩
  | v :: vs, h => by
    unfold restE at h
    by_cases hi : v = i
    · subst hi
      by_cases hv : v < (restE ρ0 ρ vs).length
      · rw [List.getElem?_set_self hv] at h; cases h; exact .inl ⟨by simp, rfl⟩
      · rw [List.getElem?_eq_none (by simpa using hv)] at h; cases h
    · rw [List.getElem?_set_ne hi] at h
      rcases restE_at h with ⟨z1, z2⟩ | ⟨z1, z2⟩
      · exact .inl ⟨by simp [z1], z2⟩
      · exact .inr ⟨z1, by simp only [List.mem_cons, not_or]; exact ⟨fun e => hi e.symm, z2⟩⟩
/-- the places as they stood ahead of the block -/
theorem EOk.rest {K : PySem.W.Frag} {cl : String → Option Addr} {F : Fm} {T T0 : Th} {G G0 H H0 : Hp} {σ : L2.St} {ρ ρ0 : List Sl} {vs : List Nat} (E : EOk K cl F T G H (L2.wipe σ vs) ρ) (E0 : EOk K cl F T0 G0 H0 σ ρ0) (g : Same G0 G) (p : plainE ρ0 vs = true) : EOk K cl F T G H σ (restE ρ0 ρ vs) := by
  have hp : ∀ i ∈ vs, ρ0.getD i .emp = .emp ∨ ∃ d, ρ0[i]? = some (.val d) ∧ ρ0.getD i .emp = .val d := fun i hi => by
    have := List.all_eq_true.mp p i hi
    rw [List.getD_eq_getElem?_getD]
    cases q : ρ0[i]? with
    | none => exact .inl rfl
    | some x =>
      rw [q] at this
      cases x with
      | emp => exact .inl rfl
      | val d => exact .inr ⟨d, rfl, rfl⟩
      | own w d => cases this
      | lck w d => cases this
  have ob : ∀ {i : Nat} {x : Sl}, (restE ρ0 ρ vs)[i]? = some x → x.obj ≠ none → ρ[i]? = some x ∧ i ∉ vs := fun {i x} h n => by
    rcases restE_at h with ⟨z1, z2⟩ | z
    · rcases hp i z1 with k | ⟨d, _, k⟩
      · rw [z2, k] at n; exact absurd rfl n
      · rw [z2, k] at n; exact absurd rfl n
    · exact z
  have hs : ∀ {i : Nat}, i ∉ vs → (L2.wipe σ vs)[i]? = σ[i]? := fun h => wipe_at h
  refine ⟨?_, fun i d h => ?_, fun i w d h => ?_, fun i w d h => ?_, fun i j a x y e1 e2 e3 e4 e5 e6 => ?_, E.g0, E.gt, E.gh, E.th, E.wh⟩
  · rw [restE_len, ← E.len, wipe_length]
  · rcases restE_at h with ⟨z1, z2⟩ | ⟨z1, z2⟩
    · rcases hp i z1 with k | ⟨d', k1, k⟩
      · rw [k] at z2; cases z2
      · rw [k] at z2; cases z2
        obtain ⟨v, f1, f2⟩ := E0.val i d k1
        exact ⟨v, f1, f2.mono g⟩
    · rw [← hs z2]; exact E.val i d z1
  · obtain ⟨z1, z2⟩ := ob h (by simp [Sl.obj])
    rw [← hs z2]; exact E.own i w d z1
  · obtain ⟨z1, z2⟩ := ob h (by simp [Sl.obj])
    rw [← hs z2]; exact E.lck i w d z1
  · obtain ⟨z1, z2⟩ := ob e1 e3
    obtain ⟨z3, z4⟩ := ob e2 e4
    rw [← hs z2] at e5
    rw [← hs z4] at e6
    exact E.sep i j a x y z1 z3 e3 e4 e5 e6
def lcLoop (t : Tgt) (tt : Tx) (te : Ex) (vs : List Nat) : List D → List D → List Sl → Option (List D × List Sl)
  | [], acc, ρ => some (acc, ρ)
  | d :: ds, acc, ρ => (t d (wipeE ρ vs)).bind fun ρ1 => (tt ρ1).bind fun p =>
    if p.1 = true then (te p.2).bind fun q => (esc q.2 q.1).bind fun s => lcLoop t tt te vs ds (acc ++ [s.1]) s.2
    else lcLoop t tt te vs ds acc p.2
end DL

/-! D4: comprehensions, isinstance, list(range), calls of own defs -/
namespace DL
open PySem L2

section
variable {K : PySem.W.Frag} {cl : String → Option Addr} {F : Fm} {T : Th} {G H : Hp} {σ : L2.St} {ρ : List Sl}
/-! ### an object that is being made -/
open Classical in
noncomputable def Th.add (T : Th) (a : Addr) (o : HO) : Th := ⟨upd T.h a o, fun j => if T.l j = some a then none else T.l j⟩
theorem add_l {T : Th} {a b : Addr} {o : HO} {j : Nat} (h : (T.add a o).l j = some b) : T.l j = some b ∧ b ≠ a := by
  have h' : (if T.l j = some a then none else T.l j) = some b := h
  split at h'
  · cases h'
  · rename_i n
    exact ⟨h', fun z => n (by rw [h', z])⟩
theorem l_add {T : Th} {a b : Addr} {o : HO} {j : Nat} (h : T.l j = some b) (n : b ≠ a) : (T.add a o).l j = some b := by
  show (if T.l j = some a then none else T.l j) = some b
  rw [if_neg (fun z => n (by rw [h] at z; exact Option.some.inj z))]
  exact h
theorem EOk.hold {a : Addr} {o : HO} (E : EOk K cl F T G H σ ρ) (ha : H a = none) : EOk K cl F (T.add a o) G (upd H a o) σ ρ := by
  have gn : G a = none := E.gh.free ha
  have tn : T.h a = none := E.th.free ha
  have ne : ∀ {b : Addr} {d : D}, OwnAt K cl G H b d → b ≠ a := fun h z => by
    obtain ⟨u, hu⟩ := h.there
    rw [z, ha] at hu; cases hu
  refine ⟨E.len, E.val, fun i w d h => ?_, fun i w d h => ?_, E.sep, E.g0, fun b hb => ?_, fun b u hb => ?_, fun b u hb => ?_, fun b hb => ?_⟩
  · obtain ⟨b, h1, h2, h3, h4, h5⟩ := E.own i w d h
    exact ⟨b, h1, h2, by show upd T.h a o b = none; rw [upd_ne (ne h5)]; exact h3, h4, h5.at (Same.refl _) (upd_ne (ne h5))⟩
  · obtain ⟨b, u, h1, h2, ⟨h3, h3'⟩, h4, h5⟩ := E.lck i w d h
    exact ⟨b, u, h1, h2, ⟨l_add h3 (ne h5), by show upd T.h a o b = some u; rw [upd_ne (ne h5)]; exact h3'⟩, h4, h5.at (Same.refl _) (upd_ne (ne h5))⟩
  · by_cases hb' : b = a
    · subst hb'; exact absurd gn hb
    · show F.G0 b ≠ none ∨ upd T.h a o b = none
      rw [upd_ne hb']; exact E.gt b hb
  · rw [upd_ne (ne_of_none (E.gh _ _ hb) ha)]; exact E.gh b u hb
  · by_cases hb' : b = a
    · subst hb'
      have : upd T.h b o b = some u := hb
      rw [upd_same] at this ⊢; exact this
    · have : upd T.h a o b = some u := hb
      rw [upd_ne hb'] at this ⊢; exact E.th b u this
  · by_cases hb' : b = a
    · subst hb'; rw [upd_same]; simp
    · rw [upd_ne hb']; exact E.wh b hb
theorem EOk.hold_set {a : Addr} {o o' : HO} (E : EOk K cl F (T.add a o) G H σ ρ) (h0 : F.G0 a = none) : EOk K cl F (T.add a o') G (upd H a o') σ ρ := by
  have ta : (T.add a o).h a = some o := upd_same
  have gn : G a = none := by
    cases q : G a with
    | none => rfl
    | some u =>
      rcases E.gt a (by rw [q]; simp) with z | z
      · exact absurd h0 z
      · rw [ta] at z; cases z
  refine ⟨E.len, E.val, fun i w d h => ?_, fun i w d h => ?_, E.sep, E.g0, fun b hb => ?_, fun b u hb => ?_, fun b u hb => ?_, fun b hb => ?_⟩
  · obtain ⟨b, h1, h2, h3, h4, h5⟩ := E.own i w d h
    have nb : b ≠ a := fun z => by subst z; rw [ta] at h3; cases h3
    exact ⟨b, h1, h2, by have : upd T.h a o b = none := h3; rw [upd_ne nb] at this; show upd T.h a o' b = none; rw [upd_ne nb]; exact this, h4, h5.at (Same.refl _) (upd_ne nb)⟩
  · obtain ⟨b, u, h1, h2, ⟨h3, h3'⟩, h4, h5⟩ := E.lck i w d h
    obtain ⟨h3, nb⟩ := add_l h3
    exact ⟨b, u, h1, h2, ⟨l_add h3 nb, by have : upd T.h a o b = some u := h3'; rw [upd_ne nb] at this; show upd T.h a o' b = some u; rw [upd_ne nb]; exact this⟩, h4, h5.at (Same.refl _) (upd_ne nb)⟩
  · by_cases hb' : b = a
    · subst hb'; exact absurd gn hb
    · have := E.gt b hb
      have e : (T.add a o).h b = T.h b := upd_ne hb'
      have e' : (T.add a o').h b = T.h b := upd_ne hb'
      rw [e'] ; rw [e] at this; exact this
  · have nb : b ≠ a := fun z => by subst z; rw [gn] at hb; cases hb
    rw [upd_ne nb]; exact E.gh b u hb
  · by_cases hb' : b = a
    · subst hb'
      have : upd T.h b o' b = some u := hb
      rw [upd_same] at this ⊢; exact this
    · have : upd T.h a o' b = some u := hb
      rw [upd_ne hb'] at this ⊢
      exact E.th b u (by show upd T.h a o b = some u; rw [upd_ne hb']; exact this)
  · by_cases hb' : b = a
    · subst hb'; rw [upd_same]; simp
    · rw [upd_ne hb']; exact E.wh b hb
theorem EOk.release {a : Addr} {o : HO} (E : EOk K cl F (T.add a o) G H σ ρ) (h0 : F.G0 a = none) (ht : T.h a = none) : EOk K cl F T (upd G a o) H σ ρ ∧ Same G (upd G a o) := by
  have ta : (T.add a o).h a = some o := upd_same
  have gn : G a = none := by
    cases q : G a with
    | none => rfl
    | some u =>
      rcases E.gt a (by rw [q]; simp) with z | z
      · exact absurd h0 z
      · rw [ta] at z; cases z
  have gg : Same G (upd G a o) := upd_same' gn
  refine ⟨⟨E.len, fun i d h => ?_, fun i w d h => ?_, fun i w d h => ?_, E.sep, E.g0.trans gg, fun b hb => ?_, fun b u hb => ?_, fun b u hb => ?_, E.wh⟩, gg⟩
  · obtain ⟨v, h1, h2⟩ := E.val i d h
    exact ⟨v, h1, h2.mono gg⟩
  · obtain ⟨b, h1, h2, h3, h4, h5⟩ := E.own i w d h
    have nb : b ≠ a := fun z => by subst z; rw [ta] at h3; cases h3
    exact ⟨b, h1, by rw [upd_ne nb]; exact h2, by have : upd T.h a o b = none := h3; rw [upd_ne nb] at this; exact this, h4, h5.at gg rfl⟩
  · obtain ⟨b, u, h1, h2, ⟨h3, h3'⟩, h4, h5⟩ := E.lck i w d h
    obtain ⟨h3, nb⟩ := add_l h3
    exact ⟨b, u, h1, by rw [upd_ne nb]; exact h2, ⟨h3, by have : upd T.h a o b = some u := h3'; rw [upd_ne nb] at this; exact this⟩, h4, h5.at gg rfl⟩
  · by_cases hb' : b = a
    · subst hb'; exact .inr ht
    · rw [upd_ne hb'] at hb
      have := E.gt b hb
      have e : (T.add a o).h b = T.h b := upd_ne hb'
      rw [e] at this; exact this
  · by_cases hb' : b = a
    · subst hb'
      rw [upd_same] at hb; cases hb
      exact E.th _ _ ta
    · rw [upd_ne hb'] at hb; exact E.gh b u hb
  · have nb : b ≠ a := fun z => by subst z; rw [ht] at hb; cases hb
    exact E.th b u (by show upd T.h a o b = some u; rw [upd_ne nb]; exact hb)
theorem wipe_wipe (σ : L2.St) : ∀ vs : List Nat, wipe (wipe σ vs) vs = wipe σ vs := by
  intro vs
  have go : ∀ (vs : List Nat) (i : Nat), (wipe σ vs)[i]? = if i ∈ vs ∧ i < σ.length then some none else σ[i]? := by
    intro vs
    induction vs with
    | nil => intro i; simp [wipe]
    | cons v vs ih =>
      intro i
      unfold wipe
      by_cases hi : v = i
      · subst hi
        by_cases hv : v < σ.length
        · rw [List.getElem?_set_self (by rw [wipe_length]; exact hv)]; simp [hv]
        · rw [List.getElem?_eq_none (by rw [List.length_set, wipe_length]; omega)]
          simp [hv]
      · rw [List.getElem?_set_ne hi, ih]
        have hi' : i ≠ v := fun z => hi z.symm
        simp [hi']
  have go2 : ∀ (τ : L2.St) (vs : List Nat) (i : Nat), (wipe τ vs)[i]? = if i ∈ vs ∧ i < τ.length then some none else τ[i]? := by
    intro τ vs
    induction vs with
    | nil => intro i; simp [wipe]
    | cons v vs ih =>
      intro i
      unfold wipe
      by_cases hi : v = i
      · subst hi
        by_cases hv : v < τ.length
        · rw [List.getElem?_set_self (by rw [wipe_length]; exact hv)]; simp [hv]
        · rw [List.getElem?_eq_none (by rw [List.length_set, wipe_length]; omega)]
          simp [hv]
      · rw [List.getElem?_set_ne hi, ih]
        have hi' : i ≠ v := fun z => hi z.symm
        simp [hi']
  refine List.ext_getElem? fun i => ?_
  rw [go2, go, wipe_length]
  split
  · rename_i c; rfl
  · rfl
end

section
variable {X : Cx} {cl : String → Option Addr}
def eLc (src : Src) (t : Tgt) (tt : Tx) (te : Ex) (vs : List Nat) : Ex := fun ρ => (src ρ).bind fun p =>
  if p.1.length ≤ sizeLine ∧ plainE p.2.2 vs = true then (lcLoop t tt te vs p.1 [] p.2.2).bind fun q => (unlk p.2.1 (restE p.2.2 (wipeE q.2 vs) vs)).map fun ρ3 => (.val (.list q.1), ρ3) else none
theorem lc_run {K : PySem.W.Frag} {σ : L2.St} {H : Hp} {Q : VK} {src : Src} {t : Tgt} {tt : Tx} {te : Ex} {vs : List Nat} {g : TG} (tok : TgOk K cl g t vs) (h : tD K cl (eLc src t tt te vs) σ H Q) :
    tLc (tDI K cl src) g (tDT K cl tt) (tD K cl te) vs σ H Q := by
  obtain ⟨F, T, G, ρ, r, ρ', E, e, q⟩ := h
  simp only [eLc, Option.bind_eq_some_iff] at e
  obtain ⟨⟨ds, lk, ρ1⟩, e1, e2⟩ := e
  split at e2
  · rename_i c
    obtain ⟨hz, hp⟩ := c
    replace hz : ds.length ≤ sizeLine := hz
    simp only [Option.bind_eq_some_iff, Option.map_eq_some_iff, Prod.mk.injEq] at e2
    obtain ⟨⟨accF, ρ2⟩, e2, ρ3, e3, rfl, rfl⟩ := e2
    refine ⟨F, T, G, ρ, ds, lk, ρ1, E, e1, fun J T' G1 H1 g1 lkk E1 it => ?_⟩
    intro Dd hD
    have h0 : F.G0 Dd = none := E1.g0.free (E1.gh.free hD)
    have ht : T'.h Dd = none := E1.th.free hD
    refine ⟨fun i m H => m = ds.length - i ∧ i ≤ ds.length ∧ ∃ G ρ acc accV, EOk K cl F (T'.add Dd (.lst accV)) G H (wipe σ vs) (wipeE ρ vs) ∧ Same G1 G ∧ Reps K cl G accV acc ∧ accV.length ≤ i ∧ lcLoop t tt te vs (ds.drop i) acc ρ = some (accF, ρ2),
      ⟨ds.length, by simp, Nat.zero_le _, G1, ρ1, [], [], (E1.wipe vs).hold hD, Same.refl _, .nil, Nat.le_refl _, by simpa using e2⟩, ?_⟩
    rintro i m H ⟨rfl, hi, G2, ρa, acc, accV, Ea, ga, Ra, la, run⟩
    have same : Same T'.h (T'.add Dd (.lst accV)).h := upd_same' ht
    by_cases hlt : i < ds.length
    · refine .inr ⟨it.go _ _ _ _ _ i Ea ga same hlt, fun H' => ∃ m', m' < ds.length - i ∧ m' = ds.length - (i + 1) ∧ i + 1 ≤ ds.length ∧ ∃ G ρ acc accV, EOk K cl F (T'.add Dd (.lst accV)) G H' (wipe σ vs) (wipeE ρ vs) ∧ Same G1 G ∧ Reps K cl G accV acc ∧ accV.length ≤ i + 1 ∧ lcLoop t tt te vs (ds.drop (i + 1)) acc ρ = some (accF, ρ2),
        fun H' ⟨m', k1, k2, k3, k4⟩ => ⟨m', k1, k2, k3, k4⟩, fun x H2 y => ?_⟩
      have hd : ds[i]? = some ds[i] := by simp [hlt]
      obtain ⟨G3, gr, R3⟩ := it.yld _ _ _ _ _ i _ x H2 Ea ga same hd y
      have E3 := Ea.grow gr
      rw [List.drop_eq_getElem_cons hlt] at run
      simp only [lcLoop, Option.bind_eq_some_iff] at run
      obtain ⟨ρb, k1, ⟨b, ρc⟩, k2, k3⟩ := run
      obtain ⟨σ2, q1, E4, w⟩ := tok _ _ _ _ _ _ _ _ _ E3 R3 k1
      refine q1 _ ⟨by rw [w, wipe_wipe], ?_⟩
      refine ⟨F, _, G3, ρb, b, ρc, E4, k2, fun G5 H5 g5 E5 => ?_⟩
      have w' : wipe σ2 vs = wipe σ vs := by rw [w, wipe_wipe]
      cases b with
      | true =>
        refine iteT ?_
        simp only [if_true, Option.bind_eq_some_iff] at k3
        obtain ⟨⟨rr, ρd⟩, k3, ⟨dd, ρe⟩, k4, k5⟩ := k3
        refine ⟨F, _, G5, ρc, rr, ρd, E5, k3, fun yv G6 H6 g6 E6 R6 => ?_⟩
        obtain ⟨G7, g7, E7, R7⟩ := E6.esc R6 k4
        have hacc : H6 Dd = some (.lst accV) := E6.th _ _ upd_same
        refine ⟨accV, hacc, by omega, _, by omega, rfl, hlt, G7, ρe, acc ++ [dd], accV ++ [yv], ?_, ?_, ?_, ?_, k5⟩
        · have E8 := (E7.hold_set (o' := .lst (accV ++ [yv])) h0).wipe vs
          rw [w'] at E8
          exact E8
        · exact ga.trans (gr.gg.trans (g5.trans (g6.trans g7)))
        · exact ((Ra.mono (gr.gg.trans (g5.trans (g6.trans g7)))).append (.cons R7 .nil))
        · rw [List.length_append]; simpa using la
      | false =>
        refine iteF ?_
        simp only [Bool.false_eq_true, if_false] at k3
        refine ⟨_, by omega, rfl, hlt, G5, ρc, acc, accV, ?_, ?_, ?_, ?_, k3⟩
        · have E8 := E5.wipe vs
          rw [w'] at E8
          exact E8
        · exact ga.trans (gr.gg.trans g5)
        · exact Ra.mono (gr.gg.trans g5)
        · omega
    · have hie : i = ds.length := by omega
      subst hie
      rw [List.drop_length] at run
      simp only [lcLoop, Option.some.injEq, Prod.mk.injEq] at run
      obtain ⟨rfl, rfl⟩ := run
      refine .inl ⟨it.stop _ _ _ _ _ _ Ea ga same (Nat.le_refl _), ?_⟩
      obtain ⟨Eb, gb⟩ := Ea.release h0 ht
      have Ec := Eb.rest E1 (ga.trans gb) hp
      have Ed := Ec.unlk lkk e3
      exact q _ _ H (g1.trans (ga.trans gb)) Ed (Rep.list upd_same (by omega) (Ra.mono gb))
  · cases e2
theorem d_lc {elt tg iter : Expr} {ifs : List Expr} {scope : Scope} {own : List (Str × Nat)} {pos : Pos} {src : Src} {g : TG} {t : Tgt} {tt : Tx} {te : Ex} (hc : X.calm = true) (hN : X.N.Nodup) (hi : PDI X cl tg iter src) (ok : BlkOk X.N X.env.scope scope own)
    (tok : TgOk X.K cl g t (own.map (·.2)))
    (hg : ∀ (s : Shared) (H : Hp) (C : Addr) (c : List (Str × Addr)) (fp : List Addr), PG (X.blk s H scope (compEnvC scope c C X.env) fp) tg g)
    (ht : ∀ (s : Shared) (H : Hp) (C : Addr) (c : List (Str × Addr)) (fp : List Addr), PTs (X.blk s H scope (compEnvC scope c C X.env) fp) ifs (tDT X.K cl tt))
    (he : ∀ (s : Shared) (H : Hp) (C : Addr) (c : List (Str × Addr)) (fp : List Addr), PE (X.blk s H scope (compEnvC scope c C X.env) fp) elt (tD X.K cl te)) (hs : ∀ x, foldedSetIterable iter X.env x = pure x := by intro _; rfl) :
    PD X cl (.ListComp elt [⟨tg, iter, ifs, 0⟩] scope pos) (eLc src t tt te (own.map (·.2))) :=
  pe_imp (pe_lc hc hN hi ok hg ht he hs) fun σ H Q h => lc_run tok h
def bYes : Tx := fun ρ => some (true, ρ)
theorem ts_nil : PTs X [] (tDT X.K cl bYes) := ⟨fun pins s σ H Q I h => by
  obtain ⟨F, T, G, ρ, b, ρ', E, e, q⟩ := h
  cases e
  exact pts_nil.run pins s σ H Q I (q G H (Same.refl _) E)⟩
theorem ts_one {c : Expr} {m : Tx} (h : PDT X cl c m) : PTs X [c] (tDT X.K cl m) := pts_one h

/-! ### isinstance of a built-in type -/
inductive T5 where
  | int | bool | str | tuple | list
  deriving DecidableEq
def T5.name : T5 → String
  | .int => "int" | .bool => "bool" | .str => "str" | .tuple => "tuple" | .list => "list"
def isT (T : T5) : D → Option Bool
  | .non => some false
  | .bl _ => some (decide (T = .bool ∨ T = .int))
  | .int _ => some (decide (T = .int))
  | .str _ => some (decide (T = .str))
  | .list _ => some (decide (T = .list))
  | .tup _ => some (decide (T = .tuple))
  | _ => none
theorem isT_ok {K : PySem.W.Frag} {G H : Hp} {v : V} {d : D} {T : T5} {b : Bool} (gh : Same G H) (h : Top K cl G H v d) (e : isT T d = some b) : ∃ n, TyX K H v (.type n) ∧ kitB n T.name = some b := by
  cases h with
  | non => cases e; exact ⟨"NoneType", .base .non, by cases T <;> decide +kernel⟩
  | bl x => cases e; exact ⟨"bool", .base (.bl x), by cases T <;> decide +kernel⟩
  | int i => cases e; exact ⟨"int", .base (.int i), by cases T <;> decide +kernel⟩
  | str x _ => cases e; exact ⟨"str", .base (.str x), by cases T <;> decide +kernel⟩
  | list h _ _ => cases e; exact ⟨"list", .base (.lst h), by cases T <;> decide +kernel⟩
  | tup h _ _ =>
    cases e
    refine ⟨"tuple", ?_, by cases T <;> decide +kernel⟩
    rcases h with (h | ⟨o, h⟩) | ⟨o, its, n, h, hc, _⟩
    · exact .base (.tup (gh _ _ h))
    · exact .fTuple (gh _ _ h)
    · exact .kTuple h hc
  | scr _ _ => cases e
  | dict _ _ _ => cases e
  | inst _ _ _ => cases e
def eIsi (T : T5) (m : Ex) : Ex := fun ρ => (m ρ).bind fun p => (peek p.2 p.1).bind fun d => (isT T d).map fun b => (.val (.bl b), p.2)
variable {x ty : Str} {p p2 pos : Pos} {e : Expr} {me : Ex}
theorem d_isi (T : T5) (hm : X.mg "isinstance" = none) (hmt : X.mg T.name = none) (ha : PD X cl e me) (hg : Gl X "isinstance" := by rfl) (hgt : Gl X T.name := by rfl) (hvt : bootBuiltins T.name = some (.type T.name) := by decide +kernel)
    (hn : (T.name : Str) ≠ "__name__" := by decide) (hdb : ((T.name : Str) == ("__debug__" : Str)) = false := by decide)
    (h1 : starEach [e, Expr.Name T.name p2] X.env = (false, eval e X.env) :: starEach [Expr.Name T.name p2] X.env := by rfl) (h2 : starEach [Expr.Name T.name p2] X.env = (false, eval (Expr.Name T.name p2) X.env) :: starEach [] X.env := by rfl)
    (hpl : (backTo pos (starEach [Expr.Name T.name p2] X.env)).any (·.1) = false := by rfl) : PD X cl (.Call (.Name "isinstance" p) [e, .Name T.name p2] [] pos) (eIsi T me) := by
  have ht : PE X (.Name T.name p2) (tC (.ty T.name)) := pe_bltn hgt hmt hvt rfl hn hdb
  refine pe_imp (pe_callB call_isi hg hm PyProof.Rows.boot_isinstance (pa_cons ha (pa_cons ht pa_nil h2) h1) (by decide) (by decide) h1 hpl) fun σ H Q h => ?_
  obtain ⟨F, T', G, ρ, r, ρ', E, e1, q⟩ := h
  simp only [eIsi, Option.bind_eq_some_iff, Option.map_eq_some_iff, Prod.mk.injEq] at e1
  obtain ⟨⟨r1, ρ1⟩, e1, d, e2, b, e3, rfl, rfl⟩ := e1
  refine ⟨F, T', G, ρ, r1, ρ1, E, e1, fun v G1 H1 g1 E1 R1 => ?_⟩
  obtain ⟨n, t1, t2⟩ := isT_ok E1.gh (E1.top R1 e2) e3
  exact ⟨v, .ty T.name, .type n, .type T.name, b, rfl, .ty _, t1, kit_ty t2, q _ G1 H1 g1 E1 (Rep.bl b)⟩

/-! ### list(range(..)) -/
def RgOkB (a b : Int) : Bool := ok62 a && ok62 b && decide ((b - a).toNat ≤ 2 ^ 24)
def eLstR1 (m : Ex) : Ex := fun ρ => (m ρ).bind fun p => match p.1 with
  | .val (.int n) => if RgOkB 0 n = true then some (.val (.list (rgD 0 n)), p.2) else none
  | _ => none
theorem rg_reps {K : PySem.W.Frag} {G : Hp} (a b : Int) : Reps K cl G (rgV a b) (rgD a b) := by
  unfold rgV rgD
  generalize List.range (b - a).toNat = l
  induction l with
  | nil => exact .nil
  | cons i l ih => exact .cons (.int _) ih
theorem RgOkB_ok {a b : Int} (h : RgOkB a b = true) : RgOk a b := by
  simp only [RgOkB, Bool.and_eq_true, decide_eq_true_eq] at h
  obtain ⟨⟨h1, h2⟩, h3⟩ := h
  have k1 := ok62_iff h1
  have k2 := ok62_iff h2
  exact ⟨k1.1, k1.2, k2.1, k2.2, h3⟩
theorem d_lstR1 {p3 pos3 : Pos} (hc : X.calm = true) (hm : X.mg "list" = none) (hm2 : X.mg "range" = none) (ha : PD X cl e me) (hg : Gl X "list" := by rfl) (hg2 : Gl X "range" := by rfl)
    (na : starEach [e] X.env = (false, eval e X.env) :: starEach [] X.env := by rfl) (nb : starEach [Expr.Call (.Name "range" p3) [e] [] pos3] X.env = (false, eval (Expr.Call (.Name "range" p3) [e] [] pos3) X.env) :: starEach [] X.env := by rfl) :
    PD X cl (.Call (.Name "list" p) [.Call (.Name "range" p3) [e] [] pos3] [] pos) (eLstR1 me) := by
  refine pe_imp (pe_listRg hc hg hm (prg_1 hg2 hm2 ha na) nb) fun σ H Q h => ?_
  obtain ⟨F, T', G, ρ, r, ρ', E, e1, q⟩ := h
  simp only [eLstR1, Option.bind_eq_some_iff] at e1
  obtain ⟨⟨r1, ρ1⟩, e1, e2⟩ := e1
  refine ⟨F, T', G, ρ, r1, ρ1, E, e1, fun v G1 H1 g1 E1 R1 => ?_⟩
  split at e2
  · rename_i n hr
    have hr' : r1 = .val (.int n) := hr
    subst hr'
    split at e2
    · rename_i c
      cases e2
      cases R1
      refine ⟨n, rfl, RgOkB_ok c, fun l hl => ?_⟩
      have hz : (rgV 0 n).length ≤ sizeLine := by
        have := (RgOkB_ok c).2.2.2.2
        rw [rgV_length, sizeLine_eq]; omega
      have gr := Grow.new_at (o := .lst (rgV 0 n)) E1.gh hl
      exact q _ _ _ (g1.trans gr.gg) (E1.grow gr) (Rep.list upd_same hz (rg_reps 0 n))
    · cases e2
  · cases e2
end

/-! ### defs and their calls -/
/-- what a def does: it hands back a value, or raises (its class, its fields) -/
inductive Rs where
  | ok (d : D) | er (c : String) (fs : List (Str × D))
  deriving Inhabited
abbrev Fn := List D → Option (Rs × List D)
def spD (K : PySem.W.Frag) (cl : String → Option Addr) (n nio : Nat) (fn : Fn) : Sp := fun vs H Q _ => vs.length = n ∧ ∃ (G : Hp) (as : List Addr) (ios : List D) (xs : List V) (ds : List D) (d : D) (outs : List D),
  vs = as.map V.ref ++ xs ∧ as.length = nio ∧ as.Nodup ∧ Paired (OwnAt K cl G H) as ios ∧ (∀ a ∈ as, G a = none) ∧ Reps K cl G xs ds ∧ Same G H ∧ fn (ios ++ ds) = some (.ok d, outs) ∧
  ∀ v G' H', Same G G' → Same G' H' → (∀ b, G' b ≠ none → G b ≠ none ∨ H b = none) → (∀ b o, b ∉ as → H b = some o → H' b = some o) → Paired (OwnAt K cl G' H') as outs → Rep K cl G' v d → Q v H'
/-- .. it hands back an object of its own making -/
def spO (K : PySem.W.Frag) (cl : String → Option Addr) (n nio : Nat) (fn : Fn) : Sp := fun vs H Q _ => vs.length = n ∧ ∃ (G : Hp) (as : List Addr) (ios : List D) (xs : List V) (ds : List D) (d : D) (outs : List D),
  vs = as.map V.ref ++ xs ∧ as.length = nio ∧ as.Nodup ∧ Paired (OwnAt K cl G H) as ios ∧ (∀ a ∈ as, G a = none) ∧ Reps K cl G xs ds ∧ Same G H ∧ fn (ios ++ ds) = some (.ok d, outs) ∧
  ∀ p G' H', Same G G' → Same G' H' → (∀ b, G' b ≠ none → G b ≠ none ∨ H b = none) → (∀ b o, b ∉ as → H b = some o → H' b = some o) → Paired (OwnAt K cl G' H') as outs → G' p = none → H p = none → OwnAt K cl G' H' p d → Q (.ref p) H'
theorem paired_at {α β : Type} {R S : α → β → Prop} {as : List α} {bs : List β} (h : Paired R as bs) (k : ∀ a b, a ∈ as → R a b → S a b) : Paired S as bs := by
  induction h with
  | nil => exact .nil
  | cons h1 h2 ih => exact .cons (k _ _ (by simp) h1) (ih fun a b ha => k a b (by simp [ha]))
theorem paired_there {K : PySem.W.Frag} {cl : String → Option Addr} {G H : Hp} {as : List Addr} {ds : List D} (h : Paired (OwnAt K cl G H) as ds) : ∀ a ∈ as, ∃ o, H a = some o := by
  induction h with
  | nil => intro a ha; cases ha
  | cons h1 h2 ih =>
    intro a ha
    rcases List.mem_cons.mp ha with rfl | ha
    · exact h1.there
    · exact ih a ha
theorem spO_val {K : PySem.W.Frag} {cl : String → Option Addr} {n nio : Nat} {fn : Fn} (vs : List V) (H : Hp) (Q : VK) (E : XK) (h : spD K cl n nio fn vs H Q E) : spO K cl n nio fn vs H Q E := by
  obtain ⟨hl, G, as, ios, xs, ds, d, outs, h1, h2, h3, h4, h5, h6, h7, h8, q⟩ := h
  refine ⟨hl, G, as, ios, xs, ds, d, outs, h1, h2, h3, h4, h5, h6, h7, h8, fun p G' H' k1 k2 k3 k4 k5 k6 k7 k8 => ?_⟩
  obtain ⟨o, ho⟩ := k8.there
  have gg : Same G' (upd G' p o) := upd_same' k6
  refine q _ (upd G' p o) H' (k1.trans gg) (fun b u hb => ?_) (fun b hb => ?_) k4 (paired_at k5 fun a b ha hab => hab.at gg rfl) (k8.rep gg ho upd_same)
  · by_cases hb' : b = p
    · subst hb'; rw [upd_same] at hb; cases hb; exact ho
    · rw [upd_ne hb'] at hb; exact k2 b u hb
  · by_cases hb' : b = p
    · subst hb'; exact .inr k7
    · rw [upd_ne hb'] at hb; exact k3 b hb
/-- a def that stands in the module, known by its promise -/
structure Cal (P : Program) (w : World) (K : PySem.W.Frag) (mg : Str → Option Value) (base : Heap) (cx : CXT) (k : Nat) (x : Str) (ps : List Str) (sp : Sp) : Prop where
  ex : ∃ (f : Addr) (fd : FuncData), mg x = some (.ref f) ∧ PySem.W.keepIn K (.ref f) = true ∧ Binds K fd ps [] ∧ FnOk P w K mg base cx k f fd ps sp
/-- the objects lent, as they stand -/
def lent (ρ : List Sl) : List RV → Option (List D)
  | [] => some []
  | .ref i :: rs => match ρ[i]? with
    | some (.own _ d) => (lent ρ rs).map fun ds => d :: ds
    | _ => none
  | .val _ :: _ => none
def places : List RV → List Nat
  | [] => []
  | .ref i :: rs => i :: places rs
  | .val _ :: rs => places rs
/-- what became of them -/
def giveBack (ρ : List Sl) : List RV → List D → Option (List Sl)
  | [], [] => some ρ
  | .ref i :: rs, d :: ds => match ρ[i]? with
    | some (.own w _) => giveBack (ρ.set i (.own w d)) rs ds
    | _ => none
  | _, _ => none
def eCall (nio : Nat) (fn : Fn) (m : Ax) : Ex := fun ρ => (m ρ).bind fun p => (escs p.2 (p.1.drop nio)).bind fun q => if (places (p.1.take nio)).Nodup ∧ (p.1.take nio).length = nio then (lent q.2 (p.1.take nio)).bind fun ios =>
  (fn (ios ++ q.1)).bind fun z => match z.1 with
    | .ok d => (giveBack q.2 (p.1.take nio) z.2).map fun ρ' => (.val d, ρ')
    | .er _ _ => none
  else none
end DL

/-! D5: a call of an own def -/
namespace DL
open PySem L2

section
variable {K : PySem.W.Frag} {cl : String → Option Addr} {F : Fm} {T : Th} {G G' H H' : Hp} {σ : L2.St} {ρ ρ' : List Sl}
inductive Lent (σ : L2.St) (ρ : List Sl) : List RV → List Addr → List D → Prop
  | nil : Lent σ ρ [] [] []
  | cons {i : Nat} {a : Addr} {w : Option Nat} {d : D} {rs : List RV} {as : List Addr} {ds : List D} : ρ[i]? = some (.own w d) → σ[i]? = some (some (.ref a)) → Lent σ ρ rs as ds → Lent σ ρ (.ref i :: rs) (a :: as) (d :: ds)
theorem lent_of (E : EOk K cl F T G H σ ρ) : ∀ {rs : List RV} {vs : List V} {ds : List D}, RvOks K cl G σ vs rs → lent ρ rs = some ds → ∃ as, vs = as.map V.ref ∧ Lent σ ρ rs as ds
  | [], _, _, h, e => by cases h; cases e; exact ⟨[], rfl, .nil⟩
  | .val _ :: _, _, _, _, e => by cases e
  | .ref i :: rs, _, ds, h, e => by
    cases h with | cons h1 h2 =>
    simp only [lent] at e
    split at e
    · rename_i w d q
      simp only [Option.map_eq_some_iff] at e
      obtain ⟨ds', e1, rfl⟩ := e
      obtain ⟨as, e2, l⟩ := lent_of E h2 e1
      obtain ⟨a, k1, _⟩ := E.own i w d q
      have hv : σ[i]? = some (some _) := h1
      rw [k1] at hv; cases hv
      exact ⟨a :: as, by rw [e2]; rfl, .cons q k1 l⟩
    · cases e
theorem Lent.set {i : Nat} {x : Sl} {rs : List RV} {as : List Addr} {ds : List D} (l : Lent σ ρ rs as ds) (h : i ∉ places rs) : Lent σ (ρ.set i x) rs as ds := by
  induction l with
  | nil => exact .nil
  | cons h1 h2 h3 ih =>
    simp only [places, List.mem_cons, not_or] at h
    exact .cons (by rw [List.getElem?_set_ne h.1]; exact h1) h2 (ih h.2)
theorem Lent.mem {rs : List RV} {as : List Addr} {ds : List D} (l : Lent σ ρ rs as ds) : ∀ a ∈ as, ∃ i w d, i ∈ places rs ∧ ρ[i]? = some (.own w d) ∧ σ[i]? = some (some (.ref a)) := by
  induction l with
  | nil => intro a h; cases h
  | cons h1 h2 h3 ih =>
    intro b hb
    rcases List.mem_cons.mp hb with rfl | hb
    · exact ⟨_, _, _, by simp [places], h1, h2⟩
    · obtain ⟨j, w, d, k1, k2⟩ := ih b hb
      exact ⟨j, w, d, by simp [places, k1], k2⟩
theorem Lent.nodup (E : EOk K cl F T G H σ ρ) {rs : List RV} {as : List Addr} {ds : List D} (l : Lent σ ρ rs as ds) (n : (places rs).Nodup) : as.Nodup := by
  induction l with
  | nil => exact .nil
  | cons h1 h2 h3 ih =>
    simp only [places, List.nodup_cons] at n
    refine List.nodup_cons.mpr ⟨fun hm => ?_, ih n.2⟩
    obtain ⟨j, w, d, k1, k2, k3⟩ := h3.mem _ hm
    have := E.sep _ _ _ _ _ h1 k2 (by simp [Sl.obj]) (by simp [Sl.obj]) h2 k3
    subst this
    exact n.1 k1
theorem Lent.owns (E : EOk K cl F T G H σ ρ) {rs : List RV} {as : List Addr} {ds : List D} (l : Lent σ ρ rs as ds) : Paired (OwnAt K cl G H) as ds ∧ (∀ a ∈ as, G a = none) ∧ ∀ a ∈ as, T.h a = none := by
  induction l with
  | nil => exact ⟨.nil, by simp, by simp⟩
  | cons h1 h2 h3 ih =>
    obtain ⟨i1, i2, i3⟩ := ih
    obtain ⟨a, k1, k2, k3, _, k4⟩ := E.own _ _ _ h1
    rw [h2] at k1; cases k1
    refine ⟨.cons k4 i1, fun b hb => ?_, fun b hb => ?_⟩
    · rcases List.mem_cons.mp hb with rfl | hb
      · exact k2
      · exact i2 b hb
    · rcases List.mem_cons.mp hb with rfl | hb
      · exact k3
      · exact i3 b hb
theorem giveBack_at {R : Addr → D → Prop} : ∀ {rs : List RV} {as : List Addr} {ds outs : List D} {ρ ρ' : List Sl}, Lent σ ρ rs as ds → Paired R as outs → (places rs).Nodup → giveBack ρ rs outs = some ρ' →
    ρ'.length = ρ.length ∧ ∀ i x, ρ'[i]? = some x → (i ∉ places rs ∧ ρ[i]? = some x) ∨ ∃ w d a out, x = .own w out ∧ ρ[i]? = some (.own w d) ∧ σ[i]? = some (some (.ref a)) ∧ R a out ∧ a ∈ as
  | _, _, _, _, ρ, ρ', .nil, .nil, _, e => by
    simp only [giveBack, Option.some.injEq] at e
    subst e
    exact ⟨rfl, fun i x h => .inl ⟨by simp [places], h⟩⟩
  | _, _, _, _, ρ, ρ', .cons (i := i) (rs := rs) h1 h2 l, .cons r1 r2, n, e => by
    simp only [places, List.nodup_cons] at n
    simp only [giveBack, h1] at e
    obtain ⟨q1, q2⟩ := giveBack_at (l.set n.1) r2 n.2 e
    refine ⟨by rw [q1, List.length_set], fun j x hx => ?_⟩
    have hi : i < ρ.length := (List.getElem?_eq_some_iff.mp h1).1
    rcases q2 j x hx with ⟨k1, k2⟩ | ⟨w, d, a, out, k1, k2, k3, k4, k5⟩
    · by_cases hj : i = j
      · subst hj
        rw [List.getElem?_set_self hi] at k2; cases k2
        exact .inr ⟨_, _, _, _, rfl, h1, h2, r1, by simp⟩
      · rw [List.getElem?_set_ne hj] at k2
        exact .inl ⟨by simp only [places, List.mem_cons, not_or]; exact ⟨fun z => hj z.symm, k1⟩, k2⟩
    · by_cases hj : i = j
      · subst hj
        rw [List.getElem?_set_self hi] at k2; cases k2
        exact .inr ⟨_, _, _, _, k1, h1, k3, k4, by simp [k5]⟩
      · rw [List.getElem?_set_ne hj] at k2
        exact .inr ⟨w, d, a, out, k1, k2, k3, k4, by simp [k5]⟩
/-- behind the call -/
theorem EOk.back (E : EOk K cl F T G H σ ρ) {rs : List RV} {as : List Addr} {ds outs : List D} (l : Lent σ ρ rs as ds) (n : (places rs).Nodup) (gg : Same G G') (gh : Same G' H') (new : ∀ b, G' b ≠ none → G b ≠ none ∨ H b = none)
    (off : ∀ b o, b ∉ as → H b = some o → H' b = some o) (po : Paired (OwnAt K cl G' H') as outs) (e : giveBack ρ rs outs = some ρ') : EOk K cl F T G' H' σ ρ' := by
  obtain ⟨hl, hat⟩ := giveBack_at l po n e
  obtain ⟨ow, gn, tn⟩ := l.owns E
  have non : ∀ {a : Addr} {o : HO}, G a = none → H a = some o → G' a = none := fun {a o} h2 ho => by
    cases q : G' a with
    | none => rfl
    | some u =>
      rcases new a (by rw [q]; simp) with z | z
      · exact absurd h2 z
      · rw [ho] at z; cases z
  have ob : ∀ {i : Nat} {x : Sl}, ρ'[i]? = some x → x.obj ≠ none → ∃ y, ρ[i]? = some y ∧ y.obj ≠ none := fun {i x} h k => by
    rcases hat i x h with ⟨_, z⟩ | ⟨w, d, a, out, z1, z2, _⟩
    · exact ⟨x, z, k⟩
    · exact ⟨_, z2, by simp [Sl.obj]⟩
  -- a place that is not lent stands apart from those
  have apart : ∀ {i : Nat} {b : Addr} {y : Sl}, i ∉ places rs → ρ[i]? = some y → y.obj ≠ none → σ[i]? = some (some (.ref b)) → b ∉ as := fun {i b y} h1 h2 h3 h4 hm => by
    obtain ⟨j, w, d, k1, k2, k3⟩ := l.mem b hm
    have := E.sep _ _ _ _ _ h2 k2 h3 (by simp [Sl.obj]) h4 k3
    subst this
    exact h1 k1
  refine ⟨by rw [E.len, hl], fun i d h => ?_, fun i w d h => ?_, fun i w d h => ?_, fun i j a x y e1 e2 e3 e4 e5 e6 => ?_, E.g0.trans gg, fun b hb => ?_, gh, fun b o hb => ?_, fun b hb => ?_⟩
  · rcases hat i _ h with ⟨_, z⟩ | ⟨w, d, a, out, z1, _⟩
    · obtain ⟨v, k1, k2⟩ := E.val i d z
      exact ⟨v, k1, k2.mono gg⟩
    · cases z1
  · rcases hat i _ h with ⟨z0, z⟩ | ⟨w', d', a, out, z1, z2, z3, z4, z5⟩
    · obtain ⟨a, k1, k2, k3, k4, k5⟩ := E.own i w d z
      obtain ⟨o, ho⟩ := k5.there
      exact ⟨a, k1, non k2 ho, k3, k4, k5.at gg ((off a o (apart z0 z (by simp [Sl.obj]) k1) ho).trans ho.symm)⟩
    · cases z1
      obtain ⟨b, k1, k2, k3, k4, k5⟩ := E.own i w d' z2
      rw [z3] at k1; cases k1
      obtain ⟨o, ho⟩ := k5.there
      exact ⟨_, z3, non k2 ho, k3, k4, z4⟩
  · rcases hat i _ h with ⟨z0, z⟩ | ⟨w', d', a, out, z1, _⟩
    · obtain ⟨a, o', k1, k2, k3, k4, k5⟩ := E.lck i w d z
      obtain ⟨o, ho⟩ := k5.there
      exact ⟨a, o', k1, non k2 ho, k3, k4, k5.at gg ((off a o (apart z0 z (by simp [Sl.obj]) k1) ho).trans ho.symm)⟩
    · cases z1
  · obtain ⟨x', f1, f2⟩ := ob e1 e3
    obtain ⟨y', f3, f4⟩ := ob e2 e4
    exact E.sep i j a x' y' f1 f3 f2 f4 e5 e6
  · rcases new b hb with z | z
    · exact E.gt b z
    · exact .inr (E.th.free z)
  · have ho := E.th b o hb
    exact off b o (fun hm => by rw [tn b hm] at hb; cases hb) ho
  · cases q : H b with
    | none => exact absurd q (E.wh b hb)
    | some o =>
      by_cases hm : b ∈ as
      · obtain ⟨u, hu⟩ := paired_there po b hm
        rw [hu]; simp
      · rw [off b o hm q]; simp
theorem RvOks.take : ∀ {vs : List V} {rs : List RV} (n : Nat), RvOks K cl G σ vs rs → RvOks K cl G σ (vs.take n) (rs.take n)
  | _, _, 0, _ => .nil
  | _, _, _ + 1, .nil => .nil
  | _, _, n + 1, .cons h r => .cons h (RvOks.take n r)
theorem RvOks.drop : ∀ {vs : List V} {rs : List RV} (n : Nat), RvOks K cl G σ vs rs → RvOks K cl G σ (vs.drop n) (rs.drop n)
  | _, _, 0, r => r
  | _, _, _ + 1, .nil => .nil
  | _, _, n + 1, .cons _ r => RvOks.drop n r
theorem RvOks.length : ∀ {vs : List V} {rs : List RV}, RvOks K cl G σ vs rs → vs.length = rs.length
  | _, _, .nil => rfl
  | _, _, .cons _ r => by simp [RvOks.length r]
theorem Lent.len {rs : List RV} {as : List Addr} {ds : List D} (l : Lent σ ρ rs as ds) : as.length = rs.length := by
  induction l with
  | nil => rfl
  | cons _ _ _ ih => simp [ih]
/-- all that a call asks -/
theorem call_run {n nio : Nat} {fn : Fn} {m : Ax} {Q : VK} {E0 : XK} (hn : ∀ ρ rs ρ', m ρ = some (rs, ρ') → rs.length = n) (h : tD K cl (eCall nio fn m) σ H Q) : tCall (spD K cl n nio fn) [] E0 (tDA K cl m) σ H Q := by
  obtain ⟨F, T, G, ρ, r, ρ', E, e, q⟩ := h
  simp only [eCall, Option.bind_eq_some_iff] at e
  obtain ⟨⟨rs, ρ1⟩, e1, ⟨ds, ρ2⟩, e2, e3⟩ := e
  refine ⟨F, T, G, ρ, rs, ρ1, E, e1, fun vs G1 H1 g1 E1 R1 => ?_⟩
  have e2' : DL.escs ρ1 (rs.drop nio) = some (ds, ρ2) := e2
  split at e3
  · rename_i c
    obtain ⟨c1, c2⟩ := c
    simp only [Option.bind_eq_some_iff] at e3
    obtain ⟨ios, e3, ⟨z, outs⟩, e4, e5⟩ := e3
    obtain ⟨G2, g2, E2, R2⟩ := E1.escs (R1.drop nio) e2'
    obtain ⟨as, ea, l⟩ := lent_of E2 ((R1.take nio).mono g2) e3
    obtain ⟨ow, gn, tn⟩ := l.owns E2
    have hl : (vs ++ ([] : List V)).length = n := by rw [List.append_nil, R1.length]; exact hn _ _ _ e1
    have e4' : fn (ios ++ ds) = some (z, outs) := e4
    cases z with
    | er c fs => cases e5
    | ok d =>
      simp only [Option.map_eq_some_iff, Prod.mk.injEq] at e5
      obtain ⟨ρ3, e5, rfl, rfl⟩ := e5
      refine ⟨hl, G2, as, ios, vs.drop nio, ds, d, outs, ?_, ?_, l.nodup E2 c1, ow, gn, R2, E2.gh, e4', fun v G3 H3 k1 k2 k3 k4 k5 k6 => ?_⟩
      · rw [List.append_nil, ← ea, List.take_append_drop]
      · rw [l.len]; exact c2
      · exact q v G3 H3 (g1.trans (g2.trans k1)) (E2.back l c1 k1 k2 k3 k4 k5 e5) k6
  · cases e3
end
section
variable {X : Cx} {cl : String → Option Addr} {cx : CXT} {k n nio : Nat} {x : Str} {ps : List Str} {fn : Fn} {e : Expr} {es : List Expr} {mx : Ax} {p pos : Pos}
/-- how many arguments an argument list has -/
theorem aNil_len : ∀ ρ rs ρ', aNil ρ = some (rs, ρ') → rs.length = 0 := fun ρ rs ρ' h => by cases h; rfl
theorem aCons_len {me : Ex} {n : Nat} {mx : Ax} (h : ∀ ρ rs ρ', mx ρ = some (rs, ρ') → rs.length = n) : ∀ ρ rs ρ', aCons me mx ρ = some (rs, ρ') → rs.length = n + 1 := fun ρ rs ρ' e => by
  simp only [aCons, Option.bind_eq_some_iff, Option.map_eq_some_iff, Prod.mk.injEq] at e
  obtain ⟨⟨r, ρ1⟩, e1, ⟨rs', ρ2⟩, e2, rfl, rfl⟩ := e
  simp [h _ _ _ e2]
theorem d_call (C : Cal X.prog X.w X.K X.mg X.base cx k x ps (spD X.K cl n nio fn)) (hr : Room k X.A) (hx : Passes cx X E0) (hn : ∀ ρ rs ρ', mx ρ = some (rs, ρ') → rs.length = n) (ha : PDA X cl (e :: es) mx) (hg : Gl X x := by rfl)
    (hdb : (x == ("__debug__" : Str)) = false := by decide) (he : starEach (e :: es) X.env = (false, eval e X.env) :: starEach es X.env := by rfl) (hpl : (backTo pos (starEach es X.env)).any (·.1) = false := by rfl) :
    PD X cl (.Call (.Name x p) (e :: es) [] pos) (eCall nio fn mx) := by
  obtain ⟨f, fd, h1, h2, h3, h4⟩ := C.ex
  exact pe_imp (pe_call h4 hr hg h1 h2 h3 .nil hx ha hdb he hpl) fun σ H Q h => call_run hn h
theorem Cal.val (C : Cal X.prog X.w X.K X.mg X.base cx k x ps (spO X.K cl n nio fn)) : Cal X.prog X.w X.K X.mg X.base cx k x ps (spD X.K cl n nio fn) := by
  obtain ⟨f, fd, h1, h2, h3, h4⟩ := C.ex
  exact ⟨f, fd, h1, h2, h3, h4.imp fun vs H Q E h => spO_val vs H Q E h⟩
end
end DL

/-! D6: statements, a def's body -/
namespace DL
open PySem L2

/-- how a statement ends: it goes on, breaks, continues, hands back a value, hands back an object of its own making -/
inductive Fl where
  | nx (ρ : List Sl) | bk (ρ : List Sl) | ct (ρ : List Sl) | rt (d : D) (ρ : List Sl) | ro (d : D) (ρ : List Sl)
  deriving Inhabited
abbrev Sx := List Sl → Option Fl

section
variable (K : PySem.W.Frag) (cl : String → Option Addr)
def FlOk (F : Fm) (T : Th) (G : Hp) (D : Ends) : Fl → Prop
  | .nx ρ => ∀ σ' G' H', Same G G' → EOk K cl F T G' H' σ' ρ → D.nx σ' H'
  | .bk ρ => ∀ σ' G' H', Same G G' → EOk K cl F T G' H' σ' ρ → D.bk σ' H'
  | .ct ρ => ∀ σ' G' H', Same G G' → EOk K cl F T G' H' σ' ρ → D.ct σ' H'
  | .rt d ρ => ∀ v σ' G' H', Same G G' → EOk K cl F T G' H' σ' ρ → Rep K cl G' v d → D.rt v H'
  | .ro d ρ => ∀ p σ' G' H', Same G G' → EOk K cl F T G' H' σ' ρ → G' p = none → T.h p = none → p ∉ F.W → OwnAt K cl G' H' p d → D.rt (.ref p) H'
def tDS (m : Sx) : TS := fun D σ H => ∃ F T G ρ fl, EOk K cl F T G H σ ρ ∧ m ρ = some fl ∧ FlOk K cl F T G D fl
end
section
variable {K : PySem.W.Frag} {cl : String → Option Addr} {F : Fm} {T : Th} {G G' H H' : Hp} {σ : L2.St} {ρ ρ' : List Sl} {D : Ends} {fl : Fl}
theorem FlOk.mono (g : Same G G') (h : FlOk K cl F T G D fl) : FlOk K cl F T G' D fl := by
  cases fl with
  | nx ρ => exact fun σ' G2 H' k => h σ' G2 H' (g.trans k)
  | bk ρ => exact fun σ' G2 H' k => h σ' G2 H' (g.trans k)
  | ct ρ => exact fun σ' G2 H' k => h σ' G2 H' (g.trans k)
  | rt d ρ => exact fun v σ' G2 H' k => h v σ' G2 H' (g.trans k)
  | ro d ρ => exact fun p σ' G2 H' k => h p σ' G2 H' (g.trans k)
end
section
variable {X : Cx} {cl : String → Option Addr}
theorem ps_imp {st : Stmt} {t t' : TS} (h : PS X st t) (i : ∀ D σ H, t' D σ H → t D σ H) : PS X st t' := ⟨fun pins s σ H D I q => h.run pins s σ H D I (i _ _ _ q)⟩
theorem pss_imp {st : List Stmt} {t t' : TS} (h : PSs X st t) (i : ∀ D σ H, t' D σ H → t D σ H) : PSs X st t' := ⟨fun pins s σ H D I q => h.run pins s σ H D I (i _ _ _ q)⟩
theorem ps_either {st : Stmt} {t t' : TS} (h : PS X st t) (h' : PS X st t') : PS X st (fun D σ H => t D σ H ∨ t' D σ H) := ⟨fun pins s σ H D I q => by
  rcases q with q | q
  · exact h.run pins s σ H D I q
  · exact h'.run pins s σ H D I q⟩
abbrev PDS (X : Cx) (cl : String → Option Addr) (st : Stmt) (m : Sx) : Prop := PS X st (tDS X.K cl m)
abbrev PDB (X : Cx) (cl : String → Option Addr) (st : List Stmt) (m : Sx) : Prop := PSs X st (tDS X.K cl m)
variable {st : Stmt} {rest : List Stmt} {m n : Sx} {e : Expr} {me : Ex} {pos pos' : Pos}
/-! ### blocks -/
def sSkip : Sx := fun ρ => some (.nx ρ)
def sSeq (m n : Sx) : Sx := fun ρ => (m ρ).bind fun fl => match fl with
  | .nx ρ' => n ρ'
  | .bk ρ' => some (.bk ρ')
  | .ct ρ' => some (.ct ρ')
  | .rt d ρ' => some (.rt d ρ')
  | .ro d ρ' => some (.ro d ρ')
theorem b_nil : PDB X cl [] sSkip := by
  refine pss_imp pss_nil fun D σ H h => ?_
  obtain ⟨F, T, G, ρ, fl, E, e, q⟩ := h
  cases e
  exact q σ G H (Same.refl _) E
theorem b_one (h : PDS X cl st m) : PDB X cl [st] m := pss_one h
theorem b_cons (h : PDS X cl st m) (k : PDB X cl rest n) : PDB X cl (st :: rest) (sSeq m n) := by
  refine pss_imp (pss_cons h k) fun D σ H h => ?_
  obtain ⟨F, T, G, ρ, fl, E, e, q⟩ := h
  simp only [sSeq, Option.bind_eq_some_iff] at e
  obtain ⟨fl1, e1, e2⟩ := e
  refine ⟨F, T, G, ρ, fl1, E, e1, ?_⟩
  cases fl1 with
  | nx ρ1 => exact fun σ' G' H' g E' => ⟨F, T, G', ρ1, fl, E', e2, q.mono g⟩
  | bk ρ1 => cases e2; exact q
  | ct ρ1 => cases e2; exact q
  | rt d ρ1 => cases e2; exact q
  | ro d ρ1 => cases e2; exact q
theorem st_pass : PDS X cl (.Pass pos) sSkip := by
  refine ps_imp ps_pass fun D σ H h => ?_
  obtain ⟨F, T, G, ρ, fl, E, e, q⟩ := h
  cases e
  exact q σ G H (Same.refl _) E
def sBrk : Sx := fun ρ => some (.bk ρ)
theorem st_brk : PDS X cl (.Break pos) sBrk := by
  refine ps_imp ps_break fun D σ H h => ?_
  obtain ⟨F, T, G, ρ, fl, E, e, q⟩ := h
  cases e
  exact q σ G H (Same.refl _) E
/-- an expression whose value is dropped -/
def sDrop (m : Ex) : Sx := fun ρ => (m ρ).map fun p => .nx p.2
theorem st_expr (h : PD X cl e me) (hs : swapsWith e none pos.line X.env = pure false := by rfl) : PDS X cl (.Expr e pos) (sDrop me) := by
  refine ps_imp (ps_expr h hs) fun D σ H h => ?_
  obtain ⟨F, T, G, ρ, fl, E, e, q⟩ := h
  simp only [sDrop, Option.map_eq_some_iff] at e
  obtain ⟨⟨r, ρ1⟩, e1, rfl⟩ := e
  exact ⟨F, T, G, ρ, r, ρ1, E, e1, fun v G' H' g E' _ => q σ G' H' g E'⟩
/-! ### return -/
def sRet (m : Ex) : Sx := fun ρ => (m ρ).bind fun p => (esc p.2 p.1).map fun q => .rt q.1 q.2
theorem st_ret (h : PD X cl e me) : PDS X cl (.Return (some e) pos) (sRet me) := by
  refine ps_imp (ps_ret h) fun D σ H h => ?_
  obtain ⟨F, T, G, ρ, fl, E, e, q⟩ := h
  simp only [sRet, Option.bind_eq_some_iff, Option.map_eq_some_iff] at e
  obtain ⟨⟨r, ρ1⟩, e1, ⟨d, ρ2⟩, e2, rfl⟩ := e
  refine ⟨F, T, G, ρ, r, ρ1, E, e1, fun v G' H' g E' R => ?_⟩
  obtain ⟨G2, g2, E2, R2⟩ := E'.esc R e2
  exact q v σ G2 H' (g.trans g2) E2 R2
def sRetN : Sx := fun ρ => some (.rt .non ρ)
theorem st_retN : PDS X cl (.Return none pos) sRetN := by
  refine ps_imp ps_retN fun D σ H h => ?_
  obtain ⟨F, T, G, ρ, fl, E, e, q⟩ := h
  cases e
  exact q .non σ G H (Same.refl _) E .non
/-- an object of its own making, by its name -/
def sRetO (m : Ex) : Sx := fun ρ => (m ρ).bind fun p => match p.1 with
  | .ref i => match p.2[i]? with
    | some (.own none d) => some (.ro d p.2)
    | _ => none
  | _ => none
theorem st_retO (h : PD X cl e me) : PDS X cl (.Return (some e) pos) (sRetO me) := by
  refine ps_imp (ps_ret h) fun D σ H h => ?_
  obtain ⟨F, T, G, ρ, fl, E, e, q⟩ := h
  simp only [sRetO, Option.bind_eq_some_iff] at e
  obtain ⟨⟨r, ρ1⟩, e1, e2⟩ := e
  refine ⟨F, T, G, ρ, r, ρ1, E, e1, fun v G' H' g E' R => ?_⟩
  split at e2
  · rename_i i hi
    have hi' : r = .ref i := hi
    subst hi'
    split at e2
    · rename_i d hd
      cases e2
      obtain ⟨a, k1, k2, k3, k4, k5⟩ := E'.own i none d hd
      have hv : σ[i]? = some (some v) := R
      rw [k1] at hv; cases hv
      exact q a σ G' H' g E' k2 k3 k4 k5
    · cases e2
  · cases e2
/-- a new list, written -/
def sRetL (m : Ax) : Sx := fun ρ => (m ρ).bind fun p => (escs p.2 p.1).bind fun q => if q.1.length ≤ sizeLine then some (.ro (.list q.1) q.2) else none
theorem new_own {K : PySem.W.Frag} {F : Fm} {T : Th} {G H : Hp} {σ : L2.St} {ρ : List Sl} {p : Addr} {o : HO} (E : EOk K cl F T G H σ ρ) (hp : H p = none) : G p = none ∧ T.h p = none ∧ p ∉ F.W ∧ EOk K cl F T G (upd H p o) σ ρ := by
  have gn : G p = none := E.gh.free hp
  have tn : T.h p = none := E.th.free hp
  refine ⟨gn, tn, fun hm => E.wh p hm hp, ⟨E.len, E.val, fun i w d h => ?_, fun i w d h => ?_, E.sep, E.g0, E.gt, fun b u hb => ?_, fun b u hb => ?_, fun b hb => ?_⟩⟩
  · obtain ⟨b, h1, h2, h3, h4, h5⟩ := E.own i w d h
    obtain ⟨u, hu⟩ := h5.there
    exact ⟨b, h1, h2, h3, h4, h5.at (Same.refl _) (upd_ne (ne_of_none hu hp))⟩
  · obtain ⟨b, u', h1, h2, h3, h4, h5⟩ := E.lck i w d h
    obtain ⟨u, hu⟩ := h5.there
    exact ⟨b, u', h1, h2, h3, h4, h5.at (Same.refl _) (upd_ne (ne_of_none hu hp))⟩
  · rw [upd_ne (ne_of_none (E.gh _ _ hb) hp)]; exact E.gh b u hb
  · rw [upd_ne (ne_of_none (E.th _ _ hb) hp)]; exact E.th b u hb
  · by_cases hb' : b = p
    · subst hb'; rw [upd_same]; simp
    · rw [upd_ne hb']; exact E.wh b hb
variable {es : List Expr} {mx : Ax}
theorem st_retL {p2 : Pos} (h : PDA X cl es mx) : PDS X cl (.Return (some (.List es p2)) pos) (sRetL mx) := by
  refine ps_imp (ps_ret (pe_lst h)) fun D σ H h => ?_
  obtain ⟨F, T, G, ρ, fl, E, e, q⟩ := h
  simp only [sRetL, Option.bind_eq_some_iff] at e
  obtain ⟨⟨rs, ρ1⟩, e1, ⟨ds, ρ2⟩, e2, e3⟩ := e
  split at e3
  · rename_i hz
    cases e3
    refine ⟨F, T, G, ρ, rs, ρ1, E, e1, fun vs G' H' g E' R => ?_⟩
    obtain ⟨G2, g2, E2, R2⟩ := E'.escs R e2
    have hl : vs.length ≤ sizeLine := by rw [R2.length]; exact hz
    refine ⟨hl, fun p hp => ?_⟩
    obtain ⟨k1, k2, k3, k4⟩ := new_own (o := .lst vs) E2 hp
    exact q p σ G2 _ (g.trans g2) k4 k1 k2 k3 ⟨rfl, .list upd_same hl R2⟩
  · cases e3
/-! ### names are set -/
variable {i : Nat} {x : Str}
def sSet (i : Nat) (m : Ex) : Sx := fun ρ => (m ρ).bind fun p => (esc p.2 p.1).map fun q => .nx (q.2.set i (.val q.1))
theorem set_run {K : PySem.W.Frag} {D : Ends} {σ : L2.St} {H : Hp} (h : tDS K cl (sSet i me) D σ H) : tAsg (tD K cl me) (gName i) D σ H := by
  obtain ⟨F, T, G, ρ, fl, E, e, q⟩ := h
  simp only [sSet, Option.bind_eq_some_iff, Option.map_eq_some_iff] at e
  obtain ⟨⟨r, ρ1⟩, e1, ⟨d, ρ2⟩, e2, rfl⟩ := e
  refine ⟨F, T, G, ρ, r, ρ1, E, e1, fun v G' H' g E' R => ?_⟩
  obtain ⟨G2, g2, E2, R2⟩ := E'.esc R e2
  exact q _ G2 H' (g.trans g2) (E2.set R2)
theorem st_set (i : Nat) (hN : X.N.Nodup) (h : PD X cl e me) (hi : X.N[i]? = some x := by rfl) (hx : Loc X.env.scope x := by first | exact Or.inl rfl | exact Or.inr rfl) (hs : swapsWith e (some (.Name x pos')) pos.line X.env = pure false := by rfl) (hf : X.fn x = true ∨ X.env.scope.names.lookup x = some .local := by first | exact Or.inl rfl | exact Or.inr rfl) :
    PDS X cl (.Assign [.Name x pos'] e pos) (sSet i me) := ps_imp (ps_set hN hi hx h hs hf) fun D σ H h => set_run h
/-- a place gets an object of its own making -/
theorem EOk.setOwn {K : PySem.W.Frag} {F : Fm} {T : Th} {G H : Hp} {σ : L2.St} {ρ : List Sl} {p : Addr} {d : D} (E : EOk K cl F T G H σ ρ) (gn : G p = none) (tn : T.h p = none) (wn : p ∉ F.W) (ow : OwnAt K cl G H p d) (ap : ∀ (j : Nat) (y : Sl), ρ[j]? = some y → y.obj ≠ none → σ[j]? ≠ some (some (.ref p))) :
    EOk K cl F T G H (σ.set i (some (.ref p))) (ρ.set i (.own none d)) := by
  by_cases hi : i < ρ.length
  · have hs : i < σ.length := by rw [E.len]; exact hi
    refine ⟨by simpa using E.len, fun j d' h' => ?_, fun j w d' h' => ?_, fun j w d' h' => ?_, fun j k b x y e1 e2 e3 e4 e5 e6 => ?_, E.g0, E.gt, E.gh, E.th, E.wh⟩
    · by_cases hj : i = j
      · subst hj
        rw [List.getElem?_set_self hi] at h'; cases h'
      · rw [List.getElem?_set_ne hj] at h' ⊢
        exact E.val j d' h'
    · by_cases hj : i = j
      · subst hj
        rw [List.getElem?_set_self hi] at h'; cases h'
        exact ⟨p, List.getElem?_set_self hs, gn, tn, wn, ow⟩
      · rw [List.getElem?_set_ne hj] at h' ⊢
        exact E.own j w d' h'
    · by_cases hj : i = j
      · subst hj
        rw [List.getElem?_set_self hi] at h'; cases h'
      · rw [List.getElem?_set_ne hj] at h' ⊢
        exact E.lck j w d' h'
    · by_cases hj : i = j
      · subst hj
        by_cases hk : i = k
        · exact hk
        · rw [List.getElem?_set_self hs] at e5
          cases e5
          rw [List.getElem?_set_ne hk] at e2 e6
          exact absurd e6 (ap k y e2 e4)
      · by_cases hk : i = k
        · subst hk
          rw [List.getElem?_set_self hs] at e6
          cases e6
          rw [List.getElem?_set_ne hj] at e1 e5
          exact absurd e5 (ap j x e1 e3)
        · rw [List.getElem?_set_ne hj] at e1 e5
          rw [List.getElem?_set_ne hk] at e2 e6
          exact E.sep j k b x y e1 e2 e3 e4 e5 e6
  · rw [List.set_eq_of_length_le (by rw [E.len]; omega), List.set_eq_of_length_le (by omega)]
    exact E
theorem EOk.apart {K : PySem.W.Frag} {F : Fm} {T : Th} {G H : Hp} {σ : L2.St} {ρ : List Sl} {p : Addr} (E : EOk K cl F T G H σ ρ) (hp : H p = none) : ∀ (j : Nat) (y : Sl), ρ[j]? = some y → y.obj ≠ none → σ[j]? ≠ some (some (.ref p)) := fun j y h1 h2 h3 => by
  cases y with
  | emp => exact h2 rfl
  | val d => exact h2 rfl
  | own w d =>
    obtain ⟨a, k1, _, _, _, k5⟩ := E.own j w d h1
    rw [k1] at h3; cases h3
    obtain ⟨o, ho⟩ := k5.there
    rw [hp] at ho; cases ho
  | lck w d =>
    obtain ⟨a, o', k1, _, _, _, k5⟩ := E.lck j w d h1
    rw [k1] at h3; cases h3
    obtain ⟨o, ho⟩ := k5.there
    rw [hp] at ho; cases ho
/-- x = [..], x to be changed in place -/
def sNewL (i : Nat) (m : Ax) : Sx := fun ρ => (m ρ).bind fun p => (escs p.2 p.1).bind fun q => if q.1.length ≤ sizeLine then some (.nx (q.2.set i (.own none (.list q.1)))) else none
theorem st_newL {p2 : Pos} (i : Nat) (hN : X.N.Nodup) (h : PDA X cl es mx) (hi : X.N[i]? = some x := by rfl) (hx : Loc X.env.scope x := by first | exact Or.inl rfl | exact Or.inr rfl) (hs : swapsWith (.List es p2) (some (.Name x pos')) pos.line X.env = pure false := by rfl) (hf : X.fn x = true ∨ X.env.scope.names.lookup x = some .local := by first | exact Or.inl rfl | exact Or.inr rfl) :
    PDS X cl (.Assign [.Name x pos'] (.List es p2) pos) (sNewL i mx) := by
  refine ps_imp (ps_set hN hi hx (pe_lst h) hs hf) fun D σ H h => ?_
  obtain ⟨F, T, G, ρ, fl, E, e, q⟩ := h
  simp only [sNewL, Option.bind_eq_some_iff] at e
  obtain ⟨⟨rs, ρ1⟩, e1, ⟨ds, ρ2⟩, e2, e3⟩ := e
  split at e3
  · rename_i hz
    cases e3
    refine ⟨F, T, G, ρ, rs, ρ1, E, e1, fun vs G' H' g E' R => ?_⟩
    obtain ⟨G2, g2, E2, R2⟩ := E'.escs R e2
    have hl : vs.length ≤ sizeLine := by rw [R2.length]; exact hz
    refine ⟨hl, fun p hp => ?_⟩
    obtain ⟨k1, k2, k3, k4⟩ := new_own (o := .lst vs) E2 hp
    exact q _ G2 _ (g.trans g2) (k4.setOwn k1 k2 k3 ⟨rfl, .list upd_same hl R2⟩ (E2.apart hp))
  · cases e3
/-- x = f(..), the object is x's own -/
def sCallO (i : Nat) (nio : Nat) (fn : Fn) (m : Ax) : Sx := fun ρ => (m ρ).bind fun p => (escs p.2 (p.1.drop nio)).bind fun q => if (places (p.1.take nio)).Nodup ∧ (p.1.take nio).length = nio then (lent q.2 (p.1.take nio)).bind fun ios =>
  (fn (ios ++ q.1)).bind fun z => match z.1 with
    | .ok d => (giveBack q.2 (p.1.take nio) z.2).map fun ρ' => .nx (ρ'.set i (.own none d))
    | .er _ _ => none
  else none
theorem callO_run {K : PySem.W.Frag} {σ : L2.St} {H : Hp} {D : Ends} {n nio : Nat} {fn : Fn} {m : Ax} {E0 : XK} (hn : ∀ ρ rs ρ', m ρ = some (rs, ρ') → rs.length = n) (h : tDS K cl (sCallO i nio fn m) D σ H) : tAsg (tCall (spO K cl n nio fn) [] E0 (tDA K cl m)) (gName i) D σ H := by
  obtain ⟨F, T, G, ρ, fl, E, e, q⟩ := h
  simp only [sCallO, Option.bind_eq_some_iff] at e
  obtain ⟨⟨rs, ρ1⟩, e1, ⟨ds, ρ2⟩, e2, e3⟩ := e
  refine ⟨F, T, G, ρ, rs, ρ1, E, e1, fun vs G1 H1 g1 E1 R1 => ?_⟩
  have e2' : DL.escs ρ1 (rs.drop nio) = some (ds, ρ2) := e2
  split at e3
  · rename_i c
    obtain ⟨c1, c2⟩ := c
    simp only [Option.bind_eq_some_iff] at e3
    obtain ⟨ios, e3, ⟨z, outs⟩, e4, e5⟩ := e3
    obtain ⟨G2, g2, E2, R2⟩ := E1.escs (R1.drop nio) e2'
    obtain ⟨as, ea, l⟩ := lent_of E2 ((R1.take nio).mono g2) e3
    obtain ⟨ow, gn, tn⟩ := l.owns E2
    have hl : (vs ++ ([] : List V)).length = n := by rw [List.append_nil, R1.length]; exact hn _ _ _ e1
    have e4' : fn (ios ++ ds) = some (z, outs) := e4
    cases z with
    | er c fs => cases e5
    | ok d =>
      simp only [Option.map_eq_some_iff] at e5
      obtain ⟨ρ3, e5, rfl⟩ := e5
      refine ⟨hl, G2, as, ios, vs.drop nio, ds, d, outs, ?_, ?_, l.nodup E2 c1, ow, gn, R2, E2.gh, e4', fun p G3 H3 k1 k2 k3 k4 k5 k6 k7 k8 => ?_⟩
      · rw [List.append_nil, ← ea, List.take_append_drop]
      · rw [l.len]; exact c2
      · have E3 := E2.back l c1 k1 k2 k3 k4 k5 e5
        refine q _ G3 H3 (g1.trans (g2.trans k1)) (E3.setOwn k6 (E2.th.free k7) (fun hm => E2.wh p hm k7) k8 fun j y h1 h2 h3 => ?_)
        -- what stood ahead of the call stands apart from what is new
        have hb : ∃ y', ρ2[j]? = some y' ∧ y'.obj ≠ none := by
          rcases (giveBack_at l k5 c1 e5).2 j y h1 with ⟨_, z⟩ | ⟨w, d', a, out, z1, z2, _⟩
          · exact ⟨y, z, h2⟩
          · exact ⟨_, z2, by simp [Sl.obj]⟩
        obtain ⟨y', f1, f2⟩ := hb
        exact E2.apart k7 j y' f1 f2 h3
  · cases e3
theorem st_callO {cx : CXT} {k n nio : Nat} {f : Str} {ps : List Str} {fn : Fn} {p p2 : Pos} (i : Nat) (hN : X.N.Nodup) (C : Cal X.prog X.w X.K X.mg X.base cx k f ps (spO X.K cl n nio fn)) (hr : Room k X.A) (hx : Passes cx X E0) (hn : ∀ ρ rs ρ', mx ρ = some (rs, ρ') → rs.length = n) (ha : PDA X cl (e :: es) mx) (hg : Gl X f := by rfl)
    (hi : X.N[i]? = some x := by rfl) (hxl : Loc X.env.scope x := by first | exact Or.inl rfl | exact Or.inr rfl) (hs : swapsWith (.Call (.Name f p) (e :: es) [] p2) (some (.Name x pos')) pos.line X.env = pure false := by rfl) (hf : X.fn x = true ∨ X.env.scope.names.lookup x = some .local := by first | exact Or.inl rfl | exact Or.inr rfl)
    (hdb : (f == ("__debug__" : Str)) = false := by decide) (he : starEach (e :: es) X.env = (false, eval e X.env) :: starEach es X.env := by rfl) (hpl : (backTo p2 (starEach es X.env)).any (·.1) = false := by rfl) :
    PDS X cl (.Assign [.Name x pos'] (.Call (.Name f p) (e :: es) [] p2) pos) (sCallO i nio fn mx) := by
  obtain ⟨fa, fd, h1, h2, h3, h4⟩ := C.ex
  exact ps_imp (ps_set hN hi hxl (pe_call h4 hr hg h1 h2 h3 .nil hx ha hdb he hpl) hs hf) fun D σ H h => callO_run hn h
/-- x = [.. for ..], a value -/
theorem st_setLc {y : Str} {py : Pos} {elt tg iter : Expr} {ifs : List Expr} {scope : Scope} {own : List (Str × Nat)} {pos spos : Pos} {src : Src} {g : TG} {t : Tgt} {tt : Tx} {te : Ex} (i : Nat) (hc : X.calm = true) (hN : X.N.Nodup) (hi : PDI X cl tg iter src) (ok : BlkOk X.N X.env.scope scope own) (tok : TgOk X.K cl g t (own.map (·.2)))
    (hg : ∀ (s : Shared) (H : Hp) (C : Addr) (c : List (Str × Addr)) (fp : List Addr), PG (X.blk s H scope (compEnvC scope c C X.env) fp) tg g)
    (ht : ∀ (s : Shared) (H : Hp) (C : Addr) (c : List (Str × Addr)) (fp : List Addr), PTs (X.blk s H scope (compEnvC scope c C X.env) fp) ifs (tDT X.K cl tt))
    (he : ∀ (s : Shared) (H : Hp) (C : Addr) (c : List (Str × Addr)) (fp : List Addr), PE (X.blk s H scope (compEnvC scope c C X.env) fp) elt (tD X.K cl te)) (hy : X.N[i]? = some y := by rfl) (hyl : X.env.scope.names.lookup y = some .local := by rfl)
    (hsw : swapsWith (.ListComp elt [⟨tg, iter, ifs, 0⟩] scope pos) (some (.Name y py)) spos.line X.env = pure true := by exact sw_true rfl rfl rfl (by decide +kernel)) (hs : ∀ x, foldedSetIterable iter X.env x = pure x := by intro _; rfl) :
    PDS X cl (.Assign [.Name y py] (.ListComp elt [⟨tg, iter, ifs, 0⟩] scope pos) spos) (sSet i (eLc src t tt te (own.map (·.2)))) := by
  refine ps_imp (ps_setLc hc hN hy hyl hsw hi ok hg ht he hs) fun D σ H h => ?_
  obtain ⟨F, T, G, ρ, fl, E, e, q⟩ := h
  simp only [sSet, Option.bind_eq_some_iff, Option.map_eq_some_iff] at e
  obtain ⟨⟨r, ρ1⟩, e1, ⟨d, ρ2⟩, e2, rfl⟩ := e
  refine lc_run tok ⟨F, T, G, ρ, r, ρ1, E, e1, fun v G' H' g' E' R => ?_⟩
  obtain ⟨G2, g2, E2, R2⟩ := E'.esc R e2
  exact q _ G2 H' (g'.trans g2) (E2.set R2)
/-! ### name op= e, ints -/
def sAug (i : Nat) (k : Int → Int → Int) (m : Ex) : Sx := fun ρ => match ρ[i]? with
  | some (.val (.int a)) => (m ρ).bind fun p => match p.1 with
    | .val (.int b) => some (.nx (p.2.set i (.val (.int (k a b)))))
    | _ => none
  | _ => none
theorem st_aug {op : Operator} {k : Int → Int → Int} (i : Nat) (hN : X.N.Nodup) (ho : PIp X op (ipI k)) (h : PD X cl e me) (hi : X.N[i]? = some x := by rfl) (hx : Loc X.env.scope x := by first | exact Or.inl rfl | exact Or.inr rfl) (hf : X.fn x = true ∨ X.env.scope.names.lookup x = some .local := by first | exact Or.inl rfl | exact Or.inr rfl) :
    PDS X cl (.AugAssign (.Name x pos') op e pos) (sAug i k me) := by
  refine ps_imp (ps_aug hN hi hx h ho hf) fun D σ H h => ?_
  obtain ⟨F, T, G, ρ, fl, E, e, q⟩ := h
  unfold sAug at e
  split at e
  · rename_i a ha
    simp only [Option.bind_eq_some_iff] at e
    obtain ⟨⟨r, ρ1⟩, e1, e2⟩ := e
    obtain ⟨v, k1, k2⟩ := E.val i _ ha
    cases k2
    refine ⟨_, k1, F, T, G, ρ, r, ρ1, E, e1, fun v G' H' g E' R => ?_⟩
    split at e2
    · rename_i b hb
      have hb' : r = .val (.int b) := hb
      subst hb'
      cases e2
      cases R
      exact ⟨a, b, rfl, rfl, q _ G' H' g (E'.set (.int _))⟩
    · cases e2
  · cases e
/-! ### x, y = a, b -/
def par2 (i j : Nat) : List D → List Sl → Option Fl
  | [a, b], ρ => some (.nx ((ρ.set i (.val a)).set j (.val b)))
  | _, _ => none
def sPar (i j : Nat) (m : Ax) : Sx := fun ρ => (m ρ).bind fun p => (escs p.2 p.1).bind fun q => par2 i j q.1 q.2
theorem st_par {i j : Nat} {x y : Str} {a b : Expr} {px py pt : Pos} {kt k2 pt2} (hc : X.calm = true) (hN : X.N.Nodup) (hij : i ≠ j) (ha : PDA X cl [a, b] mx) (hi : X.N[i]? = some x := by rfl) (hj : X.N[j]? = some y := by rfl)
    (hx : X.env.scope.names.lookup x = some .local := by rfl) (hy : X.env.scope.names.lookup y = some .local := by rfl)
    (hw : swappedStores [.Tuple [.Name x px, .Name y py] kt pt] (.Tuple [a, b] k2 pt2) X.env = pure (some [x, y]) := by rfl)
    (hs : swapsWithSole [.Tuple [.Name x px, .Name y py] kt pt] (.Tuple [a, b] k2 pt2) pos.line X.env = pure false := by rfl) :
    PDS X cl (.Assign [.Tuple [.Name x px, .Name y py] kt pt] (.Tuple [a, b] k2 pt2) pos) (sPar i j mx) := by
  refine ps_imp (ps_par hc hN hi hj hij hx hy ha hw hs) fun D σ H h => ?_
  obtain ⟨F, T, G, ρ, fl, E, e, q⟩ := h
  simp only [sPar, Option.bind_eq_some_iff] at e
  obtain ⟨⟨rs, ρ1⟩, e1, ⟨ds, ρ2⟩, e2, e3⟩ := e
  refine ⟨F, T, G, ρ, rs, ρ1, E, e1, fun vs G' H' g E' R => ?_⟩
  obtain ⟨G2, g2, E2, R2⟩ := E'.escs R e2
  have e3' : par2 i j ds ρ2 = some fl := e3
  unfold par2 at e3'
  split at e3'
  · cases e3'
    cases R2 with | cons r1 r2 =>
    cases r2 with | cons r2 r3 =>
    cases r3
    exact ⟨_, _, rfl, q _ G2 H' (g.trans g2) ((E2.set r1).set r2)⟩
  · cases e3'
/-- a, b = a tuple -/
def sUnp (t : Tgt) (m : Ex) : Sx := fun ρ => (m ρ).bind fun p => (esc p.2 p.1).bind fun q => (t q.1 q.2).map fun ρ' => .nx ρ'
theorem st_unp {tg : Expr} {g : TG} {t : Tgt} {vs : List Nat} (h : PD X cl e me) (hg : PG X tg g) (tok : TgOk X.K cl g t vs) (hs : swapsWithSole [tg] e pos.line X.env = pure false := by rfl) (hw : swappedStores [tg] e X.env = pure none := by rfl)
    (h1 : (assignEach [tg] X.env).map (·.2) = [assign tg X.env] := by rfl) : PDS X cl (.Assign [tg] e pos) (sUnp t me) := by
  refine ps_imp (ps_asg h hg hs hw h1) fun D σ H h => ?_
  obtain ⟨F, T, G, ρ, fl, E, e, q⟩ := h
  simp only [sUnp, Option.bind_eq_some_iff, Option.map_eq_some_iff] at e
  obtain ⟨⟨r, ρ1⟩, e1, ⟨d, ρ2⟩, e2, ρ3, e3, rfl⟩ := e
  refine ⟨F, T, G, ρ, r, ρ1, E, e1, fun v G' H' g E' R => ?_⟩
  obtain ⟨G2, g2, E2, R2⟩ := E'.esc R e2
  obtain ⟨σ', q1, E3, _⟩ := tok _ _ _ _ _ _ _ _ _ E2 R2 e3
  exact q1 _ (q σ' G2 H' (g.trans g2) E3)
/-! ### if, for, while -/
variable {c : Expr} {tc : Tx} {a b : List Stmt}
def sIf (t : Tx) (m n : Sx) : Sx := fun ρ => (t ρ).bind fun p => if p.1 = true then m p.2 else n p.2
theorem st_if (hc : PDT X cl c tc) (ha : PDB X cl a m) (hb : PDB X cl b n) : PDS X cl (.If c a b pos) (sIf tc m n) := by
  refine ps_imp (ps_if hc ha hb) fun D σ H h => ?_
  obtain ⟨F, T, G, ρ, fl, E, e, q⟩ := h
  simp only [sIf, Option.bind_eq_some_iff] at e
  obtain ⟨⟨c, ρ1⟩, e1, e2⟩ := e
  refine ⟨F, T, G, ρ, c, ρ1, E, e1, fun G1 H1 g1 E1 => ?_⟩
  cases c with
  | true => exact ⟨F, T, G1, ρ1, fl, E1, by simpa using e2, q.mono g1⟩
  | false => exact ⟨F, T, G1, ρ1, fl, E1, by simpa using e2, q.mono g1⟩
def forLoop (t : Tgt) (body : Sx) : List D → List Sl → Option Fl
  | [], ρ => some (.nx ρ)
  | d :: ds, ρ => (t d ρ).bind fun ρ1 => (body ρ1).bind fun fl => match fl with
    | .nx ρ2 => forLoop t body ds ρ2
    | .ct ρ2 => forLoop t body ds ρ2
    | .bk ρ2 => some (.nx ρ2)
    | .rt d ρ2 => some (.rt d ρ2)
    | .ro d ρ2 => some (.ro d ρ2)
def unlkF (lk : Option Nat) : Fl → Option Fl
  | .nx ρ => (unlk lk ρ).map .nx
  | .bk ρ => (unlk lk ρ).map .bk
  | .ct ρ => (unlk lk ρ).map .ct
  | .rt d ρ => (unlk lk ρ).map (.rt d)
  | .ro d ρ => (unlk lk ρ).map (.ro d)
def sFor (src : Src) (t : Tgt) (body : Sx) : Sx := fun ρ => (src ρ).bind fun p => (forLoop t body p.1 p.2.2).bind fun fl => unlkF p.2.1 fl
theorem LkOk.le {T T' : Th} {lk : Option Nat} (l : LkOk T T' lk) : Same T.h T'.h := by
  cases lk with
  | none => cases l; exact Same.refl _
  | some i =>
    obtain ⟨a, o, h, rfl⟩ := l
    exact upd_same' h
theorem unlkF_ok {K : PySem.W.Frag} {F : Fm} {T T' : Th} {G : Hp} {D : Ends} {fl fl' : Fl} {lk : Option Nat} (l : LkOk T T' lk) (e : unlkF lk fl = some fl') (h : FlOk K cl F T G D fl') : FlOk K cl F T' G D fl := by
  cases fl with
  | nx ρ =>
    simp only [unlkF, Option.map_eq_some_iff] at e
    obtain ⟨ρ', e, rfl⟩ := e
    exact fun σ' G' H' g E => h σ' G' H' g (E.unlk l e)
  | bk ρ =>
    simp only [unlkF, Option.map_eq_some_iff] at e
    obtain ⟨ρ', e, rfl⟩ := e
    exact fun σ' G' H' g E => h σ' G' H' g (E.unlk l e)
  | ct ρ =>
    simp only [unlkF, Option.map_eq_some_iff] at e
    obtain ⟨ρ', e, rfl⟩ := e
    exact fun σ' G' H' g E => h σ' G' H' g (E.unlk l e)
  | rt d ρ =>
    simp only [unlkF, Option.map_eq_some_iff] at e
    obtain ⟨ρ', e, rfl⟩ := e
    exact fun v σ' G' H' g E => h v σ' G' H' g (E.unlk l e)
  | ro d ρ =>
    simp only [unlkF, Option.map_eq_some_iff] at e
    obtain ⟨ρ', e, rfl⟩ := e
    exact fun p σ' G' H' g E k1 k2 => h p σ' G' H' g (E.unlk l e) k1 (l.le.free k2)
theorem st_for {tg iter : Expr} {body : List Stmt} {src : Src} {g : TG} {t : Tgt} {vs : List Nat} (hp : PassesOwn (model X.prog X.w) X.A X.env X.xe) (hc : X.calm = true) (hi : PDI X cl tg iter src) (hg : PG X tg g) (tok : TgOk X.K cl g t vs) (hb : PDB X cl body m)
    (hs : ∀ x, foldedSetIterable iter X.env x = pure x := by intro _; rfl) : PDS X cl (.For tg iter body [] pos) (sFor src t m) := by
  refine ps_imp (ps_for hp hc hi hg hb hs) fun D σ H h => ?_
  obtain ⟨F, T, G, ρ, fl, E, e, q⟩ := h
  simp only [sFor, Option.bind_eq_some_iff] at e
  obtain ⟨⟨ds, lk, ρ1⟩, e1, fl1, e2, e3⟩ := e
  refine ⟨F, T, G, ρ, ds, lk, ρ1, E, e1, fun J T' G1 H1 g1 lkk E1 it => ?_⟩
  have q' : FlOk X.K cl F T' G1 D fl1 := unlkF_ok lkk e3 (q.mono g1)
  clear q e3
  refine ⟨fun i m' σ H => m' = ds.length - i ∧ i ≤ ds.length ∧ ∃ G ρ, EOk X.K cl F T' G H σ ρ ∧ Same G1 G ∧ forLoop t m (ds.drop i) ρ = some fl1, ⟨ds.length, by simp, Nat.zero_le _, G1, ρ1, E1, Same.refl _, by simpa using e2⟩, ?_⟩
  rintro i m' σ H ⟨rfl, hi, G2, ρa, Ea, ga, run⟩
  by_cases hlt : i < ds.length
  · refine .inr ⟨it.go _ _ _ _ _ i Ea ga (Same.refl _) hlt, fun σ' H' => ∃ m', m' < ds.length - i ∧ m' = ds.length - (i + 1) ∧ i + 1 ≤ ds.length ∧ ∃ G ρ, EOk X.K cl F T' G H' σ' ρ ∧ Same G1 G ∧ forLoop t m (ds.drop (i + 1)) ρ = some fl1, fun σ' H' ⟨m', k1, k2, k3, k4⟩ => ⟨m', k1, k2, k3, k4⟩, fun x H2 y => ?_⟩
    have hd : ds[i]? = some ds[i] := by simp [hlt]
    obtain ⟨G3, gr, R3⟩ := it.yld _ _ _ _ _ i _ x H2 Ea ga (Same.refl _) hd y
    have E3 := Ea.grow gr
    rw [List.drop_eq_getElem_cons hlt] at run
    simp only [forLoop, Option.bind_eq_some_iff] at run
    obtain ⟨ρb, k1, fl2, k2, k3⟩ := run
    obtain ⟨σ2, q1, E4, _⟩ := tok _ _ _ _ _ _ _ _ _ E3 R3 k1
    refine q1 _ ⟨F, T', G3, ρb, fl2, E4, k2, ?_⟩
    have ga3 := ga.trans gr.gg
    cases fl2 with
    | nx ρ2 => exact fun σ' G' H' g E' => ⟨_, by omega, rfl, hlt, G', ρ2, E', ga3.trans g, k3⟩
    | ct ρ2 => exact fun σ' G' H' g E' => ⟨_, by omega, rfl, hlt, G', ρ2, E', ga3.trans g, k3⟩
    | bk ρ2 =>
      cases k3
      exact fun σ' G' H' g E' => q' σ' G' H' (ga3.trans g) E'
    | rt d ρ2 =>
      cases k3
      exact fun v σ' G' H' g E' R => q' v σ' G' H' (ga3.trans g) E' R
    | ro d ρ2 =>
      cases k3
      exact fun p σ' G' H' g E' => q' p σ' G' H' (ga3.trans g) E'
  · have hie : i = ds.length := by omega
    subst hie
    rw [List.drop_length] at run
    simp only [forLoop, Option.some.injEq] at run
    subst run
    exact .inl ⟨it.stop _ _ _ _ _ _ Ea ga (Same.refl _) (Nat.le_refl _), q' σ G2 H ga Ea⟩
/-- at most so many turns -/
def whileLoop : Nat → Tx → Sx → List Sl → Option Fl
  | 0, _, _, _ => none
  | n + 1, t, body, ρ => (t ρ).bind fun p => if p.1 = true then (body p.2).bind fun fl => match fl with
      | .nx ρ2 => whileLoop n t body ρ2
      | .ct ρ2 => whileLoop n t body ρ2
      | .bk ρ2 => some (.nx ρ2)
      | .rt d ρ2 => some (.rt d ρ2)
      | .ro d ρ2 => some (.ro d ρ2)
    else some (.nx p.2)
def sWhile (n : Nat) (t : Tx) (body : Sx) : Sx := fun ρ => whileLoop n t body ρ
theorem st_while {body : List Stmt} (k : Nat) (hp : PassesOwn (model X.prog X.w) X.A X.env X.xe) (hc : PDT X cl c tc) (hb : PDB X cl body m) : PDS X cl (.While c body [] pos) (sWhile k tc m) := by
  refine ps_imp (ps_while hp hc hb) fun D σ H h => ?_
  obtain ⟨F, T, G, ρ, fl, E, e, q⟩ := h
  refine ⟨fun k σ H => ∃ G1 ρ, EOk X.K cl F T G1 H σ ρ ∧ Same G G1 ∧ whileLoop k tc m ρ = some fl, ⟨k, G, ρ, E, Same.refl _, e⟩, ?_⟩
  rintro k σ H ⟨G1, ρ1, E1, g1, run⟩
  cases k with
  | zero => cases run
  | succ k =>
    simp only [whileLoop, Option.bind_eq_some_iff] at run
    obtain ⟨⟨b, ρ2⟩, k1, k2⟩ := run
    refine ⟨F, T, G1, ρ1, b, ρ2, E1, k1, fun G2 H2 g2 E2 => ?_⟩
    cases b with
    | false =>
      refine iteF ?_
      simp only [Bool.false_eq_true, if_false, Option.some.injEq] at k2
      subst k2
      exact q σ G2 H2 (g1.trans g2) E2
    | true =>
      refine iteT ?_
      simp only [if_true, Option.bind_eq_some_iff] at k2
      obtain ⟨fl2, k3, k4⟩ := k2
      refine ⟨fun σ' H' => ∃ G1 ρ, EOk X.K cl F T G1 H' σ' ρ ∧ Same G G1 ∧ whileLoop k tc m ρ = some fl, fun σ' H' h => ⟨k, Nat.lt_succ_self k, h⟩, F, T, G2, ρ2, fl2, E2, k3, ?_⟩
      have g3 := g1.trans g2
      cases fl2 with
      | nx ρ2 => exact fun σ' G' H' g E' => ⟨G', ρ2, E', g3.trans g, k4⟩
      | ct ρ2 => exact fun σ' G' H' g E' => ⟨G', ρ2, E', g3.trans g, k4⟩
      | bk ρ2 =>
        cases k4
        exact fun σ' G' H' g E' => q σ' G' H' (g3.trans g) E'
      | rt d ρ2 =>
        cases k4
        exact fun v σ' G' H' g E' R => q v σ' G' H' (g3.trans g) E' R
      | ro d ρ2 =>
        cases k4
        exact fun p σ' G' H' g E' => q p σ' G' H' (g3.trans g) E'
/-! ### an object of ours is changed in place -/
theorem EOk.mut {K : PySem.W.Frag} {F : Fm} {T : Th} {G H : Hp} {σ : L2.St} {ρ : List Sl} {a : Addr} {o : HO} {w : Option Nat} {d d' : D} (E : EOk K cl F T G H σ ρ) (hi : ρ[i]? = some (.own w d)) (ha : σ[i]? = some (some (.ref a))) (ow : OwnAt K cl G (upd H a o) a d') : EOk K cl F T G (upd H a o) σ (ρ.set i (.own w d')) := by
  obtain ⟨a', h1, h2, h3, h4, h5⟩ := E.own i w d hi
  rw [ha] at h1; cases h1
  have hl : i < ρ.length := (List.getElem?_eq_some_iff.mp hi).1
  have apart : ∀ {j : Nat} {b : Addr} {x : Sl}, i ≠ j → ρ[j]? = some x → x.obj ≠ none → σ[j]? = some (some (.ref b)) → b ≠ a := fun {j b x} hj e1 e2 e3 z => by
    subst z
    exact hj (E.sep i j b _ x hi e1 (by simp [Sl.obj]) e2 ha e3)
  refine ⟨by simpa using E.len, fun j d' h' => ?_, fun j w d' h' => ?_, fun j w d' h' => ?_, fun j k b x y e1 e2 e3 e4 e5 e6 => ?_, E.g0, E.gt, fun b u hb => ?_, fun b u hb => ?_, fun b hb => ?_⟩
  · by_cases hj : i = j
    · subst hj; rw [List.getElem?_set_self hl] at h'; cases h'
    · rw [List.getElem?_set_ne hj] at h'; exact E.val j d' h'
  · by_cases hj : i = j
    · subst hj; rw [List.getElem?_set_self hl] at h'; cases h'
      exact ⟨a, ha, h2, h3, h4, ow⟩
    · rw [List.getElem?_set_ne hj] at h'
      obtain ⟨b, k1, k2, k3, k4, k5⟩ := E.own j w d' h'
      exact ⟨b, k1, k2, k3, k4, k5.at (Same.refl _) (upd_ne (apart hj h' (by simp [Sl.obj]) k1))⟩
  · by_cases hj : i = j
    · subst hj; rw [List.getElem?_set_self hl] at h'; cases h'
    · rw [List.getElem?_set_ne hj] at h'
      obtain ⟨b, u, k1, k2, k3, k4, k5⟩ := E.lck j w d' h'
      exact ⟨b, u, k1, k2, k3, k4, k5.at (Same.refl _) (upd_ne (apart hj h' (by simp [Sl.obj]) k1))⟩
  · have back : ∀ {j : Nat} {x : Sl}, (ρ.set i (.own w d'))[j]? = some x → x.obj ≠ none → ∃ y, ρ[j]? = some y ∧ y.obj ≠ none := fun {j x} e n => by
      by_cases hj : i = j
      · subst hj; exact ⟨_, hi, by simp [Sl.obj]⟩
      · rw [List.getElem?_set_ne hj] at e; exact ⟨x, e, n⟩
    obtain ⟨x', f1, f2⟩ := back e1 e3
    obtain ⟨y', f3, f4⟩ := back e2 e4
    exact E.sep j k b x' y' f1 f3 f2 f4 e5 e6
  · rw [upd_ne (fun z => by subst z; rw [h2] at hb; cases hb)]; exact E.gh b u hb
  · rw [upd_ne (fun z => by subst z; rw [h3] at hb; cases hb)]; exact E.th b u hb
  · by_cases hb' : b = a
    · subst hb'; rw [upd_same]; simp
    · rw [upd_ne hb']; exact E.wh b hb
/-- a method that changes its object and hands back None -/
def MutD (X : Cx) (cl : String → Option Addr) (id : String) (g : D → List D → Option D) : Prop := MtR X id fun x xs H Q => ∃ (a : Addr) (G : Hp) (d : D) (ds : List D) (d' : D), x = .ref a ∧ Same G H ∧ G a = none ∧ OwnAt X.K cl G H a d ∧ Reps X.K cl G xs ds ∧ g d ds = some d' ∧
  ∀ o, OwnAt X.K cl G (upd H a o) a d' → Q .non (upd H a o)
def mutAt (g : D → List D → Option D) (i : Nat) (ds : List D) (ρ : List Sl) : Option (RV × List Sl) := match ρ[i]? with
  | some (.own w d) => (g d ds).map fun d' => (.val .non, ρ.set i (.own w d'))
  | _ => none
def listAt (ρ : List Sl) : RV → Option Nat
  | .ref i => match ρ[i]? with
    | some (.own _ (.list _)) => some i
    | _ => none
  | _ => none
def eMutL (g : D → List D → Option D) (mo : Ex) (mx : Ax) : Ex := fun ρ => (mo ρ).bind fun p => (listAt p.2 p.1).bind fun i => (mx p.2).bind fun q => (escs q.2 q.1).bind fun s => mutAt g i s.1 s.2
theorem isList_ty {K : PySem.W.Frag} {G H : Hp} {a : Addr} {ds : List D} (h : Top K cl G H (.ref a) (.list ds)) : tyV K "list" (.ref a) H := by
  cases h with
  | list k l r => exact Or.inl ⟨rfl, _, SqL.of k⟩
theorem d_mutL {o e : Expr} {es : List Expr} {mo : Ex} {mx : Ax} {name : Str} {apos cpos : Pos} {id : String} {g : D → List D → Option D} (slot : Slot "list" name id) (hty : typeOf (.builtin id) = pure (.type "method_descriptor")) (hm : MutD X cl id g) (ho : PD X cl o mo) (ha : PDA X cl (e :: es) mx)
    (hbase : attributeBase o name X.env (eval o X.env) = eval o X.env := by rfl)
    (hfew : ((backTo cpos (starEach (e :: es) X.env)).all (fun x => !x.1) && (backToKw cpos (keywordEach [] X.env)).all (fun x => x.1.isSome)
      && decide ((e :: es).length + ([] : List Keyword).length + (if ([] : List Keyword).isEmpty then 0 else 1) < 30)) = true := by rfl)
    (hline : (apos.endLine == cpos.line) = true := by rfl) (hs : starEach (e :: es) X.env = (false, eval e X.env) :: starEach es X.env := by rfl) (hplain : (backTo cpos (starEach es X.env)).any (·.1) = false := by rfl) :
    PD X cl (.Call (.Attribute o name apos) (e :: es) [] cpos) (eMutL g mo mx) := by
  refine pe_imp (pe_bm PySem.F.plainAttrs_list slot hty hm ho ha hbase hfew hline hs hplain) fun σ H Q h => ?_
  obtain ⟨F, T, G, ρ, r, ρ', E, e1, q⟩ := h
  simp only [eMutL, Option.bind_eq_some_iff] at e1
  obtain ⟨⟨r1, ρ1⟩, e1, i, e2, ⟨rs, ρ2⟩, e3, ⟨ds, ρ3⟩, e4, e5⟩ := e1
  refine ⟨F, T, G, ρ, r1, ρ1, E, e1, fun v G1 H1 g1 E1 R1 => ?_⟩
  have e2' : listAt ρ1 r1 = some i := e2
  unfold listAt at e2'
  split at e2'
  · rename_i j
    split at e2'
    · rename_i w xs hx
      cases e2'
      have hv : σ[i]? = some (some v) := R1
      obtain ⟨a, k1, k2, k3, k4, k5⟩ := E1.own i w _ hx
      rw [k1] at hv; cases hv
      refine ⟨isList_ty k5.2, F, T, G1, ρ1, rs, ρ2, E1, e3, fun vs G2 H2 g2 E2 R2 => ?_⟩
      have e4' : DL.escs ρ2 rs = some (ds, ρ3) := e4
      obtain ⟨G3, g3, E3, R3⟩ := E2.escs R2 e4'
      have e5' : mutAt g i ds ρ3 = some (r, ρ') := e5
      unfold mutAt at e5'
      split at e5'
      · rename_i w' d hd
        simp only [Option.map_eq_some_iff, Prod.mk.injEq] at e5'
        obtain ⟨d', e6, rfl, rfl⟩ := e5'
        obtain ⟨b, f1, f2, f3, f4, f5⟩ := E3.own i w' d hd
        rw [k1] at f1; cases f1
        exact ⟨a, G3, d, ds, d', rfl, E3.gh, f2, f5, R3, e6, fun o ow => q _ G3 _ (g1.trans (g2.trans g3)) (E3.mut hd k1 ow) .non⟩
      · cases e5'
    · cases e2'
  · cases e2'
def gApp : D → List D → Option D
  | .list xs, [d] => if xs.length < sizeLine then some (.list (xs ++ [d])) else none
  | _, _ => none
def gExt : D → List D → Option D
  | .list xs, [.list ds] => if xs.length + ds.length ≤ sizeLine then some (.list (xs ++ ds)) else none
  | _, _ => none
def gIns : D → List D → Option D
  | .list xs, [.int i, d] => if xs.length < sizeLine ∧ 0 ≤ i ∧ i < 2 ^ 63 then some (.list (xs.take i.toNat ++ [d] ++ xs.drop i.toNat)) else none
  | _, _ => none
theorem m_app : MutD X cl "list.append" gApp := by
  intro pins s σ H x xs v us Q I rx rv h
  obtain ⟨a, G, d, ds, d', rfl, gh, gn, ow, R, e, q⟩ := h
  unfold gApp at e
  split at e
  · split at e
    · rename_i hz
      cases e
      cases ow.2 with | list k l r =>
      cases R with | cons r1 r2 =>
      cases r2
      rw [← r.length] at hz
      exact mt_append pins s σ H _ _ v us Q I rx rv ⟨_, _, _, rfl, rfl, k, hz, q _ ⟨rfl, .list upd_same (by rw [List.length_append]; exact hz) (r.append (.cons r1 .nil))⟩⟩
    · cases e
  · cases e
theorem m_ext : MutD X cl "list.extend" gExt := by
  intro pins s σ H x xs v us Q I rx rv h
  obtain ⟨a, G, d, ds, d', rfl, gh, gn, ow, R, e, q⟩ := h
  unfold gExt at e
  split at e
  · split at e
    · rename_i hz
      cases e
      cases ow.2 with | list k l r =>
      cases R with | cons r1 r2 =>
      cases r2
      cases r1 with | list k' l' r' =>
      rw [← r.length, ← r'.length] at hz
      exact mt_extend pins s σ H _ _ v us Q I rx rv ⟨_, _, _, _, rfl, rfl, k, gh _ _ k', hz, q _ ⟨rfl, .list upd_same (by rw [List.length_append]; exact hz) (r.append r')⟩⟩
    · cases e
  · cases e
theorem m_ins : MutD X cl "list.insert" gIns := by
  intro pins s σ H x xs v us Q I rx rv h
  obtain ⟨a, G, d, ds, d', rfl, gh, gn, ow, R, e, q⟩ := h
  unfold gIns at e
  split at e
  · split at e
    · rename_i hz
      cases e
      cases ow.2 with | list k l r =>
      cases R with | cons r1 r2 =>
      cases r2 with | cons r2 r3 =>
      cases r3
      cases r1
      obtain ⟨hz, h0, h1⟩ := hz
      rw [← r.length] at hz
      refine mt_insert pins s σ H _ _ v us Q I rx rv ⟨_, _, _, _, rfl, rfl, k, hz, h0, h1, q _ ⟨rfl, .list upd_same ?_ (((r.take _).append (.cons r2 .nil)).append (r.drop _))⟩⟩
      rw [List.length_append, List.length_append, List.length_take, List.length_drop, List.length_singleton]
      omega
    · cases e
  · cases e
end
end DL

/-! D7: stores by place and key; a def's body keeps its promise -/
namespace DL
open PySem L2

section
variable {X : Cx} {cl : String → Option Addr} {o i value : Expr} {mo mi mv : Ex} {pos pos' : Pos}
/-! ### x[i] = e of a list or a dict of ours -/
def putD (ks : List (Key × D)) (k : Key) (v : D) : List (Key × D) :=
  if (ks.any fun kv => decide (kv.1 = k)) = true then ks.map (fun kv => if kv.1 = k then (kv.1, v) else kv) else ks ++ [(k, v)]
theorem RepK.any {K : PySem.W.Frag} {G : Hp} {k : Key} : ∀ {kvs : List (Key × V)} {ks : List (Key × D)}, RepK K cl G kvs ks → (kvs.any fun kv => decide (kv.1 = k)) = ks.any fun kv => decide (kv.1 = k)
  | _, _, .nil => rfl
  | _, _, .cons h r => by simp only [List.any_cons, RepK.any r]
theorem RepK.upd {K : PySem.W.Frag} {G : Hp} {k : Key} {v : V} {d : D} (hd : Rep K cl G v d) : ∀ {kvs : List (Key × V)} {ks : List (Key × D)}, RepK K cl G kvs ks → RepK K cl G (kvs.map fun kv => if kv.1 = k then (kv.1, v) else kv) (ks.map fun kv => if kv.1 = k then (kv.1, d) else kv)
  | _, _, .nil => .nil
  | _, _, .cons (k := k') h r => by
    simp only [List.map_cons]
    by_cases c : k' = k
    · simp only [c, if_true]; exact .cons hd (RepK.upd hd r)
    · simp only [c, if_false]; exact .cons h (RepK.upd hd r)
theorem RepK.snoc {K : PySem.W.Frag} {G : Hp} {k : Key} {v : V} {d : D} (hd : Rep K cl G v d) : ∀ {kvs : List (Key × V)} {ks : List (Key × D)}, RepK K cl G kvs ks → RepK K cl G (kvs ++ [(k, v)]) (ks ++ [(k, d)])
  | _, _, .nil => .cons hd .nil
  | _, _, .cons h r => .cons h (RepK.snoc hd r)
theorem RepK.put {K : PySem.W.Frag} {G : Hp} {k : Key} {v : V} {d : D} {kvs : List (Key × V)} {ks : List (Key × D)} (hd : Rep K cl G v d) (r : RepK K cl G kvs ks) : RepK K cl G (putK kvs k v) (putD ks k d) := by
  unfold putK putD
  rw [r.any]
  split
  · exact r.upd hd
  · exact r.snoc hd
theorem putK_len {kvs : List (Key × V)} {k : Key} {v : V} (h : kvs.length < sizeLine) : (putK kvs k v).length ≤ sizeLine := by
  unfold putK
  split
  · rw [List.length_map]; omega
  · rw [List.length_append, List.length_singleton]; omega
/-- what a store makes of the object -/
def storeD : D → D → D → Option D
  | .list ds, .int k, v => (ixN ds.length k).map fun j => .list (ds.set j v)
  | .dict ks, e, v => (keyOf e).bind fun k => if ks.length < sizeLine then some (.dict (putD ks k v)) else none
  | _, _, _ => none
def objAt (ρ : List Sl) : RV → Option (Nat × Option Nat × D)
  | .ref i => match ρ[i]? with
    | some (.own w d) => some (i, w, d)
    | _ => none
  | _ => none
def sStore (mo mi mv : Ex) : Sx := fun ρ => (mv ρ).bind fun p => (esc p.2 p.1).bind fun q => (mo q.2).bind fun r => (mi r.2).bind fun s => (objAt s.2 r.1).bind fun z => (peek s.2 s.1).bind fun e => (storeD z.2.2 e q.1).map fun d' => .nx (s.2.set z.1 (.own z.2.1 d'))
theorem st_store (hu : X.A.units + 64 < cLine) (ho : PD X cl o mo) (hi : PD X cl i mi) (hv : PD X cl value mv)
    (ha : ∀ v, assign (.Subscript o i pos') X.env v = (do
      let ov ← holding [v] (eval o X.env)
      let iv ← holding [v, ov] (eval i X.env)
      standAt pos'
      holding [v, ov, iv] (setItem ov iv v)
      release [v, ov, iv] []) := by intro _; rfl)
    (hs : swapsWithSole [.Subscript o i pos'] value pos.line X.env = pure false := by rfl) (hw : swappedStores [.Subscript o i pos'] value X.env = pure none := by rfl) (h1 : (assignEach [.Subscript o i pos'] X.env).map (·.2) = [assign (.Subscript o i pos') X.env] := by rfl)
    (hs2 : swapsWith value (some (.Subscript o i pos')) pos.line X.env = pure false := by rfl) :
    PDS X cl (.Assign [.Subscript o i pos'] value pos) (sStore mo mi mv) := by
  have k1 : PS X (.Assign [.Subscript o i pos'] value pos) _ := ps_asg hv (pg_sub ho hi set_list ha) hs hw h1
  have k2 : PS X (.Assign [.Subscript o i pos'] value pos) _ := ps_dput (by omega) ho hi hv hs2
  refine ps_imp (ps_either k1 k2) fun D σ H h => ?_
  obtain ⟨F, T, G, ρ, fl, E, e, q⟩ := h
  simp only [sStore, Option.bind_eq_some_iff, Option.map_eq_some_iff] at e
  obtain ⟨⟨rv, ρ1⟩, e1, ⟨dv, ρ2⟩, e2, ⟨ro, ρ3⟩, e3, ⟨ri, ρ4⟩, e4, ⟨j, w, d⟩, e5, de, e6, d', e7, rfl⟩ := e
  have e5' : objAt ρ4 ro = some (j, w, d) := e5
  have e2' : DL.esc ρ1 rv = some (dv, ρ2) := e2
  have e7' : storeD d de dv = some d' := e7
  -- the object's place
  have key : ro = .ref j ∧ ρ4[j]? = some (.own w d) := by
    unfold objAt at e5'
    split at e5'
    · split at e5'
      · rename_i hq
        simp only [Option.some.injEq, Prod.mk.injEq] at e5'
        obtain ⟨rfl, rfl, rfl⟩ := e5'
        exact ⟨rfl, hq⟩
      · cases e5'
    · cases e5'
  obtain ⟨rfl, hj⟩ := key
  unfold storeD at e7'
  split at e7'
  · rename_i ds k
    simp only [Option.map_eq_some_iff] at e7'
    obtain ⟨n, e8, rfl⟩ := e7'
    refine .inl ⟨F, T, G, ρ, rv, ρ1, E, e1, fun x G1 H1 g1 E1 R1 => ?_⟩
    obtain ⟨G2, g2, E2, R2⟩ := E1.esc R1 e2'
    refine ⟨F, T, G2, ρ2, _, ρ3, E2, e3, fun xo G3 H3 g3 E3 R3 => ?_⟩
    refine ⟨F, T, G3, ρ3, ri, ρ4, E3, e4, fun xi G4 H4 g4 E4 R4 => ?_⟩
    have ti := E4.top R4 e6
    cases ti
    obtain ⟨a, f1, f2, f3, f4, f5⟩ := E4.own j w _ hj
    have hv' : σ[j]? = some (some xo) := R3
    rw [f1] at hv'; cases hv'
    cases f5.2 with | list kk l r =>
    refine ⟨a, _, k, n, rfl, rfl, kk, by rw [r.length]; exact e8, ?_⟩
    refine q σ G4 _ (g1.trans (g2.trans (g3.trans g4))) (E4.mut hj f1 ⟨rfl, .list upd_same (by rw [List.length_set]; exact l) (r.set n (R2.mono (g3.trans g4)))⟩)
  · rename_i ks
    simp only [Option.bind_eq_some_iff] at e7'
    obtain ⟨k, e8, e9⟩ := e7'
    split at e9
    · rename_i hz
      cases e9
      refine .inr ⟨F, T, G, ρ, rv, ρ1, E, e1, fun x G1 H1 g1 E1 R1 => ?_⟩
      obtain ⟨G2, g2, E2, R2⟩ := E1.esc R1 e2'
      refine ⟨F, T, G2, ρ2, _, ρ3, E2, e3, fun xo G3 H3 g3 E3 R3 => ?_⟩
      refine ⟨F, T, G3, ρ3, ri, ρ4, E3, e4, fun xi G4 H4 g4 E4 R4 => ?_⟩
      have ti := E4.top R4 e6
      obtain ⟨a, f1, f2, f3, f4, f5⟩ := E4.own j w _ hj
      have hv' : σ[j]? = some (some xo) := R3
      rw [f1] at hv'; cases hv'
      cases f5.2 with | dict kk l r =>
      rw [← r.length] at hz
      refine ⟨a, _, rfl, by rw [key_top ti e8]; exact DPut.k kk hz, ?_⟩
      exact q σ G4 _ (g1.trans (g2.trans (g3.trans g4))) (E4.mut hj f1 ⟨rfl, .dict upd_same (putK_len hz) (r.put (R2.mono (g3.trans g4)))⟩)
    · cases e9
  · cases e7'
end

/-! ### a def's body -/
/-- the places at the entry -/
def lend : Nat → Nat → List D → List Sl
  | _, _, [] => []
  | j, 0, d :: ds => .val d :: lend (j + 1) 0 ds
  | j, n + 1, d :: ds => .own (some j) d :: lend (j + 1) n ds
/-- what the lent objects are at the end -/
def gave (ρ : List Sl) : Nat → Nat → Option (List D)
  | _, 0 => some []
  | j, n + 1 => match ρ[j]? with
    | some (.own (some k) d) => if k = j then (gave ρ (j + 1) n).map fun ds => d :: ds else none
    | _ => none
def fnBody (N nio : Nat) (body : Sx) : Fn := fun args => (body (lend 0 nio args ++ List.replicate (N - args.length) .emp)).bind fun fl => match fl with
  | .rt d ρ => (gave ρ 0 nio).map fun os => (.ok d, os)
  | .nx ρ => (gave ρ 0 nio).map fun os => (.ok .non, os)
  | _ => none
def fnBodyO (N nio : Nat) (body : Sx) : Fn := fun args => (body (lend 0 nio args ++ List.replicate (N - args.length) .emp)).bind fun fl => match fl with
  | .ro d ρ => (gave ρ 0 nio).map fun os => (.ok d, os)
  | _ => none
def entryT (H : Hp) (as : List Addr) : Th := ⟨fun b => if b ∈ as then none else H b, fun _ => none⟩
theorem lend_len : ∀ (ds : List D) (j n : Nat), (lend j n ds).length = ds.length
  | [], _, _ => by simp [lend]
  | d :: ds, j, 0 => by simp [lend, lend_len ds]
  | d :: ds, j, n + 1 => by simp [lend, lend_len ds]
theorem lend_at : ∀ (ds : List D) (j n i : Nat) (x : Sl), (lend j n ds)[i]? = some x → ∃ d, ds[i]? = some d ∧ ((i < n ∧ x = .own (some (j + i)) d) ∨ (n ≤ i ∧ x = .val d))
  | [], _, _, _, _, h => by simp [lend] at h
  | d :: ds, j, 0, 0, x, h => by simp [lend] at h; exact ⟨d, rfl, .inr ⟨Nat.le_refl _, h.symm⟩⟩
  | d :: ds, j, n + 1, 0, x, h => by simp [lend] at h; exact ⟨d, rfl, .inl ⟨by omega, by rw [← h]; simp⟩⟩
  | d :: ds, j, 0, i + 1, x, h => by
    have h' : (lend (j + 1) 0 ds)[i]? = some x := by simpa [lend] using h
    obtain ⟨d', h1, h2⟩ := lend_at ds _ _ i x h'
    refine ⟨d', by simpa using h1, ?_⟩
    rcases h2 with ⟨h2, h3⟩ | ⟨h2, h3⟩
    · omega
    · exact .inr ⟨by omega, h3⟩
  | d :: ds, j, n + 1, i + 1, x, h => by
    have h' : (lend (j + 1) n ds)[i]? = some x := by simpa [lend] using h
    obtain ⟨d', h1, h2⟩ := lend_at ds _ _ i x h'
    refine ⟨d', by simpa using h1, ?_⟩
    rcases h2 with ⟨h2, h3⟩ | ⟨h2, h3⟩
    · exact .inl ⟨by omega, by rw [h3, Nat.add_assoc, Nat.add_comm 1 i]⟩
    · exact .inr ⟨by omega, h3⟩
theorem paired_get' {α β : Type} {R : α → β → Prop} {as : List α} {bs : List β} (h : Paired R as bs) : ∀ {i : Nat} {b : β}, bs[i]? = some b → ∃ a, as[i]? = some a ∧ R a b := by
  induction h with
  | nil => intro i b e; simp at e
  | cons h1 _ ih =>
    intro i b e
    cases i with
    | zero => simp at e; subst e; exact ⟨_, rfl, h1⟩
    | succ i =>
      obtain ⟨a, k1, k2⟩ := ih (i := i) (b := b) (by simpa using e)
      exact ⟨a, by simpa using k1, k2⟩
theorem paired_len {α β : Type} {R : α → β → Prop} {as : List α} {bs : List β} (h : Paired R as bs) : as.length = bs.length := by
  induction h with
  | nil => rfl
  | cons _ _ ih => simp [ih]
section
variable {K : PySem.W.Frag} {cl : String → Option Addr} {G H : Hp}
theorem entry_ok {N : List Str} {as : List Addr} {ios ds : List D} {xs : List V} (hN : as.length + xs.length ≤ N.length) (nd : as.Nodup) (ow : Paired (OwnAt K cl G H) as ios) (gn : ∀ a ∈ as, G a = none) (R : Reps K cl G xs ds) (gh : Same G H) :
    EOk K cl ⟨G, as⟩ (entryT H as) G H (L2.start N (as.map V.ref ++ xs)) (lend 0 as.length (ios ++ ds) ++ List.replicate (N.length - (ios ++ ds).length) .emp) := by
  have l1 : as.length = ios.length := paired_len ow
  have l2 : xs.length = ds.length := R.length
  have at_ : ∀ {i : Nat} {x : Sl}, (lend 0 as.length (ios ++ ds) ++ List.replicate (N.length - (ios ++ ds).length) .emp)[i]? = some x → x = .emp ∨ ∃ d, (ios ++ ds)[i]? = some d ∧ ((i < as.length ∧ x = .own (some i) d) ∨ (as.length ≤ i ∧ x = .val d)) := fun {i x} h => by
    by_cases hi : i < (lend 0 as.length (ios ++ ds)).length
    · rw [List.getElem?_append_left hi] at h
      obtain ⟨d, h1, h2⟩ := lend_at _ _ _ _ _ h
      refine .inr ⟨d, h1, ?_⟩
      rwa [Nat.zero_add] at h2
    · rw [List.getElem?_append_right (by omega)] at h
      have := List.mem_of_getElem? h
      rw [List.mem_replicate] at this
      exact .inl this.2
  have st : ∀ {i : Nat} {v : V}, (as.map V.ref ++ xs)[i]? = some v → (L2.start N (as.map V.ref ++ xs))[i]? = some (some v) := fun {i v} h => by
    unfold L2.start
    have hi := (List.getElem?_eq_some_iff.mp h).1
    rw [List.getElem?_append_left (by rw [List.length_map]; exact hi), List.getElem?_map, h]; rfl
  have own : ∀ {i : Nat} {d : D}, i < as.length → (ios ++ ds)[i]? = some d → ∃ a, as[i]? = some a ∧ (L2.start N (as.map V.ref ++ xs))[i]? = some (some (.ref a)) ∧ OwnAt K cl G H a d := fun {i d} h1 h2 => by
    rw [List.getElem?_append_left (by omega)] at h2
    obtain ⟨a, k1, k2⟩ := paired_get' ow h2
    refine ⟨a, k1, st ?_, k2⟩
    rw [List.getElem?_append_left (by rw [List.length_map]; exact h1), List.getElem?_map, k1]; rfl
  refine ⟨?_, fun i d h => ?_, fun i w d h => ?_, fun i w d h => ?_, fun i j a x y e1 e2 e3 e4 e5 e6 => ?_, Same.refl _, fun b hb => .inl hb, gh, fun b u hb => ?_, fun a ha => ?_⟩
  · unfold L2.start
    simp only [List.length_append, lend_len, List.length_map, List.length_replicate]
    omega
  · rcases at_ h with z | ⟨d', h1, ⟨h2, h3⟩ | ⟨h2, h3⟩⟩
    · cases z
    · cases h3
    · cases h3
      rw [List.getElem?_append_right (by omega)] at h1
      obtain ⟨v, k1, k2⟩ := R.get h1
      refine ⟨v, st ?_, k2⟩
      rw [List.getElem?_append_right (by rw [List.length_map]; exact h2), List.length_map, l1]
      exact k1
  · rcases at_ h with z | ⟨d', h1, ⟨h2, h3⟩ | ⟨h2, h3⟩⟩
    · cases z
    · cases h3
      obtain ⟨a, k1, k2, k3⟩ := own h2 h1
      have hm := List.mem_of_getElem? k1
      exact ⟨a, k2, gn a hm, by simp [entryT, hm], k1, k3⟩
    · cases h3
  · rcases at_ h with z | ⟨d', h1, ⟨h2, h3⟩ | ⟨h2, h3⟩⟩
    · cases z
    · cases h3
    · cases h3
  · have ob : ∀ {i : Nat} {x : Sl}, (lend 0 as.length (ios ++ ds) ++ List.replicate (N.length - (ios ++ ds).length) .emp)[i]? = some x → x.obj ≠ none → (L2.start N (as.map V.ref ++ xs))[i]? = some (some (.ref a)) → as[i]? = some a := fun {i x} h n s => by
      rcases at_ h with z | ⟨d', h1, ⟨h2, h3⟩ | ⟨h2, h3⟩⟩
      · subst z; exact absurd rfl n
      · obtain ⟨b, k1, k2, _⟩ := own h2 h1
        rw [k2] at s; cases s; exact k1
      · subst h3; exact absurd rfl n
    have a1 := ob e1 e3 e5
    have a2 := ob e2 e4 e6
    obtain ⟨h1, k1⟩ := List.getElem?_eq_some_iff.mp a1
    obtain ⟨h2, k2⟩ := List.getElem?_eq_some_iff.mp a2
    exact (List.getElem_inj nd).mp (k1.trans k2.symm)
  · simp only [entryT] at hb
    split at hb
    · cases hb
    · exact hb
  · obtain ⟨o, ho⟩ := paired_there ow a ha
    rw [ho]; simp
theorem gave_ok {F : Fm} {T : Th} {σ : L2.St} {ρ : List Sl} (E : EOk K cl F T G H σ ρ) : ∀ (n j : Nat) (os : List D), gave ρ j n = some os → j + n = F.W.length → Paired (OwnAt K cl G H) (F.W.drop j) os ∧ ∀ a ∈ F.W.drop j, G a = none
  | 0, j, os, h, e => by
    simp only [gave, Option.some.injEq] at h
    subst h
    rw [List.drop_eq_nil_of_le (by omega)]
    exact ⟨.nil, by simp⟩
  | n + 1, j, os, h, e => by
    simp only [gave] at h
    split at h
    · rename_i k d hd
      split at h
      · rename_i hk
        subst hk
        simp only [Option.map_eq_some_iff] at h
        obtain ⟨os', h1, rfl⟩ := h
        obtain ⟨a, k1, k2, k3, k4, k5⟩ := E.own _ _ d hd
        obtain ⟨i1, i2⟩ := gave_ok E n _ os' h1 (by omega)
        have k4' : F.W[k]? = some a := k4
        obtain ⟨hl, ha⟩ := List.getElem?_eq_some_iff.mp k4'
        rw [List.drop_eq_getElem_cons hl, ha]
        refine ⟨.cons k5 i1, fun b hb => ?_⟩
        rcases List.mem_cons.mp hb with rfl | hb
        · exact k2
        · exact i2 b hb
      · cases h
    · cases h
theorem exit_ok {F : Fm} {σ : L2.St} {ρ : List Sl} {as : List Addr} {H0 : Hp} {os : List D} {nio : Nat} (E : EOk K cl F (entryT H0 as) G H σ ρ) (hF : F.W = as) (hn : as.length = nio) (g : gave ρ 0 nio = some os) :
    (∀ b, G b ≠ none → F.G0 b ≠ none ∨ H0 b = none) ∧ (∀ b o, b ∉ as → H0 b = some o → H b = some o) ∧ Paired (OwnAt K cl G H) as os := by
  obtain ⟨p1, p2⟩ := gave_ok E nio 0 os g (by rw [hF]; omega)
  rw [hF, List.drop_zero] at p1 p2
  refine ⟨fun b hb => ?_, fun b o hm ho => E.th b o (by simp [entryT, hm, ho]), p1⟩
  rcases E.gt b hb with z | z
  · exact .inl z
  · by_cases hm : b ∈ as
    · exact absurd (p2 b hm) hb
    · simp only [entryT, hm, if_false] at z
      exact .inr z
end
/-- THE RULE: a def's body, read by data -/
theorem fn_ok {P : Program} {w : World} {K : PySem.W.Frag} {mg : Str → Option Value} {base : Heap} {cl : String → Option Addr} {x qual : Str} {st : Stmt} {f : Addr} {fd : FuncData} {N ps : List Str} {k nio : Nat} {body : Sx} (Fu : Fun K x qual st f fd) (S : FnScope N ps (defScope st)) (hps : ps.length ≤ N.length)
    (hbody : ∀ (cdv : Value) (A : Around) (outer : List PySem.Env) (s : Shared) (H : Hp) (E : XK), Room k (A.deeper (PyProof.Rows.envOfC qual (defScope st) s.heap.objs.size f cdv)) → PDB (cxOf CX0 P w K mg base N qual (defScope st) f cdv A outer s H E).nox cl (defBody st) body) :
    FnOk P w K mg base CX0 (k + 1) f fd ps (spD K cl ps.length nio (fnBody N.length nio body)) := by
  refine Fu.ok S (fun vs H Q E h => h.1) fun cdv A outer s H vs Q E hr h => ⟨_, hbody cdv A outer s H E hr, ?_⟩
  obtain ⟨hl, G, as, ios, xs, ds, d, outs, rfl, hn, nd, ow, gn, R, gh, e, q⟩ := h
  have l1 : as.length = ios.length := paired_len ow
  have l2 : xs.length = ds.length := R.length
  rw [List.length_append, List.length_map] at hl
  simp only [fnBody, Option.bind_eq_some_iff] at e
  obtain ⟨fl, e1, e2⟩ := e
  have E0 := entry_ok (N := N) (by omega) nd ow gn R gh
  rw [hn] at E0
  refine ⟨⟨G, as⟩, entryT H as, G, _, fl, E0, e1, ?_⟩
  cases fl with
  | rt d' ρ =>
    simp only [Option.map_eq_some_iff, Prod.mk.injEq, Rs.ok.injEq] at e2
    obtain ⟨os, e2, rfl, rfl⟩ := e2
    intro v σ' G' H' g E' R'
    obtain ⟨x1, x2, x3⟩ := exit_ok E' rfl hn e2
    exact q v G' H' g E'.gh x1 x2 x3 R'
  | nx ρ =>
    simp only [Option.map_eq_some_iff, Prod.mk.injEq, Rs.ok.injEq] at e2
    obtain ⟨os, e2, rfl, rfl⟩ := e2
    intro σ' G' H' g E'
    obtain ⟨x1, x2, x3⟩ := exit_ok E' rfl hn e2
    exact q .non G' H' g E'.gh x1 x2 x3 .non
  | bk ρ => cases e2
  | ct ρ => cases e2
  | ro d' ρ => cases e2
theorem fn_okO {P : Program} {w : World} {K : PySem.W.Frag} {mg : Str → Option Value} {base : Heap} {cl : String → Option Addr} {x qual : Str} {st : Stmt} {f : Addr} {fd : FuncData} {N ps : List Str} {k nio : Nat} {body : Sx} (Fu : Fun K x qual st f fd) (S : FnScope N ps (defScope st)) (hps : ps.length ≤ N.length)
    (hbody : ∀ (cdv : Value) (A : Around) (outer : List PySem.Env) (s : Shared) (H : Hp) (E : XK), Room k (A.deeper (PyProof.Rows.envOfC qual (defScope st) s.heap.objs.size f cdv)) → PDB (cxOf CX0 P w K mg base N qual (defScope st) f cdv A outer s H E).nox cl (defBody st) body) :
    FnOk P w K mg base CX0 (k + 1) f fd ps (spO K cl ps.length nio (fnBodyO N.length nio body)) := by
  refine Fu.ok S (fun vs H Q E h => h.1) fun cdv A outer s H vs Q E hr h => ⟨_, hbody cdv A outer s H E hr, ?_⟩
  obtain ⟨hl, G, as, ios, xs, ds, d, outs, rfl, hn, nd, ow, gn, R, gh, e, q⟩ := h
  have l1 : as.length = ios.length := paired_len ow
  have l2 : xs.length = ds.length := R.length
  rw [List.length_append, List.length_map] at hl
  simp only [fnBodyO, Option.bind_eq_some_iff] at e
  obtain ⟨fl, e1, e2⟩ := e
  have E0 := entry_ok (N := N) (by omega) nd ow gn R gh
  rw [hn] at E0
  refine ⟨⟨G, as⟩, entryT H as, G, _, fl, E0, e1, ?_⟩
  cases fl with
  | ro d' ρ =>
    simp only [Option.map_eq_some_iff, Prod.mk.injEq, Rs.ok.injEq] at e2
    obtain ⟨os, e2, rfl, rfl⟩ := e2
    intro p σ' G' H' g E' k1 k2 k3 k4
    obtain ⟨x1, x2, x3⟩ := exit_ok E' rfl hn e2
    refine q p G' H' g E'.gh x1 x2 x3 k1 ?_ k4
    have k2' : (if p ∈ as then none else H p) = none := k2
    rwa [if_neg k3] at k2'
  | rt d' ρ => cases e2
  | nx ρ => cases e2
  | bk ρ => cases e2
  | ct ρ => cases e2
/-- nothing is asked where nothing is promised -/
theorem fn_none {P : Program} {w : World} {K : PySem.W.Frag} {mg : Str → Option Value} {base : Heap} {cx : CXT} {cl : String → Option Addr} {f : Addr} {fd : FuncData} {ps : List Str} {n nio k : Nat} : FnOk P w K mg base cx k f fd ps (spD K cl n nio fun _ => none) := by
  have no : ∀ vs H Q E, ¬ spD K cl n nio (fun _ => none) vs H Q E := fun vs H Q E h => by
    obtain ⟨_, G, as, ios, xs, ds, d, outs, _, _, _, _, _, _, _, e, _⟩ := h
    cases e
  exact ⟨fun vs H Q E h => absurd h (no vs H Q E), fun A outer s H args us vs Q E _ _ _ _ h => absurd h (no vs H Q E)⟩
theorem fn_noneO {P : Program} {w : World} {K : PySem.W.Frag} {mg : Str → Option Value} {base : Heap} {cx : CXT} {cl : String → Option Addr} {f : Addr} {fd : FuncData} {ps : List Str} {n nio k : Nat} : FnOk P w K mg base cx k f fd ps (spO K cl n nio fun _ => none) := by
  have no : ∀ vs H Q E, ¬ spO K cl n nio (fun _ => none) vs H Q E := fun vs H Q E h => by
    obtain ⟨_, G, as, ios, xs, ds, d, outs, _, _, _, _, _, _, _, e, _⟩ := h
    cases e
  exact ⟨fun vs H Q E h => absurd h (no vs H Q E), fun A outer s H args us vs Q E _ _ _ _ h => absurd h (no vs H Q E)⟩
end DL

/-! D8: a tuple turned about, str(n), room -/
namespace DL
open PySem L2

theorem hu64 {k : Nat} {A : Around} (hr : Room k A) : A.units + 64 < cLine := hr.units
theorem hu65 {k : Nat} {A : Around} (hr : Room k A) : A.units + 65 < cLine := by have := hr.un; omega

section
variable {prog : Program} {w : World} {A : Around} {E : Value → Shared → Prop} {s : Shared}
open PyProof.Rows PySem.Spec
theorem fm_congr {α β : Type} {f g : α → Option β} : ∀ {l : List α}, (∀ x ∈ l, f x = g x) → l.filterMap f = l.filterMap g
  | [], _ => rfl
  | a :: l, h => by
    have ih : l.filterMap f = l.filterMap g := fm_congr fun x hx => h x (List.mem_cons_of_mem _ hx)
    rw [List.filterMap_cons, List.filterMap_cons, h a List.mem_cons_self, ih]
/-- the places of a walk down the whole -/
theorem down_pick (xs : Array Value) : ((List.range xs.size).filterMap fun (k : Nat) => xs[(((xs.size : Int) - 1) + (k : Int) * (-1)).toNat]?).toArray = xs.toList.reverse.toArray := by
  congr 1
  have h1 : ((List.range xs.size).filterMap fun (k : Nat) => xs[(((xs.size : Int) - 1) + (k : Int) * (-1)).toNat]?) = (List.range xs.size).filterMap fun k => xs[xs.size - 1 - k]? := by
    refine fm_congr fun k hk => ?_
    have := List.mem_range.mp hk
    congr 1
    omega
  have h2 : ((List.range xs.size).map fun k => xs.size - 1 - k).filterMap (xs[·]?) = (List.range xs.size).filterMap fun k => xs[xs.size - 1 - k]? := by
    rw [List.filterMap_map]; rfl
  rw [h1, ← h2, PySem.W.krv_range, List.filterMap_reverse, PySem.W.krv_all]
theorem down_places (n : Nat) : Builtin.Slice.slicePlaces ((n : Int) - 1) (-1) (-1) = n := by
  unfold Builtin.Slice.slicePlaces
  rw [if_neg (by decide)]
  by_cases h : (n : Int) - 1 > -1
  · rw [if_pos h, show (-(-1) : Int) = 1 by decide, Int.ediv_one]
    omega
  · rw [if_neg h]
    omega
theorem down_applied {sl : Addr} {vl vu vs : Value} {n : Nat} {Q : Int × Int × Nat → Shared → Prop} (hs : s.heap.IsSliceOf sl vl vu vs) (pl : IsPart vl none) (pu : IsPart vu none) (ps : IsPart vs (some (-1)))
    (h : Q ((n : Int) - 1, -1, n) s) : wpAny (model prog w) A (Builtin.Slice.sliceApplied (.ref sl) (pure (n : Int))) Q E s := by
  obtain ⟨os, ho, _, hd⟩ := id hs
  unfold Builtin.Slice.sliceApplied Builtin.Slice.sliceFields
  refine wpAny_bind (wpAny_bind (wpAny_field ho hd (x := vl) rfl (wpAny_bind (wpAny_field ho hd (x := vu) rfl (wpAny_bind (wpAny_field ho hd (x := vs) rfl (wpAny_pure ?_)))))))
  refine wpAny_bind (HT.slicePart_ ps ?_)
  show wpAny _ _ (if ((-1 : Int) == 0) = true then _ else _) _ _ s
  rw [if_neg (show ¬ ((-1 : Int) == 0) = true by decide)]
  refine wpAny_bind (HT.slicePart_ pl (wpAny_bind (HT.slicePart_ pu (wpAny_bind (wpAny_pure ?_)))))
  show wpAny _ _ (pure ((n : Int) - 1, (-1 : Int), Builtin.Slice.slicePlaces ((n : Int) - 1) (-1) (-1))) _ _ s
  rw [down_places]
  exact wpAny_pure h
theorem down_item {t sl : Addr} {xs : Array Value} {vl vu vs : Value} {Q : Value → Shared → Prop} (ht : IsTup s.heap t xs) (hs : s.heap.IsSliceOf sl vl vu vs) (pl : IsPart vl none) (pu : IsPart vu none) (ps : IsPart vs (some (-1)))
    (h : Q (.ref s.heap.objs.size) { s with heap := s.heap.push { cls := .type "tuple", data := .seq xs.toList.reverse.toArray } }) (hz : xs.size ≤ sizeLine) : wpAny (model prog w) A (getItem (.ref t) (.ref sl)) Q E s := by
  have fits : sizeOk (.seq xs.toList.reverse.toArray) := by
    show xs.toList.reverse.toArray.size ≤ sizeLine
    simpa using hz
  obtain ⟨os, ho, hcs, hd⟩ := id hs
  have isSlice : s.TypeIs (.ref sl) "slice" := ⟨os, ho, hcs⟩
  unfold getItem
  try with_reducible refine wpAny_holding ?_
  first | refine wpAny_bind (wpAny_pure ?_) | skip
  refine wpAny_bind (wpAny_sequenceKey ht.typeIs (by decide) (wpAny_bind ?_))
  refine wpAny_callSpecial?_slot (name := Str.ofString "__getitem__") ht.typeIs PyProof.Rows.slot_tuple_getitem ?_
  refine wpAny_call_entry PyProof.Rows.slot_tuple_getitem ht.typeIs entry_tuple_getitem ?_ (args_tuple_getitem _ _)
  show wpAny _ _ (Builtin.Tuple.tupleItemsOf (.ref t) >>= _) _ _ s
  refine wpAny_bind (tupleItemsOf_ ht (wpAny_bind (wpAny_typeOf isSlice ?_)))
  rw [if_pos (show (Value.type "slice" == Value.type "slice") = true by decide)]
  refine wpAny_bind (down_applied hs pl pu ps ?_)
  have no : ¬ (((xs.size : Int) - 1 == 0 && (-1 : Int) == 1 && xs.size == xs.size) = true) := by
    rw [show ((-1 : Int) == 1) = false by decide, Bool.and_false, Bool.false_and]; decide
  show wpAny _ _ (if ((xs.size : Int) - 1 == 0 && (-1 : Int) == 1 && xs.size == xs.size) = true then _ else _) _ _ s
  rw [if_neg no, down_pick]
  first
    | exact wpAny_bind (m := Builtin.Tuple.tupleExact _) (wpAny_newObj_type (wpAny_pure ⟨_, rfl, wpAny_pure h⟩) fits)
    | exact wpAny_bind (m := Builtin.Tuple.tupleExact _) (wpAny_newObj_type (wpAny_bind (wpAny_pure (wpAny_pure ⟨_, rfl, wpAny_pure h⟩))) fits)
    | exact wpAny_bind (wpAny_bind (m := Builtin.Tuple.tupleExact _) (wpAny_newObj_type (wpAny_pure (wpAny_pure ⟨_, rfl, wpAny_pure h⟩)) fits))
end
section
open PyProof.Rows
variable {X : Cx} {cl : String → Option Addr} {e : Expr} {te : TE} {me : Ex} {k : Nat} {p1 p2 p3 pos : Pos}
theorem pe_revT (he : PE X e te) : PE X (.Subscript e (.Slice none none (some (.UnaryOp .USub (.Constant (.int 1) k p1) p2)) p3) pos) (fun σ H Q => te σ H fun x H1 => ∃ a xs, x = .ref a ∧ SqT X.K H1 a xs ∧ ∀ p, H1 p = none → Q (.ref p) (upd H1 p (.tup xs.reverse))) := by
  refine ⟨fun pins s σ H Q I h => Subscript_ (thn (he.run pins s σ H _ I h) fun v s1 hv => ?_)⟩
  obtain ⟨x, H1, I1, rx, a, xs, rfl, hx, q⟩ := hv
  cases rx
  have step : PO X (some (.UnaryOp .USub (.Constant (.int 1) k p1) p2)) (tPart (tUn (rU fun i => .int (-i)) (tC (.int 1)))) := po_some (pe_un un_neg pe_int)
  refine wpAny_Slice (thn (po_none.run pins s1 σ H1 (fun o H2 => o = none ∧ H2 = H1) I1 ⟨rfl, rfl⟩) fun vl s2 hl => ?_)
  obtain ⟨l, H2, I2, pl, rfl, rfl⟩ := hl
  refine thn (po_none.run pins s2 σ H2 (fun o H3 => o = none ∧ H3 = H2) I2 ⟨rfl, rfl⟩) fun vu s3 hu => ?_
  obtain ⟨u, H3, I3, pu, rfl, rfl⟩ := hu
  refine thn (step.run pins s3 σ H3 (fun o H4 => o = some (-1) ∧ H4 = H3) I3 ⟨1, rfl, -1, rfl, rfl, rfl⟩) fun vs s4 ho => ?_
  obtain ⟨o, H4, I4, ps, rfl, rfl⟩ := ho
  have I5 : Inv X pins σ H4 { s4 with heap := s4.heap.push { cls := .type "slice", data := .fields #[vl, vu, vs] } } := I4.kept (t' := s4.toks) fun b ob hb => Heap.get?_push_of_some _ hb
  obtain ⟨its, r, ht, hz⟩ := I5.tuple hx
  have hlen := r.length
  show wpAny (model X.prog X.w) X.A (subscriptTail e (.Slice none none (some (.UnaryOp .USub (.Constant (.int 1) k p1) p2)) p3) (.ref a) (.ref s4.heap.objs.size)) (EP X pins σ Q) X.xe { s4 with heap := s4.heap.push { cls := .type "slice", data := .fields #[vl, vu, vs] } }
  refine tail_any (ops := [.ref a, .ref s4.heap.objs.size]) ht.typeIs (PyProof.Rows.slot_tuple_getitem.lookup) ?_ (by with_unfolding_all rfl)
  refine down_item ht (Heap.IsSliceOf.new _ vl vu vs) pl pu ps ?_ (by rw [List.size_toArray]; omega)
  refine ⟨.ref _, _, I5.laid (t' := s4.toks) (o := .tup xs.reverse) (fun b ob hb => Heap.get?_push_of_some _ hb) (Nat.le_refl _) ?_, rfl, q _ (I5.hok.fresh (Nat.le_refl _))⟩
  exact ⟨by rw [List.length_reverse]; exact hz, _, r.reverse, IsTup.new _ _⟩
def dRev : D → Option D
  | .list ds => some (.list ds.reverse)
  | .tup ds => some (.tup ds.reverse)
  | _ => none
def eRev (m : Ex) : Ex := eUn dRev m
theorem d_rev (he : PD X cl e me) : PD X cl (.Subscript e (.Slice none none (some (.UnaryOp .USub (.Constant (.int 1) k p1) p2)) p3) pos) (eRev me) := by
  refine pe_imp (pe_either (pe_revL (p1 := p1) (p2 := p2) (p3 := p3) (pos := pos) (k := k) he) (pe_revT he)) fun σ H Q h => ?_
  obtain ⟨F, T, G, ρ, r1, ρ', E, e, q⟩ := h
  simp only [eRev, eUn, Option.bind_eq_some_iff, Option.map_eq_some_iff, Prod.mk.injEq] at e
  obtain ⟨⟨ra, ρ1⟩, e1, d, e3, r', e5, rfl, rfl⟩ := e
  unfold dRev at e5
  split at e5
  · cases e5
    refine .inl ⟨F, T, G, ρ, ra, ρ1, E, e1, fun x G1 H1 g1 E1 R1 => ?_⟩
    cases E1.top R1 e3 with | list hk l rr =>
    refine ⟨_, _, rfl, SqL.of hk, fun p hp => ?_⟩
    exact new_lst E1.gh hp (by rw [List.length_reverse]; exact l) rr.reverse fun v G' H' gr R => q v G' H' (g1.trans gr.gg) (E1.grow gr) R
  · cases e5
    refine .inr ⟨F, T, G, ρ, ra, ρ1, E, e1, fun x G1 H1 g1 E1 R1 => ?_⟩
    cases E1.top R1 e3 with | tup hk l rr =>
    refine ⟨_, _, rfl, sameT E1.gh hk, fun p hp => ?_⟩
    exact new_tup E1.gh hp (by rw [List.length_reverse]; exact l) rr.reverse fun v G' H' gr R => q v G' H' (g1.trans gr.gg) (E1.grow gr) R
  · cases e5
/-! str(n) -/
def strI (i : Int) : Str := (toString i : String)
def gStr : List D → Option D
  | [.int i] => if i.natAbs.log2 < 1920 ∧ (strI i).length ≤ sizeLine then some (.str (strI i)) else none
  | [.str x] => some (.str x)
  | _ => none
theorem c_str : CallD X cl (.type "str") gStr := by
  intro pins s σ H xs us Q I r h
  obtain ⟨G, ds, r', gh, h1, h2, q⟩ := h
  unfold gStr at h2
  split at h2
  · split at h2
    · rename_i c
      cases h2
      cases h1 with | cons t n =>
      cases n
      cases t
      exact call_str_int pins s σ H _ us Q I r ⟨_, rfl, c.1, q _ _ _ (Grow.refl gh) (.str _ c.2)⟩
    · cases h2
  · cases h2
    cases h1 with | cons t n =>
    cases n
    cases t with | str x hx =>
    exact SkE.call_str_str pins s σ H _ us Q I r ⟨_, rfl, q _ _ _ (Grow.refl gh) (.str _ hx)⟩
  · cases h2
end
end DL

/-! D9: walking through a meaning, plain Lean: wq x Q, the value is there and Q holds of it -/
namespace DL
open PySem L2

/-- what is wanted behind; it is laid as an instance: simp does not look into it while the head is worked on -/
class Kt (α : Type) where
  q : α → Prop
def wp {α : Type} (x : Option α) [k : Kt α] : Prop := ∃ a, x = some a ∧ k.q a
abbrev wq {α : Type} (x : Option α) (Q : α → Prop) : Prop := @wp α x ⟨Q⟩
theorem wq_def {α : Type} {x : Option α} {Q : α → Prop} : wq x Q = @wp α x ⟨Q⟩ := rfl
theorem wp_some {α : Type} {a : α} {Q : α → Prop} : wq (some a) Q = Q a := by
  apply propext
  constructor
  · rintro ⟨b, e, q⟩; cases e; exact q
  · intro q; exact ⟨a, rfl, q⟩
theorem wp_none {α : Type} {Q : α → Prop} : wq (none : Option α) Q = False := by
  apply propext
  constructor
  · rintro ⟨b, e, q⟩; cases e
  · intro q; exact q.elim
theorem wp_bind {α β : Type} {x : Option α} {f : α → Option β} {Q : β → Prop} : wq (x.bind f) Q = wq x (fun a => wq (f a) Q) := by
  apply propext
  constructor
  · rintro ⟨b, e, q⟩
    simp only [Option.bind_eq_some_iff] at e
    obtain ⟨a, e1, e2⟩ := e
    exact ⟨a, e1, b, e2, q⟩
  · rintro ⟨a, e1, b, e2, q⟩
    exact ⟨b, by simp [e1, e2], q⟩
theorem wp_map {α β : Type} {x : Option α} {f : α → β} {Q : β → Prop} : wq (x.map f) Q = wq x (fun a => Q (f a)) := by
  apply propext
  constructor
  · rintro ⟨b, e, q⟩
    simp only [Option.map_eq_some_iff] at e
    obtain ⟨a, e1, rfl⟩ := e
    exact ⟨a, e1, q⟩
  · rintro ⟨a, e1, q⟩
    exact ⟨f a, by simp [e1], q⟩
theorem wp_eq {α : Type} {x : Option α} {a : α} {Q : α → Prop} (e : x = some a) (q : Q a) : wq x Q := ⟨a, e, q⟩
theorem wp_mono {α : Type} {x : Option α} {P Q : α → Prop} (h : wq x P) (i : ∀ a, P a → Q a) : wq x Q := by
  obtain ⟨a, e, q⟩ := h
  exact ⟨a, e, i a q⟩
theorem of_wp {α : Type} {x : Option α} {a : α} (h : wq x (fun b => b = a)) : x = some a := by
  obtain ⟨b, e, q⟩ := h
  rw [e, q]
theorem wp_iff {α : Type} {x : Option α} {a : α} : wq x (fun b => b = a) ↔ x = some a := ⟨of_wp, fun h => ⟨a, h, rfl⟩⟩
/-- a choice -/
theorem wp_ite {α : Type} {c : Prop} [Decidable c] {x y : Option α} {Q : α → Prop} (h1 : c → wq x Q) (h2 : ¬ c → wq y Q) : wq (if c then x else y) Q := by
  by_cases h : c
  · rw [if_pos h]; exact h1 h
  · rw [if_neg h]; exact h2 h
/-- behind a statement -/
def seqK (n : Sx) (Q : Fl → Prop) : Fl → Prop
  | .nx ρ => wq (n ρ) Q
  | .bk ρ => Q (.bk ρ)
  | .ct ρ => Q (.ct ρ)
  | .rt d ρ => Q (.rt d ρ)
  | .ro d ρ => Q (.ro d ρ)
theorem wp_seq {m n : Sx} {ρ : List Sl} {Q : Fl → Prop} : wq (sSeq m n ρ) Q = wq (m ρ) (seqK n Q) := by
  rw [sSeq, wp_bind]
  congr 1
  funext fl
  cases fl <;> simp [seqK, wp_some]
theorem seqK_nx {n : Sx} {Q : Fl → Prop} {ρ : List Sl} : seqK n Q (.nx ρ) = wq (n ρ) Q := rfl
theorem seqK_rt {n : Sx} {Q : Fl → Prop} {d : D} {ρ : List Sl} : seqK n Q (.rt d ρ) = Q (.rt d ρ) := rfl
theorem seqK_ro {n : Sx} {Q : Fl → Prop} {d : D} {ρ : List Sl} : seqK n Q (.ro d ρ) = Q (.ro d ρ) := rfl
theorem seqK_bk {n : Sx} {Q : Fl → Prop} {ρ : List Sl} : seqK n Q (.bk ρ) = Q (.bk ρ) := rfl
theorem seqK_ct {n : Sx} {Q : Fl → Prop} {ρ : List Sl} : seqK n Q (.ct ρ) = Q (.ct ρ) := rfl
/-- a def's end -/
def endK (nio : Nat) (Q : Rs × List D → Prop) : Fl → Prop
  | .rt d ρ => wq (gave ρ 0 nio) fun os => Q (.ok d, os)
  | .nx ρ => wq (gave ρ 0 nio) fun os => Q (.ok .non, os)
  | _ => False
theorem wp_body {N nio : Nat} {body : Sx} {args : List D} {Q : Rs × List D → Prop} : wq (fnBody N nio body args) Q = wq (body (lend 0 nio args ++ List.replicate (N - args.length) .emp)) (endK nio Q) := by
  rw [fnBody, wp_bind]
  congr 1
  funext fl
  cases fl <;> simp [endK, wp_map, wp_none]
theorem endK_rt {nio : Nat} {Q : Rs × List D → Prop} {d : D} {ρ : List Sl} : endK nio Q (.rt d ρ) = wq (gave ρ 0 nio) fun os => Q (.ok d, os) := rfl
theorem endK_nx {nio : Nat} {Q : Rs × List D → Prop} {ρ : List Sl} : endK nio Q (.nx ρ) = wq (gave ρ 0 nio) fun os => Q (.ok .non, os) := rfl
def endO (nio : Nat) (Q : Rs × List D → Prop) : Fl → Prop
  | .ro d ρ => wq (gave ρ 0 nio) fun os => Q (.ok d, os)
  | _ => False
theorem wp_bodyO {N nio : Nat} {body : Sx} {args : List D} {Q : Rs × List D → Prop} : wq (fnBodyO N nio body args) Q = wq (body (lend 0 nio args ++ List.replicate (N - args.length) .emp)) (endO nio Q) := by
  rw [fnBodyO, wp_bind]
  congr 1
  funext fl
  cases fl <;> simp [endO, wp_map, wp_none]
theorem endO_ro {nio : Nat} {Q : Rs × List D → Prop} {d : D} {ρ : List Sl} : endO nio Q (.ro d ρ) = wq (gave ρ 0 nio) fun os => Q (.ok d, os) := rfl
/-- a call hands back -/
def callK (ρ : List Sl) (rs : List RV) (Q : RV × List Sl → Prop) : Rs × List D → Prop
  | (.ok d, os) => wq (giveBack ρ rs os) fun ρ' => Q (.val d, ρ')
  | _ => False
theorem wp_call {nio : Nat} {fn : Fn} {m : Ax} {ρ : List Sl} {Q : RV × List Sl → Prop} : wq (eCall nio fn m ρ) Q = wq (m ρ) fun p => wq (escs p.2 (p.1.drop nio)) fun q => ((places (p.1.take nio)).Nodup ∧ (p.1.take nio).length = nio) ∧ wq (lent q.2 (p.1.take nio)) fun ios => wq (fn (ios ++ q.1)) (callK q.2 (p.1.take nio) Q) := by
  simp only [eCall, wp_bind]
  congr 1
  funext p
  congr 1
  funext q
  by_cases c : (places (p.1.take nio)).Nodup ∧ (p.1.take nio).length = nio
  · rw [if_pos c]
    simp only [c, and_self, true_and, wp_bind]
    congr 1
    funext ios
    congr 1
    funext z
    obtain ⟨r, os⟩ := z
    cases r <;> simp [callK, wp_map, wp_none]
  · rw [if_neg c, wp_none]
    simp only [c, false_and]
theorem callK_ok {ρ : List Sl} {rs : List RV} {Q : RV × List Sl → Prop} {d : D} {os : List D} : callK ρ rs Q (.ok d, os) = wq (giveBack ρ rs os) fun ρ' => Q (.val d, ρ') := rfl
def callOK (i : Nat) (ρ : List Sl) (rs : List RV) (Q : Fl → Prop) : Rs × List D → Prop
  | (.ok d, os) => wq (giveBack ρ rs os) fun ρ' => Q (.nx (ρ'.set i (.own none d)))
  | _ => False
theorem wp_callO {i nio : Nat} {fn : Fn} {m : Ax} {ρ : List Sl} {Q : Fl → Prop} : wq (sCallO i nio fn m ρ) Q = wq (m ρ) fun p => wq (escs p.2 (p.1.drop nio)) fun q => ((places (p.1.take nio)).Nodup ∧ (p.1.take nio).length = nio) ∧ wq (lent q.2 (p.1.take nio)) fun ios => wq (fn (ios ++ q.1)) (callOK i q.2 (p.1.take nio) Q) := by
  simp only [sCallO, wp_bind]
  congr 1
  funext p
  congr 1
  funext q
  by_cases c : (places (p.1.take nio)).Nodup ∧ (p.1.take nio).length = nio
  · rw [if_pos c]
    simp only [c, and_self, true_and, wp_bind]
    congr 1
    funext ios
    congr 1
    funext z
    obtain ⟨r, os⟩ := z
    cases r <;> simp [callOK, wp_map, wp_none]
  · rw [if_neg c, wp_none]
    simp only [c, false_and]
theorem callOK_ok {i : Nat} {ρ : List Sl} {rs : List RV} {Q : Fl → Prop} {d : D} {os : List D} : callOK i ρ rs Q (.ok d, os) = wq (giveBack ρ rs os) fun ρ' => Q (.nx (ρ'.set i (.own none d))) := rfl
/-! ### loops -/
/-- a turn's end -/
def turnK (P : List Sl → Prop) (Q : Fl → Prop) : Fl → Prop
  | .nx ρ => P ρ
  | .ct ρ => P ρ
  | .bk ρ => Q (.nx ρ)
  | .rt d ρ => Q (.rt d ρ)
  | .ro d ρ => Q (.ro d ρ)
theorem turnK_nx {P : List Sl → Prop} {Q : Fl → Prop} {ρ : List Sl} : turnK P Q (.nx ρ) = P ρ := rfl
theorem turnK_rt {P : List Sl → Prop} {Q : Fl → Prop} {d : D} {ρ : List Sl} : turnK P Q (.rt d ρ) = Q (.rt d ρ) := rfl
theorem wp_for_nil {t : Tgt} {body : Sx} {ρ : List Sl} {Q : Fl → Prop} : wq (forLoop t body [] ρ) Q = Q (.nx ρ) := by rw [forLoop, wp_some]
theorem wp_for_cons {t : Tgt} {body : Sx} {d : D} {ds : List D} {ρ : List Sl} {Q : Fl → Prop} : wq (forLoop t body (d :: ds) ρ) Q = wq (t d ρ) fun ρ1 => wq (body ρ1) (turnK (fun ρ2 => wq (forLoop t body ds ρ2) Q) Q) := by
  rw [forLoop, wp_bind]
  congr 1
  funext ρ1
  rw [wp_bind]
  congr 1
  funext fl
  cases fl <;> simp [turnK, wp_some]
/-- a for, by a word over what it has gone through -/
theorem wp_for {t : Tgt} {body : Sx} {ds : List D} {ρ : List Sl} {Q : Fl → Prop} (W : List D → List Sl → Prop) (h0 : W [] ρ)
    (hs : ∀ pre d post ρ, ds = pre ++ d :: post → W pre ρ → wq (t d ρ) fun ρ1 => wq (body ρ1) (turnK (W (pre ++ [d])) Q)) (hd : ∀ ρ, W ds ρ → Q (.nx ρ)) : wq (forLoop t body ds ρ) Q := by
  have go : ∀ (post pre : List D) (ρ : List Sl), ds = pre ++ post → W pre ρ → wq (forLoop t body post ρ) Q := by
    intro post
    induction post with
    | nil =>
      intro pre ρ e w
      rw [wp_for_nil]
      rw [List.append_nil] at e
      subst e
      exact hd ρ w
    | cons d post ih =>
      intro pre ρ e w
      rw [wp_for_cons]
      refine wp_mono (hs pre d post ρ e w) fun ρ1 h => wp_mono h fun fl h => ?_
      cases fl with
      | nx ρ2 => exact ih (pre ++ [d]) ρ2 (by simp [e]) h
      | ct ρ2 => exact ih (pre ++ [d]) ρ2 (by simp [e]) h
      | bk ρ2 => exact h
      | rt d ρ2 => exact h
      | ro d ρ2 => exact h
  exact go ds [] ρ rfl h0
theorem wp_while_succ {n : Nat} {t : Tx} {body : Sx} {ρ : List Sl} {Q : Fl → Prop} : wq (whileLoop (n + 1) t body ρ) Q = wq (t ρ) fun p => if p.1 = true then wq (body p.2) (turnK (fun ρ2 => wq (whileLoop n t body ρ2) Q) Q) else Q (.nx p.2) := by
  rw [whileLoop, wp_bind]
  congr 1
  funext p
  by_cases c : p.1 = true
  · rw [if_pos c, if_pos c, wp_bind]
    congr 1
    funext fl
    cases fl <;> simp [turnK, wp_some]
  · rw [if_neg c, if_neg c, wp_some]
/-- a while, by a word and a number that falls -/
theorem wp_while {N : Nat} {t : Tx} {body : Sx} {ρ : List Sl} {Q : Fl → Prop} (W : Nat → List Sl → Prop) (m : Nat) (hm : m < N) (h0 : W m ρ)
    (hs : ∀ m ρ, W m ρ → wq (t ρ) fun p => if p.1 = true then wq (body p.2) (turnK (fun ρ2 => ∃ m', m' < m ∧ W m' ρ2) Q) else Q (.nx p.2)) : wq (sWhile N t body ρ) Q := by
  unfold sWhile
  have go : ∀ (N m : Nat) (ρ : List Sl), m < N → W m ρ → wq (whileLoop N t body ρ) Q := by
    intro N
    induction N with
    | zero => intro m ρ h; omega
    | succ N ih =>
      intro m ρ h w
      rw [wp_while_succ]
      refine wp_mono (hs m ρ w) fun p h1 => ?_
      by_cases c : p.1 = true
      · rw [if_pos c] at h1 ⊢
        refine wp_mono h1 fun fl h2 => ?_
        cases fl with
        | nx ρ2 =>
          obtain ⟨m', k1, k2⟩ := h2
          exact ih m' ρ2 (by omega) k2
        | ct ρ2 =>
          obtain ⟨m', k1, k2⟩ := h2
          exact ih m' ρ2 (by omega) k2
        | bk ρ2 => exact h2
        | rt d ρ2 => exact h2
        | ro d ρ2 => exact h2
      · rw [if_neg c] at h1 ⊢
        exact h1
  exact go N m ρ hm h0
/-! comprehensions -/
theorem wp_lcLoop_nil {t : Tgt} {tt : Tx} {te : Ex} {vs : List Nat} {acc : List D} {ρ : List Sl} {Q : List D × List Sl → Prop} : wq (lcLoop t tt te vs [] acc ρ) Q = Q (acc, ρ) := by rw [lcLoop, wp_some]
theorem wp_lcLoop_cons {t : Tgt} {tt : Tx} {te : Ex} {vs : List Nat} {d : D} {ds acc : List D} {ρ : List Sl} {Q : List D × List Sl → Prop} :
    wq (lcLoop t tt te vs (d :: ds) acc ρ) Q = wq (t d (wipeE ρ vs)) fun ρ1 => wq (tt ρ1) fun p => if p.1 = true then wq (te p.2) fun q => wq (esc q.2 q.1) fun s => wq (lcLoop t tt te vs ds (acc ++ [s.1]) s.2) Q else wq (lcLoop t tt te vs ds acc p.2) Q := by
  rw [lcLoop, wp_bind]
  congr 1
  funext ρ1
  rw [wp_bind]
  congr 1
  funext p
  by_cases c : p.1 = true
  · rw [if_pos c, if_pos c, wp_bind]
    congr 1
    funext q
    rw [wp_bind]
  · rw [if_neg c, if_neg c]
/-- a comprehension, by a word -/
theorem wp_lcLoop {t : Tgt} {tt : Tx} {te : Ex} {vs : List Nat} {ds : List D} {ρ : List Sl} {Q : List D × List Sl → Prop} (W : List D → List D → List Sl → Prop) (h0 : W [] [] ρ)
    (hs : ∀ pre d post acc ρ, ds = pre ++ d :: post → W pre acc ρ → wq (t d (wipeE ρ vs)) fun ρ1 => wq (tt ρ1) fun p => if p.1 = true then wq (te p.2) fun q => wq (esc q.2 q.1) fun s => W (pre ++ [d]) (acc ++ [s.1]) s.2 else W (pre ++ [d]) acc p.2)
    (hd : ∀ acc ρ, W ds acc ρ → Q (acc, ρ)) : wq (lcLoop t tt te vs ds [] ρ) Q := by
  have go : ∀ (post pre acc : List D) (ρ : List Sl), ds = pre ++ post → W pre acc ρ → wq (lcLoop t tt te vs post acc ρ) Q := by
    intro post
    induction post with
    | nil =>
      intro pre acc ρ e w
      rw [wp_lcLoop_nil]
      rw [List.append_nil] at e
      subst e
      exact hd acc ρ w
    | cons d post ih =>
      intro pre acc ρ e w
      rw [wp_lcLoop_cons]
      refine wp_mono (hs pre d post acc ρ e w) fun ρ1 h => wp_mono h fun p h => ?_
      by_cases c : p.1 = true
      · rw [if_pos c] at h ⊢
        exact wp_mono h fun q h => wp_mono h fun s h => ih (pre ++ [d]) _ _ (by simp [e]) h
      · rw [if_neg c] at h ⊢
        exact ih (pre ++ [d]) _ _ (by simp [e]) h
  exact go ds [] [] ρ rfl h0
theorem wp_lc {src : Src} {t : Tgt} {tt : Tx} {te : Ex} {vs : List Nat} {ρ : List Sl} {Q : RV × List Sl → Prop} : wq (eLc src t tt te vs ρ) Q = wq (src ρ) fun p => (p.1.length ≤ sizeLine ∧ plainE p.2.2 vs = true) ∧ wq (lcLoop t tt te vs p.1 [] p.2.2) fun q => wq (unlk p.2.1 (restE p.2.2 (wipeE q.2 vs) vs)) fun ρ3 => Q (.val (.list q.1), ρ3) := by
  rw [eLc, wp_bind]
  congr 1
  funext p
  by_cases c : p.1.length ≤ sizeLine ∧ plainE p.2.2 vs = true
  · rw [if_pos c, wp_bind]
    simp only [c, and_self, true_and, wp_map]
  · rw [if_neg c, wp_none]
    simp only [c, false_and]
theorem wp_sFor {src : Src} {t : Tgt} {body : Sx} {ρ : List Sl} {Q : Fl → Prop} : wq (sFor src t body ρ) Q = wq (src ρ) fun p => wq (forLoop t body p.1 p.2.2) fun fl => wq (unlkF p.2.1 fl) Q := by
  rw [sFor, wp_bind]
  congr 1
  funext p
  rw [wp_bind]
/-! ### one law a word -/
section
variable {ρ : List Sl} {Q : RV × List Sl → Prop} {B : Bool × List Sl → Prop} {R : List RV × List Sl → Prop} {S : Fl → Prop} {O : Option Int × List Sl → Prop} {I : List D × Option Nat × List Sl → Prop}
theorem wp_C {d : D} : wq (eC d ρ) Q = Q (.val d, ρ) := wp_some
theorem wp_eBin {g : D → D → Option D} {a b : Ex} : wq (eBin g a b ρ) Q = wq (a ρ) fun p => wq (b p.2) fun q => wq (peek q.2 p.1) fun d => wq (peek q.2 q.1) fun e => wq (g d e) fun r => Q (.val r, q.2) := by simp only [eBin, wp_bind, wp_map]
theorem wp_eUn {g : D → Option D} {a : Ex} : wq (eUn g a ρ) Q = wq (a ρ) fun p => wq (peek p.2 p.1) fun d => wq (g d) fun r => Q (.val r, p.2) := by simp only [eUn, wp_bind, wp_map]
theorem wp_eRev {a : Ex} : wq (eRev a ρ) Q = wq (a ρ) fun p => wq (peek p.2 p.1) fun d => wq (dRev d) fun r => Q (.val r, p.2) := by simp only [eRev, wp_eUn]
theorem wp_bVal {a : Ex} : wq (bVal a ρ) B = wq (a ρ) fun p => wq (asB p.1) fun b => B (b, p.2) := by simp only [bVal, wp_bind, wp_map]
theorem wp_bTru {a : Ex} : wq (bTru a ρ) B = wq (a ρ) fun p => wq (peek p.2 p.1) fun d => wq (truth d) fun b => B (b, p.2) := by simp only [bTru, wp_bind, wp_map]
theorem wp_bNot {t : Tx} : wq (bNot t ρ) B = wq (t ρ) fun p => B (!p.1, p.2) := by simp only [bNot, wp_map]
def iteP (b : Bool) (A C : Prop) : Prop := if b = true then A else C
theorem iteP_t {A C : Prop} : iteP true A C = A := if_pos rfl
theorem iteP_f {A C : Prop} : iteP false A C = C := if_neg Bool.false_ne_true
theorem wp_if {α : Type} {b : Bool} {x y : Option α} {P : α → Prop} : wq (if b = true then x else y) P = iteP b (wq x P) (wq y P) := by
  cases b <;> simp [iteP]
theorem wp_bAnd {s t : Tx} : wq (bAnd s t ρ) B = wq (s ρ) fun p => iteP p.1 (wq (t p.2) B) (B (false, p.2)) := by simp only [bAnd, wp_bind, wp_if, wp_some]
theorem wp_bOr {s t : Tx} : wq (bOr s t ρ) B = wq (s ρ) fun p => iteP p.1 (B (true, p.2)) (wq (t p.2) B) := by simp only [bOr, wp_bind, wp_if, wp_some]
theorem wp_bYes : wq (bYes ρ) B = B (true, ρ) := wp_some
theorem wp_eAnd {a b : Ex} : wq (eAnd a b ρ) Q = wq (a ρ) fun p => wq (asB p.1) fun c => iteP c (wq (b p.2) Q) (Q (.val (.bl false), p.2)) := by simp only [eAnd, wp_bind, wp_if, wp_some]
theorem wp_eOr {a b : Ex} : wq (eOr a b ρ) Q = wq (a ρ) fun p => wq (asB p.1) fun c => iteP c (Q (.val (.bl true), p.2)) (wq (b p.2) Q) := by simp only [eOr, wp_bind, wp_if, wp_some]
theorem wp_eNot {a : Ex} : wq (eNot a ρ) Q = wq (a ρ) fun p => wq (asB p.1) fun c => Q (.val (.bl !c), p.2) := by simp only [eNot, wp_bind, wp_map]
theorem wp_eIf {t : Tx} {a b : Ex} : wq (eIf t a b ρ) Q = wq (t ρ) fun p => iteP p.1 (wq (a p.2) Q) (wq (b p.2) Q) := by simp only [eIf, wp_bind, wp_if]
theorem wp_aNil : wq (aNil ρ) R = R ([], ρ) := wp_some
theorem wp_aCons {a : Ex} {m : Ax} : wq (aCons a m ρ) R = wq (a ρ) fun p => wq (m p.2) fun q => R (p.1 :: q.1, q.2) := by simp only [aCons, wp_bind, wp_map]
def fits (ds : List D) : Prop := ds.length ≤ sizeLine
theorem wp_fit {α : Type} {ds : List D} {x : α} {P : α → Prop} : wq (if ds.length ≤ sizeLine then some x else none) P = (fits ds ∧ P x) := by
  unfold fits
  by_cases c : ds.length ≤ sizeLine <;> simp [c, wp_some, wp_none]
theorem wp_eTup {m : Ax} : wq (eTup m ρ) Q = wq (m ρ) fun p => wq (escs p.2 p.1) fun q => fits q.1 ∧ Q (.val (.tup q.1), q.2) := by simp only [eTup, wp_bind, wp_fit]
theorem wp_eLst {m : Ax} : wq (eLst m ρ) Q = wq (m ρ) fun p => wq (escs p.2 p.1) fun q => fits q.1 ∧ Q (.val (.list q.1), q.2) := by simp only [eLst, wp_bind, wp_fit]
theorem wp_eCB {g : List D → Option D} {m : Ax} : wq (eCB g m ρ) Q = wq (m ρ) fun p => wq (peeks p.2 p.1) fun ds => wq (g ds) fun r => Q (.val r, p.2) := by simp only [eCB, wp_bind, wp_map]
theorem wp_eIsi {T : T5} {a : Ex} : wq (eIsi T a ρ) Q = wq (a ρ) fun p => wq (peek p.2 p.1) fun d => wq (isT T d) fun b => Q (.val (.bl b), p.2) := by simp only [eIsi, wp_bind, wp_map]
def asI : RV → Option Int
  | .val (.int i) => some i
  | _ => none
theorem asI_int {i : Int} : asI (.val (.int i)) = some i := rfl
theorem asB_bl {b : Bool} : asB (.val (.bl b)) = some b := rfl
theorem wp_oNone : wq (oNone ρ) O = O (none, ρ) := wp_some
theorem wp_oSome {a : Ex} : wq (oSome a ρ) O = wq (a ρ) fun p => wq (asI p.1) fun i => O (some i, p.2) := by
  simp only [oSome, wp_bind]
  congr 1
  funext p
  obtain ⟨r, ρ1⟩ := p
  cases r with
  | ref i => simp [asI, wp_none]
  | val d => cases d <;> simp [asI, wp_none, wp_some]
theorem wp_eSl {g : D → Option Int → Option Int → Option D} {a : Ex} {l u : Ox} : wq (eSl g a l u ρ) Q = wq (a ρ) fun p => wq (l p.2) fun q => wq (u q.2) fun s => wq (peek s.2 p.1) fun d => wq (g d q.1 s.1) fun r => Q (.val r, s.2) := by simp only [eSl, wp_bind, wp_map]
theorem wp_eLstR1 {a : Ex} : wq (eLstR1 a ρ) Q = wq (a ρ) fun p => wq (asI p.1) fun n => RgOkB 0 n = true ∧ Q (.val (.list (rgD 0 n)), p.2) := by
  simp only [eLstR1, wp_bind]
  congr 1
  funext p
  obtain ⟨r, ρ1⟩ := p
  cases r with
  | ref i => simp [asI, wp_none]
  | val d =>
    cases d with
    | int n =>
      simp only [asI, wp_some]
      by_cases c : RgOkB 0 n = true <;> simp [c, wp_some, wp_none]
    | _ => simp [asI, wp_none]
def chainK (g' : D → D → Option D) (mc : Ex) (y : RV) (ρ : List Sl) (Q : RV × List Sl → Prop) : D → Prop
  | .bl true => wq (mc ρ) fun s => wq (peek s.2 y) fun e' => wq (peek s.2 s.1) fun f => wq (g' e' f) fun r => Q (.val r, s.2)
  | .bl false => Q (.val (.bl false), ρ)
  | _ => False
theorem wp_eChain {g g' : D → D → Option D} {a b c : Ex} : wq (eChain g g' a b c ρ) Q = wq (a ρ) fun p => wq (b p.2) fun q => wq (peek q.2 p.1) fun d => wq (peek q.2 q.1) fun e => wq (g d e) (chainK g' c q.1 q.2 Q) := by
  simp only [eChain, wp_bind]
  congr 1
  funext p
  congr 1
  funext q
  congr 1
  funext d
  congr 1
  funext e
  congr 1
  funext r
  cases r with
  | bl x => cases x <;> simp [chainK, wp_bind, wp_map, wp_some]
  | _ => simp [chainK, wp_none]
theorem chainK_bl {g' : D → D → Option D} {mc : Ex} {y : RV} {x : Bool} : chainK g' mc y ρ Q (.bl x) = iteP x (wq (mc ρ) fun s => wq (peek s.2 y) fun e' => wq (peek s.2 s.1) fun f => wq (g' e' f) fun r => Q (.val r, s.2)) (Q (.val (.bl false), ρ)) := by
  cases x <;> simp [chainK, iteP]
theorem wp_sSkip : wq (sSkip ρ) S = S (.nx ρ) := wp_some
theorem wp_sBrk : wq (sBrk ρ) S = S (.bk ρ) := wp_some
theorem wp_sDrop {a : Ex} : wq (sDrop a ρ) S = wq (a ρ) fun p => S (.nx p.2) := by simp only [sDrop, wp_map]
theorem wp_sRet {a : Ex} : wq (sRet a ρ) S = wq (a ρ) fun p => wq (esc p.2 p.1) fun q => S (.rt q.1 q.2) := by simp only [sRet, wp_bind, wp_map]
theorem wp_sRetN : wq (sRetN ρ) S = S (.rt .non ρ) := wp_some
def ownAt (ρ : List Sl) : RV → Option D
  | .ref i => match ρ[i]? with
    | some (.own none d) => some d
    | _ => none
  | _ => none
theorem wp_sRetO {a : Ex} : wq (sRetO a ρ) S = wq (a ρ) fun p => wq (ownAt p.2 p.1) fun d => S (.ro d p.2) := by
  unfold sRetO
  rw [wp_bind]
  congr 1
  funext p
  obtain ⟨r, ρ1⟩ := p
  cases r with
  | val d => show wq none S = wq none _; rw [wp_none, wp_none]
  | ref i =>
    unfold ownAt
    try dsimp only
    rcases ρ1[i]? with _ | _ | d | ⟨_ | w, d⟩ | ⟨w, d⟩ <;> (try dsimp only) <;> first | rw [wp_some, wp_some] | rw [wp_none, wp_none]
theorem wp_sRetL {m : Ax} : wq (sRetL m ρ) S = wq (m ρ) fun p => wq (escs p.2 p.1) fun q => fits q.1 ∧ S (.ro (.list q.1) q.2) := by simp only [sRetL, wp_bind, wp_fit]
theorem wp_sSet {i : Nat} {a : Ex} : wq (sSet i a ρ) S = wq (a ρ) fun p => wq (esc p.2 p.1) fun q => S (.nx (q.2.set i (.val q.1))) := by simp only [sSet, wp_bind, wp_map]
theorem wp_sNewL {i : Nat} {m : Ax} : wq (sNewL i m ρ) S = wq (m ρ) fun p => wq (escs p.2 p.1) fun q => fits q.1 ∧ S (.nx (q.2.set i (.own none (.list q.1)))) := by simp only [sNewL, wp_bind, wp_fit]
def intAt (ρ : List Sl) (i : Nat) : Option Int := match ρ[i]? with
  | some (.val (.int a)) => some a
  | _ => none
theorem wp_sAug {i : Nat} {k : Int → Int → Int} {a : Ex} : wq (sAug i k a ρ) S = wq (intAt ρ i) fun x => wq (a ρ) fun p => wq (asI p.1) fun y => S (.nx (p.2.set i (.val (.int (k x y))))) := by
  have step : ∀ x : Int, wq ((a ρ).bind fun p => match p.1 with
      | .val (.int y) => some (Fl.nx (p.2.set i (.val (.int (k x y)))))
      | _ => none) S = wq (a ρ) fun p => wq (asI p.1) fun y => S (.nx (p.2.set i (.val (.int (k x y))))) := by
    intro x
    rw [wp_bind]
    congr 1
    funext p
    obtain ⟨r, ρ1⟩ := p
    cases r with
    | ref i => simp [asI, wp_none]
    | val d => cases d <;> simp [asI, wp_none, wp_some]
  unfold sAug intAt
  cases h : ρ[i]? with
  | none => simp only [wp_none]
  | some s =>
    cases s with
    | val d =>
      cases d with
      | int x => simp only [wp_some]; exact step x
      | _ => simp only [wp_none]
    | _ => simp only [wp_none]
theorem wp_sPar {i j : Nat} {m : Ax} : wq (sPar i j m ρ) S = wq (m ρ) fun p => wq (escs p.2 p.1) fun q => wq (par2 i j q.1 q.2) S := by simp only [sPar, wp_bind]
theorem wp_sUnp {t : Tgt} {a : Ex} : wq (sUnp t a ρ) S = wq (a ρ) fun p => wq (esc p.2 p.1) fun q => wq (t q.1 q.2) fun ρ' => S (.nx ρ') := by simp only [sUnp, wp_bind, wp_map]
theorem wp_sIf {t : Tx} {m n : Sx} : wq (sIf t m n ρ) S = wq (t ρ) fun p => iteP p.1 (wq (m p.2) S) (wq (n p.2) S) := by simp only [sIf, wp_bind, wp_if]
theorem wp_sStore {o i v : Ex} : wq (sStore o i v ρ) S = wq (v ρ) fun p => wq (esc p.2 p.1) fun q => wq (o q.2) fun r => wq (i r.2) fun s => wq (objAt s.2 r.1) fun z => wq (peek s.2 s.1) fun e => wq (storeD z.2.2 e q.1) fun d' => S (.nx (s.2.set z.1 (.own z.2.1 d'))) := by simp only [sStore, wp_bind, wp_map]
theorem wp_eMutL {g : D → List D → Option D} {a : Ex} {m : Ax} : wq (eMutL g a m ρ) Q = wq (a ρ) fun p => wq (listAt p.2 p.1) fun i => wq (m p.2) fun q => wq (escs q.2 q.1) fun s => wq (mutAt g i s.1 s.2) Q := by simp only [eMutL, wp_bind]
theorem wp_srcSeq {a : Ex} : wq (srcSeq a ρ) I = wq (a ρ) fun p => wq (srcOf p.2 p.1) I := by simp only [srcSeq, wp_bind]
theorem wp_srcRg {g : List D → Option (List D)} {m : Ax} : wq (srcRg g m ρ) I = wq (m ρ) fun p => wq (peeks p.2 p.1) fun ds => wq (g ds) fun es => I (es, none, p.2) := by simp only [srcRg, wp_bind, wp_map]
theorem wp_srcZip {m : Ax} : wq (srcZip m ρ) I = wq (m ρ) fun p => wq (escs p.2 p.1) fun q => wq (srcZ q.1) fun es => I (es, none, q.2) := by simp only [srcZip, wp_bind, wp_map]
end
end DL

/-! D10: the words of a walk that simp turns into plain facts -/
namespace DL
open PySem L2
section
variable {ρ : List Sl} {i : Nat} {d : D} {w : Option Nat}
def varR (i : Nat) (ρ : List Sl) : Option Sl → Option (RV × List Sl)
  | some (.val d) => some (.val d, ρ)
  | some (.own _ _) => some (.ref i, ρ)
  | some (.lck _ _) => some (.ref i, ρ)
  | _ => none
theorem eVar_at : eVar i ρ = varR i ρ ρ[i]? := by
  unfold eVar varR
  all_goals rcases ρ[i]? with _ | _ | d | ⟨_ | w, d⟩ | ⟨w, d⟩ <;> rfl
theorem varR_val : varR i ρ (some (.val d)) = some (.val d, ρ) := rfl
theorem varR_own : varR i ρ (some (.own w d)) = some (.ref i, ρ) := rfl
theorem varR_lck : varR i ρ (some (.lck w d)) = some (.ref i, ρ) := rfl
def peekS : Option Sl → Option D
  | some (.val d) => some d
  | some (.own _ d) => some d
  | some (.lck _ d) => some d
  | _ => none
theorem peek_val : peek ρ (.val d) = some d := rfl
theorem peek_ref : peek ρ (.ref i) = peekS ρ[i]? := by
  show peek ρ (.ref i) = _
  unfold peek peekS
  try dsimp only
  all_goals rcases ρ[i]? with _ | _ | d | ⟨_ | w, d⟩ | ⟨w, d⟩ <;> rfl
theorem peekS_val : peekS (some (.val d)) = some d := rfl
theorem peekS_own : peekS (some (.own w d)) = some d := rfl
theorem peekS_lck : peekS (some (.lck w d)) = some d := rfl
theorem peeks_nil : peeks ρ [] = some [] := rfl
theorem wp_peeks {r : RV} {rs : List RV} {Q : List D → Prop} : wq (peeks ρ (r :: rs)) Q = wq (peek ρ r) fun d => wq (peeks ρ rs) fun ds => Q (d :: ds) := by simp only [peeks, wp_bind, wp_map]
def escR (i : Nat) (ρ : List Sl) : Option Sl → Option (D × List Sl)
  | some (.own none d) => some (d, ρ.set i (.val d))
  | some (.val d) => some (d, ρ)
  | _ => none
theorem esc_val : esc ρ (.val d) = some (d, ρ) := rfl
theorem esc_ref : esc ρ (.ref i) = escR i ρ ρ[i]? := by
  unfold esc escR
  try dsimp only
  all_goals rcases ρ[i]? with _ | _ | d | ⟨_ | w, d⟩ | ⟨w, d⟩ <;> rfl
theorem escR_own : escR i ρ (some (.own none d)) = some (d, ρ.set i (.val d)) := rfl
theorem escR_val : escR i ρ (some (.val d)) = some (d, ρ) := rfl
theorem escs_nil : escs ρ [] = some ([], ρ) := rfl
theorem wp_escs {r : RV} {rs : List RV} {Q : List D × List Sl → Prop} : wq (escs ρ (r :: rs)) Q = wq (esc ρ r) fun p => wq (escs p.2 rs) fun q => Q (p.1 :: q.1, q.2) := by simp only [escs, wp_bind, wp_map]
def ownS : Option Sl → Option (Option Nat × D)
  | some (.own w d) => some (w, d)
  | _ => none
theorem ownS_own : ownS (some (.own w d)) = some (w, d) := rfl
theorem lent_nil : lent ρ [] = some [] := rfl
theorem wp_lent {rs : List RV} {Q : List D → Prop} : wq (lent ρ (.ref i :: rs)) Q = wq (ownS ρ[i]?) fun z => wq (lent ρ rs) fun ds => Q (z.2 :: ds) := by
  rw [lent]
  unfold ownS
  all_goals rcases ρ[i]? with _ | _ | d | ⟨_ | w, d⟩ | ⟨w, d⟩ <;> (try dsimp only) <;> first | rw [wp_map, wp_some] | rw [wp_none, wp_none]
theorem places_nil : places [] = [] := rfl
theorem places_ref {rs : List RV} : places (.ref i :: rs) = i :: places rs := rfl
theorem giveBack_nil : giveBack ρ [] [] = some ρ := rfl
theorem wp_giveBack {rs : List RV} {ds : List D} {Q : List Sl → Prop} : wq (giveBack ρ (.ref i :: rs) (d :: ds)) Q = wq (ownS ρ[i]?) fun z => wq (giveBack (ρ.set i (.own z.1 d)) rs ds) Q := by
  rw [giveBack]
  unfold ownS
  all_goals rcases ρ[i]? with _ | _ | d | ⟨_ | w, d⟩ | ⟨w, d⟩ <;> (try dsimp only) <;> first | rw [wp_some] | rw [wp_none, wp_none]
def gaveS (j : Nat) : Option Sl → Option D
  | some (.own (some k) d) => if k = j then some d else none
  | _ => none
theorem gaveS_own : gaveS i (some (.own (some i) d)) = some d := by simp [gaveS]
theorem gave_nil {j : Nat} : gave ρ j 0 = some [] := rfl
theorem wp_gave {j n : Nat} {Q : List D → Prop} : wq (gave ρ j (n + 1)) Q = wq (gaveS j ρ[j]?) fun d => wq (gave ρ (j + 1) n) fun ds => Q (d :: ds) := by
  rw [gave]
  unfold gaveS
  all_goals rcases ρ[j]? with _ | _ | d | ⟨_ | w, d⟩ | ⟨w, d⟩ <;> (try dsimp only) <;> first | (rw [wp_none, wp_none]; done) | skip
  by_cases c : w = j
  · rw [if_pos c, if_pos c, wp_map, wp_some]
  · rw [if_neg c, if_neg c, wp_none, wp_none]
theorem lend_nil {j n : Nat} : lend j n [] = [] := by cases n <;> rfl
theorem lend_val {j : Nat} {ds : List D} : lend j 0 (d :: ds) = .val d :: lend (j + 1) 0 ds := rfl
theorem lend_own {j n : Nat} {ds : List D} : lend j (n + 1) (d :: ds) = .own (some j) d :: lend (j + 1) n ds := rfl
theorem wp_objAt {Q : Nat × Option Nat × D → Prop} : wq (objAt ρ (.ref i)) Q = wq (ownS ρ[i]?) fun z => Q (i, z.1, z.2) := by
  unfold objAt ownS
  try dsimp only
  all_goals rcases ρ[i]? with _ | _ | d | ⟨_ | w, d⟩ | ⟨w, d⟩ <;> (try dsimp only) <;> first | rw [wp_some, wp_some] | rw [wp_none, wp_none]
def isLs : D → Prop
  | .list _ => True
  | _ => False
theorem isLs_list {ds : List D} : isLs (.list ds) = True := rfl
theorem wp_listAt {Q : Nat → Prop} : wq (listAt ρ (.ref i)) Q = wq (ownS ρ[i]?) fun z => isLs z.2 ∧ Q i := by
  unfold listAt ownS
  try dsimp only
  all_goals rcases ρ[i]? with _ | _ | d | ⟨_ | w, d⟩ | ⟨w, d⟩ <;> (try dsimp only) <;> first | (rw [wp_none, wp_none]; done) | skip
  all_goals cases d <;> simp [wp_some, wp_none, isLs]
theorem wp_mutAt {g : D → List D → Option D} {ds : List D} {Q : RV × List Sl → Prop} : wq (mutAt g i ds ρ) Q = wq (ownS ρ[i]?) fun z => wq (g z.2 ds) fun d' => Q (.val .non, ρ.set i (.own z.1 d')) := by
  unfold mutAt ownS
  all_goals rcases ρ[i]? with _ | _ | d | ⟨_ | w, d⟩ | ⟨w, d⟩ <;> (try dsimp only) <;> first | rw [wp_map, wp_some] | rw [wp_none, wp_none]
theorem srcOf_list {ds : List D} : srcOf ρ (.val (.list ds)) = some (ds, none, ρ) := rfl
theorem srcOf_tup {ds : List D} : srcOf ρ (.val (.tup ds)) = some (ds, none, ρ) := rfl
def srcS (i : Nat) (ρ : List Sl) : Option Sl → Option (List D × Option Nat × List Sl)
  | some (.own w (.list ds)) => some (ds, some i, ρ.set i (.lck w (.list ds)))
  | some (.lck _ (.list ds)) => some (ds, none, ρ)
  | some (.val (.list ds)) => some (ds, none, ρ)
  | some (.val (.tup ds)) => some (ds, none, ρ)
  | _ => none
theorem srcS_own {ds : List D} : srcS i ρ (some (.own w (.list ds))) = some (ds, some i, ρ.set i (.lck w (.list ds))) := rfl
theorem srcS_lck {ds : List D} : srcS i ρ (some (.lck w (.list ds))) = some (ds, none, ρ) := rfl
theorem srcS_list {ds : List D} : srcS i ρ (some (.val (.list ds))) = some (ds, none, ρ) := rfl
theorem srcS_tup {ds : List D} : srcS i ρ (some (.val (.tup ds))) = some (ds, none, ρ) := rfl
theorem srcOf_at : srcOf ρ (.ref i) = srcS i ρ ρ[i]? := by
  unfold srcOf srcS
  try dsimp only
  all_goals rcases ρ[i]? with _ | _ | d | ⟨_ | w, d⟩ | ⟨w, d⟩ <;> first | rfl | (cases d <;> rfl)
theorem srcOf_own {ds : List D} (h : ρ[i]? = some (.own w (.list ds))) : srcOf ρ (.ref i) = some (ds, some i, ρ.set i (.lck w (.list ds))) := by simp [srcOf, h]
theorem srcOf_lck {ds : List D} (h : ρ[i]? = some (.lck w (.list ds))) : srcOf ρ (.ref i) = some (ds, none, ρ) := by simp [srcOf, h]
def unlkS (i : Nat) (ρ : List Sl) : Option Sl → Option (List Sl)
  | some (.lck w d) => some (ρ.set i (.own w d))
  | _ => none
theorem unlk_none : unlk none ρ = some ρ := rfl
theorem unlk_some : unlk (some i) ρ = unlkS i ρ ρ[i]? := by
  unfold unlk unlkS
  try dsimp only
  all_goals rcases ρ[i]? with _ | _ | d | ⟨_ | w, d⟩ | ⟨w, d⟩ <;> rfl
theorem unlkS_lck : unlkS i ρ (some (.lck w d)) = some (ρ.set i (.own w d)) := rfl
theorem unlkF_nx {lk : Option Nat} {Q : Fl → Prop} : wq (unlkF lk (.nx ρ)) Q = wq (unlk lk ρ) fun r => Q (.nx r) := by simp only [unlkF, wp_map]
theorem unlkF_rt {lk : Option Nat} {Q : Fl → Prop} : wq (unlkF lk (.rt d ρ)) Q = wq (unlk lk ρ) fun r => Q (.rt d r) := by simp only [unlkF, wp_map]
theorem intAt_at : intAt ρ i = (match ρ[i]? with | some (.val (.int a)) => some a | _ => none) := rfl
def intS : Option Sl → Option Int
  | some (.val (.int a)) => some a
  | _ => none
theorem intAt_S : intAt ρ i = intS ρ[i]? := by
  unfold intAt intS
  all_goals rcases ρ[i]? with _ | _ | d | ⟨_ | w, d⟩ | ⟨w, d⟩ <;> first | rfl | (cases d <;> rfl)
theorem intS_val {a : Int} : intS (some (.val (.int a))) = some a := rfl
theorem ownAt_own (h : ρ[i]? = some (.own none d)) : ownAt ρ (.ref i) = some d := by simp [ownAt, h]
def ownO : Option Sl → Option D
  | some (.own none d) => some d
  | _ => none
theorem ownAt_ref : ownAt ρ (.ref i) = ownO ρ[i]? := by
  unfold ownAt ownO
  try dsimp only
  all_goals rcases ρ[i]? with _ | _ | d | ⟨_ | w, d⟩ | ⟨w, d⟩ <;> rfl
theorem ownO_own : ownO (some (.own none d)) = some d := rfl
theorem tNm_ok : tNm i d ρ = some (ρ.set i (.val d)) := rfl
end
/-! data -/
theorem wp_ifs {α : Type} {c : Prop} [Decidable c] {x : α} {P : α → Prop} : wq (if c then some x else none) P = (c ∧ P x) := by
  by_cases h : c <;> simp [h, wp_some, wp_none]
section
variable {i j : Int} {a b c e : D} {xs ys ds : List D} {x y : Str} {Q : D → Prop} {L : List D → Prop} {p q : Prop}
theorem add_int : dAdd (.int i) (.int j) = some (.int (i + j)) := rfl
theorem add_tup : wq (dAdd (.tup xs) (.tup ys)) Q = (xs.length + ys.length ≤ sizeLine ∧ Q (.tup (xs ++ ys))) := wp_ifs
theorem add_list : wq (dAdd (.list xs) (.list ys)) Q = (xs.length + ys.length ≤ sizeLine ∧ Q (.list (xs ++ ys))) := wp_ifs
theorem add_str : wq (dAdd (.str x) (.str y)) Q = (x.length + y.length ≤ sizeLine ∧ Q (.str (x ++ y))) := wp_ifs
theorem sub_int : dSub (.int i) (.int j) = some (.int (i - j)) := rfl
theorem mul_int : wq (dMul (.int i) (.int j)) Q = (CMulA i j ∧ Q (.int (i * j))) := wp_ifs
def LogOk (j : Int) : Prop := j.natAbs.log2 < 9000
theorem fdv_int : wq (dFdv (.int i) (.int j)) Q = ((0 < j ∧ LogOk j) ∧ Q (.int (i / j))) := wp_ifs
theorem mod_int : wq (dMod (.int i) (.int j)) Q = (0 < j ∧ Q (.int (i % j))) := wp_ifs
theorem pow_int : wq (dPow (.int i) (.int j)) Q = ((0 ≤ j ∧ j ≤ 1000000 ∧ -18446744073709551616 < i ∧ i < 18446744073709551616) ∧ Q (.int (i ^ j.toNat))) := by
  unfold dPow
  rw [wp_ifs]
  congr 1
  apply propext
  omega
theorem neg_int : dNeg (.int i) = some (.int (-i)) := rfl
theorem lt_int : dLt (.int i) (.int j) = some (.bl (decide (i < j))) := rfl
theorem le_int : dLe (.int i) (.int j) = some (.bl (decide (i ≤ j))) := rfl
theorem gt_int : dGt (.int i) (.int j) = some (.bl (decide (j < i))) := rfl
theorem ge_int : dGe (.int i) (.int j) = some (.bl (decide (j ≤ i))) := rfl
theorem eq_int : dEq (.int i) (.int j) = some (.bl (decide (i = j))) := rfl
theorem ne_int : dNe (.int i) (.int j) = some (.bl !(decide (i = j))) := rfl
theorem eq_str : dEq (.str x) (.str y) = some (.bl (decide (x = y))) := rfl
theorem ne_str : dNe (.str x) (.str y) = some (.bl !(decide (x = y))) := rfl
theorem is_bl {s t : Bool} : dIs (.bl s) (.bl t) = some (.bl (decide (s = t))) := rfl
theorem is_non : dIs a .non = some (.bl (isNon a)) := by cases a <;> rfl
theorem at_list : dAt (.list ds) (.int i) = atI ds i := rfl
theorem at_tup : dAt (.tup ds) (.int i) = atI ds i := rfl
theorem atI_of {n : Nat} {d : D} (h : ds[n]? = some d) (e : i = (n : Int)) : atI ds i = some d := by
  obtain ⟨h1, h2⟩ := List.getElem?_eq_some_iff.mp h
  subst e
  unfold atI ixN
  rw [if_pos (by omega), if_pos (by omega)]
  simpa using h
theorem atI_0 : atI (a :: ds) 0 = some a := atI_of (n := 0) rfl rfl
theorem atI_1 : atI (a :: b :: ds) 1 = some b := atI_of (n := 1) rfl rfl
theorem atI_2 : atI (a :: b :: c :: ds) 2 = some c := atI_of (n := 2) rfl rfl
theorem atI_3 : atI (a :: b :: c :: e :: ds) 3 = some e := atI_of (n := 3) rfl rfl
theorem sl_tup {l u : Option Int} : dSl (.tup ds) l u = some (.tup (cutD ds l u)) := rfl
theorem sl_list {l u : Option Int} : dSl (.list ds) l u = some (.list (cutD ds l u)) := rfl
theorem sl_str {l u : Option Int} : dSl (.str x) l u = some (.str (cutS x l u)) := rfl
theorem rev_tup : dRev (.tup ds) = some (.tup ds.reverse) := rfl
theorem rev_list : dRev (.list ds) = some (.list ds.reverse) := rfl
theorem len_list : gLen [.list ds] = some (.int ds.length) := rfl
theorem len_tup : gLen [.tup ds] = some (.int ds.length) := rfl
theorem len_str : gLen [.str x] = some (.int x.length) := rfl
theorem len_scr {ns : List Int} : gLen [.scr ns] = some (.int ns.length) := rfl
theorem abs_int : gAbs [.int i] = some (.int (if i < 0 then -i else i)) := rfl
theorem int_int : gInt [.int i] = some (.int i) := rfl
theorem tuple_list : gTuple [.list ds] = some (.tup ds) := rfl
theorem tuple_tup : gTuple [.tup ds] = some (.tup ds) := rfl
theorem list_list : gList [.list ds] = some (.list ds) := rfl
theorem list_tup : gList [.tup ds] = some (.list ds) := rfl
theorem list_scr {ns : List Int} : gList [.scr ns] = some (.list (ns.map .int)) := rfl
theorem min_int : gMin [.int i, .int j] = some (.int (min i j)) := by
  show some (D.int (if j < i then j else i)) = some (D.int (min i j))
  congr 2
  omega
theorem max_int : gMax [.int i, .int j] = some (.int (max i j)) := by
  show some (D.int (if j > i then j else i)) = some (D.int (max i j))
  congr 2
  omega
theorem str_int : wq (gStr [.int i]) Q = ((i.natAbs.log2 < 1920 ∧ (strI i).length ≤ sizeLine) ∧ Q (.str (strI i))) := wp_ifs
theorem app_list : wq (gApp (.list xs) [a]) Q = (xs.length < sizeLine ∧ Q (.list (xs ++ [a]))) := wp_ifs
theorem ins_list : wq (gIns (.list xs) [.int i, a]) Q = ((xs.length < sizeLine ∧ 0 ≤ i ∧ i < 2 ^ 63) ∧ Q (.list (xs.take i.toNat ++ [a] ++ xs.drop i.toNat))) := wp_ifs
theorem ext_list : wq (gExt (.list xs) [.list ys]) Q = (xs.length + ys.length ≤ sizeLine ∧ Q (.list (xs ++ ys))) := wp_ifs
theorem int_bl {s : Bool} : gInt [.bl s] = some (.int (if s then 1 else 0)) := rfl
theorem store_0 : storeD (.list (a :: ds)) (.int 0) e = some (.list (e :: ds)) := by simp [storeD, ixN]
theorem store_1 : storeD (.list (a :: b :: ds)) (.int 1) e = some (.list (a :: e :: ds)) := by simp [storeD, ixN, if_pos (show (1 : Int) < ds.length + 1 + 1 by omega)]
theorem store_2 : storeD (.list (a :: b :: c :: ds)) (.int 2) e = some (.list (a :: b :: e :: ds)) := by simp [storeD, ixN, if_pos (show (2 : Int) < ds.length + 1 + 1 + 1 by omega)]
theorem store_3 {f : D} : storeD (.list (a :: b :: c :: f :: ds)) (.int 3) e = some (.list (a :: b :: c :: e :: ds)) := by simp [storeD, ixN, if_pos (show (3 : Int) < ds.length + 1 + 1 + 1 + 1 by omega)]
theorem rg1_int : wq (srcR1 [.int i]) L = (ok62 i = true ∧ L (rgD 0 i)) := wp_ifs
theorem rg2_int : wq (srcR2 [.int i, .int j]) L = ((ok62 i = true ∧ ok62 j = true) ∧ L (rgD i j)) := wp_ifs
theorem zip_tup : srcZ [.tup xs, .tup ys] = some (zipD xs ys) := rfl
theorem zip_list : srcZ [.list xs, .list ys] = some (zipD xs ys) := rfl
theorem iteP_dec [Decidable p] {A C : Prop} : iteP (decide p) A C = ((p → A) ∧ (¬ p → C)) := by
  by_cases c : p <;> simp [c, iteP]
theorem iteP_ite {s : Bool} {A C : Prop} : iteP s A C = ((s = true → A) ∧ (s = false → C)) := by
  cases s <;> simp [iteP]
theorem iteP_not {s : Bool} {A C : Prop} : iteP (!s) A C = iteP s C A := by cases s <;> rfl
theorem tru_bl {s : Bool} : truth (.bl s) = some s := rfl
theorem isT_int {T : T5} : isT T (.int i) = some (decide (T = .int)) := rfl
theorem isT_str {T : T5} : isT T (.str x) = some (decide (T = .str)) := rfl
theorem isT_tup {T : T5} : isT T (.tup ds) = some (decide (T = .tuple)) := rfl
theorem isT_list {T : T5} : isT T (.list ds) = some (decide (T = .list)) := rfl
theorem dec_t {h : Decidable p} (k : p) : @decide p h = true := decide_eq_true k
theorem dec_f {h : Decidable p} (k : ¬ p) : @decide p h = false := decide_eq_false k
theorem cm_r (h1 : -18446744073709551616 < j) (h2 : j < 18446744073709551616) : CMulA i j = True := eq_true (.inr (.inl ⟨h1, h2⟩))
theorem cm_l (h1 : -18446744073709551616 < i) (h2 : i < 18446744073709551616) : CMulA i j = True := eq_true (.inl ⟨h1, h2⟩)
theorem lo_small (h1 : -18446744073709551616 < j) (h2 : j < 18446744073709551616) : LogOk j = True := by
  apply eq_true
  show j.natAbs.log2 < 9000
  by_cases c : j.natAbs = 0
  · rw [c]; decide
  · exact (Nat.log2_lt c).mpr (Nat.lt_of_lt_of_le (show j.natAbs < 2 ^ 64 by omega) (show (2 : Nat) ^ 64 ≤ 2 ^ 9000 from Nat.pow_le_pow_right (by omega) (by omega)))
theorem sz_le {n : Nat} (h : n ≤ 4096) : (n ≤ sizeLine) = True := eq_true (Nat.le_trans h (by decide))
theorem sz_lt {n : Nat} (h : n ≤ 4096) : (n < sizeLine) = True := eq_true (Nat.lt_of_le_of_lt h (by decide))
theorem fits_nil : fits [] = True := eq_true (Nat.zero_le _)
theorem fits_cons : fits (a :: ds) = (ds.length + 1 ≤ sizeLine) := rfl
theorem wipeE_nil {ρ : List Sl} : wipeE ρ [] = ρ := rfl
theorem wipeE_cons {ρ : List Sl} {v : Nat} {vs : List Nat} : wipeE ρ (v :: vs) = (wipeE ρ vs).set v .emp := rfl
theorem restE_nil {ρ ρ0 : List Sl} : restE ρ0 ρ [] = ρ := rfl
theorem restE_cons {ρ ρ0 : List Sl} {v : Nat} {vs : List Nat} : restE ρ0 ρ (v :: vs) = (restE ρ0 ρ vs).set v (ρ0.getD v .emp) := rfl
def plainS : Option Sl → Bool
  | some .emp => true
  | some (.val _) => true
  | _ => false
theorem plainS_emp : plainS (some .emp) = true := rfl
theorem plainS_val : plainS (some (.val a)) = true := rfl
theorem plainE_nil {ρ : List Sl} : plainE ρ [] = true := rfl
theorem plainE_cons {ρ : List Sl} {v : Nat} {vs : List Nat} : plainE ρ (v :: vs) = (plainS ρ[v]? && plainE ρ vs) := by
  unfold plainE plainS
  rw [List.all_cons]
  all_goals rcases ρ[v]? with _ | _ | d | ⟨_ | w, d⟩ | ⟨w, d⟩ <;> rfl
theorem bls_map {α : Type} {f : α → Bool} : ∀ zs : List α, bls? (zs.map fun z => .bl (f z)) = some (zs.map f)
  | [] => rfl
  | z :: zs => by simp [bls?, bls_map zs]
theorem all_map {α : Type} {f : α → Bool} {zs : List α} : gAll [.list (zs.map fun z => .bl (f z))] = some (.bl (zs.all f)) := by
  simp [gAll, bls_map, List.all_map]
theorem any_map {α : Type} {f : α → Bool} {zs : List α} : gAny [.list (zs.map fun z => .bl (f z))] = some (.bl (zs.any f)) := by
  simp [gAny, bls_map, List.any_map]
theorem ints_map {α : Type} {f : α → Int} : ∀ zs : List α, ints? (zs.map fun z => .int (f z)) = some (zs.map f)
  | [] => rfl
  | z :: zs => by simp [ints?, ints_map zs]
theorem ints_mapI : ∀ zs : List Int, ints? (zs.map .int) = some zs
  | [] => rfl
  | z :: zs => by simp [ints?, ints_mapI zs]
theorem cut_drop {n : Nat} (e : i = (n : Int)) : cutD ds (some i) none = ds.drop n := by
  subst e
  unfold cutD
  rw [HT.sIx_none, HT.sIx_nat, List.take_of_length_le (by rw [List.length_drop]; omega)]
  by_cases h : n ≤ ds.length
  · rw [Nat.min_eq_left h]
  · rw [Nat.min_eq_right (by omega), List.drop_eq_nil_of_le (Nat.le_refl _), List.drop_eq_nil_of_le (by omega)]
theorem cut_take {n : Nat} (e : i = (n : Int)) : cutD ds none (some i) = ds.take n := by
  subst e
  unfold cutD
  rw [HT.sIx_none, HT.sIx_nat, List.drop_zero, Nat.sub_zero]
  by_cases h : n ≤ ds.length
  · rw [Nat.min_eq_left h]
  · rw [Nat.min_eq_right (by omega), List.take_of_length_le (Nat.le_refl _), List.take_of_length_le (by omega)]
theorem cut_1 : cutD ds (some 1) none = ds.drop 1 := cut_drop (n := 1) rfl
theorem mem_cut {l u : Option Int} (h : a ∈ cutD ds l u) : a ∈ ds := List.mem_of_mem_drop (List.mem_of_mem_take h)
theorem len_cut {l u : Option Int} : (cutD ds l u).length ≤ ds.length := by
  unfold cutD
  rw [List.length_take, List.length_drop]
  omega
theorem sum_map {α : Type} {f : α → Int} {zs : List α} : gSum [.list (zs.map fun z => .int (f z))] = some (.int (zs.map f).sum) := by
  unfold gSum
  try dsimp only
  rw [ints_map]
  all_goals rfl
theorem sum_ints {zs : List Int} : gSum [.list (zs.map .int)] = some (.int zs.sum) := by
  unfold gSum
  try dsimp only
  rw [ints_mapI]
  all_goals rfl
/-- a comprehension that keeps every item -/
theorem lc_map {t : Tgt} {tt : Tx} {te : Ex} {vs : List Nat} {ρ : List Sl} {Q : List D × List Sl → Prop} (g : D → D) (I : List Sl → Prop) (h0 : I ρ)
    (hs : ∀ d ρ (R : D → List Sl → Prop), d ∈ ds → I ρ → (∀ ρ', I ρ' → R (g d) ρ') → wq (t d (wipeE ρ vs)) fun ρ1 => wq (tt ρ1) fun p => iteP p.1 (wq (te p.2) fun q => wq (esc q.2 q.1) fun s => R s.1 s.2) False)
    (hd : ∀ ρ, I ρ → Q (ds.map g, ρ)) : wq (lcLoop t tt te vs ds [] ρ) Q := by
  refine wp_lcLoop (fun pre acc ρ => acc = pre.map g ∧ I ρ) ⟨rfl, h0⟩ ?_ ?_
  · rintro pre d post acc ρ e ⟨rfl, hi⟩
    refine wp_mono (hs d ρ (fun v ρ' => v = g d ∧ I ρ') (by rw [e]; simp) hi fun ρ' h => ⟨rfl, h⟩) fun ρ1 h => wp_mono h fun p h => ?_
    unfold iteP at h
    by_cases c : p.1 = true
    · rw [if_pos c] at h ⊢
      refine wp_mono h fun q h => wp_mono h fun z h => ?_
      exact ⟨by rw [h.1, List.map_append]; rfl, h.2⟩
    · rw [if_neg c] at h
      exact h.elim
  · rintro acc ρ ⟨rfl, h⟩
    exact hd ρ h
theorem zip_mem : ∀ {xs ys : List D} {z : D}, z ∈ zipD xs ys → ∃ a b, z = .tup [a, b] ∧ a ∈ xs ∧ b ∈ ys
  | [], _, _, h => by simp [zipD] at h
  | _ :: _, [], _, h => by simp [zipD] at h
  | x :: xs, y :: ys, z, h => by
    simp only [zipD, List.mem_cons] at h
    rcases h with rfl | h
    · exact ⟨x, y, rfl, by simp, by simp⟩
    · obtain ⟨a, b, h1, h2, h3⟩ := zip_mem h
      exact ⟨a, b, h1, by simp [h2], by simp [h3]⟩
theorem tTp_ok {n : Nat} {u : List D → List Sl → Option (List Sl)} {ρ : List Sl} {P : List Sl → Prop} : wq (tTp n u (.tup ds) ρ) P = (ds.length = n ∧ wq (u ds ρ) P) := by
  show wq (if ds.length = n then u ds ρ else none) P = _
  by_cases h : ds.length = n <;> simp [h, wp_none]
theorem wp_tsCons {t : Tgt} {u : List D → List Sl → Option (List Sl)} {ρ : List Sl} {P : List Sl → Prop} : wq (tsCons t u (a :: ds) ρ) P = wq (t a ρ) fun ρ1 => wq (u ds ρ1) P := by
  show wq ((t a ρ).bind fun ρ1 => u ds ρ1) P = _
  rw [wp_bind]
theorem tsNil_ok {ρ : List Sl} : tsNil [] ρ = some ρ := rfl
theorem ok62_of (h : -4611686018427387904 ≤ i) (h' : i < 4611686018427387904) : (ok62 i = true) = True := by
  apply eq_true
  simp only [ok62, Bool.and_eq_true, decide_eq_true_eq]
  exact ⟨h, h'⟩
/-- for over a range from 0, by a word -/
theorem wp_rg0 {t : Tgt} {body : Sx} {n : Nat} {ρ : List Sl} {Q : Fl → Prop} (W : Nat → List Sl → Prop) (h0 : W 0 ρ)
    (hs : ∀ k ρ, k < n → W k ρ → wq (t (.int k) ρ) fun ρ1 => wq (body ρ1) (turnK (W (k + 1)) Q)) (hd : ∀ ρ, W n ρ → Q (.nx ρ)) : wq (forLoop t body (rgD 0 n) ρ) Q := by
  have hl : (rgD 0 n).length = n := by rw [rgD_len]; omega
  refine wp_for (fun pre ρ => W pre.length ρ) h0 ?_ ?_
  · intro pre d post ρ e w
    have hp : pre.length < n := by rw [← hl, e]; simp
    have hd : (rgD 0 n)[pre.length]? = some d := by rw [e]; simp
    rw [rgD_at hd, Int.zero_add, List.length_append]
    exact hs _ _ hp w
  · intro ρ w
    rw [hl] at w
    exact hd ρ w
theorem sorted_ints {ns : List Int} : gSorted [.list (ns.map .int)] = some (.list ((sortI ns).map .int)) := by
  show (ints? _).map _ = _
  rw [ints_mapI, Option.map_some]
theorem T5_1 : (T5.int = T5.bool) = False := by simp
end
end DL

/-! D11: equality of plain data, comprehensions over ranges and with tests -/
namespace DL
open PySem L2
/-- data that == compares as it is: no bool in it -/
inductive Eqd : Nat → D → Prop
  | non {n : Nat} : Eqd n .non
  | int {n : Nat} {i : Int} : Eqd n (.int i)
  | str {n : Nat} {x : Str} : PyData.strOk x = true → Eqd n (.str x)
  | list {n : Nat} {ds : List D} : (∀ d ∈ ds, Eqd n d) → Eqd (n + 1) (.list ds)
  | tup {n : Nat} {ds : List D} : (∀ d ∈ ds, Eqd n d) → Eqd (n + 1) (.tup ds)
/-- its form as given data -/
def Pyd (n : Nat) (d : D) (p : PyData) : Prop := d.py = some p ∧ p.canLay0 = true ∧ p.depth ≤ n
theorem pyds {n : Nat} : ∀ {ds : List D}, (∀ d ∈ ds, ∃ p, Pyd n d p) → ∃ ps, pyAll ds = some ps ∧ PyData.canLayAll0 ps = true ∧ PyData.depthAll ps ≤ n
  | [], _ => ⟨[], by simp only [pyAll], by simp only [PyData.canLayAll0], by simp only [PyData.depthAll]; omega⟩
  | d :: ds, h => by
    obtain ⟨p, h1, h2, h3⟩ := h d (by simp)
    obtain ⟨ps, k1, k2, k3⟩ := pyds (ds := ds) fun d hd => h d (by simp [hd])
    refine ⟨p :: ps, by simp only [pyAll, h1, k1, Option.bind_some, Option.map_some], ?_, ?_⟩
    · simp only [PyData.canLayAll0, h2, k2, Bool.and_self]
    · simp only [PyData.depthAll]; omega
theorem Eqd.pyd {n : Nat} {d : D} (h : Eqd n d) : ∃ p, Pyd n d p := by
  induction h with
  | non => exact ⟨.none, by simp only [D.py], by simp only [PyData.canLay0], by simp only [PyData.depth]; omega⟩
  | int => exact ⟨.int _, by simp only [D.py]; rfl, by simp only [PyData.canLay0], by simp only [PyData.depth]; omega⟩
  | str hx => exact ⟨.str _, by simp only [D.py]; rfl, by simp only [PyData.canLay0, hx], by simp only [PyData.depth]; omega⟩
  | list _ ih =>
    obtain ⟨ps, h1, h2, h3⟩ := pyds ih
    exact ⟨.list ps, by simp only [D.py, h1, Option.map_some], by simp only [PyData.canLay0, h2], by simp only [PyData.depth]; omega⟩
  | tup _ ih =>
    obtain ⟨ps, h1, h2, h3⟩ := pyds ih
    exact ⟨.tuple ps, by simp only [D.py, h1, Option.map_some], by simp only [PyData.canLay0, h2], by simp only [PyData.depth]; omega⟩
theorem eqv_all {n : Nat} : ∀ {ds es : List D} {ps qs : List PyData}, (∀ d ∈ ds, ∀ e p q, Eqd n e → d.py = some p → e.py = some q → (PyData.eqv p q = true ↔ d = e)) → (∀ e ∈ es, Eqd n e) → pyAll ds = some ps → pyAll es = some qs → (PyData.eqvAll ps qs = true ↔ ds = es)
  | [], [], ps, qs, _, _, h1, h2 => by
    simp only [pyAll, Option.some.injEq] at h1 h2
    subst h1; subst h2
    simp only [PyData.eqvAll]
  | [], e :: es, ps, qs, _, _, h1, h2 => by
    simp only [pyAll, Option.some.injEq, Option.bind_eq_some_iff, Option.map_eq_some_iff] at h1 h2
    obtain ⟨q, _, qs', _, rfl⟩ := h2
    subst h1
    simp [PyData.eqvAll]
  | d :: ds, [], ps, qs, _, _, h1, h2 => by
    simp only [pyAll, Option.some.injEq, Option.bind_eq_some_iff, Option.map_eq_some_iff] at h1 h2
    obtain ⟨q, _, qs', _, rfl⟩ := h1
    subst h2
    simp [PyData.eqvAll]
  | d :: ds, e :: es, ps, qs, h, k, h1, h2 => by
    simp only [pyAll, Option.bind_eq_some_iff, Option.map_eq_some_iff] at h1 h2
    obtain ⟨p, f1, ps', f2, rfl⟩ := h1
    obtain ⟨q, g1, qs', g2, rfl⟩ := h2
    have a := h d (by simp) e p q (k e (by simp)) f1 g1
    have b := eqv_all (ds := ds) (es := es) (fun d hd => h d (by simp [hd])) (fun e he => k e (by simp [he])) f2 g2
    simp only [PyData.eqvAll, Bool.and_eq_true, a, b, List.cons.injEq]
theorem Eqd.eqv {n : Nat} {d : D} (h : Eqd n d) : ∀ {m : Nat} {e : D} {p q : PyData}, Eqd m e → d.py = some p → e.py = some q → (PyData.eqv p q = true ↔ d = e) := by
  induction h with
  | non =>
    intro m e p q he h1 h2
    simp only [D.py, Option.some.injEq] at h1
    subst h1
    cases he <;> simp only [D.py, Option.some.injEq, Option.map_eq_some_iff] at h2 <;> first | (subst h2; simp [PyData.eqv]) | (obtain ⟨qs, _, rfl⟩ := h2; simp [PyData.eqv])
  | int =>
    intro m e p q he h1 h2
    simp only [D.py, Option.some.injEq] at h1
    subst h1
    cases he <;> simp only [D.py, Option.some.injEq, Option.map_eq_some_iff] at h2 <;> first | (subst h2; simp [PyData.eqv]) | (obtain ⟨qs, _, rfl⟩ := h2; simp [PyData.eqv])
  | str _ =>
    intro m e p q he h1 h2
    simp only [D.py, Option.some.injEq] at h1
    subst h1
    cases he <;> simp only [D.py, Option.some.injEq, Option.map_eq_some_iff] at h2 <;> first | (subst h2; simp [PyData.eqv]) | (obtain ⟨qs, _, rfl⟩ := h2; simp [PyData.eqv])
  | list _ ih =>
    intro m e p q he h1 h2
    simp only [D.py, Option.map_eq_some_iff] at h1
    obtain ⟨ps, h1, rfl⟩ := h1
    cases he <;> simp only [D.py, Option.some.injEq, Option.map_eq_some_iff] at h2
    case list he =>
      obtain ⟨qs, h2, rfl⟩ := h2
      rw [PyData.eqv, eqv_all (fun d hd e p q he f1 f2 => ih d hd he f1 f2) he h1 h2, D.list.injEq]
    all_goals first | (subst h2; simp [PyData.eqv]) | (obtain ⟨qs, _, rfl⟩ := h2; simp [PyData.eqv])
  | tup _ ih =>
    intro m e p q he h1 h2
    simp only [D.py, Option.map_eq_some_iff] at h1
    obtain ⟨ps, h1, rfl⟩ := h1
    cases he <;> simp only [D.py, Option.some.injEq, Option.map_eq_some_iff] at h2
    case tup he =>
      obtain ⟨qs, h2, rfl⟩ := h2
      rw [PyData.eqv, eqv_all (fun d hd e p q he f1 f2 => ih d hd he f1 f2) he h1 h2, D.tup.injEq]
    all_goals first | (subst h2; simp [PyData.eqv]) | (obtain ⟨qs, _, rfl⟩ := h2; simp [PyData.eqv])
theorem Pyd.shaped {n : Nat} {d : D} {p : PyData} (h : Pyd n d p) (hn : n ≤ 64) : SeqAt.shaped p = true := by
  obtain ⟨_, h2, h3⟩ := h
  simp only [SeqAt.shaped, h2, Bool.true_and, decide_eq_true_eq]
  omega
theorem eqB_data {n : Nat} {d e : D} (hn : n ≤ 64) (hd : Eqd n d) (he : Eqd n e) : ∃ b, eqB d e = some b ∧ (b = true ↔ d = e) := by
  obtain ⟨p, hp⟩ := hd.pyd
  obtain ⟨q, hq⟩ := he.pyd
  have g : ∃ b, (d.py.bind fun p => e.py.bind fun q => if SeqAt.shaped p = true ∧ SeqAt.shaped q = true then some (PyData.eqv p q) else none) = some b ∧ (b = true ↔ d = e) := by
    refine ⟨PyData.eqv p q, ?_, hd.eqv he hp.1 hq.1⟩
    rw [hp.1, hq.1, Option.bind_some, Option.bind_some, if_pos ⟨hp.shaped hn, hq.shaped hn⟩]
  unfold eqB
  split
  · exact ⟨_, rfl, by simp⟩
  · exact ⟨_, rfl, by simp⟩
  · exact g
theorem wp_eqD {n : Nat} {d e : D} {Q : D → Prop} (hn : n ≤ 64) (hd : Eqd n d) (he : Eqd n e) (h : ∀ b, (b = true ↔ d = e) → Q (.bl b)) : wq (dEq d e) Q := by
  obtain ⟨b, h1, h2⟩ := eqB_data hn hd he
  rw [dEq, h1, Option.map_some, wp_some]
  exact h b h2
theorem wp_neD {n : Nat} {d e : D} {Q : D → Prop} (hn : n ≤ 64) (hd : Eqd n d) (he : Eqd n e) (h : ∀ b, (b = true ↔ d = e) → Q (.bl !b)) : wq (dNe d e) Q := by
  obtain ⟨b, h1, h2⟩ := eqB_data hn hd he
  rw [dNe, h1, Option.map_some, wp_some]
  exact h b h2
theorem Eqd.ints {n : Nat} {ns : List Int} : Eqd (n + 1) (.list (ns.map .int)) := .list fun d hd => by
  obtain ⟨i, _, rfl⟩ := List.mem_map.mp hd
  exact .int
/-- a word between two statements -/
def midK (R : List Sl → Prop) (Q : Fl → Prop) : Fl → Prop
  | .nx ρ => R ρ
  | .bk ρ => Q (.bk ρ)
  | .ct ρ => Q (.ct ρ)
  | .rt d ρ => Q (.rt d ρ)
  | .ro d ρ => Q (.ro d ρ)
theorem midK_nx {R : List Sl → Prop} {Q : Fl → Prop} {ρ : List Sl} : midK R Q (.nx ρ) = R ρ := rfl
theorem midK_rt {R : List Sl → Prop} {Q : Fl → Prop} {d : D} {ρ : List Sl} : midK R Q (.rt d ρ) = Q (.rt d ρ) := rfl
theorem midK_bk {R : List Sl → Prop} {Q : Fl → Prop} {ρ : List Sl} : midK R Q (.bk ρ) = Q (.bk ρ) := rfl
theorem midK_ct {R : List Sl → Prop} {Q : Fl → Prop} {ρ : List Sl} : midK R Q (.ct ρ) = Q (.ct ρ) := rfl
theorem wp_cut {m n : Sx} {ρ : List Sl} {Q : Fl → Prop} (R : List Sl → Prop) (h2 : ∀ ρ', R ρ' → wq (n ρ') Q) (h1 : wq (m ρ) (midK R Q)) : wq (sSeq m n ρ) Q := by
  rw [wp_seq]
  refine wp_mono h1 fun fl h => ?_
  cases fl with
  | nx ρ' => exact h2 _ h
  | _ => exact h
theorem wp_whl {N : Nat} {t : Tx} {body : Sx} {ρ : List Sl} {Q : Fl → Prop} (W : Nat → List Sl → Prop) (m : Nat) (hm : m < N) (h0 : W m ρ)
    (hs : ∀ m ρ, W m ρ → wq (t ρ) fun p => iteP p.1 (wq (body p.2) (turnK (fun ρ2 => ∃ m', m' < m ∧ W m' ρ2) Q)) (Q (.nx p.2))) : wq (sWhile N t body ρ) Q := wp_while W m hm h0 hs
/-- for over items that are made of others -/
theorem wp_forM {α : Type} {zs : List α} {g : α → D} {t : Tgt} {body : Sx} {ρ : List Sl} {Q : Fl → Prop} (W : List α → List Sl → Prop) (h0 : W [] ρ)
    (hs : ∀ p z q ρ, zs = p ++ z :: q → W p ρ → wq (t (g z) ρ) fun ρ1 => wq (body ρ1) (turnK (W (p ++ [z])) Q)) (hd : ∀ ρ, W zs ρ → Q (.nx ρ)) : wq (forLoop t body (zs.map g) ρ) Q := by
  have go : ∀ (q p : List α) (ρ : List Sl), zs = p ++ q → W p ρ → wq (forLoop t body (q.map g) ρ) Q := by
    intro q
    induction q with
    | nil =>
      intro p ρ e w
      rw [List.map_nil, wp_for_nil]
      rw [List.append_nil] at e
      subst e
      exact hd ρ w
    | cons z q ih =>
      intro p ρ e w
      rw [List.map_cons, wp_for_cons]
      refine wp_mono (hs p z q ρ e w) fun ρ1 h => wp_mono h fun fl h => ?_
      cases fl with
      | nx ρ2 => exact ih (p ++ [z]) ρ2 (by simp [e]) h
      | ct ρ2 => exact ih (p ++ [z]) ρ2 (by simp [e]) h
      | bk ρ2 => exact h
      | rt d ρ2 => exact h
      | ro d ρ2 => exact h
  exact go zs [] ρ rfl h0
/-- for over a range, by a word over the turn's number -/
theorem wp_rg {t : Tgt} {body : Sx} {lo hi : Int} {ρ : List Sl} {Q : Fl → Prop} (W : Nat → List Sl → Prop) (h0 : W 0 ρ)
    (hs : ∀ k ρ, k < (hi - lo).toNat → W k ρ → wq (t (.int (lo + k)) ρ) fun ρ1 => wq (body ρ1) (turnK (W (k + 1)) Q)) (hd : ∀ ρ, W (hi - lo).toNat ρ → Q (.nx ρ)) : wq (forLoop t body (rgD lo hi) ρ) Q := by
  have hl : (rgD lo hi).length = (hi - lo).toNat := rgD_len lo hi
  refine wp_for (fun pre ρ => W pre.length ρ) h0 ?_ ?_
  · intro pre d post ρ e w
    have hp : pre.length < (hi - lo).toNat := by rw [← hl, e]; simp
    have hd : (rgD lo hi)[pre.length]? = some d := by rw [e]; simp
    rw [rgD_at hd, List.length_append]
    exact hs _ _ hp w
  · intro ρ w
    rw [hl] at w
    exact hd ρ w
/-! comprehensions -/
/-- with a test: what is kept, what is made of it -/
theorem lc_filt {t : Tgt} {tt : Tx} {te : Ex} {vs : List Nat} {ρ : List Sl} {ds : List D} {Q : List D × List Sl → Prop} (p : D → Bool) (g : D → D) (I : List Sl → Prop) (h0 : I ρ)
    (hs : ∀ d ρ (R : D → List Sl → Prop) (S : List Sl → Prop), d ∈ ds → I ρ → (∀ ρ', I ρ' → p d = true → R (g d) ρ') → (∀ ρ', I ρ' → p d = false → S ρ') → wq (t d (wipeE ρ vs)) fun ρ1 => wq (tt ρ1) fun z => iteP z.1 (wq (te z.2) fun q => wq (esc q.2 q.1) fun s => R s.1 s.2) (S z.2))
    (hd : ∀ ρ, I ρ → Q ((ds.filter p).map g, ρ)) : wq (lcLoop t tt te vs ds [] ρ) Q := by
  refine wp_lcLoop (fun pre acc ρ => acc = (pre.filter p).map g ∧ I ρ) ⟨rfl, h0⟩ ?_ ?_
  · rintro pre d post acc ρ e ⟨rfl, hi⟩
    refine wp_mono (hs d ρ (fun v ρ' => p d = true ∧ v = g d ∧ I ρ') (fun ρ' => p d = false ∧ I ρ') (by rw [e]; simp) hi (fun ρ' h h' => ⟨h', rfl, h⟩) (fun ρ' h h' => ⟨h', h⟩)) fun ρ1 h => wp_mono h fun z h => ?_
    unfold iteP at h
    by_cases c : z.1 = true
    · rw [if_pos c] at h ⊢
      refine wp_mono h fun q h => wp_mono h fun s h => ?_
      exact ⟨by rw [h.2.1, List.filter_append, List.map_append]; simp [h.1], h.2.2⟩
    · rw [if_neg c] at h ⊢
      exact ⟨by rw [List.filter_append]; simp [h.1], h.2⟩
  · rintro acc ρ ⟨rfl, h⟩
    exact hd ρ h
/-- over a range -/
theorem lc_rg {t : Tgt} {tt : Tx} {te : Ex} {vs : List Nat} {ρ : List Sl} {lo hi : Int} {Q : List D × List Sl → Prop} (g : Nat → D) (I : List Sl → Prop) (h0 : I ρ)
    (hs : ∀ k ρ (R : D → List Sl → Prop), k < (hi - lo).toNat → I ρ → (∀ ρ', I ρ' → R (g k) ρ') → wq (t (.int (lo + k)) (wipeE ρ vs)) fun ρ1 => wq (tt ρ1) fun p => iteP p.1 (wq (te p.2) fun q => wq (esc q.2 q.1) fun s => R s.1 s.2) False)
    (hd : ∀ ρ, I ρ → Q ((List.range (hi - lo).toNat).map g, ρ)) : wq (lcLoop t tt te vs (rgD lo hi) [] ρ) Q := by
  have hl : (rgD lo hi).length = (hi - lo).toNat := rgD_len lo hi
  refine wp_lcLoop (fun pre acc ρ => acc = (List.range pre.length).map g ∧ I ρ) ⟨rfl, h0⟩ ?_ ?_
  · rintro pre d post acc ρ e ⟨rfl, hi'⟩
    have hp : pre.length < (hi - lo).toNat := by rw [← hl, e]; simp
    have hd : (rgD lo hi)[pre.length]? = some d := by rw [e]; simp
    rw [rgD_at hd]
    refine wp_mono (hs pre.length ρ (fun v ρ' => v = g pre.length ∧ I ρ') hp hi' fun ρ' h => ⟨rfl, h⟩) fun ρ1 h => wp_mono h fun p h => ?_
    unfold iteP at h
    by_cases c : p.1 = true
    · rw [if_pos c] at h ⊢
      refine wp_mono h fun q h => wp_mono h fun z h => ?_
      exact ⟨by rw [h.1, List.length_append, List.length_singleton, List.range_succ, List.map_append]; rfl, h.2⟩
    · rw [if_neg c] at h
      exact h.elim
  · rintro acc ρ ⟨rfl, h⟩
    rw [hl]
    exact hd ρ h
theorem lc_rg0 {t : Tgt} {tt : Tx} {te : Ex} {vs : List Nat} {ρ : List Sl} {n : Nat} {Q : List D × List Sl → Prop} (g : Nat → D) (I : List Sl → Prop) (h0 : I ρ)
    (hs : ∀ (k : Nat) ρ (R : D → List Sl → Prop), k < n → I ρ → (∀ ρ', I ρ' → R (g k) ρ') → wq (t (.int k) (wipeE ρ vs)) fun ρ1 => wq (tt ρ1) fun p => iteP p.1 (wq (te p.2) fun q => wq (esc q.2 q.1) fun s => R s.1 s.2) False)
    (hd : ∀ ρ, I ρ → Q ((List.range n).map g, ρ)) : wq (lcLoop t tt te vs (rgD 0 n) [] ρ) Q := by
  have e : ((n : Int) - 0).toNat = n := by omega
  refine lc_rg g I h0 (fun k ρ R hk hi hR => ?_) (fun ρ h => by rw [e]; exact hd ρ h)
  rw [Int.zero_add]
  exact hs k ρ R (by omega) hi hR
/-- a comprehension over items that are made of others -/
theorem lc_mapM {α : Type} {zs : List α} {h : α → D} {t : Tgt} {tt : Tx} {te : Ex} {vs : List Nat} {ρ : List Sl} {Q : List D × List Sl → Prop} (g : α → D) (I : List Sl → Prop) (h0 : I ρ)
    (hs : ∀ z ρ (R : D → List Sl → Prop), z ∈ zs → I ρ → (∀ ρ', I ρ' → R (g z) ρ') → wq (t (h z) (wipeE ρ vs)) fun ρ1 => wq (tt ρ1) fun p => iteP p.1 (wq (te p.2) fun q => wq (esc q.2 q.1) fun s => R s.1 s.2) False)
    (hd : ∀ ρ, I ρ → Q (zs.map g, ρ)) : wq (lcLoop t tt te vs (zs.map h) [] ρ) Q := by
  have go : ∀ (q p : List α) (acc : List D) (ρ : List Sl), zs = p ++ q → acc = p.map g → I ρ → wq (lcLoop t tt te vs (q.map h) acc ρ) Q := by
    intro q
    induction q with
    | nil =>
      intro p acc ρ e1 e2 i
      rw [List.map_nil, wp_lcLoop_nil, e2]
      rw [List.append_nil] at e1
      subst e1
      exact hd ρ i
    | cons z q ih =>
      intro p acc ρ e1 e2 i
      rw [List.map_cons, wp_lcLoop_cons]
      refine wp_mono (hs z ρ (fun v ρ' => v = g z ∧ I ρ') (by rw [e1]; simp) i fun ρ' k => ⟨rfl, k⟩) fun ρ1 k => wp_mono k fun p' k => ?_
      unfold iteP at k
      by_cases c : p'.1 = true
      · rw [if_pos c] at k ⊢
        refine wp_mono k fun q' k => wp_mono k fun s k => ?_
        exact ih (p ++ [z]) _ _ (by simp [e1]) (by rw [e2, k.1, List.map_append]; rfl) k.2
      · rw [if_neg c] at k
        exact k.elim
  exact go zs [] [] ρ rfl rfl h0
theorem inB_data {n : Nat} {d : D} {ds : List D} (hn : n + 1 ≤ 64) (hd : Eqd n d) (hs : ∀ e ∈ ds, Eqd n e) : ∃ b, (d.py.bind fun p => (pyAll ds).bind fun ps => if SeqAt.shaped p = true ∧ SeqAt.shaped (.tuple ps) = true then some (ps.any fun z => PyData.eqv z p) else none) = some b ∧ (b = true ↔ d ∈ ds) := by
  obtain ⟨p, hp⟩ := hd.pyd
  obtain ⟨ps, k1, k2, k3⟩ := pyds fun e he => (hs e he).pyd
  have sh : SeqAt.shaped (.tuple ps) = true := by
    have hz : (PyData.tuple ps).depth ≤ 64 := by rw [PyData.depth]; omega
    have hc : (PyData.tuple ps).canLay0 = true := by rw [PyData.canLay0]; exact k2
    unfold SeqAt.shaped
    rw [hc, Bool.true_and]
    exact decide_eq_true hz
  refine ⟨_, by rw [hp.1, Option.bind_some, k1, Option.bind_some, if_pos ⟨hp.shaped (by omega), sh⟩], ?_⟩
  clear sh k2 k3
  induction ds generalizing ps with
  | nil =>
    simp only [pyAll, Option.some.injEq] at k1
    subst k1
    simp
  | cons e ds ih =>
    simp only [pyAll, Option.bind_eq_some_iff, Option.map_eq_some_iff] at k1
    obtain ⟨q, f1, qs, f2, rfl⟩ := k1
    have := ih (fun e he => hs e (by simp [he])) qs f2
    rw [List.any_cons, Bool.or_eq_true, this, (hs e (by simp)).eqv hd f1 hp.1, List.mem_cons]
    exact ⟨fun h => h.imp Eq.symm id, fun h => h.imp Eq.symm id⟩
theorem wp_inT {n : Nat} {d : D} {ds : List D} {Q : D → Prop} (hn : n + 1 ≤ 64) (hd : Eqd n d) (hs : ∀ e ∈ ds, Eqd n e) (h : ∀ b, (b = true ↔ d ∈ ds) → Q (.bl b)) : wq (dIn d (.tup ds)) Q := by
  obtain ⟨b, h1, h2⟩ := inB_data hn hd hs
  rw [dIn, inB, h1, Option.map_some, wp_some]
  exact h b h2
theorem wp_ninT {n : Nat} {d : D} {ds : List D} {Q : D → Prop} (hn : n + 1 ≤ 64) (hd : Eqd n d) (hs : ∀ e ∈ ds, Eqd n e) (h : ∀ b, (b = true ↔ d ∈ ds) → Q (.bl !b)) : wq (dNotIn d (.tup ds)) Q := by
  obtain ⟨b, h1, h2⟩ := inB_data hn hd hs
  rw [dNotIn, inB, h1, Option.map_some, wp_some]
  exact h b h2
end DL

/-! D12: sorted of tuples of ints of any lengths, from a list or a tuple -/
namespace DL
open PySem L2 PyProof.Rows
/-- one row ahead of another -/
def rowLt : List Int → List Int → Bool
  | [], [] => false
  | [], _ :: _ => true
  | _ :: _, [] => false
  | x :: xs, y :: ys => if x = y then rowLt xs ys else decide (x < y)
theorem rowLt_asym : ∀ x y : List Int, rowLt x y = true → rowLt y x = false
  | [], [], h => by simp [rowLt] at h
  | [], _ :: _, _ => rfl
  | _ :: _, [], h => by simp [rowLt] at h
  | x :: xs, y :: ys, h => by
    simp only [rowLt] at h ⊢
    by_cases c : x = y
    · rw [if_pos c] at h
      rw [if_pos c.symm]
      exact rowLt_asym xs ys h
    · rw [if_neg c, decide_eq_true_eq] at h
      rw [if_neg (Ne.symm c), decide_eq_false_iff_not]
      omega
theorem rowLt_tr : ∀ x y z : List Int, rowLt y x = false → rowLt z y = false → rowLt z x = false
  | [], y, [], _, _ => rfl
  | [], [], _ :: _, _, h => rfl
  | [], _ :: _, _ :: _, _, _ => rfl
  | _ :: _, [], _, h, _ => by simp [rowLt] at h
  | _ :: _, _ :: _, [], _, h => by simp [rowLt] at h
  | x :: xs, y :: ys, z :: zs, h1, h2 => by
    simp only [rowLt] at h1 h2 ⊢
    by_cases c : y = x
    · subst c
      rw [if_pos rfl] at h1
      by_cases d : z = y
      · rw [if_pos d] at h2 ⊢
        exact rowLt_tr xs ys zs h1 h2
      · rw [if_neg d] at h2 ⊢
        exact h2
    · rw [if_neg c, decide_eq_false_iff_not] at h1
      by_cases d : z = y
      · subst d
        rw [if_neg c, decide_eq_false_iff_not]
        exact h1
      · rw [if_neg d, decide_eq_false_iff_not] at h2
        rw [if_neg (by omega), decide_eq_false_iff_not]
        omega
theorem rowLt_total : ∀ x y : List Int, rowLt x y = false → rowLt y x = false → x = y
  | [], [], _, _ => rfl
  | [], _ :: _, h, _ => by simp [rowLt] at h
  | _ :: _, [], _, h => by simp [rowLt] at h
  | x :: xs, y :: ys, h1, h2 => by
    simp only [rowLt] at h1 h2
    by_cases c : x = y
    · subst c
      rw [if_pos rfl] at h1 h2
      rw [rowLt_total xs ys h1 h2]
    · rw [if_neg c, decide_eq_false_iff_not] at h1
      rw [if_neg (Ne.symm c), decide_eq_false_iff_not] at h2
      omega
theorem rowLt_swo : SrtO.Swo rowLt := ⟨rowLt_asym, rowLt_tr⟩
section
variable {prog : Program} {w : World} {A : Around} {E : Value → Shared → Prop} {s : Shared}
/-- the walk over two tuples -/
theorem rows_walk {Q : Bool → Shared → Prop} {fin : Bool} : ∀ {us vs : List Value} {ns ms : List Int} (i : Nat), IntsAre us ns → IntsAre vs ms → fin = decide (ns.length < ms.length) → Q (rowLt ns ms) s → PySem.W.KatLex prog w A true fin Q (us.zip vs) i s
  | _, _, [], [], i, hx, hy, e, q => by
    cases hx
    cases hy
    refine PySem.W.kat_nil ?_
    rw [e]
    exact q
  | _, _, [], m :: ms, i, hx, hy, e, q => by
    cases hx
    try rw [List.zip_nil_left]
    refine PySem.W.kat_nil ?_
    rw [e]
    exact q
  | _, _, n :: ns, [], i, hx, hy, e, q => by
    cases hy
    try rw [List.zip_nil_right]
    refine PySem.W.kat_nil ?_
    rw [e]
    exact q
  | _, _, n :: ns, m :: ms, i, hx, hy, e, q => by
    obtain ⟨t, us', rfl, hx'⟩ := hx.cons_inv
    obtain ⟨u, vs', rfl, hy'⟩ := hy.cons_inv
    show PySem.W.KatLex prog w A true fin Q ((Value.int n t, Value.int m u) :: us'.zip vs') i s
    refine PySem.W.kat_cons (wpAny_eqBool_int ?_)
    by_cases c : n = m
    · subst c
      rw [beq_self_eq_true]
      refine PySem.W.kat_yes (rows_walk (i + 1) hx' hy' ?_ ?_)
      · rw [e]; simp
      · rw [rowLt, if_pos rfl] at q; exact q
    · rw [beq_eq_false_iff_ne.mpr c]
      refine PySem.W.kat_no (TS.oneLt_ints _ ?_)
      rw [rowLt, if_neg c] at q
      exact q
/-- all the items are tuples of ints, told by k -/
def RowsOk (h : Heap) (k : Value → List Int) (us : List Value) : Prop := ∀ u ∈ us, TS.TupInts h u (k u)
theorem rows_cmp {k : Value → List Int} {us : List Value} (x : RowsOk s.heap k us) : SrtO.Cmp prog w A s (tuples' true) (fun p => p.1 ∈ us) (SrtO.lt2 fun u v => rowLt (k u) (k v)) := by
  intro p q hm hm'
  obtain ⟨a, xs, e1, ⟨o, ho, _, n, hd⟩, i1⟩ := x _ hm
  obtain ⟨b, ys, e2, ⟨o', ho', _, n', hd'⟩, i2⟩ := x _ hm'
  show wpAny (model prog w) A (keyLt' (tuples' true) p.1 q.1) (fun r s' => s' = s ∧ r = rowLt (k p.1) (k q.1)) (fun _ _ => False) s
  rw [show p.1 = Value.ref a from e1, show q.1 = Value.ref b from e2] at *
  refine PySem.W.kat_lt ho hd ho' hd' ?_
  have l1 := i1.length
  have l2 := i2.length
  refine rows_walk 0 i1 i2 ?_ ⟨rfl, rfl⟩
  rw [← l1, ← l2, Array.length_toList, Array.length_toList]
theorem rows_firsts {h : Heap} {k : Value → List Int} : ∀ {us : List Value}, RowsOk h k us → (∀ u ∈ us, k u ≠ []) → ∃ fs, PySem.W.KatTups h us fs ∧ fs.length = us.length ∧ ∀ f ∈ fs, ∃ n t, f = Value.int n t
  | [], _, _ => ⟨[], PySem.W.KatTups.nil, rfl, fun f hf => nomatch hf⟩
  | u :: us, x, ne => by
    obtain ⟨fs, q1, q2, q3⟩ := rows_firsts (us := us) (fun v hv => x v (List.mem_cons_of_mem _ hv)) fun v hv => ne v (List.mem_cons_of_mem _ hv)
    obtain ⟨a, xs, e1, ⟨o, ho, hc, n, hd⟩, i1⟩ := x u List.mem_cons_self
    cases q : k u with
    | nil => exact absurd q (ne u List.mem_cons_self)
    | cons m ms =>
      rw [q] at i1
      obtain ⟨t, xs', e3, _⟩ := i1.cons_inv
      subst e1
      refine ⟨.int m t :: fs, PySem.W.KatTups.cons ho hc hd ?_ q1, by simp [q2], fun f hf => ?_⟩
      · have z : xs.toList[0]? = some (Value.int m t) := by rw [e3]; rfl
        simpa using z
      · rcases List.mem_cons.mp hf with rfl | hf
        · exact ⟨m, t, rfl⟩
        · exact q3 f hf
theorem RowsOk.keeps {h h' : Heap} {k : Value → List Int} {us : List Value} (x : RowsOk h k us) (kp : ∀ b o, h.get? b = some o → o.cls = .type "tuple" → h'.get? b = some o) : RowsOk h' k us := fun u hu => (x u hu).keeps kp
theorem rows_sortable {a : Addr} {k : Value → List Int} {us : List Value} (h2 : 2 ≤ us.length) (x : RowsOk s.heap k us) (ne : ∀ u ∈ us, k u ≠ []) (ha : ∀ o, s.heap.get? a = some o → o.cls ≠ .type "tuple") : SrtO.SortableO prog w A s a us fun u v => rowLt (k u) (k v) := by
  intro h' kp
  have x' : RowsOk h' k us := x.keeps fun b o e c => kp b o (fun z => by subst z; exact ha o e c) e
  obtain ⟨fs, q1, q2, q3⟩ := rows_firsts x' ne
  refine ⟨tuples' true, fun Q E hq => PySem.W.kat_kind (T := .type "int") q1 (by omega) (fun f hf => ?_) rfl ?_, rows_cmp x'⟩
  · obtain ⟨n, t, rfl⟩ := q3 f hf
    exact PySem.W.Looks.now
  · have e : (Value.type "int" != Value.type "tuple") = true := by decide +kernel
    rw [e]
    exact hq
/-- what a tuple holds, taken up as a list -/
theorem take_up {l : Addr} {us : List Value} {T : String} {Q : List Value → Shared → Prop} (hT : T = "list" ∨ T = "tuple") (hl : ∃ o n, s.heap.get? l = some o ∧ o.cls = .type T ∧ o.data = .seq us.toArray n) (hz : us.length ≤ sizeLine)
    (hq : Q us { s with heap := (s.heap.push (seqObj "list" #[] 0)).update s.heap.objs.size (Obj.mapSeq (· ++ us.toArray)) }) : wpAny (model prog w) A (collect (.ref l)) Q E s := by
  obtain ⟨o, n, ho, hc, hd⟩ := hl
  have hn : (s.heap.push (seqObj "list" #[] 0)).get? s.heap.objs.size = some (seqObj "list" #[] 0) := Heap.get?_push_size _ rfl
  have hk : (s.heap.push (seqObj "list" #[] 0)).get? l = some o := Heap.get?_push_of_some _ ho
  unfold collect
  refine wpAny_bind (wpAny_runValue (codeAny_builtin entry_proto_collect' ?_))
  show wpAny _ _ (newList [] >>= fun r => again (.builtin "list.__iadd__" ⟨[r, .ref l], []⟩)) _ _ s
  refine wpAny_bind (wpAny_newList (wpAny_pure ⟨Code.quiet_builtin _ (by decide +kernel), codeAny_builtin entry_list_iadd' ?_⟩))
  show wpAny _ _ (Builtin.List.listExtendWith (.ref s.heap.objs.size) (.ref l) (.ref s.heap.objs.size)) _ _ ({ s with heap := s.heap.push (seqObj "list" #[] 0) } : Shared)
  unfold Builtin.List.listExtendWith
  refine wpAny_bind (wpAny_typeOf (T := T) ⟨o, hk, hc⟩ ?_)
  rw [if_pos (by rcases hT with rfl | rfl <;> simp)]
  refine wpAny_bind (listItems_at hk hd (wpAny_bind (listItems_at (xs := #[]) (n := 0) hn rfl ?_)))
  rw [if_neg (by simp)]
  refine wpAny_bind (listUpdate_at (xs := #[]) (n := 0) hn rfl (wpAny_pure ?_) (Nat.zero_le _) ?_)
  · show wpAny (model prog w) A (load s.heap.objs.size >>= fun o => match o.data with
      | .seq xs _ => pure xs.toList
      | _ => unsupported "internal:collect") Q E ({ s with heap := (s.heap.push (seqObj "list" #[] 0)).update s.heap.objs.size (Obj.mapSeq (· ++ us.toArray)) } : Shared)
    refine wpAny_bind (wpAny_load (get?_update_seq hn _) ?_)
    show wpAny _ _ (pure ((#[] : Array Value) ++ us.toArray).toList) Q E _
    refine wpAny_pure ?_
    simpa using hq
  · simp only [Array.size_append, List.size_toArray, List.length_nil]
    simp
    omega
/-- sorted of a list or a tuple under an order of its items -/
theorem sorted_up {l : Addr} {us : List Value} {T : String} {lt : Value → Value → Bool} {Q : Value → Shared → Prop} (O : SrtO.Swo lt) (hT : T = "list" ∨ T = "tuple") (hl : ∃ o n, s.heap.get? l = some o ∧ o.cls = .type T ∧ o.data = .seq us.toArray n) (hz : us.length ≤ sizeLine)
    (hs : 2 ≤ us.length → ∀ (g : Heap) (a : Addr), g.get? a = some (seqObj "list" us.toArray 0) → (∀ b o, s.heap.get? b = some o → b ≠ a ∧ g.get? b = some o) → SrtO.SortableO prog w A.in1.in1 { s with heap := g } a us lt)
    (hq : ∀ out : List Value, SrtO.Srtd lt out → SrtO.Stb lt out us → Q (.ref (s.heap.objs.size + 1)) { s with heap := sortedAll s.heap us out.toArray }) :
    wpAny (model prog w) A (call (.builtin "sorted") [.ref l]) Q E s := by
  refine Calls.call_function_entry kind_sorted plain_sorted entry_sorted (args_sorted1 _) ?_
  unfold Builtin.«sorted»
  refine wpAny_bind (m := checkCount "sorted" 1 1 _) (wpAny_pure (wpAny_bind (take_up hT hl hz (wpAny_bind (wpAny_newList ?_ hz)))))
  obtain ⟨g0, hg0⟩ : ∃ g0, g0 = (s.heap.push (seqObj "list" #[] 0)).update s.heap.objs.size (Obj.mapSeq (· ++ us.toArray)) := ⟨_, rfl⟩
  have z1 : g0.objs.size = s.heap.objs.size + 1 := by rw [hg0, Heap.size_update, size_push']
  have old : ∀ b o, s.heap.get? b = some o → g0.get? b = some o := fun b o e => by
    rw [hg0, Heap.get?_update_ne _ _ _ _ (Nat.ne_of_lt (Heap.lt_size e))]
    exact Heap.get?_push_of_some _ e
  have hnew : (g0.push (seqObj "list" us.toArray 0)).get? (s.heap.objs.size + 1) = some (seqObj "list" us.toArray 0) := by
    rw [← z1]
    exact Heap.get?_push_size _ rfl
  have kp : ∀ b o, s.heap.get? b = some o → b ≠ s.heap.objs.size + 1 ∧ (g0.push (seqObj "list" us.toArray 0)).get? b = some o := fun b o e =>
    ⟨Nat.ne_of_lt (Nat.lt_succ_of_lt (Heap.lt_size e)), Heap.get?_push_of_some _ (old b o e)⟩
  rw [← hg0]
  show wpAny _ _ _ _ _ ({ s with heap := g0.push (seqObj "list" us.toArray 0) } : Shared)
  rw [z1]
  refine wpAny_bind (wpAny_holding (wpAny_call_entry slot_list_sort ⟨_, hnew, rfl⟩ entry_list_sort (SrtO.list_sort_ord O hnew hz (fun h2 => hs h2 _ _ hnew kp) fun out o1 o2 => ⟨_, rfl, ?_⟩) (args_list_sort _)))
  subst hg0
  exact wpAny_pure ⟨_, rfl, hq out o1 o2⟩
end
/-! sorted of rows -/
def insR (x : List Int) : List (List Int) → List (List Int)
  | [] => [x]
  | y :: ys => if rowLt y x = true then y :: insR x ys else x :: y :: ys
def sortR : List (List Int) → List (List Int)
  | [] => []
  | x :: xs => insR x (sortR xs)
theorem insR_perm (x : List Int) : ∀ ys, (insR x ys).Perm (x :: ys)
  | [] => .refl _
  | y :: ys => by
    unfold insR
    split
    · exact ((insR_perm x ys).cons y).trans (.swap x y ys)
    · exact .refl _
abbrev RSrt (l : List (List Int)) : Prop := l.Pairwise fun x y => rowLt y x = false
theorem insR_srt (x : List Int) : ∀ ys, RSrt ys → RSrt (insR x ys)
  | [], _ => by simp [insR]
  | y :: ys, h => by
    have h' := List.pairwise_cons.mp h
    unfold insR
    split
    · rename_i c
      refine List.pairwise_cons.mpr ⟨fun z hz => ?_, insR_srt x ys h'.2⟩
      rcases List.mem_cons.mp ((insR_perm x ys).mem_iff.mp hz) with rfl | hz
      · exact rowLt_asym _ _ c
      · exact h'.1 z hz
    · rename_i c
      refine List.pairwise_cons.mpr ⟨fun z hz => ?_, h⟩
      have c : rowLt y x = false := by simpa using c
      rcases List.mem_cons.mp hz with rfl | hz
      · exact c
      · exact rowLt_tr _ _ _ c (h'.1 z hz)
theorem sortR_perm : ∀ xs, (sortR xs).Perm xs
  | [] => .refl _
  | x :: xs => (insR_perm x _).trans ((sortR_perm xs).cons x)
theorem sortR_srt : ∀ xs, RSrt (sortR xs)
  | [] => .nil
  | x :: xs => insR_srt x _ (sortR_srt xs)
theorem srt_one {l m : List (List Int)} (h1 : RSrt l) (h2 : RSrt m) (p : l.Perm m) : l = m :=
  p.eq_of_pairwise (fun a b _ _ u v => rowLt_total a b v u) h1 h2
def rowsOf : List D → Option (List (List Int))
  | [] => some []
  | .tup es :: ds => (ints? es).bind fun ns => (rowsOf ds).map fun rs => ns :: rs
  | _ => none
def rowD (ns : List Int) : D := .tup (ns.map .int)
def srtR (ds : List D) : Option D := (rowsOf ds).bind fun rs => if rs.length < 2 ∨ ∀ r ∈ rs, r ≠ [] then some (.list ((sortR rs).map rowD)) else none
def gSortR : List D → Option D
  | [.list ds] => srtR ds
  | [.tup ds] => srtR ds
  | _ => none
section
variable {X : Cx} {cl : String → Option Addr}
theorem rows_raw {pins : List (Addr × Obj)} {σ : L2.St} {G H : Hp} {s : Shared} (I : Inv X pins σ H s) (gh : Same G H) : ∀ {xs : List V} {us : List Value} {ds : List D} {rs : List (List Int)}, Reps X.K cl G xs ds → Vals xs us → rowsOf ds = some rs →
    us.map (TS.intsOf s.heap) = rs ∧ ∀ u ∈ us, TS.TupInts s.heap u (TS.intsOf s.heap u) ∧ (∃ a, u = .ref a) ∧ Rep X.K cl G (backV u) (rowD (TS.intsOf s.heap u))
  | _, _, _, _, .nil, r, e => by
    cases r
    simp only [rowsOf, Option.some.injEq] at e
    subst e
    exact ⟨rfl, fun u hu => nomatch hu⟩
  | _, _, .tup es :: ds, rs, .cons q qs, r, e => by
    cases r with
    | cons r1 r2 =>
    simp only [rowsOf, Option.bind_eq_some_iff, Option.map_eq_some_iff] at e
    obtain ⟨ns, e1, rs', e2, rfl⟩ := e
    obtain ⟨k1, k2⟩ := rows_raw I gh qs r2 e2
    cases q with
    | tup ht hz hr =>
    rename_i a vs
    rename_i u us'
    obtain rfl : u = Value.ref a := r1
    have hv := hr.ints? e1
    subst hv
    obtain ⟨its, rv, it, _⟩ := I.tuple (sameT gh ht)
    have ti : TS.TupInts s.heap (.ref a) ns := ⟨a, its.toArray, rfl, it, by simpa using rv.ints⟩
    have en := ti.ints
    refine ⟨by rw [List.map_cons, en, k1], fun u hu => ?_⟩
    rcases List.mem_cons.mp hu with rfl | hu
    · rw [en]
      exact ⟨ti, ⟨a, rfl⟩, Rep.tup ht hz (Reps.ints ns)⟩
    · exact k2 u hu
theorem reps_map {G : Hp} {f : Value → D} : ∀ {us : List Value}, (∀ u ∈ us, Rep X.K cl G (backV u) (f u)) → Reps X.K cl G (us.map backV) (us.map f)
  | [], _ => .nil
  | u :: us, h => .cons (h u List.mem_cons_self) (reps_map fun v hv => h v (List.mem_cons_of_mem _ hv))
theorem srt_call {pins : List (Addr × Obj)} {σ : L2.St} {G H : Hp} {s : Shared} {E : Value → Shared → Prop} {A : Around} {Q : VK} {a : Addr} {xs : List V} {us : List Value} {ds : List D} {r : D} {T : String} (I : Inv X pins σ H s) (gh : Same G H) (hT : T = "list" ∨ T = "tuple")
    (rv : Vals xs us) (hl : ∃ o n, s.heap.get? a = some o ∧ o.cls = .type T ∧ o.data = .seq us.toArray n) (hz : xs.length ≤ sizeLine) (hr : Reps X.K cl G xs ds) (e : srtR ds = some r)
    (q : ∀ v G' H', Grow G H G' H' → Rep X.K cl G' v r → Q v H') : wpAny (model X.prog X.w) A (call (.builtin "sorted") [.ref a]) (fun v s' => ∃ x H', Inv X pins σ H' s' ∧ RelV x v ∧ Q x H') E s := by
  unfold srtR at e
  simp only [Option.bind_eq_some_iff] at e
  obtain ⟨rs, e1, e2⟩ := e
  split at e2
  · rename_i hne
    cases e2
    obtain ⟨k1, k2⟩ := rows_raw I gh hr rv e1
    have hlen : us.length = rs.length := by rw [← k1, List.length_map]
    have zu : us.length ≤ sizeLine := by rw [← rv.length]; exact hz
    refine sorted_up (lt := fun u v => rowLt (TS.intsOf s.heap u) (TS.intsOf s.heap v)) ⟨fun x y => rowLt_asym _ _, fun x y z => rowLt_tr _ _ _⟩ hT hl zu (fun h2 g b hb kp => ?_) fun out o1 o2 => ?_
    · refine rows_sortable h2 (RowsOk.keeps (fun u hu => (k2 u hu).1) fun c o h _ => (kp c o h).2) (fun u hu => ?_) fun o h c => ?_
      · rcases hne with hne | hne
        · omega
        · exact hne _ (by rw [← k1]; exact List.mem_map.mpr ⟨u, hu, rfl⟩)
      · have h' : g.get? b = some o := h
        rw [hb] at h'
        cases h'
        exact absurd (Value.type.inj c) (by decide)
    · have hp := o2.perm
      have ho : ∀ u ∈ out, u ∈ us := fun u hu => hp.mem_iff.mp hu
      have es : out.map (TS.intsOf s.heap) = sortR rs := by
        refine srt_one (List.pairwise_map.mpr o1) (sortR_srt rs) ?_
        refine (hp.map _).trans ?_
        rw [k1]
        exact (sortR_perm rs).symm
      have ed : out.map (fun u => rowD (TS.intsOf s.heap u)) = (sortR rs).map rowD := by
        rw [← es, List.map_map]
        rfl
      have zo : (out.map backV).length ≤ sizeLine := by rw [List.length_map, hp.length_eq]; exact zu
      obtain ⟨n, hn⟩ := sortedAll_at s.heap us out.toArray
      refine ⟨.ref (s.heap.objs.size + 1), upd H (s.heap.objs.size + 1) (.lst (out.map backV)), I.laid (t' := s.toks) (fun b o h => sortedAll_old h) (Nat.le_succ _) ⟨zo, out, n, vals_back (fun u hu => (k2 u (ho u hu)).2.1), hn⟩, rfl, ?_⟩
      refine new_lst gh (I.hok.fresh (Nat.le_succ _)) zo ?_ q
      rw [← ed]
      exact reps_map fun u hu => (k2 u (ho u hu)).2.2
  · cases e2
theorem c_sortR : CallD X cl (.builtin "sorted") gSortR := by
  intro pins s σ H xs us Q I r h
  obtain ⟨G, ds, r', gh, h1, h2, q⟩ := h
  unfold gSortR at h2
  split at h2
  · cases h1 with | cons t n =>
    cases n
    cases t with | list k l rr =>
    rw [Vals.ref1 r]
    obtain ⟨its, rv, ⟨o, n, hl, hc, _, hd⟩, hz⟩ := I.list (SqL.of k)
    exact srt_call I gh (.inl rfl) rv ⟨o, n, hl, hc, hd⟩ hz rr h2 q
  · cases h1 with | cons t n =>
    cases n
    cases t with | tup k l rr =>
    rw [Vals.ref1 r]
    obtain ⟨its, rv, ⟨o, hl, hc, n, hd⟩, hz⟩ := I.tuple (sameT gh k)
    exact srt_call I gh (.inr rfl) rv ⟨o, n, hl, hc, hd⟩ hz rr h2 q
  · cases h2
/-- the one or the other -/
def gElse (g h : List D → Option D) (ds : List D) : Option D := match g ds with
  | some r => some r
  | none => h ds
theorem c_else {f : Value} {g h : List D → Option D} (a : CallD X cl f g) (b : CallD X cl f h) : CallD X cl f (gElse g h) := by
  intro pins s σ H xs us Q I r k
  obtain ⟨G, ds, r', gh, h1, h2, q⟩ := k
  unfold gElse at h2
  split at h2
  · rename_i z hz
    cases h2
    exact a pins s σ H xs us Q I r ⟨G, ds, _, gh, h1, hz, q⟩
  · exact b pins s σ H xs us Q I r ⟨G, ds, _, gh, h1, h2, q⟩
end
end DL

namespace G
open PySem L2 DL
def topS (i : Nat) : Stmt := PySem.Challenge.pw_cutanywhere_k37_rows_of_a_size.main.body.getD i (.Pass ⟨0, 0, 0, 0⟩)
abbrev s_items_of_size : Stmt := topS 1
abbrev s_rows_up_to : Stmt := topS 2
abbrev s_rows_of_size : Stmt := topS 3
abbrev s_f_law_start : Stmt := topS 5
abbrev s_f_law_draw : Stmt := topS 6
abbrev s_f_law_is_int : Stmt := topS 7
abbrev s_f_law_same : Stmt := topS 8
abbrev s_f_law_rows_in : Stmt := topS 9
abbrev s_f_law_row : Stmt := topS 10
abbrev s_f_law_size_of : Stmt := topS 11
abbrev s_f_law_distinct : Stmt := topS 12
abbrev s_law : Stmt := topS 13
structure Tab where
  items_of_size : Fn
  rows_up_to : Fn
  rows_of_size : Fn
  f_law_start : Fn
  f_law_draw : Fn
  f_law_is_int : Fn
  f_law_same : Fn
  f_law_rows_in : Fn
  f_law_row : Fn
  f_law_size_of : Fn
  f_law_distinct : Fn
  law : Fn
def b_items_of_size (T : Tab) : Sx := (sRet (eIf (bVal (eBin dEq (eVar 0) (eC (.int 0)))) (eLst (aCons (eC (.int 0)) aNil)) (eLst (aCons (eVar 0) (aCons (eUn dNeg (eVar 0)) aNil)))))
def fn_items_of_size (T : Tab) : Fn := fnBody 1 0 (b_items_of_size T)
def b_rows_up_to (T : Tab) : Sx := (sSeq (sNewL 1 (aCons (eLst (aCons (eTup aNil) aNil)) aNil))
  (sSeq (sFor (srcRg srcR2 (aCons (eC (.int 1)) (aCons (eBin dAdd (eVar 0) (eC (.int 1))) aNil))) (tNm 2) (sSeq (sNewL 3 aNil)
  (sSeq (sFor (srcRg srcR1 (aCons (eVar 2) aNil)) (tNm 4) (sFor (srcSeq (eCall 0 T.items_of_size (aCons (eVar 4) aNil))) (tNm 5) (sDrop (eMutL gExt (eVar 3) (aCons (eLc (srcSeq (eBin dAt (eVar 1) (eBin dSub (eBin dSub (eVar 2) (eC (.int 1))) (eVar 4)))) (tNm 6) bYes (eBin dAdd (eTup (aCons (eVar 5) aNil)) (eVar 6)) [6]) aNil)))))
  (sDrop (eMutL gApp (eVar 1) (aCons (eVar 3) aNil))))))
  (sRet (eVar 1))))
def fn_rows_up_to (T : Tab) : Fn := fnBody 7 0 (b_rows_up_to T)
def b_rows_of_size (T : Tab) : Sx := (sRet (eCB gTuple (aCons (eBin dAt (eCall 0 T.rows_up_to (aCons (eVar 0) aNil)) (eVar 0)) aNil)))
def fn_rows_of_size (T : Tab) : Fn := fnBody 1 0 (b_rows_of_size T)
def b_f_law_start (T : Tab) : Sx := (sRetL (aCons (eCB gList (aCons (eVar 0) aNil)) (aCons (eC (.int 0)) (aCons (eC (.int 0)) (aCons (eC (.int 0)) aNil)))))
def fn_f_law_start (T : Tab) : Fn := fnBodyO 1 0 (b_f_law_start T)
def b_f_law_draw (T : Tab) : Sx := (sSeq (sStore (eVar 0) (eC (.int 3)) (eBin dAdd (eBin dAt (eVar 0) (eC (.int 3))) (eC (.int 1))))
  (sSeq (sIf (bVal (eBin dGt (eBin dAt (eVar 0) (eC (.int 2))) (eC (.int 0)))) (sSeq (sSet 4 (eBin dMod (eCB gInt (aCons (eBin dAt (eVar 0) (eC (.int 2))) aNil)) (eVar 1)))
  (sSeq (sStore (eVar 0) (eC (.int 2)) (eBin dFdv (eBin dAt (eVar 0) (eC (.int 2))) (eVar 1)))
  (sRet (eVar 4)))) sSkip)
  (sSeq (sSet 2 (eC (.int 0)))
  (sSeq (sIf (bVal (eBin dGt (eCB gLen (aCons (eBin dAt (eVar 0) (eC (.int 0))) aNil)) (eC (.int 0)))) (sSet 2 (eCB gAbs (aCons (eBin dAt (eBin dAt (eVar 0) (eC (.int 0))) (eBin dMod (eCB gInt (aCons (eBin dAt (eVar 0) (eC (.int 1))) aNil)) (eCB gLen (aCons (eBin dAt (eVar 0) (eC (.int 0))) aNil)))) aNil))) sSkip)
  (sSeq (sStore (eVar 0) (eC (.int 1)) (eBin dAdd (eBin dAt (eVar 0) (eC (.int 1))) (eC (.int 1))))
  (sSeq (sIf (bVal (eBin dGe (eVar 2) (eBin dPow (eC (.int 10)) (eC (.int 18))))) (sSeq (sStore (eVar 0) (eC (.int 2)) (eBin dFdv (eVar 2) (eVar 1)))
  (sRet (eBin dMod (eCB gInt (aCons (eVar 2) aNil)) (eVar 1)))) sSkip)
  (sSeq (sSet 3 (eBin dMod (eCB gInt (aCons (eBin dAdd (eBin dMul (eBin dAdd (eVar 2) (eC (.int 1))) (eC (.int 48271))) (eBin dMul (eBin dAt (eVar 0) (eC (.int 3))) (eC (.int 69621)))) aNil)) (eC (.int 2147483647))))
  (sSeq (sSet 3 (eBin dMod (eCB gInt (aCons (eBin dAdd (eBin dAdd (eBin dMul (eVar 3) (eC (.int 16807))) (eBin dFdv (eVar 2) (eC (.int 97)))) (eBin dAt (eVar 0) (eC (.int 3)))) aNil)) (eC (.int 2147483629))))
  (sRet (eBin dMod (eBin dFdv (eVar 3) (eC (.int 11))) (eVar 1)))))))))))
def fn_f_law_draw (T : Tab) : Fn := fnBody 5 1 (b_f_law_draw T)
def b_f_law_is_int (T : Tab) : Sx := (sRet (eAnd (eIsi .int (eVar 0)) (eNot (eIsi .bool (eVar 0)))))
def fn_f_law_is_int (T : Tab) : Fn := fnBody 1 0 (b_f_law_is_int T)
def b_f_law_same (T : Tab) : Sx := (sSeq (sIf (bTru (eIsi .tuple (eVar 1))) (sSeq (sIf (bOr (bNot (bTru (eIsi .tuple (eVar 0)))) (bVal (eBin dNe (eCB gLen (aCons (eVar 0) aNil)) (eCB gLen (aCons (eVar 1) aNil))))) (sRet (eC (.bl false))) sSkip)
  (sRet (eCB gAll (aCons (eLc (srcRg srcR1 (aCons (eCB gLen (aCons (eVar 1) aNil)) aNil)) (tNm 2) bYes (eCall 0 T.f_law_same (aCons (eBin dAt (eVar 0) (eVar 2)) (aCons (eBin dAt (eVar 1) (eVar 2)) aNil))) [2]) aNil)))) sSkip)
  (sSeq (sIf (bTru (eIsi .str (eVar 1))) (sRet (eAnd (eIsi .str (eVar 0)) (eBin dEq (eVar 0) (eVar 1)))) sSkip)
  (sRet (eAnd (eCall 0 T.f_law_is_int (aCons (eVar 0) aNil)) (eBin dEq (eVar 0) (eVar 1))))))
def fn_f_law_same (T : Tab) : Fn := fnBody 3 0 (b_f_law_same T)
def b_f_law_rows_in (T : Tab) : Sx := (sSeq (sNewL 1 (aCons (eLst (aCons (eTup aNil) aNil)) aNil))
  (sSeq (sFor (srcRg srcR2 (aCons (eC (.int 1)) (aCons (eBin dAdd (eVar 0) (eC (.int 1))) aNil))) (tNm 2) (sSeq (sSet 3 (eLst aNil))
  (sSeq (sFor (srcRg srcR1 (aCons (eVar 2) aNil)) (tNm 4) (sFor (srcSeq (eSl dSl (eLst (aCons (eVar 4) (aCons (eUn dNeg (eVar 4)) aNil))) oNone (oSome (eBin dAdd (eC (.int 1)) (eCB gInt (aCons (eBin dGt (eVar 4) (eC (.int 0))) aNil)))))) (tNm 5) (sSet 3 (eBin dAdd (eVar 3) (eLc (srcSeq (eBin dAt (eVar 1) (eBin dSub (eBin dSub (eVar 2) (eC (.int 1))) (eVar 4)))) (tNm 6) bYes (eBin dAdd (eTup (aCons (eVar 5) aNil)) (eVar 6)) [6])))))
  (sDrop (eMutL gApp (eVar 1) (aCons (eVar 3) aNil))))))
  (sRet (eVar 1))))
def fn_f_law_rows_in (T : Tab) : Fn := fnBody 7 0 (b_f_law_rows_in T)
def b_f_law_row (T : Tab) : Sx := (sRet (eCB gTuple (aCons (eLc (srcRg srcR1 (aCons (eCall 1 T.f_law_draw (aCons (eVar 0) (aCons (eBin dAdd (eVar 1) (eC (.int 1))) aNil))) aNil)) (tNm 2) bYes (eBin dSub (eCall 1 T.f_law_draw (aCons (eVar 0) (aCons (eC (.int 9)) aNil))) (eC (.int 4))) [2]) aNil)))
def fn_f_law_row (T : Tab) : Fn := fnBody 3 1 (b_f_law_row T)
def b_f_law_size_of (T : Tab) : Sx := (sRet (eBin dAdd (eCB gLen (aCons (eVar 0) aNil)) (eCB gSum (aCons (eLc (srcSeq (eVar 0)) (tNm 1) bYes (eCB gAbs (aCons (eVar 1) aNil)) [1]) aNil))))
def fn_f_law_size_of (T : Tab) : Fn := fnBody 2 0 (b_f_law_size_of T)
def b_f_law_distinct (T : Tab) : Sx := (sSeq (sNewL 1 aNil)
  (sSeq (sFor (srcSeq (eCB (gElse gSorted gSortR) (aCons (eVar 0) aNil))) (tNm 2) (sIf (bOr (bVal (eBin dEq (eVar 1) (eLst aNil))) (bVal (eBin dNe (eBin dAt (eVar 1) (eUn dNeg (eC (.int 1)))) (eVar 2)))) (sDrop (eMutL gApp (eVar 1) (aCons (eVar 2) aNil))) sSkip))
  (sRet (eVar 1))))
def fn_f_law_distinct (T : Tab) : Fn := fnBody 3 0 (b_f_law_distinct T)
def b_law (T : Tab) : Sx := (sSeq (sCallO 1 0 T.f_law_start (aCons (eVar 0) aNil))
  (sSeq (sSet 2 (eCall 1 T.f_law_draw (aCons (eVar 1) (aCons (eC (.int 8)) aNil))))
  (sSeq (sSet 3 (eCall 0 T.rows_of_size (aCons (eVar 2) aNil)))
  (sSeq (sIf (bNot (bTru (eCall 0 T.f_law_same (aCons (eVar 3) (aCons (eCB gTuple (aCons (eBin dAt (eCall 0 T.f_law_rows_in (aCons (eVar 2) aNil)) (eVar 2)) aNil)) aNil))))) (sRet (eC (.bl false))) sSkip)
  (sSeq (sSet 4 (eCall 1 T.f_law_row (aCons (eVar 1) (aCons (eC (.int 3)) aNil))))
  (sSeq (sIf (bVal (eBin dLe (eBin dAdd (eCB gLen (aCons (eVar 4) aNil)) (eCB gSum (aCons (eLc (srcSeq (eVar 4)) (tNm 7) bYes (eCB gAbs (aCons (eVar 7) aNil)) [7]) aNil))) (eC (.int 7)))) (sIf (bVal (eBin dNotIn (eVar 4) (eCall 0 T.rows_of_size (aCons (eCall 0 T.f_law_size_of (aCons (eVar 4) aNil)) aNil)))) (sRet (eC (.bl false))) sSkip) sSkip)
  (sSeq (sNewL 5 (aCons (eC (.int 1)) (aCons (eC (.int 1)) aNil)))
  (sSeq (sFor (srcRg srcR2 (aCons (eC (.int 2)) (aCons (eBin dAdd (eVar 2) (eC (.int 1))) aNil))) (tNm 6) (sDrop (eMutL gApp (eVar 5) (aCons (eCB gSum (aCons (eLc (srcRg srcR1 (aCons (eVar 6) aNil)) (tNm 8) bYes (eBin dMul (eBin dAt (eVar 5) (eBin dSub (eBin dSub (eVar 6) (eC (.int 1))) (eVar 8))) (eBin dAdd (eC (.int 1)) (eCB gInt (aCons (eBin dGt (eVar 8) (eC (.int 0))) aNil)))) [8]) aNil)) aNil))))
  (sSeq (sIf (bOr (bVal (eBin dNe (eCB gLen (aCons (eVar 3) aNil)) (eBin dAt (eVar 5) (eVar 2)))) (bVal (eBin dNe (eCB gLen (aCons (eCall 0 T.f_law_distinct (aCons (eVar 3) aNil)) aNil)) (eCB gLen (aCons (eVar 3) aNil))))) (sRet (eC (.bl false))) sSkip)
  (sRet (eCB gAll (aCons (eLc (srcSeq (eVar 3)) (tNm 4) bYes (eBin dEq (eCall 0 T.f_law_size_of (aCons (eVar 4) aNil)) (eVar 2)) [4]) aNil))))))))))))
def fn_law (T : Tab) : Fn := fnBody 9 0 (b_law T)
def mk (T : Tab) : Tab where
  items_of_size := fn_items_of_size T
  rows_up_to := fn_rows_up_to T
  rows_of_size := fn_rows_of_size T
  f_law_start := fn_f_law_start T
  f_law_draw := fn_f_law_draw T
  f_law_is_int := fn_f_law_is_int T
  f_law_same := fn_f_law_same T
  f_law_rows_in := fn_f_law_rows_in T
  f_law_row := fn_f_law_row T
  f_law_size_of := fn_f_law_size_of T
  f_law_distinct := fn_f_law_distinct T
  law := fn_law T
def tab : Nat → Tab
  | 0 => { items_of_size := fun _ => none, rows_up_to := fun _ => none, rows_of_size := fun _ => none, f_law_start := fun _ => none, f_law_draw := fun _ => none, f_law_is_int := fun _ => none, f_law_same := fun _ => none, f_law_rows_in := fun _ => none, f_law_row := fun _ => none, f_law_size_of := fun _ => none, f_law_distinct := fun _ => none, law := fun _ => none }
  | n + 1 => mk (tab n)
structure Mg (mg : Str → Option Value) : Prop where
  abs : mg "abs" = none
  all : mg "all" = none
  bool : mg "bool" = none
  int : mg "int" = none
  isinstance : mg "isinstance" = none
  len : mg "len" = none
  list : mg "list" = none
  range : mg "range" = none
  sorted : mg "sorted" = none
  str : mg "str" = none
  sum : mg "sum" = none
  tuple : mg "tuple" = none
structure All (P : Program) (w : World) (K : PySem.W.Frag) (mg : Str → Option Value) (base : Heap) (cl : String → Option Addr) (k : Nat) (T : Tab) : Prop where
  items_of_size : Cal P w K mg base CX0 k "items_of_size" ["size"] (spD K cl 1 0 T.items_of_size)
  rows_up_to : Cal P w K mg base CX0 k "rows_up_to" ["size"] (spD K cl 1 0 T.rows_up_to)
  rows_of_size : Cal P w K mg base CX0 k "rows_of_size" ["size"] (spD K cl 1 0 T.rows_of_size)
  f_law_start : Cal P w K mg base CX0 k "_law_start" ["script"] (spO K cl 1 0 T.f_law_start)
  f_law_draw : Cal P w K mg base CX0 k "_law_draw" ["state", "most"] (spD K cl 2 1 T.f_law_draw)
  f_law_is_int : Cal P w K mg base CX0 k "_law_is_int" ["x"] (spD K cl 1 0 T.f_law_is_int)
  f_law_same : Cal P w K mg base CX0 k "_law_same" ["x", "y"] (spD K cl 2 0 T.f_law_same)
  f_law_rows_in : Cal P w K mg base CX0 k "_law_rows_in" ["size"] (spD K cl 1 0 T.f_law_rows_in)
  f_law_row : Cal P w K mg base CX0 k "_law_row" ["state", "most"] (spD K cl 2 1 T.f_law_row)
  f_law_size_of : Cal P w K mg base CX0 k "_law_size_of" ["row"] (spD K cl 1 0 T.f_law_size_of)
  f_law_distinct : Cal P w K mg base CX0 k "_law_distinct" ["rows"] (spD K cl 1 0 T.f_law_distinct)
  law : Cal P w K mg base CX0 k "law" ["script"] (spD K cl 1 0 T.law)
section
variable {P : Program} {w : World} {K : PySem.W.Frag} {mg : Str → Option Value} {base : Heap} {cl : String → Option Addr} {k : Nat} {T : Tab} {f : Addr} {fd : FuncData}
theorem sc_items_of_size : FnScope ["size"] ["size"] (defScope s_items_of_size) := ⟨rfl, rfl, rfl, by decide +kernel, rfl, by decide +kernel, by decide +kernel⟩
theorem ok_items_of_size (M : Mg mg) (A : All P w K mg base cl k T) (F : Fun K "items_of_size" "items_of_size" s_items_of_size f fd) : FnOk P w K mg base CX0 (k + 1) f fd ["size"] (spD K cl 1 0 (fn_items_of_size T)) :=
  fn_ok F sc_items_of_size (by decide) fun cdv A' outer s H E hr => by
    have nd := sc_items_of_size.nd
    exact (b_one (st_ret (d_if (t_cmp (o_eq (hu64 hr)) (d_var 0) d_int (nomark _)) (d_lst (a_cons d_int a_nil)) (d_lst (a_cons (d_var 0) (a_cons (d_un o_neg (d_var 0)) a_nil))))))
theorem sc_rows_up_to : FnScope ["size", "found", "whole", "rows", "first", "item", "rest"] ["size"] (defScope s_rows_up_to) := ⟨rfl, rfl, rfl, by decide +kernel, rfl, by decide +kernel, by decide +kernel⟩
theorem ok_rows_up_to (M : Mg mg) (A : All P w K mg base cl k T) (F : Fun K "rows_up_to" "rows_up_to" s_rows_up_to f fd) : FnOk P w K mg base CX0 (k + 1) f fd ["size"] (spD K cl 1 0 (fn_rows_up_to T)) :=
  fn_ok F sc_rows_up_to (by decide) fun cdv A' outer s H E hr => by
    have nd := sc_rows_up_to.nd
    exact (b_cons (st_newL 1 nd (a_cons (d_lst (a_cons (d_tup a_nil) a_nil)) a_nil))
    (b_cons (st_for PassesOwn.never rfl (i_range2 M.range (a_cons d_int (a_cons (d_bin o_add (d_var 0) d_int) a_nil))) (g := (gName 2)) (vs := [2]) (pg_name (i := 2) nd rfl (by first | exact Or.inl rfl | exact Or.inr rfl)) g_nm (b_cons (st_newL 3 nd a_nil)
    (b_cons (st_for PassesOwn.never rfl (i_range1 M.range (a_cons (d_var 2) a_nil)) (g := (gName 4)) (vs := [4]) (pg_name (i := 4) nd rfl (by first | exact Or.inl rfl | exact Or.inr rfl)) g_nm (b_one (st_for PassesOwn.never rfl (i_seq (d_call A.items_of_size hr pass0 (aCons_len aNil_len) (a_cons (d_var 4) a_nil))) (g := (gName 5)) (vs := [5]) (pg_name (i := 5) nd rfl (by first | exact Or.inl rfl | exact Or.inr rfl)) g_nm (b_one (st_expr (d_mutL PySem.F.slot_list_extend PySem.F.type_list_extend m_ext (d_var 3) (a_cons (d_lc rfl nd (i_seq (d_at (hu64 hr) (d_var 1) (d_bin o_sub (d_bin o_sub (d_var 2) d_int) (d_var 4)))) (blkOk_by (own := [("rest", 6)]) (by kernel_rfl)) (g := (gName 6)) g_nm (fun _ _ _ _ _ => (pg_name (i := 6) nd rfl (by first | exact Or.inl rfl | exact Or.inr rfl))) (fun _ _ _ _ _ => ts_nil) (fun _ _ _ _ _ => (d_bin o_add (d_tup (a_cons (d_var 5) a_nil)) (d_var 6)))) a_nil)))))))
    (b_one (st_expr (d_mutL PySem.F.slot_list_append PySem.F.type_list_append m_app (d_var 1) (a_cons (d_var 3) a_nil)))))))
    (b_one (st_ret (d_var 1)))))
theorem sc_rows_of_size : FnScope ["size"] ["size"] (defScope s_rows_of_size) := ⟨rfl, rfl, rfl, by decide +kernel, rfl, by decide +kernel, by decide +kernel⟩
theorem ok_rows_of_size (M : Mg mg) (A : All P w K mg base cl k T) (F : Fun K "rows_of_size" "rows_of_size" s_rows_of_size f fd) : FnOk P w K mg base CX0 (k + 1) f fd ["size"] (spD K cl 1 0 (fn_rows_of_size T)) :=
  fn_ok F sc_rows_of_size (by decide) fun cdv A' outer s H E hr => by
    have nd := sc_rows_of_size.nd
    exact (b_one (st_ret (d_callTy c_tuple M.tuple (a_cons (d_at (hu64 hr) (d_call A.rows_up_to hr pass0 (aCons_len aNil_len) (a_cons (d_var 0) a_nil)) (d_var 0)) a_nil))))
theorem sc_f_law_start : FnScope ["script"] ["script"] (defScope s_f_law_start) := ⟨rfl, rfl, rfl, by decide +kernel, rfl, by decide +kernel, by decide +kernel⟩
theorem ok_f_law_start (M : Mg mg) (A : All P w K mg base cl k T) (F : Fun K "_law_start" "_law_start" s_f_law_start f fd) : FnOk P w K mg base CX0 (k + 1) f fd ["script"] (spO K cl 1 0 (fn_f_law_start T)) :=
  fn_okO F sc_f_law_start (by decide) fun cdv A' outer s H E hr => by
    have nd := sc_f_law_start.nd
    exact (b_one (st_retL (a_cons (d_callTy c_list M.list (a_cons (d_var 0) a_nil)) (a_cons d_int (a_cons d_int (a_cons d_int a_nil))))))
theorem sc_f_law_draw : FnScope ["state", "most", "cell", "mixed", "found"] ["state", "most"] (defScope s_f_law_draw) := ⟨rfl, rfl, rfl, by decide +kernel, rfl, by decide +kernel, by decide +kernel⟩
theorem ok_f_law_draw (M : Mg mg) (A : All P w K mg base cl k T) (F : Fun K "_law_draw" "_law_draw" s_f_law_draw f fd) : FnOk P w K mg base CX0 (k + 1) f fd ["state", "most"] (spD K cl 2 1 (fn_f_law_draw T)) :=
  fn_ok F sc_f_law_draw (by decide) fun cdv A' outer s H E hr => by
    have nd := sc_f_law_draw.nd
    exact (b_cons (st_store (hu64 hr) (d_var 0) d_int (d_bin o_add (d_at (hu64 hr) (d_var 0) d_int) d_int))
    (b_cons (st_if (t_cmp o_gt (d_at (hu64 hr) (d_var 0) d_int) d_int (nomark _)) (b_cons (st_set 4 nd (d_bin o_mod (d_callTy c_int M.int (a_cons (d_at (hu64 hr) (d_var 0) d_int) a_nil)) (d_var 1)))
    (b_cons (st_store (hu64 hr) (d_var 0) d_int (d_bin o_fdv (d_at (hu64 hr) (d_var 0) d_int) (d_var 1)))
    (b_one (st_ret (d_var 4))))) b_nil)
    (b_cons (st_set 2 nd d_int)
    (b_cons (st_if (t_cmp o_gt (d_callB c_len M.len (a_cons (d_at (hu64 hr) (d_var 0) d_int) a_nil)) d_int (nomark _)) (b_one (st_set 2 nd (d_callB c_abs M.abs (a_cons (d_at (hu64 hr) (d_at (hu64 hr) (d_var 0) d_int) (d_bin o_mod (d_callTy c_int M.int (a_cons (d_at (hu64 hr) (d_var 0) d_int) a_nil)) (d_callB c_len M.len (a_cons (d_at (hu64 hr) (d_var 0) d_int) a_nil)))) a_nil)))) b_nil)
    (b_cons (st_store (hu64 hr) (d_var 0) d_int (d_bin o_add (d_at (hu64 hr) (d_var 0) d_int) d_int))
    (b_cons (st_if (t_cmp o_ge (d_var 2) (d_bin o_pow d_int d_int) (nomark _)) (b_cons (st_store (hu64 hr) (d_var 0) d_int (d_bin o_fdv (d_var 2) (d_var 1)))
    (b_one (st_ret (d_bin o_mod (d_callTy c_int M.int (a_cons (d_var 2) a_nil)) (d_var 1))))) b_nil)
    (b_cons (st_set 3 nd (d_bin o_mod (d_callTy c_int M.int (a_cons (d_bin o_add (d_bin o_mul (d_bin o_add (d_var 2) d_int) d_int) (d_bin o_mul (d_at (hu64 hr) (d_var 0) d_int) d_int)) a_nil)) d_int))
    (b_cons (st_set 3 nd (d_bin o_mod (d_callTy c_int M.int (a_cons (d_bin o_add (d_bin o_add (d_bin o_mul (d_var 3) d_int) (d_bin o_fdv (d_var 2) d_int)) (d_at (hu64 hr) (d_var 0) d_int)) a_nil)) d_int))
    (b_one (st_ret (d_bin o_mod (d_bin o_fdv (d_var 3) d_int) (d_var 1))))))))))))
theorem sc_f_law_is_int : FnScope ["x"] ["x"] (defScope s_f_law_is_int) := ⟨rfl, rfl, rfl, by decide +kernel, rfl, by decide +kernel, by decide +kernel⟩
theorem ok_f_law_is_int (M : Mg mg) (A : All P w K mg base cl k T) (F : Fun K "_law_is_int" "_law_is_int" s_f_law_is_int f fd) : FnOk P w K mg base CX0 (k + 1) f fd ["x"] (spD K cl 1 0 (fn_f_law_is_int T)) :=
  fn_ok F sc_f_law_is_int (by decide) fun cdv A' outer s H E hr => by
    have nd := sc_f_law_is_int.nd
    exact (b_one (st_ret (d_and (d_isi .int M.isinstance M.int (d_var 0)) (d_one (d_not (d_isi .bool M.isinstance M.bool (d_var 0)))))))
theorem sc_f_law_same : FnScope ["x", "y", "k"] ["x", "y"] (defScope s_f_law_same) := ⟨rfl, rfl, rfl, by decide +kernel, rfl, by decide +kernel, by decide +kernel⟩
theorem ok_f_law_same (M : Mg mg) (A : All P w K mg base cl k T) (F : Fun K "_law_same" "_law_same" s_f_law_same f fd) : FnOk P w K mg base CX0 (k + 1) f fd ["x", "y"] (spD K cl 2 0 (fn_f_law_same T)) :=
  fn_ok F sc_f_law_same (by decide) fun cdv A' outer s H E hr => by
    have nd := sc_f_law_same.nd
    exact (b_cons (st_if (t_tru (d_isi .tuple M.isinstance M.tuple (d_var 1))) (b_cons (st_if (t_w (w_or (t_not (t_tru (d_isi .tuple M.isinstance M.tuple (d_var 0)))) (w_or1 (t_cmp (o_ne (hu64 hr)) (d_callB c_len M.len (a_cons (d_var 0) a_nil)) (d_callB c_len M.len (a_cons (d_var 1) a_nil)) (nomark _))))) (b_one (st_ret d_bl)) b_nil)
    (b_one (st_ret (d_callB (c_all rfl) M.all (a_cons (d_lc rfl nd (i_range1 M.range (a_cons (d_callB c_len M.len (a_cons (d_var 1) a_nil)) a_nil)) (blkOk_by (own := [("k", 2)]) (by kernel_rfl)) (g := (gName 2)) g_nm (fun _ _ _ _ _ => (pg_name (i := 2) nd rfl (by first | exact Or.inl rfl | exact Or.inr rfl))) (fun _ _ _ _ _ => ts_nil) (fun _ _ _ _ _ => (d_call A.f_law_same hr pass0 (aCons_len (aCons_len aNil_len)) (a_cons (d_at (hu64 hr) (d_var 0) (d_var 2)) (a_cons (d_at (hu64 hr) (d_var 1) (d_var 2)) a_nil))))) a_nil))))) b_nil)
    (b_cons (st_if (t_tru (d_isi .str M.isinstance M.str (d_var 1))) (b_one (st_ret (d_and (d_isi .str M.isinstance M.str (d_var 0)) (d_one (d_cmp (o_eq (hu64 hr)) (d_var 0) (d_var 1) (nomark _)))))) b_nil)
    (b_one (st_ret (d_and (d_call A.f_law_is_int hr pass0 (aCons_len aNil_len) (a_cons (d_var 0) a_nil)) (d_one (d_cmp (o_eq (hu64 hr)) (d_var 0) (d_var 1) (nomark _))))))))
theorem sc_f_law_rows_in : FnScope ["size", "table", "whole", "rows", "first", "item", "rest"] ["size"] (defScope s_f_law_rows_in) := ⟨rfl, rfl, rfl, by decide +kernel, rfl, by decide +kernel, by decide +kernel⟩
theorem ok_f_law_rows_in (M : Mg mg) (A : All P w K mg base cl k T) (F : Fun K "_law_rows_in" "_law_rows_in" s_f_law_rows_in f fd) : FnOk P w K mg base CX0 (k + 1) f fd ["size"] (spD K cl 1 0 (fn_f_law_rows_in T)) :=
  fn_ok F sc_f_law_rows_in (by decide) fun cdv A' outer s H E hr => by
    have nd := sc_f_law_rows_in.nd
    exact (b_cons (st_newL 1 nd (a_cons (d_lst (a_cons (d_tup a_nil) a_nil)) a_nil))
    (b_cons (st_for PassesOwn.never rfl (i_range2 M.range (a_cons d_int (a_cons (d_bin o_add (d_var 0) d_int) a_nil))) (g := (gName 2)) (vs := [2]) (pg_name (i := 2) nd rfl (by first | exact Or.inl rfl | exact Or.inr rfl)) g_nm (b_cons (st_set 3 nd (d_lst a_nil))
    (b_cons (st_for PassesOwn.never rfl (i_range1 M.range (a_cons (d_var 2) a_nil)) (g := (gName 4)) (vs := [4]) (pg_name (i := 4) nd rfl (by first | exact Or.inl rfl | exact Or.inr rfl)) g_nm (b_one (st_for PassesOwn.never rfl (i_seq (d_sl s_sl (d_lst (a_cons (d_var 4) (a_cons (d_un o_neg (d_var 4)) a_nil))) o_none (o_some (d_bin o_add d_int (d_callTy c_int M.int (a_cons (d_cmp o_gt (d_var 4) d_int (nomark _)) a_nil)))))) (g := (gName 5)) (vs := [5]) (pg_name (i := 5) nd rfl (by first | exact Or.inl rfl | exact Or.inr rfl)) g_nm (b_one (st_set 3 nd (d_bin o_add (d_var 3) (d_lc rfl nd (i_seq (d_at (hu64 hr) (d_var 1) (d_bin o_sub (d_bin o_sub (d_var 2) d_int) (d_var 4)))) (blkOk_by (own := [("rest", 6)]) (by kernel_rfl)) (g := (gName 6)) g_nm (fun _ _ _ _ _ => (pg_name (i := 6) nd rfl (by first | exact Or.inl rfl | exact Or.inr rfl))) (fun _ _ _ _ _ => ts_nil) (fun _ _ _ _ _ => (d_bin o_add (d_tup (a_cons (d_var 5) a_nil)) (d_var 6))))))))))
    (b_one (st_expr (d_mutL PySem.F.slot_list_append PySem.F.type_list_append m_app (d_var 1) (a_cons (d_var 3) a_nil)))))))
    (b_one (st_ret (d_var 1)))))
theorem sc_f_law_row : FnScope ["state", "most", "k"] ["state", "most"] (defScope s_f_law_row) := ⟨rfl, rfl, rfl, by decide +kernel, rfl, by decide +kernel, by decide +kernel⟩
theorem ok_f_law_row (M : Mg mg) (A : All P w K mg base cl k T) (F : Fun K "_law_row" "_law_row" s_f_law_row f fd) : FnOk P w K mg base CX0 (k + 1) f fd ["state", "most"] (spD K cl 2 1 (fn_f_law_row T)) :=
  fn_ok F sc_f_law_row (by decide) fun cdv A' outer s H E hr => by
    have nd := sc_f_law_row.nd
    exact (b_one (st_ret (d_callTy c_tuple M.tuple (a_cons (d_lc rfl nd (i_range1 M.range (a_cons (d_call A.f_law_draw hr pass0 (aCons_len (aCons_len aNil_len)) (a_cons (d_var 0) (a_cons (d_bin o_add (d_var 1) d_int) a_nil))) a_nil)) (blkOk_by (own := [("k", 2)]) (by kernel_rfl)) (g := (gName 2)) g_nm (fun _ _ _ _ _ => (pg_name (i := 2) nd rfl (by first | exact Or.inl rfl | exact Or.inr rfl))) (fun _ _ _ _ _ => ts_nil) (fun _ _ _ _ _ => (d_bin o_sub (d_call A.f_law_draw hr pass0 (aCons_len (aCons_len aNil_len)) (a_cons (d_var 0) (a_cons d_int a_nil))) d_int))) a_nil))))
theorem sc_f_law_size_of : FnScope ["row", "item"] ["row"] (defScope s_f_law_size_of) := ⟨rfl, rfl, rfl, by decide +kernel, rfl, by decide +kernel, by decide +kernel⟩
theorem ok_f_law_size_of (M : Mg mg) (A : All P w K mg base cl k T) (F : Fun K "_law_size_of" "_law_size_of" s_f_law_size_of f fd) : FnOk P w K mg base CX0 (k + 1) f fd ["row"] (spD K cl 1 0 (fn_f_law_size_of T)) :=
  fn_ok F sc_f_law_size_of (by decide) fun cdv A' outer s H E hr => by
    have nd := sc_f_law_size_of.nd
    exact (b_one (st_ret (d_bin o_add (d_callB c_len M.len (a_cons (d_var 0) a_nil)) (d_callB (c_sum rfl) M.sum (a_cons (d_lc rfl nd (i_seq (d_var 0)) (blkOk_by (own := [("item", 1)]) (by kernel_rfl)) (g := (gName 1)) g_nm (fun _ _ _ _ _ => (pg_name (i := 1) nd rfl (by first | exact Or.inl rfl | exact Or.inr rfl))) (fun _ _ _ _ _ => ts_nil) (fun _ _ _ _ _ => (d_callB c_abs M.abs (a_cons (d_var 1) a_nil)))) a_nil)))))
theorem sc_f_law_distinct : FnScope ["rows", "found", "row"] ["rows"] (defScope s_f_law_distinct) := ⟨rfl, rfl, rfl, by decide +kernel, rfl, by decide +kernel, by decide +kernel⟩
theorem ok_f_law_distinct (M : Mg mg) (A : All P w K mg base cl k T) (F : Fun K "_law_distinct" "_law_distinct" s_f_law_distinct f fd) : FnOk P w K mg base CX0 (k + 1) f fd ["rows"] (spD K cl 1 0 (fn_f_law_distinct T)) :=
  fn_ok F sc_f_law_distinct (by decide) fun cdv A' outer s H E hr => by
    have nd := sc_f_law_distinct.nd
    exact (b_cons (st_newL 1 nd a_nil)
    (b_cons (st_for PassesOwn.never rfl (i_seq (d_callB (c_else c_sorted c_sortR) M.sorted (a_cons (d_var 0) a_nil))) (g := (gName 2)) (vs := [2]) (pg_name (i := 2) nd rfl (by first | exact Or.inl rfl | exact Or.inr rfl)) g_nm (b_one (st_if (t_w (w_or (t_cmp (o_eq (hu64 hr)) (d_var 1) (d_lst a_nil) (nomark _)) (w_or1 (t_cmp (o_ne (hu64 hr)) (d_at (hu64 hr) (d_var 1) (d_un o_neg d_int)) (d_var 2) (nomark _))))) (b_one (st_expr (d_mutL PySem.F.slot_list_append PySem.F.type_list_append m_app (d_var 1) (a_cons (d_var 2) a_nil)))) b_nil)))
    (b_one (st_ret (d_var 1)))))
theorem sc_law : FnScope ["script", "state", "size", "told", "row", "many", "k", "item", "first"] ["script"] (defScope s_law) := ⟨rfl, rfl, rfl, by decide +kernel, rfl, by decide +kernel, by decide +kernel⟩
theorem ok_law (M : Mg mg) (A : All P w K mg base cl k T) (F : Fun K "law" "law" s_law f fd) : FnOk P w K mg base CX0 (k + 1) f fd ["script"] (spD K cl 1 0 (fn_law T)) :=
  fn_ok F sc_law (by decide) fun cdv A' outer s H E hr => by
    have nd := sc_law.nd
    exact (b_cons (st_callO 1 nd A.f_law_start hr pass0 (aCons_len aNil_len) (a_cons (d_var 0) a_nil))
    (b_cons (st_set 2 nd (d_call A.f_law_draw hr pass0 (aCons_len (aCons_len aNil_len)) (a_cons (d_var 1) (a_cons d_int a_nil))))
    (b_cons (st_set 3 nd (d_call A.rows_of_size hr pass0 (aCons_len aNil_len) (a_cons (d_var 2) a_nil)))
    (b_cons (st_if (t_not (t_tru (d_call A.f_law_same hr pass0 (aCons_len (aCons_len aNil_len)) (a_cons (d_var 3) (a_cons (d_callTy c_tuple M.tuple (a_cons (d_at (hu64 hr) (d_call A.f_law_rows_in hr pass0 (aCons_len aNil_len) (a_cons (d_var 2) a_nil)) (d_var 2)) a_nil)) a_nil))))) (b_one (st_ret d_bl)) b_nil)
    (b_cons (st_set 4 nd (d_call A.f_law_row hr pass0 (aCons_len (aCons_len aNil_len)) (a_cons (d_var 1) (a_cons d_int a_nil))))
    (b_cons (st_if (t_cmp o_le (d_bin o_add (d_callB c_len M.len (a_cons (d_var 4) a_nil)) (d_callB (c_sum rfl) M.sum (a_cons (d_lc rfl nd (i_seq (d_var 4)) (blkOk_by (own := [("item", 7)]) (by kernel_rfl)) (g := (gName 7)) g_nm (fun _ _ _ _ _ => (pg_name (i := 7) nd rfl (by first | exact Or.inl rfl | exact Or.inr rfl))) (fun _ _ _ _ _ => ts_nil) (fun _ _ _ _ _ => (d_callB c_abs M.abs (a_cons (d_var 7) a_nil)))) a_nil))) d_int (nomark _)) (b_one (st_if (t_cmp (o_notIn (hu65 hr)) (d_var 4) (d_call A.rows_of_size hr pass0 (aCons_len aNil_len) (a_cons (d_call A.f_law_size_of hr pass0 (aCons_len aNil_len) (a_cons (d_var 4) a_nil)) a_nil)) rfl) (b_one (st_ret d_bl)) b_nil)) b_nil)
    (b_cons (st_newL 5 nd (a_cons d_int (a_cons d_int a_nil)))
    (b_cons (st_for PassesOwn.never rfl (i_range2 M.range (a_cons d_int (a_cons (d_bin o_add (d_var 2) d_int) a_nil))) (g := (gName 6)) (vs := [6]) (pg_name (i := 6) nd rfl (by first | exact Or.inl rfl | exact Or.inr rfl)) g_nm (b_one (st_expr (d_mutL PySem.F.slot_list_append PySem.F.type_list_append m_app (d_var 5) (a_cons (d_callB (c_sum rfl) M.sum (a_cons (d_lc rfl nd (i_range1 M.range (a_cons (d_var 6) a_nil)) (blkOk_by (own := [("first", 8)]) (by kernel_rfl)) (g := (gName 8)) g_nm (fun _ _ _ _ _ => (pg_name (i := 8) nd rfl (by first | exact Or.inl rfl | exact Or.inr rfl))) (fun _ _ _ _ _ => ts_nil) (fun _ _ _ _ _ => (d_bin o_mul (d_at (hu64 hr) (d_var 5) (d_bin o_sub (d_bin o_sub (d_var 6) d_int) (d_var 8))) (d_bin o_add d_int (d_callTy c_int M.int (a_cons (d_cmp o_gt (d_var 8) d_int (nomark _)) a_nil)))))) a_nil)) a_nil)))))
    (b_cons (st_if (t_w (w_or (t_cmp (o_ne (hu64 hr)) (d_callB c_len M.len (a_cons (d_var 3) a_nil)) (d_at (hu64 hr) (d_var 5) (d_var 2)) (nomark _)) (w_or1 (t_cmp (o_ne (hu64 hr)) (d_callB c_len M.len (a_cons (d_call A.f_law_distinct hr pass0 (aCons_len aNil_len) (a_cons (d_var 3) a_nil)) a_nil)) (d_callB c_len M.len (a_cons (d_var 3) a_nil)) (nomark _))))) (b_one (st_ret d_bl)) b_nil)
    (b_one (st_ret (d_callB (c_all rfl) M.all (a_cons (d_lc rfl nd (i_seq (d_var 3)) (blkOk_by (own := [("row", 4)]) (by kernel_rfl)) (g := (gName 4)) g_nm (fun _ _ _ _ _ => (pg_name (i := 4) nd rfl (by first | exact Or.inl rfl | exact Or.inr rfl))) (fun _ _ _ _ _ => ts_nil) (fun _ _ _ _ _ => (d_cmp (o_eq (hu64 hr)) (d_call A.f_law_size_of hr pass0 (aCons_len aNil_len) (a_cons (d_var 4) a_nil)) (d_var 2) (nomark _)))) a_nil)))))))))))))
end
/-- where a def stands -/
def FnAt (K : PySem.W.Frag) (mg : Str → Option Value) (x : Str) (st : Stmt) (ps : List Str) : Prop := ∃ (f : Addr) (fd : FuncData), mg x = some (.ref f) ∧ Fun K x x st f fd ∧ Binds K fd ps []
structure Tops (K : PySem.W.Frag) (mg : Str → Option Value) : Prop where
  items_of_size : FnAt K mg "items_of_size" s_items_of_size ["size"]
  rows_up_to : FnAt K mg "rows_up_to" s_rows_up_to ["size"]
  rows_of_size : FnAt K mg "rows_of_size" s_rows_of_size ["size"]
  f_law_start : FnAt K mg "_law_start" s_f_law_start ["script"]
  f_law_draw : FnAt K mg "_law_draw" s_f_law_draw ["state", "most"]
  f_law_is_int : FnAt K mg "_law_is_int" s_f_law_is_int ["x"]
  f_law_same : FnAt K mg "_law_same" s_f_law_same ["x", "y"]
  f_law_rows_in : FnAt K mg "_law_rows_in" s_f_law_rows_in ["size"]
  f_law_row : FnAt K mg "_law_row" s_f_law_row ["state", "most"]
  f_law_size_of : FnAt K mg "_law_size_of" s_f_law_size_of ["row"]
  f_law_distinct : FnAt K mg "_law_distinct" s_f_law_distinct ["rows"]
  law : FnAt K mg "law" s_law ["script"]
section
variable {P : Program} {w : World} {K : PySem.W.Frag} {mg : Str → Option Value} {base : Heap} {cl : String → Option Addr}
theorem all_zero (t : Tops K mg) : All P w K mg base cl 0 (tab 0) where
  items_of_size := by obtain ⟨f, fd, h1, h2, h3⟩ := t.items_of_size; exact ⟨f, fd, h1, h2.kp, h3, fn_none⟩
  rows_up_to := by obtain ⟨f, fd, h1, h2, h3⟩ := t.rows_up_to; exact ⟨f, fd, h1, h2.kp, h3, fn_none⟩
  rows_of_size := by obtain ⟨f, fd, h1, h2, h3⟩ := t.rows_of_size; exact ⟨f, fd, h1, h2.kp, h3, fn_none⟩
  f_law_start := by obtain ⟨f, fd, h1, h2, h3⟩ := t.f_law_start; exact ⟨f, fd, h1, h2.kp, h3, fn_noneO⟩
  f_law_draw := by obtain ⟨f, fd, h1, h2, h3⟩ := t.f_law_draw; exact ⟨f, fd, h1, h2.kp, h3, fn_none⟩
  f_law_is_int := by obtain ⟨f, fd, h1, h2, h3⟩ := t.f_law_is_int; exact ⟨f, fd, h1, h2.kp, h3, fn_none⟩
  f_law_same := by obtain ⟨f, fd, h1, h2, h3⟩ := t.f_law_same; exact ⟨f, fd, h1, h2.kp, h3, fn_none⟩
  f_law_rows_in := by obtain ⟨f, fd, h1, h2, h3⟩ := t.f_law_rows_in; exact ⟨f, fd, h1, h2.kp, h3, fn_none⟩
  f_law_row := by obtain ⟨f, fd, h1, h2, h3⟩ := t.f_law_row; exact ⟨f, fd, h1, h2.kp, h3, fn_none⟩
  f_law_size_of := by obtain ⟨f, fd, h1, h2, h3⟩ := t.f_law_size_of; exact ⟨f, fd, h1, h2.kp, h3, fn_none⟩
  f_law_distinct := by obtain ⟨f, fd, h1, h2, h3⟩ := t.f_law_distinct; exact ⟨f, fd, h1, h2.kp, h3, fn_none⟩
  law := by obtain ⟨f, fd, h1, h2, h3⟩ := t.law; exact ⟨f, fd, h1, h2.kp, h3, fn_none⟩
theorem all_step (M : Mg mg) (t : Tops K mg) {k : Nat} (A : All P w K mg base cl k (tab k)) : All P w K mg base cl (k + 1) (tab (k + 1)) where
  items_of_size := by obtain ⟨f, fd, h1, h2, h3⟩ := t.items_of_size; exact ⟨f, fd, h1, h2.kp, h3, ok_items_of_size M A h2⟩
  rows_up_to := by obtain ⟨f, fd, h1, h2, h3⟩ := t.rows_up_to; exact ⟨f, fd, h1, h2.kp, h3, ok_rows_up_to M A h2⟩
  rows_of_size := by obtain ⟨f, fd, h1, h2, h3⟩ := t.rows_of_size; exact ⟨f, fd, h1, h2.kp, h3, ok_rows_of_size M A h2⟩
  f_law_start := by obtain ⟨f, fd, h1, h2, h3⟩ := t.f_law_start; exact ⟨f, fd, h1, h2.kp, h3, ok_f_law_start M A h2⟩
  f_law_draw := by obtain ⟨f, fd, h1, h2, h3⟩ := t.f_law_draw; exact ⟨f, fd, h1, h2.kp, h3, ok_f_law_draw M A h2⟩
  f_law_is_int := by obtain ⟨f, fd, h1, h2, h3⟩ := t.f_law_is_int; exact ⟨f, fd, h1, h2.kp, h3, ok_f_law_is_int M A h2⟩
  f_law_same := by obtain ⟨f, fd, h1, h2, h3⟩ := t.f_law_same; exact ⟨f, fd, h1, h2.kp, h3, ok_f_law_same M A h2⟩
  f_law_rows_in := by obtain ⟨f, fd, h1, h2, h3⟩ := t.f_law_rows_in; exact ⟨f, fd, h1, h2.kp, h3, ok_f_law_rows_in M A h2⟩
  f_law_row := by obtain ⟨f, fd, h1, h2, h3⟩ := t.f_law_row; exact ⟨f, fd, h1, h2.kp, h3, ok_f_law_row M A h2⟩
  f_law_size_of := by obtain ⟨f, fd, h1, h2, h3⟩ := t.f_law_size_of; exact ⟨f, fd, h1, h2.kp, h3, ok_f_law_size_of M A h2⟩
  f_law_distinct := by obtain ⟨f, fd, h1, h2, h3⟩ := t.f_law_distinct; exact ⟨f, fd, h1, h2.kp, h3, ok_f_law_distinct M A h2⟩
  law := by obtain ⟨f, fd, h1, h2, h3⟩ := t.law; exact ⟨f, fd, h1, h2.kp, h3, ok_law M A h2⟩
theorem all (M : Mg mg) (t : Tops K mg) : ∀ k : Nat, All P w K mg base cl k (tab k)
  | 0 => all_zero t
  | k + 1 => all_step M t (all M t k)
end
theorem fnAt_mk {K : PySem.W.Frag} {mg : Str → Option Value} {h : Heap} {x : Str} {st : Stmt} {ps : List Str} {f : Addr} {oc : Value} {od an : Option Addr} {sl : Array (Option Value)} {kV dc pm cd ct : Value} (X : K.In h) (Gn : h.Ns mainGlobals mg)
    (a : PySem.W.nsIn K mainGlobals x = some (some (.ref f))) (l : K.lookup f = some ⟨oc, od, .func (PySem.W.fnOf x x (defArgs st) (defBody st) (defScope st) .none kV dc pm an cd ct), sl⟩) (c : PySem.W.codeIn K cd x = true) (kp : PySem.W.keepIn K (.ref f) = true)
    (hb : ∀ (kV doc pm : Value) (an : Option Addr) (cdv ct : Value) (us : List Value), us.length = ps.length → bindArgs (PySem.W.fnOf x x (defArgs st) (defBody st) (defScope st) .none kV doc pm an cdv ct) ⟨us, []⟩ = pure (ps.zip us)) : FnAt K mg x st ps := by
  have F := fun_mk (st := st) l c kp
  exact ⟨f, _, PySem.W.mg_of X Gn a, F, F.binds hb⟩
/-- the law's promise, where its meaning is known -/
theorem law_sp {K : PySem.W.Frag} {cl : String → Option Addr} {n : Nat} (hl : ∀ ns : List Int, ns.length ≤ 63 → (tab n).law [.scr ns] = some (.ok (.bl true), [])) (H : Hp) (a : Addr) (ns : List Int) (h63 : ns.length ≤ 63) (hS : SqL K H a (ns.map V.int)) (E : XK) : spD K cl 1 0 (tab n).law [.ref a] H (fun v _ => v = .bl true) E := by
  refine ⟨rfl, H, [], [], [.ref a], [.scr ns], .bl true, [], rfl, rfl, List.nodup_nil, .nil, by simp, .cons (.scr hS (Nat.le_trans h63 (by decide))) .nil, Same.refl _, hl ns h63, fun v G' H' _ _ _ _ _ R => ?_⟩
  cases R
  rfl
theorem at_law {l : PySem.W.OpenLaw} {w : World} {K : PySem.W.Frag} {mg : Str → Option Value} {fa : Addr} {cl : String → Option Addr} (hfa : mg "law" = some (.ref fa)) (M : Mg mg) (t : Tops K mg) (k : Nat) :
    ∃ fd : FuncData, (∀ (s : Shared) (v : Value), BindsTo s fd ⟨[v], []⟩ [("script", v)]) ∧ ∀ base : Heap, K.In base → base.Ns mainGlobals mg → FnOk l.prog w K mg base CX0 (k + 1) fa fd ["script"] (spD K cl 1 0 (tab (k + 1)).law) := by
  obtain ⟨f, fd, h1, h2, _⟩ := t.law
  have e := hfa.symm.trans h1
  cases e
  refine ⟨fd, fun s v => ?_, fun base _ _ => ok_law M (all M t k) h2⟩
  obtain ⟨oc, od, kV, doc, pm, an, cdv, ct, osl, rfl, _⟩ := h2.ex
  exact .of_eq rfl
theorem walk {l : PySem.W.OpenLaw} {q : Program} {loose : List Str} {XP : (Str → Option Value) → Heap → Prop} {YP : World → Heap → Prop} {d : DefRec} {K : Params → PySem.W.Frag} (k : Nat) (hr : Room (k + 1) callerA) (hl : ∀ ns : List Int, ns.length ≤ 63 → (tab (k + 1)).law [.scr ns] = some (.ok (.bl true), []))
    (hn : l.most = some 63) (hdf : d.params.defaults = []) (hd : d.name = "law") (hY : ∀ (w : World) (h : Heap), YP w h → (K w.params).In h)
    (F : ∀ (w : World) (mg : Str → Option Value) (h : Heap), (K w.params).In h → h.Ns mainGlobals mg → Mg mg ∧ Tops (K w.params) mg) : PySem.W.WalkO q loose XP YP l.row.toRowW d [] (fun f vs => PySem.call f vs) :=
  L2.walk_of (n := 63) (k := k + 1) (x := "script") (CX := fun _ => CX0) (sp := fun w => spD (K w.params) (fun _ => none) 1 0 (tab (k + 1)).law) hn (by decide) hdf hr hY (fun w mg fa h KX Gn hfa => by
    obtain ⟨M, t⟩ := F w mg h KX Gn
    exact at_law (by rw [← hd]; exact hfa) M t k) (fun w H a ns h1 _ h3 => law_sp hl H a ns h1 h3 _) fun _ _ _ _ _ z => z
end G

namespace G
open PySem L2 DL
local macro_rules | `(tactic| walk_at "dl") => `(tactic| simp only [↓wp_body, ↓wp_bodyO, ↓wp_seq, ↓wp_sIf, ↓wp_sRet, ↓wp_sRetN, ↓wp_sRetO, ↓wp_sRetL, ↓wp_sSet, ↓wp_sNewL, ↓wp_callO, ↓wp_call, ↓wp_sAug, ↓wp_sPar, ↓wp_sUnp, ↓wp_sStore, ↓wp_eMutL, ↓wp_srcSeq, ↓wp_srcRg, ↓wp_srcZip, ↓wp_sSkip, ↓wp_sBrk, ↓wp_sDrop, ↓wp_sFor,
  ↓wp_C, ↓wp_eBin, ↓wp_eUn, ↓wp_eRev, ↓wp_bVal, ↓wp_bTru, ↓wp_bNot, ↓wp_bAnd, ↓wp_bOr, ↓wp_bYes, ↓wp_eAnd, ↓wp_eOr, ↓wp_eNot, ↓wp_eIf, ↓wp_aNil, ↓wp_aCons, ↓wp_eTup, ↓wp_eLst, ↓wp_eCB, ↓wp_eIsi, ↓wp_oNone, ↓wp_oSome, ↓wp_eSl, ↓wp_eLstR1, ↓wp_eChain, ↓wp_lc,
  ↓wp_some, ↓wp_peeks, ↓wp_escs, ↓wp_lent, ↓wp_giveBack, ↓wp_gave, ↓wp_objAt, ↓wp_listAt, ↓wp_mutAt, seqK_nx, seqK_rt, seqK_ro, seqK_bk, seqK_ct, endK_rt, endK_nx, endO_ro, callK_ok, callOK_ok, turnK_nx, midK_nx, midK_rt, midK_bk, midK_ct, turnK_rt, iteP_t, iteP_f, asI_int, asB_bl, chainK_bl,
  eVar_at, varR_val, varR_own, varR_lck, peek_val, peek_ref, peekS_val, peekS_own, peekS_lck, peeks_nil, esc_val, esc_ref, escR_own, escR_val, escs_nil, ownS_own, lent_nil, places_nil, places_ref, giveBack_nil, gaveS_own, gave_nil, lend_nil, lend_val, lend_own, isLs_list, srcOf_at, srcS_own, srcS_lck, srcS_list, srcS_tup, sorted_ints, srcOf_list, srcOf_tup, unlk_none, unlk_some, unlkS_lck, unlkF_nx, unlkF_rt, intAt_S, intS_val, ownAt_ref, ownO_own, tNm_ok,
  add_int, add_tup, add_list, add_str, sub_int, mul_int, fdv_int, mod_int, pow_int, neg_int, lt_int, le_int, gt_int, ge_int, eq_int, ne_int, eq_self, eq_str, ne_str, is_bl, is_non, at_list, at_tup, atI_0, atI_1, atI_2, atI_3, DL.sl_tup, DL.sl_list, DL.sl_str, rev_tup, rev_list, len_list, len_tup, len_str, len_scr, abs_int, int_int, tuple_list, tuple_tup, list_list, list_tup, list_scr, min_int, max_int, str_int, app_list, ext_list, sum_ints, int_bl, ins_list, store_0, store_1, store_2, store_3, rg1_int, rg2_int, zip_tup, zip_list, tru_bl, isT_int, isT_str, isT_tup, isT_list, DL.isNon,
  List.getElem?_cons_zero, List.getElem?_cons_succ, List.set_cons_zero, List.set_cons_succ, List.cons_append, List.nil_append, List.length_cons, List.length_nil, List.reduceReplicate, List.take_succ_cons, List.take_zero, List.drop_succ_cons, List.drop_zero, List.take_nil, List.drop_nil, List.append_nil,
  Nat.reduceAdd, Nat.reduceSub, Int.reduceAdd, Int.reduceSub, Int.reduceMul, Int.reduceLT, Int.reduceLE, Int.reduceGT, Int.reduceEq, Int.reduceNeg, Int.reducePow, Int.reduceToNat, Nat.reduceLT, Nat.reducePow, cm_l, cm_r, ok62_of, ↓tTp_ok, ↓wp_tsCons, tsNil_ok, wipeE_nil, wipeE_cons, restE_nil, restE_cons, plainE_nil, plainE_cons, plainS_emp, plainS_val, Bool.and_self, Bool.and_true, List.getD_cons_zero, List.getD_cons_succ, cut_1, all_map, any_map, sz_le, sz_lt, fits_nil, fits_cons, Nat.reduceLeDiff, Nat.zero_add, lo_small, Int.zero_add, List.length_map, Int.natCast_add, Int.cast_ofNat_Int, decide_true, decide_false, Bool.not_true, Bool.not_false, List.nodup_cons, List.nodup_nil, List.not_mem_nil, not_false_eq_true, and_self, and_true, true_and, true_implies, reduceCtorEq, List.mem_cons, or_false, iteP_dec, iteP_not])
/-- the state of the draws -/
def St (s : D) : Prop := ∃ (L : List Int) (a c t : Int), s = .list [.list (L.map .int), .int a, .int c, .int t]
def DrawOk (f : Fn) : Prop := ∀ s m (Q : Rs × List D → Prop), St s → 0 < m → m < 2 ^ 60 → (∀ v s', St s' → 0 ≤ v → v < m → Q (.ok (.int v), [s'])) → wq (f [s, .int m]) Q
theorem draw_ok (T : Tab) : DrawOk (fn_f_law_draw T) := by
  rintro s m Q ⟨L, a, c, t, rfl⟩ h1 h2 hQ
  have lg : LogOk m := by rw [lo_small (by omega) (by omega)]; trivial
  have fin : ∀ (x a c t : Int), Q (.ok (.int (x % m)), [.list [.list (L.map .int), .int a, .int c, .int t]]) := fun x a c t => hQ _ _ ⟨L, a, c, t, rfl⟩ (Int.emod_nonneg _ (by omega)) (Int.emod_lt_of_pos _ h1)
  rw [fn_f_law_draw, b_f_law_draw]
  walk_at "dl"
  refine ⟨fun _ => ⟨h1, ⟨h1, lg⟩, fin _ _ _ _⟩, fun _ => ⟨fun h => ?_, fun h => ?_⟩⟩
  · refine ⟨h, ?_⟩
    obtain ⟨n, hn⟩ : ∃ n : Nat, a % (L.length : Int) = n := ⟨(a % (L.length : Int)).toNat, by have := Int.emod_nonneg a (b := (L.length : Int)) (by omega); omega⟩
    have hl : n < L.length := by have := Int.emod_lt_of_pos a h; omega
    rw [atI_of (n := n) (d := .int L[n]) (by simp [hl]) hn]
    walk_at "dl"
    exact ⟨fun _ => ⟨⟨h1, lg⟩, h1, fin _ _ _ _⟩, fun _ => ⟨h1, fin _ _ _ _⟩⟩
  · exact ⟨h1, fin _ _ _ _⟩
def StartOk (f : Fn) : Prop := ∀ (ns : List Int) (Q : Rs × List D → Prop), (∀ s, St s → Q (.ok s, [])) → wq (f [.scr ns]) Q
theorem start_ok (T : Tab) : StartOk (fn_f_law_start T) := by
  intro ns Q hQ
  rw [fn_f_law_start, b_f_law_start]
  walk_at "dl"
  exact hQ _ ⟨ns, 0, 0, 0, rfl⟩
/-- plain data, of a size -/
inductive Pl (n : Nat) : D → Prop
  | int {i : Int} : i.natAbs ≤ n → Pl n (.int i)
  | str {x : Str} : x.length ≤ n → Pl n (.str x)
  | tup {ds : List D} : ds.length ≤ n → (∀ d ∈ ds, Pl n d) → Pl n (.tup ds)
def isI : D → Bool
  | .int _ => true
  | _ => false
def IntOk (f : Fn) : Prop := ∀ n d (Q : Rs × List D → Prop), Pl n d → Q (.ok (.bl (isI d)), []) → wq (f [d]) Q
theorem lint_ok (T : Tab) : IntOk (fn_f_law_is_int T) := by
  intro n d Q hp hQ
  rw [fn_f_law_is_int, b_f_law_is_int]
  cases hp <;> (walk_at "dl"; exact hQ)
/-! same -/
inductive Dp : Nat → D → Prop
  | int {i : Int} : Dp 0 (.int i)
  | tup {k : Nat} {ds : List D} : ds.length ≤ 4096 → (∀ d ∈ ds, Dp k d) → Dp (k + 1) (.tup ds)
def SameOk (k : Nat) (f : Fn) : Prop := ∀ d (Q : Rs × List D → Prop), Dp k d → Q (.ok (.bl true), []) → wq (f [d, d]) Q
theorem same0 {T : Tab} (h : IntOk T.f_law_is_int) : SameOk 0 (fn_f_law_same T) := by
  intro d Q hd hQ
  rw [fn_f_law_same, b_f_law_same]
  cases hd with
  | int =>
    rename_i i
    walk_at "dl"
    refine h i.natAbs _ _ (.int (Nat.le_refl _)) ?_
    simp only [isI]
    walk_at "dl"
    exact hQ
theorem same1 {k : Nat} {T : Tab} (h : SameOk k T.f_law_same) : SameOk (k + 1) (fn_f_law_same T) := by
  intro d Q hd hQ
  have sz : 4096 ≤ sizeLine := by decide
  rw [fn_f_law_same, b_f_law_same]
  cases hd with
  | tup hl hd =>
    rename_i ds
    walk_at "dl"
    refine ⟨by rw [ok62_of (by omega) (by omega)]; trivial, by rw [rgD_len]; omega, ?_⟩
    refine lc_rg0 (fun _ => .bl true) (fun ρ => ∃ y, ρ = [.val (.tup ds), .val (.tup ds), y]) ⟨_, rfl⟩ ?_ ?_
    · rintro i ρ P hi ⟨y, rfl⟩ hP
      walk_at "dl"
      rw [atI_of (n := i) (d := ds[i]) (by simp [hi]) rfl]
      walk_at "dl"
      refine h _ _ (hd _ (List.getElem_mem hi)) ?_
      walk_at "dl"
      exact hP _ ⟨_, rfl⟩
    · rintro ρ ⟨y, rfl⟩
      walk_at "dl"
      rw [show (List.range ds.length).all (fun _ => true) = true by simp]
      exact hQ
/-! the rows of a size -/
def its (k : Nat) : List Int := if k = 0 then [0] else [(k : Int), -(k : Int)]
def rnext (t : List (List (List Int))) : List (List Int) := (List.range t.length).flatMap fun f => (its f).flatMap fun i => (t.getD (t.length - 1 - f) []).map (i :: ·)
def tbl : Nat → List (List (List Int))
  | 0 => [[[]]]
  | n + 1 => tbl n ++ [rnext (tbl n)]
theorem tbl_len : ∀ n, (tbl n).length = n + 1
  | 0 => rfl
  | n + 1 => by rw [tbl, List.length_append, tbl_len n]; rfl
def R (n : Nat) : List (List Int) := (tbl n).getD n []
theorem tbl_get : ∀ {m j : Nat}, j ≤ m → (tbl m)[j]? = some (R j)
  | 0, 0, _ => rfl
  | 0, j + 1, h => by omega
  | m + 1, j, h => by
    by_cases c : j = m + 1
    · subst c
      have : (tbl (m + 1))[m + 1]? = some (rnext (tbl m)) := by
        rw [tbl, List.getElem?_append_right (by rw [tbl_len]; omega), tbl_len]
        simp
      rw [this]
      unfold R
      rw [List.getD_eq_getElem?_getD, this]
      rfl
    · rw [tbl, List.getElem?_append_left (by rw [tbl_len]; omega)]
      exact tbl_get (by omega)
theorem R_next (n : Nat) : R (n + 1) = rnext (tbl n) := by
  have : (tbl (n + 1))[n + 1]? = some (rnext (tbl n)) := by
    rw [tbl, List.getElem?_append_right (by rw [tbl_len]; omega), tbl_len]
    simp
  unfold R
  rw [List.getD_eq_getElem?_getD, this]
  rfl
/-- looked at by hand, size after size -/
def rsize (r : List Int) : Int := (r.length : Int) + (r.map fun i => if i < 0 then -i else i).sum
def lookB : Bool := (List.range 8).all fun n => decide ((R n).length ≤ 300) && (R n).all (fun r => decide (rsize r = n) && decide (r.length ≤ 7) && r.all fun i => decide (i.natAbs ≤ 7)) && decide (R n).Nodup && (decide ((R n).length < 2) || (R n).all fun r => !r.isEmpty)
theorem look_ok : lookB = true := by decide +kernel
def manyB : Bool := (List.range 8).all fun k => decide (k < 2) || decide (((List.range k).map fun f => ((R (k - 1 - f)).length : Int) * (1 + if 0 < f then 1 else 0)).sum = (R k).length)
theorem many_ok : manyB = true := by decide +kernel
def lsD (rs : List (List Int)) : D := .list (rs.map rowD)
/-- the part of R (k + 1) whose rows begin with an item below f -/
def G1 (k f : Nat) : List (List Int) := (its f).flatMap fun i => (R (k - f)).map (i :: ·)
def part (k f : Nat) : List (List Int) := (List.range f).flatMap (G1 k)
theorem R_part (k : Nat) : R (k + 1) = part k (k + 1) := by
  rw [R_next]
  unfold rnext part G1
  rw [tbl_len, List.flatMap_def, List.flatMap_def]
  congr 1
  refine List.map_congr_left fun f hf => ?_
  rw [List.mem_range] at hf
  have : (tbl k).getD (k + 1 - 1 - f) [] = R (k - f) := by
    rw [List.getD_eq_getElem?_getD, show k + 1 - 1 - f = k - f by omega, tbl_get (by omega)]
    rfl
  rw [this]
theorem part_succ (k f : Nat) : part k (f + 1) = part k f ++ G1 k f := by
  unfold part
  rw [List.range_succ, List.flatMap_append]
  simp
theorem part_len {k f : Nat} : ∀ {g : Nat}, f ≤ g → (part k f).length ≤ (part k g).length
  | 0, h => by
    have : f = 0 := by omega
    subst this
    omega
  | g + 1, h => by
    by_cases c : f = g + 1
    · subst c; omega
    · rw [part_succ, List.length_append]
      have := part_len (k := k) (f := f) (g := g) (by omega)
      omega
theorem look {n : Nat} (hn : n ≤ 7) : (R n).length ≤ 300 ∧ (∀ r ∈ R n, rsize r = n ∧ r.length ≤ 7 ∧ ∀ i ∈ r, i.natAbs ≤ 7) ∧ (R n).Nodup ∧ ((R n).length < 2 ∨ ∀ r ∈ R n, r ≠ []) := by
  have h := look_ok
  simp only [lookB, List.all_eq_true, List.mem_range, Bool.and_eq_true, Bool.or_eq_true, decide_eq_true_eq] at h
  obtain ⟨⟨⟨h1, h2⟩, h3⟩, h4⟩ := h n (by omega)
  refine ⟨h1, fun r hr => ⟨(h2 r hr).1.1, (h2 r hr).1.2, (h2 r hr).2⟩, h3, ?_⟩
  rcases h4 with h4 | h4
  · exact .inl h4
  · refine .inr fun r hr z => ?_
    have := h4 r hr
    subst z
    simp at this
theorem part_le {k f : Nat} (hk : k + 1 ≤ 7) (hf : f ≤ k + 1) : (part k f).length ≤ 300 := by
  have := (look hk).1
  rw [R_part] at this
  exact Nat.le_trans (part_len hf) this
theorem tbl_more {n : Nat} : (tbl (n + 1)).map lsD = (tbl n).map lsD ++ [.list ((part n (n + 1)).map rowD)] := by
  rw [show tbl (n + 1) = tbl n ++ [rnext (tbl n)] from rfl, ← R_next, R_part, List.map_append]
  rfl
/-! the program's own rows -/
def ItemsOk (f : Fn) : Prop := ∀ (k : Nat) (Q : Rs × List D → Prop), Q (.ok (.list ((its k).map .int)), []) → wq (f [.int k]) Q
theorem items_ok (T : Tab) : ItemsOk (fn_items_of_size T) := by
  intro k Q hQ
  rw [fn_items_of_size, b_items_of_size]
  walk_at "dl"
  unfold its at hQ
  refine ⟨fun h => ?_, fun h => ?_⟩
  · rw [if_pos (by omega)] at hQ
    exact hQ
  · rw [if_neg (by omega)] at hQ
    exact hQ
def consD (i : Int) : D → D
  | .tup es => .tup (.int i :: es)
  | _ => .non
theorem cons_rows (i : Int) (rs : List (List Int)) : rs.map (fun r => D.tup (.int i :: r.map .int)) = (rs.map (i :: ·)).map rowD := by
  rw [List.map_map]
  rfl
def TblOk (f : Fn) : Prop := ∀ (n : Nat) (Q : Rs × List D → Prop), n ≤ 7 → Q (.ok (.list ((tbl n).map lsD)), []) → wq (f [.int n]) Q
theorem up_ok {T : Tab} (h : ItemsOk T.items_of_size) : TblOk (fn_rows_up_to T) := by
  intro n Q hn hQ
  have sz : 4096 ≤ sizeLine := by decide
  rw [fn_rows_up_to, b_rows_up_to]
  walk_at "dl"
  refine ⟨by rw [ok62_of (by omega) (by omega)]; trivial, ?_⟩
  refine wp_rg (fun k ρ => ∃ x2 x3 x4 x5, ρ = [.val (.int n), .own none (.list ((tbl k).map lsD)), x2, x3, x4, x5, .emp]) ⟨_, _, _, _, rfl⟩ ?_ ?_
  · rintro k ρ hk ⟨x2, x3, x4, x5, rfl⟩
    have hk : k + 1 ≤ 7 := by omega
    obtain ⟨w, hw⟩ : ∃ w : Nat, w = k + 1 := ⟨_, rfl⟩
    rw [show (1 : Int) + (k : Nat) = (w : Int) by omega]
    walk_at "dl"
    refine ⟨by rw [ok62_of (by omega) (by omega)]; trivial, ?_⟩
    refine wp_rg0 (n := w) (fun f ρ => ∃ x4 x5, ρ = [.val (.int n), .own none (.list ((tbl k).map lsD)), .val (.int w), .own none (.list ((part k f).map rowD)), x4, x5, .emp]) ⟨_, _, rfl⟩ ?_ ?_
    · rintro f ρ hf ⟨x4, x5, rfl⟩
      have hp2 := part_le (f := f + 1) hk (by omega)
      walk_at "dl"
      refine h f _ ?_
      walk_at "dl"
      refine wp_forM (fun p ρ => ∃ x5, ρ = [.val (.int n), .own none (.list ((tbl k).map lsD)), .val (.int w), .own none (.list ((part k f ++ p.flatMap fun i => (R (k - f)).map (i :: ·)).map rowD)), .val (.int f), x5, .emp]) ⟨_, by rw [List.flatMap_nil, List.append_nil]⟩ ?_ ?_
      · rintro p i q ρ e ⟨x5, rfl⟩
        have hR := (look (n := k - f) (by omega))
        walk_at "dl"
        rw [atI_of (n := k - f) (d := .list ((R (k - f)).map rowD)) (by rw [List.getElem?_map, tbl_get (by omega)]; rfl) (by subst hw; omega)]
        walk_at "dl"
        refine ⟨by omega, ?_⟩
        refine lc_mapM (fun r => .tup (.int i :: r.map .int)) (fun ρ => ∃ y, ρ = [.val (.int n), .own none (.list ((tbl k).map lsD)), .val (.int w), .own none (.list ((part k f ++ p.flatMap fun i => (R (k - f)).map (i :: ·)).map rowD)), .val (.int f), .val (.int i), y]) ⟨_, rfl⟩ ?_ ?_
        · rintro r ρ P hr ⟨y, rfl⟩ hP
          rw [show rowD r = .tup (r.map .int) from rfl]
          walk_at "dl"
          have := (hR.2.1 r hr).2.1
          exact ⟨by omega, hP _ ⟨_, rfl⟩⟩
        · rintro ρ ⟨y, rfl⟩
          walk_at "dl"
          rw [cons_rows, ← List.map_append]
          refine ⟨?_, .val (.int i), ?_⟩
          · rw [part_succ, G1, e, List.length_append, List.flatMap_append, List.flatMap_cons, List.length_append, List.length_append, List.length_map] at hp2
            rw [List.length_append]
            omega
          · rw [List.flatMap_append, List.flatMap_cons, List.flatMap_nil, List.append_nil, List.append_assoc]
      · rintro ρ ⟨x5, rfl⟩
        walk_at "dl"
        refine ⟨.val (.int f), x5, ?_⟩
        rw [part_succ]
        rfl
    · rintro ρ ⟨x4, x5, rfl⟩
      walk_at "dl"
      rw [tbl_more (n := k), ← hw]
      exact ⟨by rw [tbl_len]; omega, _, _, _, _, rfl⟩
  · rintro ρ ⟨x2, x3, x4, x5, rfl⟩
    walk_at "dl"
    rw [show ((n : Int) + 1 - 1).toNat = n by omega]
    exact hQ
def RowsOkS (f : Fn) : Prop := ∀ (n : Nat) (Q : Rs × List D → Prop), n ≤ 7 → Q (.ok (.tup ((R n).map rowD)), []) → wq (f [.int n]) Q
theorem tbl_at {n : Nat} : ((tbl n).map lsD)[n]? = some (.list ((R n).map rowD)) := by
  rw [List.getElem?_map, tbl_get (Nat.le_refl n)]
  rfl
theorem ros_ok {T : Tab} (h : TblOk T.rows_up_to) : RowsOkS (fn_rows_of_size T) := by
  intro n Q hn hQ
  rw [fn_rows_of_size, b_rows_of_size]
  walk_at "dl"
  refine h n _ hn ?_
  walk_at "dl"
  rw [atI_of tbl_at rfl]
  walk_at "dl"
  exact hQ
/-! the law's own rows -/
theorem cut_its (f : Nat) : cutD [.int (f : Int), .int (-(f : Int))] none (some (1 + if decide (0 < (f : Int)) = true then 1 else 0)) = (its f).map .int := by
  unfold its
  by_cases c : f = 0
  · subst c
    rfl
  · rw [if_neg c, if_pos (by simp; omega)]
    rw [cut_take (n := 2) (by omega)]
    rfl
theorem in_ok (T : Tab) : TblOk (fn_f_law_rows_in T) := by
  intro n Q hn hQ
  have sz : 4096 ≤ sizeLine := by decide
  rw [fn_f_law_rows_in, b_f_law_rows_in]
  walk_at "dl"
  refine ⟨by rw [ok62_of (by omega) (by omega)]; trivial, ?_⟩
  refine wp_rg (fun k ρ => ∃ x2 x3 x4 x5, ρ = [.val (.int n), .own none (.list ((tbl k).map lsD)), x2, x3, x4, x5, .emp]) ⟨_, _, _, _, rfl⟩ ?_ ?_
  · rintro k ρ hk ⟨x2, x3, x4, x5, rfl⟩
    have hk : k + 1 ≤ 7 := by omega
    obtain ⟨w, hw⟩ : ∃ w : Nat, w = k + 1 := ⟨_, rfl⟩
    rw [show (1 : Int) + (k : Nat) = (w : Int) by omega]
    walk_at "dl"
    refine ⟨by rw [ok62_of (by omega) (by omega)]; trivial, ?_⟩
    refine wp_rg0 (n := w) (fun f ρ => ∃ x4 x5, ρ = [.val (.int n), .own none (.list ((tbl k).map lsD)), .val (.int w), .val (.list ((part k f).map rowD)), x4, x5, .emp]) ⟨_, _, rfl⟩ ?_ ?_
    · rintro f ρ hf ⟨x4, x5, rfl⟩
      have hp2 := part_le (f := f + 1) hk (by omega)
      walk_at "dl"
      rw [cut_its]
      refine wp_forM (fun p ρ => ∃ x5, ρ = [.val (.int n), .own none (.list ((tbl k).map lsD)), .val (.int w), .val (.list ((part k f ++ p.flatMap fun i => (R (k - f)).map (i :: ·)).map rowD)), .val (.int f), x5, .emp]) ⟨_, by rw [List.flatMap_nil, List.append_nil]⟩ ?_ ?_
      · rintro p i q ρ e ⟨x5, rfl⟩
        have hR := (look (n := k - f) (by omega))
        walk_at "dl"
        rw [atI_of (n := k - f) (d := .list ((R (k - f)).map rowD)) (by rw [List.getElem?_map, tbl_get (by omega)]; rfl) (by subst hw; omega)]
        walk_at "dl"
        refine ⟨by omega, ?_⟩
        refine lc_mapM (fun r => .tup (.int i :: r.map .int)) (fun ρ => ∃ y, ρ = [.val (.int n), .own none (.list ((tbl k).map lsD)), .val (.int w), .val (.list ((part k f ++ p.flatMap fun i => (R (k - f)).map (i :: ·)).map rowD)), .val (.int f), .val (.int i), y]) ⟨_, rfl⟩ ?_ ?_
        · rintro r ρ P hr ⟨y, rfl⟩ hP
          rw [show rowD r = .tup (r.map .int) from rfl]
          walk_at "dl"
          have := (hR.2.1 r hr).2.1
          exact ⟨by omega, hP _ ⟨_, rfl⟩⟩
        · rintro ρ ⟨y, rfl⟩
          walk_at "dl"
          rw [cons_rows, ← List.map_append]
          refine ⟨?_, .val (.int i), ?_⟩
          · rw [part_succ, G1, e, List.length_append, List.flatMap_append, List.flatMap_cons, List.length_append, List.length_append, List.length_map] at hp2
            rw [List.length_append]
            omega
          · rw [List.flatMap_append, List.flatMap_cons, List.flatMap_nil, List.append_nil, List.append_assoc]
      · rintro ρ ⟨x5, rfl⟩
        walk_at "dl"
        refine ⟨.val (.int f), x5, ?_⟩
        rw [part_succ]
        rfl
    · rintro ρ ⟨x4, x5, rfl⟩
      walk_at "dl"
      rw [tbl_more (n := k), ← hw]
      exact ⟨by rw [tbl_len]; omega, _, _, _, _, rfl⟩
  · rintro ρ ⟨x2, x3, x4, x5, rfl⟩
    walk_at "dl"
    rw [show ((n : Int) + 1 - 1).toNat = n by omega]
    exact hQ
end G

namespace G
open PySem L2 DL
local macro_rules | `(tactic| walk_at "dl") => `(tactic| simp only [↓wp_body, ↓wp_bodyO, ↓wp_seq, ↓wp_sIf, ↓wp_sRet, ↓wp_sRetN, ↓wp_sRetO, ↓wp_sRetL, ↓wp_sSet, ↓wp_sNewL, ↓wp_callO, ↓wp_call, ↓wp_sAug, ↓wp_sPar, ↓wp_sUnp, ↓wp_sStore, ↓wp_eMutL, ↓wp_srcSeq, ↓wp_srcRg, ↓wp_srcZip, ↓wp_sSkip, ↓wp_sBrk, ↓wp_sDrop, ↓wp_sFor,
  ↓wp_C, ↓wp_eBin, ↓wp_eUn, ↓wp_eRev, ↓wp_bVal, ↓wp_bTru, ↓wp_bNot, ↓wp_bAnd, ↓wp_bOr, ↓wp_bYes, ↓wp_eAnd, ↓wp_eOr, ↓wp_eNot, ↓wp_eIf, ↓wp_aNil, ↓wp_aCons, ↓wp_eTup, ↓wp_eLst, ↓wp_eCB, ↓wp_eIsi, ↓wp_oNone, ↓wp_oSome, ↓wp_eSl, ↓wp_eLstR1, ↓wp_eChain, ↓wp_lc,
  ↓wp_some, ↓wp_peeks, ↓wp_escs, ↓wp_lent, ↓wp_giveBack, ↓wp_gave, ↓wp_objAt, ↓wp_listAt, ↓wp_mutAt, seqK_nx, seqK_rt, seqK_ro, seqK_bk, seqK_ct, endK_rt, endK_nx, endO_ro, callK_ok, callOK_ok, turnK_nx, midK_nx, midK_rt, midK_bk, midK_ct, turnK_rt, iteP_t, iteP_f, asI_int, asB_bl, chainK_bl,
  eVar_at, varR_val, varR_own, varR_lck, peek_val, peek_ref, peekS_val, peekS_own, peekS_lck, peeks_nil, esc_val, esc_ref, escR_own, escR_val, escs_nil, ownS_own, lent_nil, places_nil, places_ref, giveBack_nil, gaveS_own, gave_nil, lend_nil, lend_val, lend_own, isLs_list, srcOf_at, srcS_own, srcS_lck, srcS_list, srcS_tup, sorted_ints, srcOf_list, srcOf_tup, unlk_none, unlk_some, unlkS_lck, unlkF_nx, unlkF_rt, intAt_S, intS_val, ownAt_ref, ownO_own, tNm_ok,
  add_int, add_tup, add_list, add_str, sub_int, mul_int, fdv_int, mod_int, pow_int, neg_int, lt_int, le_int, gt_int, ge_int, eq_int, ne_int, eq_self, eq_str, ne_str, is_bl, is_non, at_list, at_tup, atI_0, atI_1, atI_2, atI_3, DL.sl_tup, DL.sl_list, DL.sl_str, rev_tup, rev_list, len_list, len_tup, len_str, len_scr, abs_int, int_int, tuple_list, tuple_tup, list_list, list_tup, list_scr, min_int, max_int, str_int, app_list, ext_list, sum_ints, int_bl, ins_list, store_0, store_1, store_2, store_3, rg1_int, rg2_int, zip_tup, zip_list, tru_bl, isT_int, isT_str, isT_tup, isT_list, DL.isNon,
  List.getElem?_cons_zero, List.getElem?_cons_succ, List.set_cons_zero, List.set_cons_succ, List.cons_append, List.nil_append, List.length_cons, List.length_nil, List.reduceReplicate, List.take_succ_cons, List.take_zero, List.drop_succ_cons, List.drop_zero, List.take_nil, List.drop_nil, List.append_nil,
  Nat.reduceAdd, Nat.reduceSub, Int.reduceAdd, Int.reduceSub, Int.reduceMul, Int.reduceLT, Int.reduceLE, Int.reduceGT, Int.reduceEq, Int.reduceNeg, Int.reducePow, Int.reduceToNat, Nat.reduceLT, Nat.reducePow, cm_l, cm_r, ok62_of, ↓tTp_ok, ↓wp_tsCons, tsNil_ok, wipeE_nil, wipeE_cons, restE_nil, restE_cons, plainE_nil, plainE_cons, plainS_emp, plainS_val, Bool.and_self, Bool.and_true, List.getD_cons_zero, List.getD_cons_succ, cut_1, all_map, any_map, sz_le, sz_lt, fits_nil, fits_cons, Nat.reduceLeDiff, Nat.zero_add, lo_small, Int.zero_add, List.length_map, Int.natCast_add, Int.cast_ofNat_Int, decide_true, decide_false, Bool.not_true, Bool.not_false, List.nodup_cons, List.nodup_nil, List.not_mem_nil, not_false_eq_true, and_self, and_true, true_and, true_implies, reduceCtorEq, List.mem_cons, or_false, iteP_dec, iteP_not])

def RowDr (f : Fn) : Prop := ∀ s (m : Nat) (Q : Rs × List D → Prop), St s → m ≤ 100 → (∀ ns s', St s' → ns.length ≤ m → (∀ i ∈ ns, -4 ≤ i ∧ i ≤ 4) → Q (.ok (rowD ns), [s'])) → wq (f [s, .int m]) Q
theorem row_ok {T : Tab} (h : DrawOk T.f_law_draw) : RowDr (fn_f_law_row T) := by
  intro s m Q hs hm hQ
  have sz : 4096 ≤ sizeLine := by decide
  rw [fn_f_law_row, b_f_law_row]
  walk_at "dl"
  refine h _ _ _ hs (by omega) (by omega) fun v s hs v0 v1 => ?_
  obtain ⟨n, rfl⟩ := Int.eq_ofNat_of_zero_le v0
  walk_at "dl"
  refine ⟨by rw [ok62_of (by omega) (by omega)]; trivial, by rw [rgD_len]; omega, ?_⟩
  have hl : (rgD 0 (n : Int)).length = n := by rw [rgD_len]; omega
  refine wp_lcLoop (fun pre acc ρ => ∃ s ns x, acc = ns.map .int ∧ ρ = [.own (some 0) s, .val (.int m), x] ∧ St s ∧ ns.length = pre.length ∧ ∀ i ∈ ns, -4 ≤ i ∧ i ≤ 4) ⟨s, [], _, rfl, rfl, hs, rfl, fun i hi => nomatch hi⟩ ?_ ?_
  · rintro pre d post acc ρ e ⟨s, ns, x, rfl, rfl, hs, e1, e2⟩
    walk_at "dl"
    refine h _ _ _ hs (by omega) (by omega) fun v s hs v0 v1 => ?_
    walk_at "dl"
    refine ⟨s, ns ++ [v - 4], .val d, by rw [List.map_append]; rfl, rfl, hs, by simp [e1], fun i hi => ?_⟩
    rcases List.mem_append.mp hi with hi | hi
    · exact e2 i hi
    · rcases List.mem_singleton.mp hi with rfl
      omega
  · rintro acc ρ ⟨s, ns, x, rfl, rfl, hs, e1, e2⟩
    walk_at "dl"
    exact hQ _ _ hs (by omega) e2
def SizeOk (f : Fn) : Prop := ∀ ns (Q : Rs × List D → Prop), ns.length ≤ 100 → Q (.ok (.int (rsize ns)), []) → wq (f [rowD ns]) Q
theorem size_ok (T : Tab) : SizeOk (fn_f_law_size_of T) := by
  intro ns Q hn hQ
  have sz : 4096 ≤ sizeLine := by decide
  rw [fn_f_law_size_of, b_f_law_size_of, show rowD ns = .tup (ns.map .int) from rfl]
  walk_at "dl"
  refine ⟨by omega, ?_⟩
  refine lc_mapM (fun i => .int (if i < 0 then -i else i)) (fun ρ => ∃ y, ρ = [.val (.tup (ns.map .int)), y]) ⟨_, rfl⟩ ?_ ?_
  · rintro r ρ P hr ⟨y, rfl⟩ hP
    walk_at "dl"
    exact hP _ ⟨_, rfl⟩
  · rintro ρ ⟨y, rfl⟩
    walk_at "dl"
    rw [sum_map]
    walk_at "dl"
    exact hQ
theorem eq_rows (rs : List (List Int)) : ∀ d ∈ rs.map rowD, Eqd 1 d := fun d hd => by
  obtain ⟨r, _, rfl⟩ := List.mem_map.mp hd
  exact .tup fun e he => by
    obtain ⟨i, _, rfl⟩ := List.mem_map.mp he
    exact .int
theorem rowsOf_map : ∀ rs : List (List Int), rowsOf (rs.map rowD) = some rs
  | [] => rfl
  | r :: rs => by
    rw [List.map_cons, show rowD r = .tup (r.map .int) from rfl, rowsOf, ints_mapI, Option.bind_some, rowsOf_map rs]
    rfl
theorem sorted_rows {rs : List (List Int)} (h : rs.length < 2 ∨ ∀ r ∈ rs, r ≠ []) : gElse gSorted gSortR [.tup (rs.map rowD)] = some (.list ((sortR rs).map rowD)) := by
  have e : srtR (rs.map rowD) = some (.list ((sortR rs).map rowD)) := by
    unfold srtR
    rw [rowsOf_map, Option.bind_some, if_pos h]
  unfold gElse gSorted gSortR
  exact e
def DistOk (f : Fn) : Prop := ∀ rs (Q : Rs × List D → Prop), rs.length ≤ 300 → rs.Nodup → (rs.length < 2 ∨ ∀ r ∈ rs, r ≠ []) → Q (.ok (.list ((sortR rs).map rowD)), []) → wq (f [.tup (rs.map rowD)]) Q
theorem rowD_inj : ∀ {x y : List Int}, rowD x = rowD y → x = y
  | x, y, h => by
    have h' : x.map D.int = y.map D.int := by
      have := h
      unfold rowD at this
      injection this
    exact (List.map_inj_right (f := D.int) fun a b e => by injection e).mp h'
theorem dist_ok (T : Tab) : DistOk (fn_f_law_distinct T) := by
  intro rs Q hl hn hne hQ
  have sz : 4096 ≤ sizeLine := by decide
  have hn' : (sortR rs).Nodup := (sortR_perm rs).nodup_iff.mpr hn
  have hl' : (sortR rs).length = rs.length := (sortR_perm rs).length_eq
  rw [fn_f_law_distinct, b_f_law_distinct]
  walk_at "dl"
  rw [sorted_rows hne]
  walk_at "dl"
  refine wp_forM (fun p ρ => ∃ x, ρ = [.val (.tup (rs.map rowD)), .own none (.list (p.map rowD)), x]) ⟨_, rfl⟩ ?_ ?_
  · rintro p z q ρ e ⟨x, rfl⟩
    have hp : p.length < 300 := by
      have := congrArg List.length e
      simp at this
      omega
    walk_at "dl"
    have fin : ∀ x, ∃ x_1, [Sl.val (D.tup (rs.map rowD)), Sl.own none (D.list (p.map rowD ++ [rowD z])), x] = [Sl.val (D.tup (rs.map rowD)), Sl.own none (D.list ((p ++ [z]).map rowD)), x_1] := fun x => ⟨x, by rw [List.map_append]; rfl⟩
    refine wp_eqD (n := 2) (by omega) (.list (eq_rows p)) (.list fun d hd => nomatch hd) fun b hb => ?_
    walk_at "dl"
    rw [iteP_ite]
    refine ⟨fun _ => ⟨by omega, fin _⟩, fun hbf => ?_⟩
    have hpn : p ≠ [] := fun z => by
      subst z
      rw [Bool.eq_false_iff] at hbf
      exact hbf (hb.mpr rfl)
    obtain ⟨p', y, rfl⟩ : ∃ p' y, p = p' ++ [y] := ⟨p.dropLast, p.getLast hpn, (List.dropLast_concat_getLast hpn).symm⟩
    have ea : atI ((p' ++ [y]).map rowD) (-1) = some (rowD y) := by
      unfold atI ixN
      rw [if_neg (by omega), if_pos (by simp; omega)]
      simp only [Option.bind_some, List.map_append, List.length_append, List.length_map, List.length_singleton]
      rw [show (-1 + ((p'.length + 1 : Nat) : Int)).toNat = p'.length by omega]
      simp
    rw [ea]
    walk_at "dl"
    refine wp_neD (n := 1) (by omega) (eq_rows [y] _ (by simp)) (eq_rows [z] _ (by simp)) fun b2 hb2 => ?_
    have hyz : y ≠ z := fun h => by
      subst h
      rw [e] at hn'
      simp [List.nodup_append] at hn'
    have : b2 = false := by
      rw [Bool.eq_false_iff]
      exact fun h => hyz (rowD_inj (hb2.mp h))
    subst this
    walk_at "dl"
    exact ⟨by simp at hp ⊢; omega, fin _⟩
  · rintro ρ ⟨x, rfl⟩
    walk_at "dl"
    exact hQ
theorem rsize_nn : ∀ r : List Int, 0 ≤ rsize r
  | [] => by simp [rsize]
  | i :: r => by
    have := rsize_nn r
    simp only [rsize, List.length_cons, List.map_cons, List.sum_cons] at this ⊢
    split <;> omega
theorem mem_R : ∀ (r : List Int) (n : Nat), rsize r = n → r ∈ R n
  | [], n, h => by
    have : n = 0 := by simp [rsize] at h; omega
    subst this
    simp [R, tbl]
  | i :: r, n, h => by
    have hr := rsize_nn r
    have e : rsize (i :: r) = 1 + (if i < 0 then -i else i) + rsize r := by
      simp only [rsize, List.length_cons, List.map_cons, List.sum_cons]
      omega
    rw [e] at h
    obtain ⟨a, ha⟩ : ∃ a : Nat, (a : Int) = if i < 0 then -i else i := ⟨i.natAbs, by split <;> omega⟩
    rw [← ha] at h
    obtain ⟨k, rfl⟩ : ∃ k, n = k + 1 := ⟨n - 1, by omega⟩
    have ih := mem_R r (k - a) (by omega)
    rw [R_part]
    unfold part G1
    refine List.mem_flatMap.mpr ⟨a, List.mem_range.mpr (by omega), List.mem_flatMap.mpr ⟨i, ?_, List.mem_map.mpr ⟨r, ih, rfl⟩⟩⟩
    unfold its
    split at ha
    · rw [if_neg (by omega)]
      simp
      omega
    · by_cases c : a = 0
      · rw [if_pos c]; simp; omega
      · rw [if_neg c]; simp; omega
theorem many_is {k : Nat} (h2 : 2 ≤ k) (h7 : k ≤ 7) : ((List.range k).map fun f => ((R (k - 1 - f)).length : Int) * (1 + if 0 < f then 1 else 0)).sum = (R k).length := by
  have h := many_ok
  simp only [manyB, List.all_eq_true, List.mem_range, Bool.or_eq_true, decide_eq_true_eq] at h
  rcases h k (by omega) with h | h
  · omega
  · exact h
theorem rows_dp {n : Nat} (hn : n ≤ 7) : Dp 2 (.tup ((R n).map rowD)) := by
  have hl := look hn
  refine .tup (by rw [List.length_map]; omega) fun d hd => ?_
  obtain ⟨r, hr, rfl⟩ := List.mem_map.mp hd
  have := (hl.2.1 r hr).2.1
  refine .tup (by rw [List.length_map]; omega) fun e he => ?_
  obtain ⟨i, _, rfl⟩ := List.mem_map.mp he
  exact .int
theorem law_ok {T : Tab} (hdraw : DrawOk T.f_law_draw) (hstart : StartOk T.f_law_start) (hros : RowsOkS T.rows_of_size) (hs2 : SameOk 2 T.f_law_same) (hin : TblOk T.f_law_rows_in) (hrow : RowDr T.f_law_row) (hsize : SizeOk T.f_law_size_of) (hdist : DistOk T.f_law_distinct)
    (ns : List Int) : wq (fn_law T [.scr ns]) fun p => p = (.ok (.bl true), []) := by
  have sz : 4096 ≤ sizeLine := by decide
  rw [fn_law, b_law]
  walk_at "dl"
  refine hstart ns _ fun s hs => ?_
  walk_at "dl"
  refine hdraw _ _ _ hs (by omega) (by omega) fun v s hs v0 v1 => ?_
  obtain ⟨n, rfl⟩ := Int.eq_ofNat_of_zero_le v0
  have hn : n ≤ 7 := by omega
  have hl := look hn
  walk_at "dl"
  refine hros n _ hn ?_
  walk_at "dl"
  refine hin n _ hn ?_
  walk_at "dl"
  rw [atI_of tbl_at rfl]
  walk_at "dl"
  refine hs2 _ _ (rows_dp hn) ?_
  walk_at "dl"
  refine hrow s 3 _ hs (by omega) fun r s hs r1 r2 => ?_
  rw [show rowD r = .tup (r.map .int) from rfl]
  walk_at "dl"
  refine ⟨by omega, ?_⟩
  refine lc_mapM (fun i => .int (if i < 0 then -i else i)) (fun ρ => ∃ y, ρ = [.val (.scr ns), .own none s, .val (.int n), .val (.tup ((R n).map rowD)), .val (.tup (r.map .int)), .emp, .emp, y, .emp]) ⟨_, rfl⟩ ?_ ?_
  · rintro i ρ P hi ⟨y, rfl⟩ hP
    walk_at "dl"
    exact hP _ ⟨_, rfl⟩
  rintro ρ ⟨y, rfl⟩
  walk_at "dl"
  rw [sum_map]
  walk_at "dl"
  refine (fun K => ⟨fun h => ?chk, fun _ => K⟩) ?rest
  case chk =>
    have hr : (r.length : Int) + (r.map fun i => if i < 0 then -i else i).sum = rsize r := rfl
    rw [hr] at h
    have h0 := rsize_nn r
    obtain ⟨z, hz⟩ := Int.eq_ofNat_of_zero_le h0
    refine hsize r _ (by omega) ?_
    rw [hz]
    walk_at "dl"
    refine hros z _ (by omega) ?_
    walk_at "dl"
    refine wp_ninT (n := 1) (by omega) (eq_rows [r] _ (by simp [rowD])) (eq_rows _) fun b hb => ?_
    have : b = true := hb.mpr (List.mem_map.mpr ⟨r, mem_R r z hz, rfl⟩)
    subst this
    walk_at "dl"
    exact K
  refine ⟨by rw [ok62_of (by omega) (by omega)]; trivial, ?_⟩
  refine wp_rg (fun k ρ => ∃ x6, ρ = [.val (.scr ns), .own none s, .val (.int n), .val (.tup ((R n).map rowD)), .val (.tup (r.map .int)), .own none (.list ((List.range (k + 2)).map fun i => .int ((R i).length : Nat))), x6, .emp, .emp]) ⟨.emp, rfl⟩ ?_ ?_
  · rintro k ρ hk ⟨x6, rfl⟩
    obtain ⟨w, hw⟩ : ∃ w : Nat, w = k + 2 := ⟨_, rfl⟩
    have hw7 : w ≤ 7 := by omega
    rw [show (2 : Int) + (k : Nat) = (w : Int) by omega, ← hw]
    walk_at "dl"
    refine ⟨by rw [ok62_of (by omega) (by omega)]; trivial, by rw [rgD_len]; omega, ?_⟩
    refine lc_rg0 (fun f => .int (((R (w - 1 - f)).length : Int) * (1 + if 0 < f then 1 else 0))) (fun ρ => ∃ y, ρ = [.val (.scr ns), .own none s, .val (.int n), .val (.tup ((R n).map rowD)), .val (.tup (r.map .int)), .own none (.list ((List.range w).map fun i => .int ((R i).length : Nat))), .val (.int w), .emp, y]) ⟨_, rfl⟩ ?_ ?_
    · rintro f ρ P hf ⟨y, rfl⟩ hP
      walk_at "dl"
      rw [atI_of (n := w - 1 - f) (d := .int ((R (w - 1 - f)).length : Nat)) (by rw [List.getElem?_map, List.getElem?_range (by omega)]; rfl) (by omega)]
      walk_at "dl"
      have hR := (look (n := w - 1 - f) (by omega)).1
      refine ⟨.inr (.inl ⟨?_, ?_⟩), ?_⟩
      · split <;> omega
      · split <;> omega
      · have e : (if decide ((0 : Int) < (f : Int)) = true then (1 : Int) else 0) = if 0 < f then 1 else 0 := by
          by_cases c : 0 < f
          · rw [if_pos c, if_pos (by simp; omega)]
          · rw [if_neg c, if_neg (by simp; omega)]
        rw [e]
        exact hP _ ⟨_, rfl⟩
    · rintro ρ ⟨y, rfl⟩
      walk_at "dl"
      rw [sum_map, many_is (by omega) hw7]
      walk_at "dl"
      refine ⟨by simp; omega, .val (.int w), ?_⟩
      rw [show k + 1 + 2 = w + 1 by omega, List.range_succ, List.map_append]
      rfl
  · rintro ρ ⟨x6, rfl⟩
    walk_at "dl"
    rw [atI_of (n := n) (d := .int ((R n).length : Nat)) (by rw [List.getElem?_map, List.getElem?_range (by omega)]; rfl) rfl]
    walk_at "dl"
    refine hdist (R n) _ hl.1 hl.2.2.1 hl.2.2.2 ?_
    walk_at "dl"
    rw [(sortR_perm (R n)).length_eq]
    walk_at "dl"
    refine ⟨⟨by omega, ?_⟩, fun h => absurd trivial h⟩
    refine lc_mapM (fun q => .bl (decide (rsize q = n))) (fun ρ => ∃ y, ρ = [.val (.scr ns), .own none s, .val (.int n), .val (.tup ((R n).map rowD)), y, .own none (.list ((List.range (((n : Int) + 1 - 2).toNat + 2)).map fun i => .int ((R i).length : Nat))), x6, .emp, .emp]) ⟨_, rfl⟩ ?_ ?_
    · rintro q ρ P hq ⟨y, rfl⟩ hP
      walk_at "dl"
      refine hsize q _ (by have := (hl.2.1 q hq).2.1; omega) ?_
      walk_at "dl"
      exact hP _ ⟨_, rfl⟩
    · rintro ρ ⟨y, rfl⟩
      rw [all_map, wp_some]
      have : (R n).all (fun q => decide (rsize q = n)) = true := List.all_eq_true.mpr fun q hq => decide_eq_true (hl.2.1 q hq).1
      rw [this]
theorem law_true (ns : List Int) : (tab 101).law [.scr ns] = some (.ok (.bl true), []) := by
  refine of_wp ?_
  have p4 : ∀ n, IntOk (tab (n + 1)).f_law_is_int := fun n => lint_ok _
  have p5 : ∀ n, SameOk 0 (tab (n + 2)).f_law_same := fun n => same0 (p4 n)
  have p1 : ∀ n, DrawOk (tab (n + 1)).f_law_draw := fun n => draw_ok _
  exact law_ok (T := tab 100) (p1 99) (start_ok _) (ros_ok (T := tab 99) (up_ok (T := tab 98) (items_ok _))) (same1 (same1 (p5 96))) (in_ok _) (row_ok (p1 98)) (size_ok _) (dist_ok _) ns
end G

open PySem PySem.W PyProof.Rows in
set_option maxRecDepth 100000 in
set_option maxHeartbeats 0 in
theorem PySem.Challenge.cw_cutanywhere_k37_rows_of_a_size_holds : PySem.Challenge.rw_cutanywhere_k37_rows_of_a_size.Holds := by
  w_on; o_law; k_head; (case hw => w_witness2)
  k_fill
  refine G.walk (l := PySem.Challenge.rw_cutanywhere_k37_rows_of_a_size) 100 ⟨rfl, by decide, by decide⟩ (fun ns _ => G.law_true ns) rfl rfl rfl (fun w h Y => PySem.W.kIn_of Y) ?F
  case F =>
    intro w mg h KX Gn
    refine' ⟨⟨PySem.W.mg_none_of KX Gn ?z0, PySem.W.mg_none_of KX Gn ?z1, PySem.W.mg_none_of KX Gn ?z2, PySem.W.mg_none_of KX Gn ?z3, PySem.W.mg_none_of KX Gn ?z4, PySem.W.mg_none_of KX Gn ?z5, PySem.W.mg_none_of KX Gn ?z6, PySem.W.mg_none_of KX Gn ?z7, PySem.W.mg_none_of KX Gn ?z8, PySem.W.mg_none_of KX Gn ?z9, PySem.W.mg_none_of KX Gn ?z10, PySem.W.mg_none_of KX Gn ?z11⟩, ⟨G.fnAt_mk KX Gn ?a0 ?l0 ?c0 ?k0 (fun _ _ _ _ _ _ us hl => match us, hl with | [_], _ => rfl), G.fnAt_mk KX Gn ?a1 ?l1 ?c1 ?k1 (fun _ _ _ _ _ _ us hl => match us, hl with | [_], _ => rfl), G.fnAt_mk KX Gn ?a2 ?l2 ?c2 ?k2 (fun _ _ _ _ _ _ us hl => match us, hl with | [_], _ => rfl), G.fnAt_mk KX Gn ?a3 ?l3 ?c3 ?k3 (fun _ _ _ _ _ _ us hl => match us, hl with | [_], _ => rfl), G.fnAt_mk KX Gn ?a4 ?l4 ?c4 ?k4 (fun _ _ _ _ _ _ us hl => match us, hl with | [_, _], _ => rfl), G.fnAt_mk KX Gn ?a5 ?l5 ?c5 ?k5 (fun _ _ _ _ _ _ us hl => match us, hl with | [_], _ => rfl), G.fnAt_mk KX Gn ?a6 ?l6 ?c6 ?k6 (fun _ _ _ _ _ _ us hl => match us, hl with | [_, _], _ => rfl), G.fnAt_mk KX Gn ?a7 ?l7 ?c7 ?k7 (fun _ _ _ _ _ _ us hl => match us, hl with | [_], _ => rfl), G.fnAt_mk KX Gn ?a8 ?l8 ?c8 ?k8 (fun _ _ _ _ _ _ us hl => match us, hl with | [_, _], _ => rfl), G.fnAt_mk KX Gn ?a9 ?l9 ?c9 ?k9 (fun _ _ _ _ _ _ us hl => match us, hl with | [_], _ => rfl), G.fnAt_mk KX Gn ?a10 ?l10 ?c10 ?k10 (fun _ _ _ _ _ _ us hl => match us, hl with | [_], _ => rfl), G.fnAt_mk KX Gn ?a11 ?l11 ?c11 ?k11 (fun _ _ _ _ _ _ us hl => match us, hl with | [_], _ => rfl)⟩⟩
    (case z0 => k_is)
    (case z1 => k_is)
    (case z2 => k_is)
    (case z3 => k_is)
    (case z4 => k_is)
    (case z5 => k_is)
    (case z6 => k_is)
    (case z7 => k_is)
    (case z8 => k_is)
    (case z9 => k_is)
    (case z10 => k_is)
    (case z11 => k_is)
    (case a0 => k_is); (case l0 => k_is); (case c0 => k_is); (case k0 => k_is)
    (case a1 => k_is); (case l1 => k_is); (case c1 => k_is); (case k1 => k_is)
    (case a2 => k_is); (case l2 => k_is); (case c2 => k_is); (case k2 => k_is)
    (case a3 => k_is); (case l3 => k_is); (case c3 => k_is); (case k3 => k_is)
    (case a4 => k_is); (case l4 => k_is); (case c4 => k_is); (case k4 => k_is)
    (case a5 => k_is); (case l5 => k_is); (case c5 => k_is); (case k5 => k_is)
    (case a6 => k_is); (case l6 => k_is); (case c6 => k_is); (case k6 => k_is)
    (case a7 => k_is); (case l7 => k_is); (case c7 => k_is); (case k7 => k_is)
    (case a8 => k_is); (case l8 => k_is); (case c8 => k_is); (case k8 => k_is)
    (case a9 => k_is); (case l9 => k_is); (case c9 => k_is); (case k9 => k_is)
    (case a10 => k_is); (case l10 => k_is); (case c10 => k_is); (case k10 => k_is)
    (case a11 => k_is); (case l11 => k_is); (case c11 => k_is); (case k11 => k_is)
