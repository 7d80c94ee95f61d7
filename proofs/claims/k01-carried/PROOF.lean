import PyProof.Rows.All
import Wide.All
import OpenK.AllK
import Wide.FinOn
import HandS.ForMost
import HandS.IsInst
import HandS.Style
import HandS.TupAny
import HandS.Zip
import HandS.SortInts
import HandS.More
import HandS.Conv
import HandS.Wide
import HandS.Deep
import HandS.RaiseMore
import HandS.SortOrd
import HandS.Sort
import HandS.Codes
import KE.KExcSuper
import KE.KSuper
import HandS.ExcOwn
import HandS.WordsExc
import HandS.ReplaceLit
import KE.KExcIs
import HandS.ExcIs
import PyProof.Rows.StrMeet
import HandS.DictComp
import PySem.Challenge.RW_cutanywhere_k01_carried_of
set_option Elab.async false
set_option autoImplicit false
set_option maxRecDepth 100000
set_option maxHeartbeats 4000000
/-! E0: python values as plain data, what stands for them, the state of a def's frame, the judgements -/
namespace DL
open PySem L2

/-- a value as plain data -/
inductive D where
  | non | bl (b : Bool) | int (i : Int) | str (s : Str) | scr (ns : List Int)
  | list (ds : List D) | tup (ds : List D) | dict (kvs : List (Key × D)) | inst (c : String) (fs : List (Str × D)) | cel (n : Nat)
  deriving Inhabited
/-- what is known: objects that nobody changes any more, the cells' addresses -/
structure Kn where
  h : Hp
  A : List Addr
def Le (G G' : Kn) : Prop := Same G.h G'.h ∧ ∃ B, G'.A = G.A ++ B
theorem Le.refl (G : Kn) : Le G G := ⟨Same.refl _, [], by simp⟩
theorem Le.trans {G G' G2 : Kn} (a : Le G G') (b : Le G' G2) : Le G G2 := by
  obtain ⟨a1, B, a2⟩ := a
  obtain ⟨b1, C, b2⟩ := b
  exact ⟨a1.trans b1, B ++ C, by rw [b2, a2, List.append_assoc]⟩
theorem Le.s {G G' : Kn} (a : Le G G') : Same G.h G'.h := a.1
theorem Le.nth {G G' : Kn} (a : Le G G') {n : Nat} {b : Addr} (h : G.A[n]? = some b) : G'.A[n]? = some b := by
  obtain ⟨_, B, e⟩ := a
  rw [e, List.getElem?_append_left (List.getElem?_eq_some_iff.mp h).1]
  exact h
theorem Le.of {G G' : Kn} (s : Same G.h G'.h) (e : G'.A = G.A) : Le G G' := ⟨s, [], by rw [e]; simp⟩
/-- one object more -/
def Kn.up (G : Kn) (a : Addr) (o : HO) : Kn := ⟨upd G.h a o, G.A⟩
/-- one cell more -/
def Kn.cell (G : Kn) (a : Addr) : Kn := ⟨G.h, G.A ++ [a]⟩
theorem Le.cell (G : Kn) (a : Addr) : Le G (G.cell a) := ⟨Same.refl _, [a], rfl⟩

mutual
inductive Rep (K : PySem.W.Frag) (cl : String → Option Addr) (G : Kn) : V → D → Prop
  | non : Rep K cl G .non .non
  | bl (b : Bool) : Rep K cl G (.bl b) (.bl b)
  | int (i : Int) : Rep K cl G (.int i) (.int i)
  | str (x : Str) : x.length ≤ sizeLine → Rep K cl G (.str x) (.str x)
  | scr {a : Addr} {ns : List Int} : SqL K G.h a (ns.map V.int) → ns.length ≤ sizeLine → Rep K cl G (.ref a) (.scr ns)
  | list {a : Addr} {xs : List V} {ds : List D} : G.h a = some (.lst xs) → xs.length ≤ sizeLine → Reps K cl G xs ds → Rep K cl G (.ref a) (.list ds)
  | tup {a : Addr} {xs : List V} {ds : List D} : SqT K G.h a xs → xs.length ≤ sizeLine → Reps K cl G xs ds → Rep K cl G (.ref a) (.tup ds)
  | dict {a : Addr} {kvs : List (Key × V)} {ks : List (Key × D)} : G.h a = some (.dK kvs) → kvs.length ≤ sizeLine → RepK K cl G kvs ks → Rep K cl G (.ref a) (.dict ks)
  | inst {a A dx : Addr} {c : String} {fs : List (Str × V)} {gs : List (Str × D)} : G.h a = some (.ins A dx fs) → cl c = some A → RepF K cl G fs gs → Rep K cl G (.ref a) (.inst c gs)
  | cel {a : Addr} {n : Nat} : G.A[n]? = some a → Rep K cl G (.ref a) (.cel n)
inductive Reps (K : PySem.W.Frag) (cl : String → Option Addr) (G : Kn) : List V → List D → Prop
  | nil : Reps K cl G [] []
  | cons {v : V} {d : D} {vs : List V} {ds : List D} : Rep K cl G v d → Reps K cl G vs ds → Reps K cl G (v :: vs) (d :: ds)
inductive RepK (K : PySem.W.Frag) (cl : String → Option Addr) (G : Kn) : List (Key × V) → List (Key × D) → Prop
  | nil : RepK K cl G [] []
  | cons {k : Key} {v : V} {d : D} {vs : List (Key × V)} {ds : List (Key × D)} : Rep K cl G v d → RepK K cl G vs ds → RepK K cl G ((k, v) :: vs) ((k, d) :: ds)
inductive RepF (K : PySem.W.Frag) (cl : String → Option Addr) (G : Kn) : List (Str × V) → List (Str × D) → Prop
  | nil : RepF K cl G [] []
  | cons {k : Str} {v : V} {d : D} {vs : List (Str × V)} {ds : List (Str × D)} : Rep K cl G v d → RepF K cl G vs ds → RepF K cl G ((k, v) :: vs) ((k, d) :: ds)
end

theorem sameT {K : PySem.W.Frag} {H H' : Hp} {a : Addr} {xs : List V} (e : Same H H') (h : SqT K H a xs) : SqT K H' a xs := by
  rcases h with (h | ⟨o, h⟩) | h
  · exact .inl (.inl (e _ _ h))
  · exact .inl (.inr ⟨o, e _ _ h⟩)
  · exact .inr h

section
variable {K : PySem.W.Frag} {cl : String → Option Addr} {G G' : Kn}
mutual
theorem Rep.mono (e : Le G G') : ∀ {v : V} {d : D}, Rep K cl G v d → Rep K cl G' v d
  | _, _, .non => .non
  | _, _, .bl b => .bl b
  | _, _, .int i => .int i
  | _, _, .str x h => .str x h
  | _, _, .scr h l => .scr (e.s.seq h) l
  | _, _, .list h l r => .list (e.s _ _ h) l (Reps.mono e r)
  | _, _, .tup h l r => .tup (sameT e.s h) l (Reps.mono e r)
  | _, _, .dict h l r => .dict (e.s _ _ h) l (RepK.mono e r)
  | _, _, .inst h c r => .inst (e.s _ _ h) c (RepF.mono e r)
  | _, _, .cel h => .cel (e.nth h)
theorem Reps.mono (e : Le G G') : ∀ {vs : List V} {ds : List D}, Reps K cl G vs ds → Reps K cl G' vs ds
  | _, _, .nil => .nil
  | _, _, .cons h r => .cons (Rep.mono e h) (Reps.mono e r)
theorem RepK.mono (e : Le G G') : ∀ {vs : List (Key × V)} {ds : List (Key × D)}, RepK K cl G vs ds → RepK K cl G' vs ds
  | _, _, .nil => .nil
  | _, _, .cons h r => .cons (Rep.mono e h) (RepK.mono e r)
theorem RepF.mono (e : Le G G') : ∀ {vs : List (Str × V)} {ds : List (Str × D)}, RepF K cl G vs ds → RepF K cl G' vs ds
  | _, _, .nil => .nil
  | _, _, .cons h r => .cons (Rep.mono e h) (RepF.mono e r)
end
theorem Reps.length : ∀ {vs : List V} {ds : List D}, Reps K cl G vs ds → vs.length = ds.length
  | _, _, .nil => rfl
  | _, _, .cons _ r => by simp [Reps.length r]
theorem RepK.length : ∀ {vs : List (Key × V)} {ds : List (Key × D)}, RepK K cl G vs ds → vs.length = ds.length
  | _, _, .nil => rfl
  | _, _, .cons _ r => by simp [RepK.length r]
theorem Reps.get : ∀ {vs : List V} {ds : List D} {i : Nat} {d : D}, Reps K cl G vs ds → ds[i]? = some d → ∃ v, vs[i]? = some v ∧ Rep K cl G v d
  | _, _, _, _, .nil, h => by simp at h
  | _, _, 0, _, .cons h _, e => by simp at e; subst e; exact ⟨_, rfl, h⟩
  | _, _, i + 1, _, .cons _ r, e => by
    obtain ⟨v, h1, h2⟩ := Reps.get (i := i) r (by simpa using e)
    exact ⟨v, by simpa using h1, h2⟩
theorem Reps.append : ∀ {vs ws : List V} {ds es : List D}, Reps K cl G vs ds → Reps K cl G ws es → Reps K cl G (vs ++ ws) (ds ++ es)
  | _, _, _, _, .nil, s => s
  | _, _, _, _, .cons h r, s => .cons h (Reps.append r s)
theorem Reps.take : ∀ {vs : List V} {ds : List D} (n : Nat), Reps K cl G vs ds → Reps K cl G (vs.take n) (ds.take n)
  | _, _, 0, _ => .nil
  | _, _, _ + 1, .nil => .nil
  | _, _, n + 1, .cons h r => .cons h (Reps.take n r)
theorem Reps.drop : ∀ {vs : List V} {ds : List D} (n : Nat), Reps K cl G vs ds → Reps K cl G (vs.drop n) (ds.drop n)
  | _, _, 0, r => r
  | _, _, _ + 1, .nil => .nil
  | _, _, n + 1, .cons _ r => Reps.drop n r
theorem Reps.set : ∀ {vs : List V} {ds : List D} (n : Nat) {v : V} {d : D}, Rep K cl G v d → Reps K cl G vs ds → Reps K cl G (vs.set n v) (ds.set n d)
  | _, _, _, _, _, _, .nil => .nil
  | _, _, 0, _, _, h, .cons _ r => .cons h r
  | _, _, n + 1, _, _, h, .cons k r => .cons k (Reps.set n h r)
theorem Reps.reverse {vs : List V} {ds : List D} (h : Reps K cl G vs ds) : Reps K cl G vs.reverse ds.reverse := by
  have go : ∀ {vs : List V} {ds : List D} {ws : List V} {es : List D}, Reps K cl G vs ds → Reps K cl G ws es → Reps K cl G (vs.reverseAux ws) (ds.reverseAux es) := by
    intro vs
    induction vs with
    | nil => intro ds ws es h s; cases h; exact s
    | cons v vs ih => intro ds ws es h s; cases h with | cons h1 h2 => have q := ih h2 (Reps.cons h1 s); exact q
  exact go h .nil
theorem Reps.ints : ∀ (ns : List Int), Reps K cl G (ns.map V.int) (ns.map D.int)
  | [] => .nil
  | n :: ns => .cons (.int n) (Reps.ints ns)
theorem Reps.strs : ∀ (ns : List Str), (∀ x ∈ ns, x.length ≤ sizeLine) → Reps K cl G (ns.map V.str) (ns.map D.str)
  | [], _ => .nil
  | n :: ns, h => .cons (.str n (h n (by simp))) (Reps.strs ns fun x hx => h x (by simp [hx]))
end

/-- the value's own object read from H, what it holds in G -/
inductive Top (K : PySem.W.Frag) (cl : String → Option Addr) (G : Kn) (H : Hp) : V → D → Prop
  | non : Top K cl G H .non .non
  | bl (b : Bool) : Top K cl G H (.bl b) (.bl b)
  | int (i : Int) : Top K cl G H (.int i) (.int i)
  | str (x : Str) : x.length ≤ sizeLine → Top K cl G H (.str x) (.str x)
  | scr {a : Addr} {ns : List Int} : SqL K G.h a (ns.map V.int) → ns.length ≤ sizeLine → Top K cl G H (.ref a) (.scr ns)
  | list {a : Addr} {xs : List V} {ds : List D} : H a = some (.lst xs) → xs.length ≤ sizeLine → Reps K cl G xs ds → Top K cl G H (.ref a) (.list ds)
  | tup {a : Addr} {xs : List V} {ds : List D} : SqT K G.h a xs → xs.length ≤ sizeLine → Reps K cl G xs ds → Top K cl G H (.ref a) (.tup ds)
  | dict {a : Addr} {kvs : List (Key × V)} {ks : List (Key × D)} : H a = some (.dK kvs) → kvs.length ≤ sizeLine → RepK K cl G kvs ks → Top K cl G H (.ref a) (.dict ks)
  | inst {a A dx : Addr} {c : String} {fs : List (Str × V)} {gs : List (Str × D)} : H a = some (.ins A dx fs) → cl c = some A → RepF K cl G fs gs → Top K cl G H (.ref a) (.inst c gs)
  | cel {a : Addr} {n : Nat} : G.A[n]? = some a → Top K cl G H (.ref a) (.cel n)

section
variable {K : PySem.W.Frag} {cl : String → Option Addr} {G G' : Kn} {H H' : Hp} {v : V} {d : D}
theorem Rep.top (e : Same G.h H) (h : Rep K cl G v d) : Top K cl G H v d := by
  cases h with
  | non => exact .non
  | bl b => exact .bl b
  | int i => exact .int i
  | str x h => exact .str x h
  | scr h l => exact .scr h l
  | list h l r => exact .list (e _ _ h) l r
  | tup h l r => exact .tup h l r
  | dict h l r => exact .dict (e _ _ h) l r
  | inst h c r => exact .inst (e _ _ h) c r
  | cel h => exact .cel h
theorem Top.rep (e : Same G.h H) (h : Top K cl G H v d) : Rep K cl ⟨H, G.A⟩ v d := by
  have e' : Le G ⟨H, G.A⟩ := .of e rfl
  cases h with
  | non => exact .non
  | bl b => exact .bl b
  | int i => exact .int i
  | str x h => exact .str x h
  | scr h l => exact .scr (e.seq h) l
  | list h l r => exact .list h l (r.mono e')
  | tup h l r => exact .tup (sameT e h) l (r.mono e')
  | dict h l r => exact .dict h l (r.mono e')
  | inst h c r => exact .inst h c (r.mono e')
  | cel h => exact .cel h
theorem Top.mono (e : Le G G') (f : Same H H') (h : Top K cl G H v d) : Top K cl G' H' v d := by
  cases h with
  | non => exact .non
  | bl b => exact .bl b
  | int i => exact .int i
  | str x h => exact .str x h
  | scr h l => exact .scr (e.s.seq h) l
  | list h l r => exact .list (f _ _ h) l (r.mono e)
  | tup h l r => exact .tup (sameT e.s h) l (r.mono e)
  | dict h l r => exact .dict (f _ _ h) l (r.mono e)
  | inst h c r => exact .inst (f _ _ h) c (r.mono e)
  | cel h => exact .cel (e.nth h)
end

/-- a value whose object may be changed in place -/
def D.mut : D → Bool
  | .list _ => true
  | .dict _ => true
  | .inst _ _ => true
  | _ => false
def OwnAt (K : PySem.W.Frag) (cl : String → Option Addr) (G : Kn) (H : Hp) (a : Addr) (d : D) : Prop := d.mut = true ∧ Top K cl G H (.ref a) d
section
variable {K : PySem.W.Frag} {cl : String → Option Addr} {G G' : Kn} {H H' : Hp} {a : Addr} {d : D}
theorem OwnAt.there (h : OwnAt K cl G H a d) : ∃ o, H a = some o := by
  obtain ⟨m, h⟩ := h
  cases h with
  | list h _ _ => exact ⟨_, h⟩
  | dict h _ _ => exact ⟨_, h⟩
  | inst h _ _ => exact ⟨_, h⟩
  | scr _ _ => cases m
  | tup _ _ _ => cases m
  | cel _ => cases m
/-- its object alone is asked -/
theorem OwnAt.at (e : Le G G') (f : H' a = H a) (h : OwnAt K cl G H a d) : OwnAt K cl G' H' a d := by
  obtain ⟨m, h⟩ := h
  refine ⟨m, ?_⟩
  cases h with
  | list h l r => exact .list (f.trans h) l (r.mono e)
  | dict h l r => exact .dict (f.trans h) l (r.mono e)
  | inst h l r => exact .inst (f.trans h) l (r.mono e)
  | scr _ _ => cases m
  | tup _ _ _ => cases m
  | cel _ => cases m
/-- its object made known -/
theorem OwnAt.rep {o : HO} (e : Le G G') (ho : H a = some o) (ha : G'.h a = some o) (h : OwnAt K cl G H a d) : Rep K cl G' (.ref a) d := by
  obtain ⟨m, h⟩ := h
  cases h with
  | list h l r => rw [ho] at h; cases h; exact .list ha l (r.mono e)
  | dict h l r => rw [ho] at h; cases h; exact .dict ha l (r.mono e)
  | inst h l r => rw [ho] at h; cases h; exact .inst ha l (r.mono e)
  | scr _ _ => cases m
  | tup _ _ _ => cases m
  | cel _ => cases m
end

/-- a name's place: nothing, a value that nobody changes, an object of its own (none: made here; some j: the j-th one lent by the caller) -/
inductive Sl where
  | emp | val (d : D) | own (w : Option Nat) (d : D) | lck (w : Option Nat) (d : D)
  deriving Inhabited
/-- the object of a place: lck while a loop walks it -/
def Sl.obj : Sl → Option (Option Nat × D)
  | .own w d => some (w, d)
  | .lck w d => some (w, d)
  | _ => none
/-- what is fixed through a def's body: what was known at the entry, the objects lent -/
structure Fm where
  G0 : Kn
  W : List Addr
def WOk (F : Fm) (a : Addr) : Option Nat → Prop
  | none => a ∉ F.W
  | some j => F.W[j]? = some a

/-- what others hold: objects that nobody changes meanwhile; of locked places the address -/
structure Th where
  h : Hp
  l : Nat → Option Addr
/-- the places of a frame, the cells: objects that may be reached from anywhere by their number; none: one that is not ours any more -/
structure En where
  sl : List Sl
  st : List (Option D)
  deriving Inhabited
abbrev En.set (ρ : En) (i : Nat) (x : Sl) : En := ⟨ρ.sl.set i x, ρ.st⟩
abbrev En.put (ρ : En) (n : Nat) (c : Option D) : En := ⟨ρ.sl, ρ.st.set n c⟩
abbrev En.new (ρ : En) (c : D) : En := ⟨ρ.sl, ρ.st ++ [some c]⟩
/-- the cells stand at their addresses, and nobody else holds them -/
structure Cells (K : PySem.W.Frag) (cl : String → Option Addr) (W : List Addr) (t : Hp) (G : Kn) (H : Hp) (st : List (Option D)) : Prop where
  len : G.A.length = st.length
  nd : G.A.Nodup
  th : ∀ a ∈ G.A, t a = none
  fw : ∀ a ∈ G.A, a ∉ W
  hh : ∀ a ∈ G.A, H a ≠ none
  got : ∀ (n : Nat) (c : D), st[n]? = some (some c) → ∃ a, G.A[n]? = some a ∧ G.h a = none ∧ OwnAt K cl G H a c
structure EOk (K : PySem.W.Frag) (cl : String → Option Addr) (F : Fm) (T : Th) (G : Kn) (H : Hp) (σ : L2.St) (ρ : En) : Prop where
  len : σ.length = ρ.sl.length
  val : ∀ (i : Nat) (d : D), ρ.sl[i]? = some (.val d) → ∃ v, σ[i]? = some (some v) ∧ Rep K cl G v d
  own : ∀ (i : Nat) (w : Option Nat) (d : D), ρ.sl[i]? = some (.own w d) → ∃ a, σ[i]? = some (some (.ref a)) ∧ (G.h a = none ∧ a ∉ G.A) ∧ T.h a = none ∧ WOk F a w ∧ OwnAt K cl G H a d
  lck : ∀ (i : Nat) (w : Option Nat) (d : D), ρ.sl[i]? = some (.lck w d) → ∃ a o, σ[i]? = some (some (.ref a)) ∧ (G.h a = none ∧ a ∉ G.A) ∧ (T.l i = some a ∧ T.h a = some o) ∧ WOk F a w ∧ OwnAt K cl G H a d
  sep : ∀ (i j : Nat) (a : Addr) (x y : Sl), ρ.sl[i]? = some x → ρ.sl[j]? = some y → x.obj ≠ none → y.obj ≠ none → σ[i]? = some (some (.ref a)) → σ[j]? = some (some (.ref a)) → i = j
  g0 : Le F.G0 G
  gt : ∀ b, G.h b ≠ none → F.G0.h b ≠ none ∨ T.h b = none
  gh : Same G.h H
  th : Same T.h H
  wh : ∀ a ∈ F.W, H a ≠ none
  cs : Cells K cl F.W T.h G H ρ.st

/-- what an expression yields: a value, or the object of a name's place -/
inductive RV where
  | val (d : D) | ref (i : Nat)
  deriving Inhabited
def RvOk (K : PySem.W.Frag) (cl : String → Option Addr) (G : Kn) (σ : L2.St) (v : V) : RV → Prop
  | .val d => Rep K cl G v d
  | .ref i => σ[i]? = some (some v)
theorem RvOk.mono {K : PySem.W.Frag} {cl : String → Option Addr} {G G' : Kn} {σ : L2.St} {v : V} {r : RV} (e : Le G G') (h : RvOk K cl G σ v r) : RvOk K cl G' σ v r := by
  cases r with
  | val d => exact Rep.mono e h
  | ref i => exact h
inductive RvOks (K : PySem.W.Frag) (cl : String → Option Addr) (G : Kn) (σ : L2.St) : List V → List RV → Prop
  | nil : RvOks K cl G σ [] []
  | cons {v : V} {r : RV} {vs : List V} {rs : List RV} : RvOk K cl G σ v r → RvOks K cl G σ vs rs → RvOks K cl G σ (v :: vs) (r :: rs)
theorem RvOks.mono {K : PySem.W.Frag} {cl : String → Option Addr} {G G' : Kn} {σ : L2.St} (e : Le G G') : ∀ {vs : List V} {rs : List RV}, RvOks K cl G σ vs rs → RvOks K cl G' σ vs rs
  | _, _, .nil => .nil
  | _, _, .cons h r => .cons (h.mono e) (RvOks.mono e r)

/-- a cell's number stands for what the cell holds -/
def deref (st : List (Option D)) : D → D
  | .cel n => match st[n]? with
    | some (some c) => c
    | _ => .cel n
  | d => d
/-- what it is now -/
def peek (ρ : En) : RV → Option D
  | .val d => some (deref ρ.st d)
  | .ref i => match ρ.sl[i]? with
    | some (.own _ d) => some d
    | some (.lck _ d) => some d
    | some (.val d) => some (deref ρ.st d)
    | _ => none
def peeks (ρ : En) : List RV → Option (List D)
  | [] => some []
  | r :: rs => (peek ρ r).bind fun d => (peeks ρ rs).map fun ds => d :: ds
/-- it goes out as a value: an object of our own is not changed any more -/
def esc (ρ : En) : RV → Option (D × En)
  | .val d => some (d, ρ)
  | .ref i => match ρ.sl[i]? with
    | some (.own none d) => some (d, ρ.set i (.val d))
    | some (.val d) => some (d, ρ)
    | _ => none
def escs (ρ : En) : List RV → Option (List D × En)
  | [] => some ([], ρ)
  | r :: rs => (esc ρ r).bind fun p => (escs p.2 rs).map fun q => (p.1 :: q.1, q.2)

section
variable {K : PySem.W.Frag} {cl : String → Option Addr} {F : Fm} {T : Th} {G G' : Kn} {H H' : Hp} {σ : L2.St} {ρ ρ' : En} {v : V} {d : D} {r : RV}
theorem EOk.deref (E : EOk K cl F T G H σ ρ) (h : Rep K cl G v d) : Top K cl G H v (deref ρ.st d) := by
  unfold DL.deref
  split
  · rename_i n
    split
    · rename_i c hc
      obtain ⟨a, h1, _, h2⟩ := E.cs.got n c hc
      cases h with
      | cel k => rw [h1] at k; cases k; exact h2.2
    · exact h.top E.gh
  · exact h.top E.gh
theorem EOk.top (E : EOk K cl F T G H σ ρ) (h : RvOk K cl G σ v r) (p : peek ρ r = some d) : Top K cl G H v d := by
  cases r with
  | val e => simp only [peek, Option.some.injEq] at p; subst p; exact E.deref h
  | ref i =>
    simp only [peek] at p
    have hv : σ[i]? = some (some v) := h
    split at p
    · rename_i w e q
      cases p
      obtain ⟨a, h1, _, _, _, h2⟩ := E.own i w d q
      rw [h1] at hv; cases hv
      exact h2.2
    · rename_i w e q
      cases p
      obtain ⟨a, o, h1, _, _, _, h2⟩ := E.lck i w d q
      rw [h1] at hv; cases hv
      exact h2.2
    · rename_i e q
      cases p
      obtain ⟨u, h1, h2⟩ := E.val i _ q
      rw [h1] at hv; cases hv
      exact E.deref h2
    · cases p
theorem EOk.tops (E : EOk K cl F T G H σ ρ) : ∀ {vs : List V} {rs : List RV} {ds : List D}, RvOks K cl G σ vs rs → peeks ρ rs = some ds → Paired (Top K cl G H) vs ds
  | _, _, _, .nil, p => by simp only [peeks, Option.some.injEq] at p; subst p; exact .nil
  | _, _, _, .cons h r, p => by
    simp only [peeks, Option.bind_eq_some_iff, Option.map_eq_some_iff] at p
    obtain ⟨d, h1, ds, h2, e⟩ := p
    subst e
    exact .cons (E.top h h1) (E.tops r h2)
/-- the heap grows, nothing of ours is changed -/
structure Grow (G : Kn) (H : Hp) (G' : Kn) (H' : Hp) : Prop where
  gg : Le G G'
  hh : Same H H'
  gh : Same G'.h H'
  new : ∀ b, G'.h b ≠ none → G.h b ≠ none ∨ H b = none
  aa : G'.A = G.A
theorem Grow.refl (e : Same G.h H) : Grow G H G H := ⟨Le.refl _, Same.refl _, e, fun _ h => .inl h, rfl⟩
theorem Grow.trans {G2 : Kn} {H2 : Hp} (a : Grow G H G' H') (b : Grow G' H' G2 H2) : Grow G H G2 H2 := ⟨a.gg.trans b.gg, a.hh.trans b.hh, b.gh, fun c h => by
  rcases b.new c h with q | q
  · exact a.new c q
  · exact .inr (a.hh.free q), b.aa.trans a.aa⟩
theorem upd_same' {H : Hp} {o : HO} {p : Addr} (hp : H p = none) : Same H (upd H p o) := fun b u q => by rw [upd_ne (ne_of_none q hp)]; exact q
theorem Le.up {o : HO} {p : Addr} (hp : G.h p = none) : Le G (G.up p o) := .of (upd_same' hp) rfl
/-- a new object laid at p -/
theorem Grow.new_at {o : HO} {p : Addr} (e : Same G.h H) (hp : H p = none) : Grow G H (G.up p o) (upd H p o) := by
  have gp : G.h p = none := e.free hp
  refine ⟨.up gp, upd_same' hp, fun b u q => ?_, fun b h => ?_, rfl⟩
  · replace q : upd G.h p o b = some u := q
    by_cases hb : b = p
    · subst hb; rw [upd_same] at q ⊢; exact q
    · rw [upd_ne hb] at q ⊢; exact e _ _ q
  · replace h : upd G.h p o b ≠ none := h
    by_cases hb : b = p
    · subst hb; exact .inr hp
    · rw [upd_ne hb] at h; exact .inl h
section
variable {W W' : List Addr} {t t' : Hp} {st : List (Option D)}
theorem Cells.non (g : Grow G H G' H') {a : Addr} {o : HO} (h2 : G.h a = none) (ho : H a = some o) : G'.h a = none := by
  cases q : G'.h a with
  | none => rfl
  | some u =>
    rcases g.new a (by rw [q]; simp) with z | z
    · exact absurd h2 z
    · rw [ho] at z; cases z
theorem Cells.grow (C : Cells K cl W t G H st) (g : Grow G H G' H') : Cells K cl W t G' H' st := by
  refine ⟨by rw [g.aa]; exact C.len, by rw [g.aa]; exact C.nd, by rw [g.aa]; exact C.th, by rw [g.aa]; exact C.fw, fun a ha => ?_, fun n c h => ?_⟩
  · rw [g.aa] at ha
    exact fun z => C.hh a ha (g.hh.free z)
  · obtain ⟨a, h1, h2, h3⟩ := C.got n c h
    obtain ⟨o, ho⟩ := h3.there
    exact ⟨a, by rw [g.aa]; exact h1, Cells.non g h2 ho, h3.at g.gg ((g.hh _ _ ho).trans ho.symm)⟩
/-- an object that is no cell becomes known -/
theorem Cells.know (C : Cells K cl W t G H st) {a : Addr} {o : HO} (hg : G.h a = none) (ha : a ∉ G.A) : Cells K cl W t (G.up a o) H st :=
  ⟨C.len, C.nd, C.th, C.fw, C.hh, fun n c h => by
    obtain ⟨b, h1, h2, h3⟩ := C.got n c h
    have hb : b ≠ a := fun z => ha (z ▸ List.mem_of_getElem? h1)
    exact ⟨b, h1, by show upd G.h a o b = none; rw [upd_ne hb]; exact h2, h3.at (.up hg) rfl⟩⟩
/-- the heap is changed elsewhere -/
theorem Cells.off (C : Cells K cl W t G H st) {a : Addr} {o : HO} (ha : a ∉ G.A) : Cells K cl W t G (upd H a o) st := by
  refine ⟨C.len, C.nd, C.th, C.fw, fun b hb => ?_, fun n c h => ?_⟩
  · rw [upd_ne (fun z => ha (by rw [← z]; exact hb))]
    exact C.hh b hb
  · obtain ⟨b, h1, h2, h3⟩ := C.got n c h
    have hb : b ≠ a := fun z => ha (z ▸ List.mem_of_getElem? h1)
    exact ⟨b, h1, h2, h3.at (Le.refl _) (upd_ne hb)⟩
/-- others hold other things -/
theorem Cells.held (C : Cells K cl W t G H st) (k : ∀ a ∈ G.A, t' a = none) : Cells K cl W t' G H st := ⟨C.len, C.nd, k, C.fw, C.hh, C.got⟩
theorem Cells.fresh (C : Cells K cl W t G H st) {p : Addr} (hp : H p = none) : p ∉ G.A := fun h => C.hh p h hp
end
theorem EOk.grow (E : EOk K cl F T G H σ ρ) (g : Grow G H G' H') : EOk K cl F T G' H' σ ρ := by
  have non : ∀ {a : Addr} {o : HO}, G.h a = none → H a = some o → G'.h a = none := fun {a o} h2 ho => Cells.non g h2 ho
  refine ⟨E.len, fun i d h => ?_, fun i w d h => ?_, fun i w d h => ?_, E.sep, E.g0.trans g.gg, fun b h => ?_, g.gh, E.th.trans g.hh, fun a ha => ?_, E.cs.grow g⟩
  · obtain ⟨v, h1, h2⟩ := E.val i d h
    exact ⟨v, h1, h2.mono g.gg⟩
  · obtain ⟨a, h1, ⟨h2, h2'⟩, h3, h4, h5⟩ := E.own i w d h
    obtain ⟨o, ho⟩ := h5.there
    exact ⟨a, h1, ⟨non h2 ho, by rw [g.aa]; exact h2'⟩, h3, h4, h5.at g.gg ((g.hh _ _ ho).trans ho.symm)⟩
  · obtain ⟨a, o', h1, ⟨h2, h2'⟩, h3, h4, h5⟩ := E.lck i w d h
    obtain ⟨o, ho⟩ := h5.there
    exact ⟨a, o', h1, ⟨non h2 ho, by rw [g.aa]; exact h2'⟩, h3, h4, h5.at g.gg ((g.hh _ _ ho).trans ho.symm)⟩
  · rcases g.new b h with z | z
    · exact E.gt b z
    · exact .inr (E.th.free z)
  · intro z
    exact E.wh a ha (g.hh.free z)
/-- a value's object goes out -/
theorem EOk.esc (E : EOk K cl F T G H σ ρ) (h : RvOk K cl G σ v r) (p : DL.esc ρ r = some (d, ρ')) : ∃ G', Le G G' ∧ EOk K cl F T G' H σ ρ' ∧ Rep K cl G' v d := by
  cases r with
  | val e =>
    simp only [DL.esc, Option.some.injEq, Prod.mk.injEq] at p
    obtain ⟨rfl, rfl⟩ := p
    exact ⟨G, Le.refl _, E, h⟩
  | ref i =>
    have hv : σ[i]? = some (some v) := h
    simp only [DL.esc] at p
    split at p
    · rename_i e q
      simp only [Option.some.injEq, Prod.mk.injEq] at p
      obtain ⟨rfl, rfl⟩ := p
      obtain ⟨a, h1, ⟨h2, h2'⟩, h3, h4, h5⟩ := E.own i none e q
      rw [h1] at hv; cases hv
      obtain ⟨o, ho⟩ := h5.there
      have gg : Le G (G.up a o) := .up h2
      have hi : i < ρ.sl.length := (List.getElem?_eq_some_iff.mp q).1
      have un : ∀ {b : Addr}, b ≠ a → (G.up a o).h b = G.h b := fun hb => upd_ne hb
      have us : (G.up a o).h a = some o := upd_same
      refine ⟨G.up a o, gg, ⟨by simpa using E.len, fun j d' h' => ?_, fun j w d' h' => ?_, fun j w d' h' => ?_, fun j k b x y e1 e2 e3 e4 => ?_, E.g0.trans gg, fun b hb => ?_, fun b u hb => ?_, E.th, E.wh, E.cs.know h2 h2'⟩, h5.rep gg ho us⟩
      · by_cases hj : i = j
        · subst hj
          rw [List.getElem?_set_self hi] at h'; cases h'
          exact ⟨_, h1, h5.rep gg ho us⟩
        · rw [List.getElem?_set_ne hj] at h'
          obtain ⟨u, k1, k2⟩ := E.val j d' h'
          exact ⟨u, k1, k2.mono gg⟩
      · by_cases hj : i = j
        · subst hj
          rw [List.getElem?_set_self hi] at h'; cases h'
        · rw [List.getElem?_set_ne hj] at h'
          obtain ⟨b, k1, ⟨k2, k2'⟩, k3, k4, k5⟩ := E.own j w d' h'
          have hb : b ≠ a := fun z => by subst z; exact hj (E.sep i j b _ _ q h' (by simp [Sl.obj]) (by simp [Sl.obj]) h1 k1)
          exact ⟨b, k1, ⟨by rw [un hb]; exact k2, k2'⟩, k3, k4, k5.at gg rfl⟩
      · by_cases hj : i = j
        · subst hj
          rw [List.getElem?_set_self hi] at h'; cases h'
        · rw [List.getElem?_set_ne hj] at h'
          obtain ⟨b, o', k1, ⟨k2, k2'⟩, k3, k4, k5⟩ := E.lck j w d' h'
          have hb : b ≠ a := fun z => by subst z; rw [h3] at k3; cases k3.2
          exact ⟨b, o', k1, ⟨by rw [un hb]; exact k2, k2'⟩, k3, k4, k5.at gg rfl⟩
      · by_cases hj : i = j
        · subst hj
          rw [List.getElem?_set_self hi] at e1; cases e1
          exact absurd rfl e3
        · by_cases hk : i = k
          · subst hk
            rw [List.getElem?_set_self hi] at e2; cases e2
            exact absurd rfl e4
          · rw [List.getElem?_set_ne hj] at e1
            rw [List.getElem?_set_ne hk] at e2
            exact E.sep j k b x y e1 e2 e3 e4
      · by_cases hb' : b = a
        · subst hb'; exact .inr h3
        · rw [un hb'] at hb; exact E.gt b hb
      · by_cases hb' : b = a
        · subst hb'; rw [us] at hb; cases hb; exact ho
        · rw [un hb'] at hb; exact E.gh b u hb
    · rename_i e q
      simp only [Option.some.injEq, Prod.mk.injEq] at p
      obtain ⟨rfl, rfl⟩ := p
      obtain ⟨u, h1, h2⟩ := E.val i e q
      rw [h1] at hv; cases hv
      exact ⟨G, Le.refl _, E, h2⟩
    · cases p
theorem EOk.escs : ∀ {rs : List RV} {G : Kn} {ρ ρ' : En} {vs : List V} {ds : List D}, EOk K cl F T G H σ ρ → RvOks K cl G σ vs rs → DL.escs ρ rs = some (ds, ρ') → ∃ G', Le G G' ∧ EOk K cl F T G' H σ ρ' ∧ Reps K cl G' vs ds
  | [], G, ρ, ρ', vs, ds, E, h, p => by
    simp only [DL.escs, Option.some.injEq, Prod.mk.injEq] at p
    obtain ⟨rfl, rfl⟩ := p
    cases h
    exact ⟨G, Le.refl _, E, .nil⟩
  | r :: rs, G, ρ, ρ', vs, ds, E, h, p => by
    simp only [DL.escs, Option.bind_eq_some_iff, Option.map_eq_some_iff, Prod.mk.injEq] at p
    obtain ⟨⟨d, ρ1⟩, h1, ⟨ds', ρ2⟩, h2, rfl, rfl⟩ := p
    cases h with
    | cons k1 k2 =>
      obtain ⟨G1, g1, E1, R1⟩ := E.esc k1 h1
      obtain ⟨G2, g2, E2, R2⟩ := EOk.escs E1 (k2.mono g1) h2
      exact ⟨G2, g1.trans g2, E2, .cons (R1.mono g2) R2⟩
/-- a place gets a value -/
theorem EOk.set {i : Nat} (E : EOk K cl F T G H σ ρ) (h : Rep K cl G v d) : EOk K cl F T G H (σ.set i (some v)) (ρ.set i (.val d)) := by
  by_cases hi : i < ρ.sl.length
  · have hs : i < σ.length := by rw [E.len]; exact hi
    refine ⟨by simpa using E.len, fun j d' h' => ?_, fun j w d' h' => ?_, fun j w d' h' => ?_, fun j k b x y e1 e2 e3 e4 e5 e6 => ?_, E.g0, E.gt, E.gh, E.th, E.wh, E.cs⟩
    · by_cases hj : i = j
      · subst hj
        rw [List.getElem?_set_self hi] at h'; cases h'
        exact ⟨v, List.getElem?_set_self hs, h⟩
      · rw [List.getElem?_set_ne hj] at h' ⊢
        exact E.val j d' h'
    · by_cases hj : i = j
      · subst hj
        rw [List.getElem?_set_self hi] at h'; cases h'
      · rw [List.getElem?_set_ne hj] at h' ⊢
        exact E.own j w d' h'
    · by_cases hj : i = j
      · subst hj
        rw [List.getElem?_set_self hi] at h'; cases h'
      · rw [List.getElem?_set_ne hj] at h' ⊢
        exact E.lck j w d' h'
    · by_cases hj : i = j
      · subst hj
        rw [List.getElem?_set_self hi] at e1; cases e1
        exact absurd rfl e3
      · by_cases hk : i = k
        · subst hk
          rw [List.getElem?_set_self hi] at e2; cases e2
          exact absurd rfl e4
        · rw [List.getElem?_set_ne hj] at e1 e5
          rw [List.getElem?_set_ne hk] at e2 e6
          exact E.sep j k b x y e1 e2 e3 e4 e5 e6
  · have : (ρ.set i (.val d)) = ρ := by
      show En.mk _ _ = ρ
      rw [List.set_eq_of_length_le (by omega)]
    rw [this, List.set_eq_of_length_le (by rw [E.len]; omega)]
    exact E
/-- places forgotten -/
theorem EOk.forget {σ' : L2.St} {ρ' : En} (E : EOk K cl F T G H σ ρ) (hl : ρ'.sl.length = ρ.sl.length) (hst : ρ'.st = ρ.st) (hs : σ'.length = σ.length) (h : ∀ (i : Nat) (x : Sl), ρ'.sl[i]? = some x → x = .emp ∨ (ρ.sl[i]? = some x ∧ σ'[i]? = σ[i]?)) : EOk K cl F T G H σ' ρ' := by
  refine ⟨by rw [hl, hs]; exact E.len, fun j d' h' => ?_, fun j w d' h' => ?_, fun j w d' h' => ?_, fun j k b x y e1 e2 e3 e4 e5 e6 => ?_, E.g0, E.gt, E.gh, E.th, E.wh, by rw [hst]; exact E.cs⟩
  · rcases h j _ h' with z | ⟨z1, z2⟩
    · cases z
    · rw [z2]; exact E.val j d' z1
  · rcases h j _ h' with z | ⟨z1, z2⟩
    · cases z
    · rw [z2]; exact E.own j w d' z1
  · rcases h j _ h' with z | ⟨z1, z2⟩
    · cases z
    · rw [z2]; exact E.lck j w d' z1
  · rcases h j _ e1 with z | ⟨z1, z2⟩
    · subst z; exact absurd rfl e3
    · rcases h k _ e2 with z' | ⟨z3, z4⟩
      · subst z'; exact absurd rfl e4
      · rw [z2] at e5
        rw [z4] at e6
        exact E.sep j k b x y z1 z3 e3 e4 e5 e6
end
end DL

/-! E1: expressions, tests, arguments -/
namespace DL
open PySem L2

abbrev Ex := En → Option (RV × En)
abbrev Tx := En → Option (Bool × En)
abbrev Ax := En → Option (List RV × En)

section
variable (K : PySem.W.Frag) (cl : String → Option Addr)
def tD (m : Ex) : TE := fun σ H Q => ∃ F T G ρ r ρ', EOk K cl F T G H σ ρ ∧ m ρ = some (r, ρ') ∧
  ∀ v G' H', Le G G' → EOk K cl F T G' H' σ ρ' → RvOk K cl G' σ v r → Q v H'
def tDT (m : Tx) : TT := fun σ H Q => ∃ F T G ρ b ρ', EOk K cl F T G H σ ρ ∧ m ρ = some (b, ρ') ∧ ∀ G' H', Le G G' → EOk K cl F T G' H' σ ρ' → Q b H'
def tDA (m : Ax) : TA := fun σ H Q => ∃ F T G ρ rs ρ', EOk K cl F T G H σ ρ ∧ m ρ = some (rs, ρ') ∧
  ∀ vs G' H', Le G G' → EOk K cl F T G' H' σ ρ' → RvOks K cl G' σ vs rs → Q vs H'
end

section
variable {X : Cx} {cl : String → Option Addr}
theorem pe_imp {e : Expr} {t t' : TE} (h : PE X e t) (i : ∀ σ H Q, t' σ H Q → t σ H Q) : PE X e t' := ⟨fun pins s σ H Q I q => h.run pins s σ H Q I (i _ _ _ q)⟩
theorem pt_imp {e : Expr} {t t' : TT} (h : PT X e t) (i : ∀ σ H Q, t' σ H Q → t σ H Q) : PT X e t' := ⟨fun pins s σ H Q I q => h.run pins s σ H Q I (i _ _ _ q)⟩
theorem pw_imp {e : Expr} {t t' : TT} (h : PW X e t) (i : ∀ σ H Q, t' σ H Q → t σ H Q) : PW X e t' := ⟨fun wh pins s σ H Q I q => h.run wh pins s σ H Q I (i _ _ _ q)⟩
theorem pa_imp {es : List Expr} {t t' : TA} (h : PA X es t) (i : ∀ σ H Q, t' σ H Q → t σ H Q) : PA X es t' := ⟨fun p pins s σ H Q I q => h.run p pins s σ H Q I (i _ _ _ q)⟩
abbrev PD (X : Cx) (cl : String → Option Addr) (e : Expr) (m : Ex) : Prop := PE X e (tD X.K cl m)
abbrev PDT (X : Cx) (cl : String → Option Addr) (e : Expr) (m : Tx) : Prop := PT X e (tDT X.K cl m)
abbrev PDW (X : Cx) (cl : String → Option Addr) (e : Expr) (m : Tx) : Prop := PW X e (tDT X.K cl m)
abbrev PDA (X : Cx) (cl : String → Option Addr) (es : List Expr) (m : Ax) : Prop := PA X es (tDA X.K cl m)

/-! ### names and constants -/
def eVar (i : Nat) : Ex := fun ρ => match ρ.sl[i]? with
  | some (.val d) => some (.val d, ρ)
  | some (.own _ _) => some (.ref i, ρ)
  | some (.lck _ _) => some (.ref i, ρ)
  | _ => none
theorem d_var (i : Nat) {x : Str} {pos : Pos} (hN : X.N[i]? = some x := by rfl) (hv : Vis X.env.scope x := by first | exact Or.inl rfl | exact Or.inr (Or.inl rfl) | exact Or.inr (Or.inr rfl)) (hd : (x == ("__debug__" : Str)) = false := by decide)
    (hcd : (x == ("__classdict__" : Str)) = false := by decide) : PD X cl (.Name x pos) (eVar i) := by
  refine pe_imp (pe_var hN hv hd hcd) fun σ H Q h => ?_
  obtain ⟨F, T, G, ρ, r, ρ', E, e, q⟩ := h
  unfold eVar at e
  split at e
  · rename_i d hd
    cases e
    obtain ⟨v, h1, h2⟩ := E.val i d hd
    exact ⟨v, h1, q v G H (Le.refl _) E h2⟩
  · rename_i w d hd
    cases e
    obtain ⟨a, h1, _⟩ := E.own i w d hd
    exact ⟨.ref a, h1, q (.ref a) G H (Le.refl _) E h1⟩
  · rename_i w d hd
    cases e
    obtain ⟨a, o, h1, _⟩ := E.lck i w d hd
    exact ⟨.ref a, h1, q (.ref a) G H (Le.refl _) E h1⟩
  · cases e
/-- a constant -/
def eC (d : D) : Ex := fun ρ => some (.val d, ρ)
theorem d_c {e : Expr} {v : V} {d : D} (h : PE X e (tC v)) (r : ∀ G, Rep X.K cl G v d) : PD X cl e (eC d) := by
  refine pe_imp h fun σ H Q h => ?_
  obtain ⟨F, T, G, ρ, _, _, E, e, q⟩ := h
  cases e
  exact q v G H (Le.refl _) E (r G)
theorem d_int {i j pos} : PD X cl (.Constant (.int i) j pos) (eC (.int i)) := d_c pe_int fun _ => .int i
theorem d_bl {b j pos} : PD X cl (.Constant (.bool b) j pos) (eC (.bl b)) := d_c pe_bl fun _ => .bl b
theorem d_non {j pos} : PD X cl (.Constant .none j pos) (eC .non) := d_c pe_non fun _ => .non
theorem d_str {x j pos} (h : x.length ≤ sizeLine := by decide) : PD X cl (.Constant (.str x) j pos) (eC (.str x)) := d_c pe_str fun _ => .str x h

/-! ### one- and two-place operations -/
def OpD (X : Cx) (cl : String → Option Addr) (f : Value → Value → Sem Value) (g : D → D → Option D) : Prop :=
  OpR X f fun x y H Q => ∃ G d e r, Same G.h H ∧ Top X.K cl G H x d ∧ Top X.K cl G H y e ∧ g d e = some r ∧ ∀ v G' H', Grow G H G' H' → Rep X.K cl G' v r → Q v H'
def UnD (X : Cx) (cl : String → Option Addr) (f : Value → Sem Value) (g : D → Option D) : Prop :=
  UnR X f fun x H Q => ∃ G d r, Same G.h H ∧ Top X.K cl G H x d ∧ g d = some r ∧ ∀ v G' H', Grow G H G' H' → Rep X.K cl G' v r → Q v H'
def CallD (X : Cx) (cl : String → Option Addr) (f : Value) (g : List D → Option D) : Prop :=
  CallR X f fun xs H Q => ∃ G ds r, Same G.h H ∧ Paired (Top X.K cl G H) xs ds ∧ g ds = some r ∧ ∀ v G' H', Grow G H G' H' → Rep X.K cl G' v r → Q v H'
def eBin (g : D → D → Option D) (ma mb : Ex) : Ex := fun ρ =>
  (ma ρ).bind fun p => (mb p.2).bind fun q => (peek q.2 p.1).bind fun d => (peek q.2 q.1).bind fun e => (g d e).map fun r => (.val r, q.2)
def eUn (g : D → Option D) (ma : Ex) : Ex := fun ρ => (ma ρ).bind fun p => (peek p.2 p.1).bind fun d => (g d).map fun r => (.val r, p.2)
theorem bin_run {K : PySem.W.Frag} {g : D → D → Option D} {ma mb : Ex} {σ : L2.St} {H : Hp} {Q : VK} {r : R2}
    (hr : ∀ x y H Q G d e r', Same G.h H → Top K cl G H x d → Top K cl G H y e → g d e = some r' → (∀ v G' H', Grow G H G' H' → Rep K cl G' v r' → Q v H') → r x y H Q)
    (h : tD K cl (eBin g ma mb) σ H Q) : tOp r (tD K cl ma) (tD K cl mb) σ H Q := by
  obtain ⟨F, T, G, ρ, r1, ρ', E, e, q⟩ := h
  simp only [eBin, Option.bind_eq_some_iff, Option.map_eq_some_iff, Prod.mk.injEq] at e
  obtain ⟨⟨ra, ρ1⟩, e1, ⟨rb, ρ2⟩, e2, d, e3, d', e4, r', e5, rfl, rfl⟩ := e
  refine ⟨F, T, G, ρ, ra, ρ1, E, e1, fun x G1 H1 g1 E1 R1 => ?_⟩
  refine ⟨F, T, G1, ρ1, rb, ρ2, E1, e2, fun y G2 H2 g2 E2 R2 => ?_⟩
  exact hr x y H2 Q G2 d d' r' E2.gh (E2.top (R1.mono g2) e3) (E2.top R2 e4) e5 fun v G3 H3 gr R3 => q v G3 H3 (g1.trans (g2.trans gr.gg)) (E2.grow gr) R3
variable {a b c : Expr} {ma mb mc : Ex} {pos : Pos}
theorem d_bin {op : Operator} {g : D → D → Option D} (ho : OpD X cl (binaryOp op) g) (ha : PD X cl a ma) (hb : PD X cl b mb) : PD X cl (.BinOp a op b pos) (eBin g ma mb) :=
  pe_imp (pe_op ho ha hb) fun σ H Q h => bin_run (fun x y H Q G d e r' h1 h2 h3 h4 h5 => ⟨G, d, e, r', h1, h2, h3, h4, h5⟩) h
theorem d_cmp {op : CmpOp} {g : D → D → Option D} (ho : OpD X cl (compareOp op) g) (ha : PD X cl a ma) (hb : PD X cl b mb) (hm : behindInMarks op b = false) : PD X cl (.Compare a [op] [b] pos) (eBin g ma mb) :=
  pe_imp (pe_cmpR ho ha hb hm) fun σ H Q h => bin_run (fun x y H Q G d e r' h1 h2 h3 h4 h5 => ⟨G, d, e, r', h1, h2, h3, h4, h5⟩) h
theorem d_un {op : UnaryOp} {g : D → Option D} (ho : UnD X cl (unaryOp op) g) (ha : PD X cl a ma) : PD X cl (.UnaryOp op a pos) (eUn g ma) := by
  refine pe_imp (pe_un ho ha) fun σ H Q h => ?_
  obtain ⟨F, T, G, ρ, r1, ρ', E, e, q⟩ := h
  simp only [eUn, Option.bind_eq_some_iff, Option.map_eq_some_iff, Prod.mk.injEq] at e
  obtain ⟨⟨ra, ρ1⟩, e1, d, e3, r', e5, rfl, rfl⟩ := e
  refine ⟨F, T, G, ρ, ra, ρ1, E, e1, fun x G1 H1 g1 E1 R1 => ?_⟩
  exact ⟨G1, d, r', E1.gh, E1.top R1 e3, e5, fun v G3 H3 gr R3 => q v G3 H3 (g1.trans gr.gg) (E1.grow gr) R3⟩

/-! ### tests -/
def asB : RV → Option Bool
  | .val (.bl b) => some b
  | _ => none
/-- a test by a value that is a bool -/
def bVal (m : Ex) : Tx := fun ρ => (m ρ).bind fun p => (asB p.1).map fun b => (b, p.2)
theorem asB_eq {r : RV} {b : Bool} (h : asB r = some b) : r = .val (.bl b) := by
  cases r with
  | val d => cases d <;> simp [asB] at h; subst h; rfl
  | ref i => simp [asB] at h
theorem bval_run {K : PySem.W.Frag} {m : Ex} {σ : L2.St} {H : Hp} {Q : Bool → Hp → Prop} (h : tDT K cl (bVal m) σ H Q) : tTest (tD K cl m) σ H Q := by
  obtain ⟨F, T, G, ρ, b, ρ', E, e, q⟩ := h
  simp only [bVal, Option.bind_eq_some_iff, Option.map_eq_some_iff, Prod.mk.injEq] at e
  obtain ⟨⟨r, ρ1⟩, e1, b', e2, rfl, rfl⟩ := e
  refine ⟨F, T, G, ρ, r, ρ1, E, e1, fun v G' H' g E' R => ?_⟩
  have hr : r = _ := asB_eq e2
  subst hr
  cases R
  exact ⟨b', rfl, q G' H' g E'⟩
theorem t_cmp {op : CmpOp} {g : D → D → Option D} (ho : OpD X cl (compareOp op) g) (ha : PD X cl a ma) (hb : PD X cl b mb) (hm : behindInMarks op b = false) : PDT X cl (.Compare a [op] [b] pos) (bVal (eBin g ma mb)) := by
  refine pt_imp (pt_cmpR ho ha hb hm) fun σ H Q h => ?_
  have h' := bval_run h
  exact bin_run (fun x y H Q G d e r' h1 h2 h3 h4 h5 => ⟨G, d, e, r', h1, h2, h3, h4, h5⟩) h'
/-- a op b op' c -/
def eChain (g g' : D → D → Option D) (ma mb mc : Ex) : Ex := fun ρ =>
  (ma ρ).bind fun p => (mb p.2).bind fun q => (peek q.2 p.1).bind fun d => (peek q.2 q.1).bind fun e => (g d e).bind fun r => match r with
    | .bl true => (mc q.2).bind fun s => (peek s.2 q.1).bind fun e' => (peek s.2 s.1).bind fun f => (g' e' f).map fun r => (.val r, s.2)
    | .bl false => some (.val (.bl false), q.2)
    | _ => none
theorem chain_run {K : PySem.W.Frag} {g g' : D → D → Option D} {σ : L2.St} {H : Hp} {Q : VK} {r r' : R2}
    (hr : ∀ x y H Q G d e r', Same G.h H → Top K cl G H x d → Top K cl G H y e → g d e = some r' → (∀ v G' H', Grow G H G' H' → Rep K cl G' v r' → Q v H') → r x y H Q)
    (hr' : ∀ x y H Q G d e r1, Same G.h H → Top K cl G H x d → Top K cl G H y e → g' d e = some r1 → (∀ v G' H', Grow G H G' H' → Rep K cl G' v r1 → Q v H') → r' x y H Q)
    (h : tD K cl (eChain g g' ma mb mc) σ H Q) : tChain r r' (tD K cl ma) (tD K cl mb) (tD K cl mc) σ H Q := by
  obtain ⟨F, T, G, ρ, r1, ρ', E, e, q⟩ := h
  simp only [eChain, Option.bind_eq_some_iff] at e
  obtain ⟨⟨ra, ρ1⟩, e1, ⟨rb, ρ2⟩, e2, d, e3, d', e4, r0, e5, e6⟩ := e
  refine ⟨F, T, G, ρ, ra, ρ1, E, e1, fun x G1 H1 g1 E1 R1 => ?_⟩
  refine ⟨F, T, G1, ρ1, rb, ρ2, E1, e2, fun y G2 H2 g2 E2 R2 => ?_⟩
  refine hr x y H2 _ G2 d d' r0 E2.gh (E2.top (R1.mono g2) e3) (E2.top R2 e4) e5 fun z G3 H3 gr R3 => ?_
  split at e6
  · cases R3
    refine ⟨true, rfl, ?_⟩
    rw [if_pos rfl]
    simp only [Option.bind_eq_some_iff, Option.map_eq_some_iff, Prod.mk.injEq] at e6
    obtain ⟨⟨rc, ρ3⟩, k1, d2, k2, d3, k3, r4, k4, rfl, rfl⟩ := e6
    have E3 := E2.grow gr
    refine ⟨F, T, G3, ρ2, rc, ρ3, E3, k1, fun w G4 H4 g4 E4 R4 => ?_⟩
    exact hr' y w H4 Q G4 d2 d3 r4 E4.gh (E4.top (R2.mono (gr.gg.trans g4)) k2) (E4.top R4 k3) k4 fun v G5 H5 gr5 R5 => q v G5 H5 (g1.trans (g2.trans (gr.gg.trans (g4.trans gr5.gg)))) (E4.grow gr5) R5
  · cases R3
    refine ⟨false, rfl, ?_⟩
    rw [if_neg Bool.false_ne_true]
    simp only [Option.some.injEq, Prod.mk.injEq] at e6
    obtain ⟨rfl, rfl⟩ := e6
    exact q (.bl false) G3 H3 (g1.trans (g2.trans gr.gg)) (E2.grow gr) (Rep.bl false)
  · cases e6
theorem d_chain {op op' : CmpOp} {g g' : D → D → Option D} (ho : OpD X cl (compareOp op) g) (ho' : OpD X cl (compareOp op') g') (ha : PD X cl a ma) (hb : PD X cl b mb) (hc : PD X cl c mc)
    (hm : lastMarks [op, op'] [b, c] = false := by with_unfolding_all rfl) : PD X cl (.Compare a [op, op'] [b, c] pos) (eChain g g' ma mb mc) :=
  pe_imp (pe_chain ho ho' ha hb hc hm) fun σ H Q h => chain_run (fun x y H Q G d e r' h1 h2 h3 h4 h5 => ⟨G, d, e, r', h1, h2, h3, h4, h5⟩) (fun x y H Q G d e r' h1 h2 h3 h4 h5 => ⟨G, d, e, r', h1, h2, h3, h4, h5⟩) h
theorem t_chain {op op' : CmpOp} {g g' : D → D → Option D} (ho : OpD X cl (compareOp op) g) (ho' : OpD X cl (compareOp op') g') (ha : PD X cl a ma) (hb : PD X cl b mb) (hc : PD X cl c mc)
    (hm : lastMarks [op, op'] [b, c] = false := by with_unfolding_all rfl) : PDT X cl (.Compare a [op, op'] [b, c] pos) (bVal (eChain g g' ma mb mc)) := by
  refine pt_imp (pt_chain ho ho' ha hb hc hm) fun σ H Q h => ?_
  have h' := bval_run h
  exact chain_run (fun x y H Q G d e r' h1 h2 h3 h4 h5 => ⟨G, d, e, r', h1, h2, h3, h4, h5⟩) (fun x y H Q G d e r' h1 h2 h3 h4 h5 => ⟨G, d, e, r', h1, h2, h3, h4, h5⟩) h'
/-- truth of any value -/
def truth : D → Option Bool
  | .non => some false
  | .bl b => some b
  | .int i => some (i != 0)
  | .str x => some ((x.length : Int) != 0)
  | .scr ns => some !ns.isEmpty
  | .list ds => some !ds.isEmpty
  | .tup ds => some !ds.isEmpty
  | .dict ks => some !ks.isEmpty
  | .inst _ _ => none
  | .cel _ => none
theorem Reps.isEmpty {K : PySem.W.Frag} {G : Kn} {vs : List V} {ds : List D} (h : Reps K cl G vs ds) : vs.isEmpty = ds.isEmpty := by cases h <;> rfl
theorem truth_ok {K : PySem.W.Frag} {G : Kn} {H : Hp} {v : V} {d : D} {b : Bool} (gh : Same G.h H) (h : Top K cl G H v d) (t : truth d = some b) : TruV K v H b := by
  cases h with
  | non => cases t; rfl
  | bl b => cases t; rfl
  | int i => cases t; rfl
  | str x h => cases t; exact ⟨h, rfl⟩
  | scr h l => cases t; exact .inl ⟨_, gh.seq h, by simp⟩
  | list h l r => cases t; exact .inl ⟨_, SqL.of h, by rw [r.isEmpty]⟩
  | tup h l r => cases t; exact .inr (.inl ⟨_, sameT gh h, by rw [r.isEmpty]⟩)
  | dict h l r => cases t; refine .inr (.inr ⟨_, h, ?_⟩); cases r <;> rfl
  | inst h c r => cases t
  | cel h => cases t
def bTru (m : Ex) : Tx := fun ρ => (m ρ).bind fun p => (peek p.2 p.1).bind fun d => (truth d).map fun b => (b, p.2)
theorem t_tru {m : Ex} (h : PD X cl a m) (he : ∀ whole, isTrue a X.env whole = (do let v ← whole; standAt a.pos; holding [v] (truthy v)) := by intro _; rfl) : PDT X cl a (bTru m) := by
  refine pt_imp (pt_truth h he) fun σ H Q h => ?_
  obtain ⟨F, T, G, ρ, b, ρ', E, e, q⟩ := h
  simp only [bTru, Option.bind_eq_some_iff, Option.map_eq_some_iff, Prod.mk.injEq] at e
  obtain ⟨⟨r, ρ1⟩, e1, d, e2, b', e3, rfl, rfl⟩ := e
  exact ⟨F, T, G, ρ, r, ρ1, E, e1, fun v G' H' g E' R => ⟨b', truth_ok E'.gh (E'.top R e2) e3, q G' H' g E'⟩⟩
/-! and, or, not -/
def bNot (m : Tx) : Tx := fun ρ => (m ρ).map fun p => (!p.1, p.2)
def bAnd (m n : Tx) : Tx := fun ρ => (m ρ).bind fun p => if p.1 = true then n p.2 else some (false, p.2)
def bOr (m n : Tx) : Tx := fun ρ => (m ρ).bind fun p => if p.1 = true then some (true, p.2) else n p.2
variable {m n : Tx} {rest : List Expr}
theorem t_not (h : PDT X cl a m) : PDT X cl (.UnaryOp .Not a pos) (bNot m) := by
  refine pt_imp (pt_not h) fun σ H Q h => ?_
  obtain ⟨F, T, G, ρ, b, ρ', E, e, q⟩ := h
  simp only [bNot, Option.map_eq_some_iff, Prod.mk.injEq] at e
  obtain ⟨⟨b', ρ1⟩, e1, rfl, rfl⟩ := e
  exact ⟨F, T, G, ρ, b', ρ1, E, e1, fun G' H' g E' => q G' H' g E'⟩
theorem w_and1 (h : PDT X cl a m) : PDW X cl (.BoolOp .And [a] pos) m := pw_and1 h
theorem w_or1 (h : PDT X cl a m) : PDW X cl (.BoolOp .Or [a] pos) m := pw_or1 h
theorem w_and (h : PDT X cl a m) (k : PDW X cl (.BoolOp .And (b :: rest) pos) n) : PDW X cl (.BoolOp .And (a :: b :: rest) pos) (bAnd m n) := by
  refine pw_imp (pw_and h k) fun σ H Q h => ?_
  obtain ⟨F, T, G, ρ, x, ρ', E, e, q⟩ := h
  simp only [bAnd, Option.bind_eq_some_iff] at e
  obtain ⟨⟨c, ρ1⟩, e1, e2⟩ := e
  refine ⟨F, T, G, ρ, c, ρ1, E, e1, fun G1 H1 g1 E1 => ?_⟩
  cases c with
  | true => exact ⟨F, T, G1, ρ1, x, ρ', E1, by simpa using e2, fun G2 H2 g2 E2 => q G2 H2 (g1.trans g2) E2⟩
  | false =>
    simp at e2
    obtain ⟨rfl, rfl⟩ := e2
    exact q G1 H1 g1 E1
theorem w_or (h : PDT X cl a m) (k : PDW X cl (.BoolOp .Or (b :: rest) pos) n) : PDW X cl (.BoolOp .Or (a :: b :: rest) pos) (bOr m n) := by
  refine pw_imp (pw_or h k) fun σ H Q h => ?_
  obtain ⟨F, T, G, ρ, x, ρ', E, e, q⟩ := h
  simp only [bOr, Option.bind_eq_some_iff] at e
  obtain ⟨⟨c, ρ1⟩, e1, e2⟩ := e
  refine ⟨F, T, G, ρ, c, ρ1, E, e1, fun G1 H1 g1 E1 => ?_⟩
  cases c with
  | true =>
    simp at e2
    obtain ⟨rfl, rfl⟩ := e2
    exact q G1 H1 g1 E1
  | false => exact ⟨F, T, G1, ρ1, x, ρ', E1, by simpa using e2, fun G2 H2 g2 E2 => q G2 H2 (g1.trans g2) E2⟩
theorem t_w (h : PDW X cl a m) : PDT X cl a m := PW.pt h
/-! .. as values: all but the last are bools -/
def eAnd (m n : Ex) : Ex := fun ρ => (m ρ).bind fun p => (asB p.1).bind fun b => if b = true then n p.2 else some (.val (.bl false), p.2)
def eOr (m n : Ex) : Ex := fun ρ => (m ρ).bind fun p => (asB p.1).bind fun b => if b = true then some (.val (.bl true), p.2) else n p.2
theorem d_one {op} {m : Ex} (h : PD X cl a m) : PD X cl (.BoolOp op [a] pos) m := pe_one h
theorem d_and (h : PD X cl a ma) (k : PD X cl (.BoolOp .And (b :: rest) pos) mb) : PD X cl (.BoolOp .And (a :: b :: rest) pos) (eAnd ma mb) := by
  refine pe_imp (pe_and h k) fun σ H Q h => ?_
  obtain ⟨F, T, G, ρ, x, ρ', E, e, q⟩ := h
  simp only [eAnd, Option.bind_eq_some_iff] at e
  obtain ⟨⟨r, ρ1⟩, e1, c, e2, e3⟩ := e
  refine ⟨F, T, G, ρ, r, ρ1, E, e1, fun v G1 H1 g1 E1 R1 => ?_⟩
  have hr : r = _ := asB_eq e2
  subst hr
  cases R1
  refine ⟨c, rfl, ?_⟩
  cases c with
  | true => exact ⟨F, T, G1, ρ1, x, ρ', E1, by simpa using e3, fun v G2 H2 g2 E2 R2 => q v G2 H2 (g1.trans g2) E2 R2⟩
  | false =>
    simp at e3
    obtain ⟨rfl, rfl⟩ := e3
    exact q _ G1 H1 g1 E1 (Rep.bl false)
theorem d_or (h : PD X cl a ma) (k : PD X cl (.BoolOp .Or (b :: rest) pos) mb) : PD X cl (.BoolOp .Or (a :: b :: rest) pos) (eOr ma mb) := by
  refine pe_imp (pe_or h k) fun σ H Q h => ?_
  obtain ⟨F, T, G, ρ, x, ρ', E, e, q⟩ := h
  simp only [eOr, Option.bind_eq_some_iff] at e
  obtain ⟨⟨r, ρ1⟩, e1, c, e2, e3⟩ := e
  refine ⟨F, T, G, ρ, r, ρ1, E, e1, fun v G1 H1 g1 E1 R1 => ?_⟩
  have hr : r = _ := asB_eq e2
  subst hr
  cases R1
  refine ⟨c, rfl, ?_⟩
  cases c with
  | true =>
    simp at e3
    obtain ⟨rfl, rfl⟩ := e3
    exact q _ G1 H1 g1 E1 (Rep.bl true)
  | false => exact ⟨F, T, G1, ρ1, x, ρ', E1, by simpa using e3, fun v G2 H2 g2 E2 R2 => q v G2 H2 (g1.trans g2) E2 R2⟩
def eNot (m : Ex) : Ex := fun ρ => (m ρ).bind fun p => (asB p.1).map fun b => (.val (.bl !b), p.2)
theorem d_not (h : PD X cl a ma) : PD X cl (.UnaryOp .Not a pos) (eNot ma) := by
  refine pe_imp (pe_not h) fun σ H Q h => ?_
  obtain ⟨F, T, G, ρ, x, ρ', E, e, q⟩ := h
  simp only [eNot, Option.bind_eq_some_iff, Option.map_eq_some_iff, Prod.mk.injEq] at e
  obtain ⟨⟨r, ρ1⟩, e1, c, e2, rfl, rfl⟩ := e
  refine ⟨F, T, G, ρ, r, ρ1, E, e1, fun v G1 H1 g1 E1 R1 => ?_⟩
  have hr : r = _ := asB_eq e2
  subst hr
  cases R1
  exact ⟨c, rfl, q _ G1 H1 g1 E1 (Rep.bl _)⟩
/-- a if t else b -/
def eIf (t : Tx) (m n : Ex) : Ex := fun ρ => (t ρ).bind fun p => if p.1 = true then m p.2 else n p.2
theorem d_if {t : Tx} (hc : PDT X cl c t) (ha : PD X cl a ma) (hb : PD X cl b mb) : PD X cl (.IfExp c a b pos) (eIf t ma mb) := by
  refine pe_imp (pe_ifExp hc ha hb) fun σ H Q h => ?_
  obtain ⟨F, T, G, ρ, x, ρ', E, e, q⟩ := h
  simp only [eIf, Option.bind_eq_some_iff] at e
  obtain ⟨⟨c, ρ1⟩, e1, e2⟩ := e
  refine ⟨F, T, G, ρ, c, ρ1, E, e1, fun G1 H1 g1 E1 => ?_⟩
  cases c with
  | true => exact ⟨F, T, G1, ρ1, x, ρ', E1, by simpa using e2, fun v G2 H2 g2 E2 R2 => q v G2 H2 (g1.trans g2) E2 R2⟩
  | false => exact ⟨F, T, G1, ρ1, x, ρ', E1, by simpa using e2, fun v G2 H2 g2 E2 R2 => q v G2 H2 (g1.trans g2) E2 R2⟩

/-! ### arguments and displays -/
def aNil : Ax := fun ρ => some ([], ρ)
def aCons (m : Ex) (n : Ax) : Ax := fun ρ => (m ρ).bind fun p => (n p.2).map fun q => (p.1 :: q.1, q.2)
variable {e : Expr} {es : List Expr} {me : Ex} {mx : Ax}
theorem a_nil : PDA X cl [] aNil := by
  refine pa_imp pa_nil fun σ H Q h => ?_
  obtain ⟨F, T, G, ρ, rs, ρ', E, e, q⟩ := h
  cases e
  exact q [] G H (Le.refl _) E .nil
theorem a_cons (ha : PD X cl e me) (hr : PDA X cl es mx) (hs : starEach (e :: es) X.env = (false, eval e X.env) :: starEach es X.env := by rfl) : PDA X cl (e :: es) (aCons me mx) := by
  refine pa_imp (pa_cons ha hr hs) fun σ H Q h => ?_
  obtain ⟨F, T, G, ρ, rs, ρ', E, e, q⟩ := h
  simp only [aCons, Option.bind_eq_some_iff, Option.map_eq_some_iff, Prod.mk.injEq] at e
  obtain ⟨⟨r, ρ1⟩, e1, ⟨rs', ρ2⟩, e2, rfl, rfl⟩ := e
  refine ⟨F, T, G, ρ, r, ρ1, E, e1, fun v G1 H1 g1 E1 R1 => ?_⟩
  exact ⟨F, T, G1, ρ1, rs', ρ2, E1, e2, fun vs G2 H2 g2 E2 R2 => q (v :: vs) G2 H2 (g1.trans g2) E2 (.cons (R1.mono g2) R2)⟩
def eTup (m : Ax) : Ex := fun ρ => (m ρ).bind fun p => (escs p.2 p.1).bind fun q => if q.1.length ≤ sizeLine then some (.val (.tup q.1), q.2) else none
def eLst (m : Ax) : Ex := fun ρ => (m ρ).bind fun p => (escs p.2 p.1).bind fun q => if q.1.length ≤ sizeLine then some (.val (.list q.1), q.2) else none
theorem d_tup {x1} (h : PDA X cl es mx) : PD X cl (.Tuple es x1 pos) (eTup mx) := by
  refine pe_imp (pe_tup h) fun σ H Q h => ?_
  obtain ⟨F, T, G, ρ, r, ρ', E, e, q⟩ := h
  simp only [eTup, Option.bind_eq_some_iff] at e
  obtain ⟨⟨rs, ρ1⟩, e1, ⟨ds, ρ2⟩, e2, e3⟩ := e
  split at e3
  · rename_i hl
    cases e3
    refine ⟨F, T, G, ρ, rs, ρ1, E, e1, fun vs G1 H1 g1 E1 R1 => ?_⟩
    obtain ⟨G2, g2, E2, R2⟩ := E1.escs R1 e2
    have hlen : vs.length ≤ sizeLine := by rw [R2.length]; exact hl
    refine ⟨hlen, fun p hp => ?_⟩
    have gr := Grow.new_at (o := .tup vs) E2.gh hp
    exact q _ _ _ (g1.trans (g2.trans gr.gg)) (E2.grow gr) (Rep.tup (SqT.of upd_same) hlen (R2.mono gr.gg))
  · cases e3
theorem d_lst (h : PDA X cl es mx) : PD X cl (.List es pos) (eLst mx) := by
  refine pe_imp (pe_lst h) fun σ H Q h => ?_
  obtain ⟨F, T, G, ρ, r, ρ', E, e, q⟩ := h
  simp only [eLst, Option.bind_eq_some_iff] at e
  obtain ⟨⟨rs, ρ1⟩, e1, ⟨ds, ρ2⟩, e2, e3⟩ := e
  split at e3
  · rename_i hl
    cases e3
    refine ⟨F, T, G, ρ, rs, ρ1, E, e1, fun vs G1 H1 g1 E1 R1 => ?_⟩
    obtain ⟨G2, g2, E2, R2⟩ := E1.escs R1 e2
    have hlen : vs.length ≤ sizeLine := by rw [R2.length]; exact hl
    refine ⟨hlen, fun p hp => ?_⟩
    have gr := Grow.new_at (o := .lst vs) E2.gh hp
    exact q _ _ _ (g1.trans (g2.trans gr.gg)) (E2.grow gr) (Rep.list upd_same hlen (R2.mono gr.gg))
  · cases e3

/-! ### calls of built-ins -/
def eCB (g : List D → Option D) (m : Ax) : Ex := fun ρ => (m ρ).bind fun p => (peeks p.2 p.1).bind fun ds => (g ds).map fun r => (.val r, p.2)
theorem cb_run {K : PySem.W.Frag} {g : List D → Option D} {σ : L2.St} {H : Hp} {Q : VK} {r : List V → Hp → VK → Prop}
    (hr : ∀ xs H Q G ds r', Same G.h H → Paired (Top K cl G H) xs ds → g ds = some r' → (∀ v G' H', Grow G H G' H' → Rep K cl G' v r' → Q v H') → r xs H Q)
    (h : tD K cl (eCB g mx) σ H Q) : tCB r (tDA K cl mx) σ H Q := by
  obtain ⟨F, T, G, ρ, r1, ρ', E, e, q⟩ := h
  simp only [eCB, Option.bind_eq_some_iff, Option.map_eq_some_iff, Prod.mk.injEq] at e
  obtain ⟨⟨rs, ρ1⟩, e1, ds, e2, r', e3, rfl, rfl⟩ := e
  refine ⟨F, T, G, ρ, rs, ρ1, E, e1, fun vs G1 H1 g1 E1 R1 => ?_⟩
  exact hr vs H1 Q G1 ds r' E1.gh (E1.tops R1 e2) e3 fun v G2 H2 gr R2 => q v G2 H2 (g1.trans gr.gg) (E1.grow gr) R2
variable {x : Str} {p : Pos} {id Ty : String} {g : List D → Option D}
theorem d_callB (hc : CallD X cl (.builtin id) g) (hm : X.mg x = none) (ha : PDA X cl (e :: es) mx) (hg : Gl X x := by rfl) (hv : bootBuiltins x = some (.builtin id) := by decide +kernel) (hn : x ≠ "__name__" := by decide) (hdb : (x == ("__debug__" : Str)) = false := by decide)
    (he : starEach (e :: es) X.env = (false, eval e X.env) :: starEach es X.env := by rfl) (hpl : (backTo pos (starEach es X.env)).any (·.1) = false := by rfl) : PD X cl (.Call (.Name x p) (e :: es) [] pos) (eCB g mx) :=
  pe_imp (pe_callB hc hg hm hv ha hn hdb he hpl) fun σ H Q h => cb_run (fun xs H Q G ds r' h1 h2 h3 h4 => ⟨G, ds, r', h1, h2, h3, h4⟩) h
theorem d_callTy (hc : CallD X cl (.type Ty) g) (hm : X.mg x = none) (ha : PDA X cl (e :: es) mx) (hg : Gl X x := by rfl) (hv : bootBuiltins x = some (.type Ty) := by decide +kernel) (hn : x ≠ "__name__" := by decide) (hdb : (x == ("__debug__" : Str)) = false := by decide)
    (he : starEach (e :: es) X.env = (false, eval e X.env) :: starEach es X.env := by rfl) (hpl : (backTo pos (starEach es X.env)).any (·.1) = false := by rfl) : PD X cl (.Call (.Name x p) (e :: es) [] pos) (eCB g mx) :=
  pe_imp (pe_callTy hc hg hm hv ha hn hdb he hpl) fun σ H Q h => cb_run (fun xs H Q G ds r' h1 h2 h3 h4 => ⟨G, ds, r', h1, h2, h3, h4⟩) h

/-! ### items and slices -/
def IxD (X : Cx) (cl : String → Option Addr) (g : D → D → Option D) : Prop :=
  IxR X fun x y H Q => ∃ G d e r, Same G.h H ∧ Top X.K cl G H x d ∧ Top X.K cl G H y e ∧ g d e = some r ∧ ∀ v G' H', Grow G H G' H' → Rep X.K cl G' v r → Q v H'
theorem d_ix {g : D → D → Option D} (hr : IxD X cl g) (ha : PD X cl a ma) (hb : PD X cl b mb) (hs : PlainIx b := by exact fun _ _ => rfl) : PD X cl (.Subscript a b pos) (eBin g ma mb) :=
  pe_imp (pe_ix hr ha hb hs) fun σ H Q h => bin_run (fun x y H Q G d e r' h1 h2 h3 h4 h5 => ⟨G, d, e, r', h1, h2, h3, h4, h5⟩) h
abbrev Ox := En → Option (Option Int × En)
def tDO (K : PySem.W.Frag) (cl : String → Option Addr) (m : Ox) : TO := fun σ H Q => ∃ F T G ρ o ρ', EOk K cl F T G H σ ρ ∧ m ρ = some (o, ρ') ∧ ∀ G' H', Le G G' → EOk K cl F T G' H' σ ρ' → Q o H'
abbrev PDO (X : Cx) (cl : String → Option Addr) (e : Option Expr) (m : Ox) : Prop := PO X e (tDO X.K cl m)
theorem po_imp {e : Option Expr} {t t' : TO} (h : PO X e t) (i : ∀ σ H Q, t' σ H Q → t σ H Q) : PO X e t' := ⟨fun pins s σ H Q I q => h.run pins s σ H Q I (i _ _ _ q)⟩
def oNone : Ox := fun ρ => some (none, ρ)
def oSome (m : Ex) : Ox := fun ρ => (m ρ).bind fun p => match p.1 with
  | .val (.int i) => some (some i, p.2)
  | _ => none
theorem o_none : PDO X cl none oNone := by
  refine po_imp po_none fun σ H Q h => ?_
  obtain ⟨F, T, G, ρ, o, ρ', E, e, q⟩ := h
  cases e
  exact q G H (Le.refl _) E
theorem o_some (h : PD X cl e me) : PDO X cl (some e) (oSome me) := by
  refine po_imp (po_some h) fun σ H Q h => ?_
  obtain ⟨F, T, G, ρ, o, ρ', E, e, q⟩ := h
  simp only [oSome, Option.bind_eq_some_iff] at e
  obtain ⟨⟨r, ρ1⟩, e1, e2⟩ := e
  refine ⟨F, T, G, ρ, r, ρ1, E, e1, fun v G1 H1 g1 E1 R1 => ?_⟩
  split at e2
  · rename_i i hi
    cases e2
    have hi' : r = .val (.int i) := hi
    subst hi'
    cases R1
    exact ⟨i, rfl, q G1 H1 g1 E1⟩
  · cases e2
def SlD (X : Cx) (cl : String → Option Addr) (g : D → Option Int → Option Int → Option D) : Prop :=
  SlR X fun x lo hi H Q => ∃ G d r, Same G.h H ∧ Top X.K cl G H x d ∧ g d lo hi = some r ∧ ∀ v G' H', Grow G H G' H' → Rep X.K cl G' v r → Q v H'
def eSl (g : D → Option Int → Option Int → Option D) (m : Ex) (l u : Ox) : Ex := fun ρ => (m ρ).bind fun p => (l p.2).bind fun q => (u q.2).bind fun s => (peek s.2 p.1).bind fun d => (g d q.1 s.1).map fun r => (.val r, s.2)
theorem d_sl {g : D → Option Int → Option Int → Option D} {lo hi : Option Expr} {l u : Ox} {p2 : Pos} (hr : SlD X cl g) (ha : PD X cl a ma) (hl : PDO X cl lo l) (hu : PDO X cl hi u) : PD X cl (.Subscript a (.Slice lo hi none p2) pos) (eSl g ma l u) := by
  refine pe_imp (pe_slice hr ha hl hu) fun σ H Q h => ?_
  obtain ⟨F, T, G, ρ, r, ρ', E, e, q⟩ := h
  simp only [eSl, Option.bind_eq_some_iff, Option.map_eq_some_iff, Prod.mk.injEq] at e
  obtain ⟨⟨ra, ρ1⟩, e1, ⟨i, ρ2⟩, e2, ⟨j, ρ3⟩, e3, d, e4, r', e5, rfl, rfl⟩ := e
  refine ⟨F, T, G, ρ, ra, ρ1, E, e1, fun v G1 H1 g1 E1 R1 => ?_⟩
  refine ⟨F, T, G1, ρ1, i, ρ2, E1, e2, fun G2 H2 g2 E2 => ?_⟩
  refine ⟨F, T, G2, ρ2, j, ρ3, E2, e3, fun G3 H3 g3 E3 => ?_⟩
  exact ⟨G3, d, r', E3.gh, E3.top (R1.mono (g2.trans g3)) e4, e5, fun v G4 H4 gr R4 => q v G4 H4 (g1.trans (g2.trans (g3.trans gr.gg))) (E3.grow gr) R4⟩
end
end DL

/-! E2: the operations on data -/
namespace DL
open PySem L2

/-! ### data for the library's == -/
mutual
def D.py : D → Option PyData
  | .non => some .none
  | .bl b => some (.bool b)
  | .int i => some (.int i)
  | .str x => some (.str x)
  | .list ds => (pyAll ds).map .list
  | .tup ds => (pyAll ds).map .tuple
  | .scr _ => none
  | .dict _ => none
  | .inst _ _ => none
  | .cel _ => none
def pyAll : List D → Option (List PyData)
  | [] => some []
  | d :: ds => (D.py d).bind fun p => (pyAll ds).map fun ps => p :: ps
end
section
variable {K : PySem.W.Frag} {cl : String → Option Addr} {G : Kn}
mutual
theorem Rep.dp : ∀ {d : D} {v : V} {p : PyData}, Rep K cl G v d → d.py = some p → Dp K G.h v p
  | .non, v, p, h, e => by simp only [D.py, Option.some.injEq] at e; subst e; cases h; exact .non
  | .bl b, v, p, h, e => by simp only [D.py, Option.some.injEq] at e; subst e; cases h; exact .bl b
  | .int i, v, p, h, e => by simp only [D.py, Option.some.injEq] at e; subst e; cases h; exact .int i
  | .str x, v, p, h, e => by simp only [D.py, Option.some.injEq] at e; subst e; cases h; exact .str x
  | .list ds, v, p, h, e => by
    simp only [D.py, Option.map_eq_some_iff] at e
    obtain ⟨ps, e1, rfl⟩ := e
    cases h with
    | list k l r => exact .lst (SqL.of k) (Reps.dps r e1)
  | .tup ds, v, p, h, e => by
    simp only [D.py, Option.map_eq_some_iff] at e
    obtain ⟨ps, e1, rfl⟩ := e
    cases h with
    | tup k l r => exact .tup k (Reps.dps r e1)
  | .scr _, v, p, h, e => by simp [D.py] at e
  | .dict _, v, p, h, e => by simp [D.py] at e
  | .inst _ _, v, p, h, e => by simp [D.py] at e
  | .cel _, v, p, h, e => by simp [D.py] at e
theorem Reps.dps : ∀ {ds : List D} {vs : List V} {ps : List PyData}, Reps K cl G vs ds → pyAll ds = some ps → DpAll K G.h vs ps
  | [], vs, ps, h, e => by simp only [pyAll, Option.some.injEq] at e; subst e; cases h; exact .nil
  | d :: ds, vs, ps, h, e => by
    simp only [pyAll, Option.bind_eq_some_iff, Option.map_eq_some_iff] at e
    obtain ⟨p, e1, ps', e2, rfl⟩ := e
    cases h with
    | cons h1 h2 => exact .cons (Rep.dp h1 e1) (Reps.dps h2 e2)
end
end

section
variable {X : Cx} {cl : String → Option Addr}

/-! ### numbers, texts, sequences: + - * // % ** -/
def dAdd : D → D → Option D
  | .int i, .int j => some (.int (i + j))
  | .str x, .str y => if x.length + y.length ≤ sizeLine then some (.str (x ++ y)) else none
  | .list xs, .list ys => if xs.length + ys.length ≤ sizeLine then some (.list (xs ++ ys)) else none
  | .tup xs, .tup ys => if xs.length + ys.length ≤ sizeLine then some (.tup (xs ++ ys)) else none
  | _, _ => none
def dSub : D → D → Option D
  | .int i, .int j => some (.int (i - j))
  | _, _ => none
def dMul : D → D → Option D
  | .int i, .int j => if (-(2 ^ 64) < i ∧ i < 2 ^ 64) ∨ (-(2 ^ 64) < j ∧ j < 2 ^ 64) ∨ i.natAbs.log2 + j.natAbs.log2 < 1000000 then some (.int (i * j)) else none
  | _, _ => none
def dFdv : D → D → Option D
  | .int i, .int j => if 0 < j ∧ j.natAbs.log2 < 9000 then some (.int (i / j)) else none
  | _, _ => none
def dMod : D → D → Option D
  | .int i, .int j => if 0 < j then some (.int (i % j)) else none
  | _, _ => none
def dPow : D → D → Option D
  | .int i, .int j => if 0 ≤ j ∧ j ≤ 1000000 ∧ i.natAbs < 2 ^ 64 then some (.int (i ^ j.toNat)) else none
  | _, _ => none
def dNeg : D → Option D
  | .int i => some (.int (-i))
  | _ => none
theorem len_app (x y : Str) : (x ++ y).length = x.length + y.length := by
  show (x.cps ++ y.cps).size = _
  rw [Array.size_append]; rfl
theorem Reps.nil_iff {K : PySem.W.Frag} {G : Kn} {xs : List V} {ds : List D} (r : Reps K cl G xs ds) : xs = [] ↔ ds = [] := by
  cases r <;> simp
theorem new_tup {K : PySem.W.Frag} {G : Kn} {H : Hp} {p : Addr} {xs : List V} {ds : List D} {Q : VK} (gh : Same G.h H) (hp : H p = none) (l : xs.length ≤ sizeLine) (r : Reps K cl G xs ds) (q : ∀ v G' H', Grow G H G' H' → Rep K cl G' v (.tup ds) → Q v H') : Q (.ref p) (upd H p (.tup xs)) :=
  q _ _ _ (Grow.new_at gh hp) (Rep.tup (SqT.of upd_same) l (r.mono (.up (gh.free hp))))
theorem new_lst {K : PySem.W.Frag} {G : Kn} {H : Hp} {p : Addr} {xs : List V} {ds : List D} {Q : VK} (gh : Same G.h H) (hp : H p = none) (l : xs.length ≤ sizeLine) (r : Reps K cl G xs ds) (q : ∀ v G' H', Grow G H G' H' → Rep K cl G' v (.list ds) → Q v H') : Q (.ref p) (upd H p (.lst xs)) :=
  q _ _ _ (Grow.new_at gh hp) (Rep.list upd_same l (r.mono (.up (gh.free hp))))
theorem o_add : OpD X cl (binaryOp .Add) dAdd := by
  intro pins s σ H x y v u Q I rx ry h
  obtain ⟨G, d, e, r, gh, h1, h2, h3, q⟩ := h
  cases h1 with
  | int i =>
    cases h2 <;> simp only [dAdd, Option.some.injEq, reduceCtorEq] at h3
    subst h3
    exact op_add pins s σ H _ _ v u Q I rx ry ⟨_, _, rfl, rfl, q _ _ _ (Grow.refl gh) (.int _)⟩
  | str x hx =>
    cases h2 with
    | str y hy =>
      simp only [dAdd] at h3
      split at h3
      · rename_i hz
        cases h3
        exact op_add_str pins s σ H _ _ v u Q I rx ry ⟨_, _, rfl, rfl, hz, q _ _ _ (Grow.refl gh) (.str _ (by rw [len_app]; exact hz))⟩
      · cases h3
    | _ => simp [dAdd] at h3
  | list hx lx rx' =>
    cases h2 with
    | list hy ly ry' =>
      simp only [dAdd] at h3
      split at h3
      · rename_i hz
        cases h3
        rw [← rx'.length, ← ry'.length] at hz
        refine op_cat pins s σ H _ _ v u Q I rx ry ⟨_, _, _, _, rfl, rfl, hx, hy, hz, fun p hp => ?_⟩
        exact new_lst gh hp (by rw [List.length_append]; exact hz) (rx'.append ry') q
      · cases h3
    | _ => simp [dAdd] at h3
  | tup hx lx rx' =>
    cases h2 with
    | tup hy ly ry' =>
      simp only [dAdd] at h3
      split at h3
      · rename_i hz
        cases h3
        rw [← rx'.length, ← ry'.length] at hz
        refine op_catA pins s σ H _ _ v u Q I rx ry ⟨_, _, _, _, rfl, rfl, sameT gh hx, sameT gh hy, hz, fun e => ?_, fun n e => ?_, fun _ _ p hp => ?_⟩
        · subst e
          cases rx'
          exact q _ _ _ (Grow.refl gh) (Rep.tup hy ly ry')
        · subst e
          cases ry'
          rw [List.append_nil] at q
          exact q _ _ _ (Grow.refl gh) (Rep.tup hx lx rx')
        · exact new_tup gh hp (by rw [List.length_append]; exact hz) (rx'.append ry') q
      · cases h3
    | _ => simp [dAdd] at h3
  | _ => cases h2 <;> simp [dAdd] at h3
theorem o_ii {f : Value → Value → Sem Value} {g : D → D → Option D} {C : Int → Int → Prop} {k : Int → Int → Int} (ho : OpR X f (rI C fun i j => .int (k i j)))
    (hg : ∀ d e r, g d e = some r → ∃ i j, d = .int i ∧ e = .int j ∧ C i j ∧ r = .int (k i j)) : OpD X cl f g := by
  intro pins s σ H x y v u Q I rx ry h
  obtain ⟨G, d, e, r, gh, h1, h2, h3, q⟩ := h
  obtain ⟨i, j, rfl, rfl, c, rfl⟩ := hg d e r h3
  cases h1
  cases h2
  exact ho pins s σ H _ _ v u Q I rx ry ⟨i, j, rfl, rfl, c, q _ _ _ (Grow.refl gh) (.int _)⟩
theorem o_sub : OpD X cl (binaryOp .Sub) dSub := by
  intro pins s σ H x y v u Q I rx ry h
  obtain ⟨G, d, e, r, gh, h1, h2, h3, q⟩ := h
  unfold dSub at h3
  split at h3
  · cases h3
    cases h1
    cases h2
    exact op_sub pins s σ H _ _ v u Q I rx ry ⟨_, _, rfl, rfl, q _ _ _ (Grow.refl gh) (.int _)⟩
  · cases h3
def CMulA (i j : Int) : Prop := (-(2 ^ 64) < i ∧ i < 2 ^ 64) ∨ (-(2 ^ 64) < j ∧ j < 2 ^ 64) ∨ i.natAbs.log2 + j.natAbs.log2 < 1000000
theorem op_mulA : OpR X (binaryOp .Mult) (rI CMulA fun i j => .int (i * j)) := by
  intro pins s σ H x y v u Q I rx ry h
  obtain ⟨i, j, rfl, rfl, c, q⟩ := h
  rcases c with c | c | c
  · exact op_mul pins s σ H _ _ v u Q I rx ry ⟨i, j, rfl, rfl, .inl c, q⟩
  · exact op_mul pins s σ H _ _ v u Q I rx ry ⟨i, j, rfl, rfl, .inr c, q⟩
  · exact op_mulW pins s σ H _ _ v u Q I rx ry ⟨i, j, rfl, rfl, c, q⟩
theorem o_mul : OpD X cl (binaryOp .Mult) dMul := o_ii op_mulA fun d e r h => by
  unfold dMul at h
  split at h
  · split at h
    · rename_i i j c
      cases h
      exact ⟨i, j, rfl, rfl, c, rfl⟩
    · cases h
  · cases h
theorem o_fdv : OpD X cl (binaryOp .FloorDiv) dFdv := o_ii op_fdivW fun d e r h => by
  unfold dFdv at h
  split at h
  · split at h
    · rename_i i j c
      cases h
      exact ⟨i, j, rfl, rfl, c, rfl⟩
    · cases h
  · cases h
theorem o_mod : OpD X cl (binaryOp .Mod) dMod := o_ii op_mod fun d e r h => by
  unfold dMod at h
  split at h
  · split at h
    · rename_i i j c
      cases h
      exact ⟨i, j, rfl, rfl, c, rfl⟩
    · cases h
  · cases h
theorem o_pow : OpD X cl (binaryOp .Pow) dPow := o_ii op_pow fun d e r h => by
  unfold dPow at h
  split at h
  · split at h
    · rename_i i j c
      cases h
      exact ⟨i, j, rfl, rfl, c, rfl⟩
    · cases h
  · cases h
theorem o_neg : UnD X cl (unaryOp .USub) dNeg := by
  intro pins s σ H x v Q I rx h
  obtain ⟨G, d, r, gh, h1, h2, q⟩ := h
  unfold dNeg at h2
  split at h2
  · cases h2
    cases h1
    exact un_neg pins s σ H _ v Q I rx ⟨_, rfl, q _ _ _ (Grow.refl gh) (.int _)⟩
  · cases h2

/-! ### comparisons -/
def dLt : D → D → Option D
  | .int i, .int j => some (.bl (decide (i < j)))
  | _, _ => none
def dLe : D → D → Option D
  | .int i, .int j => some (.bl (decide (i ≤ j)))
  | _, _ => none
def dGt : D → D → Option D
  | .int i, .int j => some (.bl (decide (j < i)))
  | _, _ => none
def dGe : D → D → Option D
  | .int i, .int j => some (.bl (decide (j ≤ i)))
  | _, _ => none
theorem o_ib {f : Value → Value → Sem Value} {g : D → D → Option D} {k : Int → Int → Bool} (ho : OpR X f (rI0 fun i j => .bl (k i j)))
    (hg : ∀ d e r, g d e = some r → ∃ i j, d = .int i ∧ e = .int j ∧ r = .bl (k i j)) : OpD X cl f g := by
  intro pins s σ H x y v u Q I rx ry h
  obtain ⟨G, d, e, r, gh, h1, h2, h3, q⟩ := h
  obtain ⟨i, j, rfl, rfl, rfl⟩ := hg d e r h3
  cases h1
  cases h2
  exact ho pins s σ H _ _ v u Q I rx ry ⟨i, j, rfl, rfl, q _ _ _ (Grow.refl gh) (.bl _)⟩
theorem o_lt : OpD X cl (compareOp .Lt) dLt := o_ib op_lt fun d e r h => by
  unfold dLt at h; split at h
  · cases h; exact ⟨_, _, rfl, rfl, rfl⟩
  · cases h
theorem o_le : OpD X cl (compareOp .LtE) dLe := o_ib op_le fun d e r h => by
  unfold dLe at h; split at h
  · cases h; exact ⟨_, _, rfl, rfl, rfl⟩
  · cases h
theorem o_gt : OpD X cl (compareOp .Gt) dGt := o_ib op_gt fun d e r h => by
  unfold dGt at h; split at h
  · cases h; exact ⟨_, _, rfl, rfl, rfl⟩
  · cases h
theorem o_ge : OpD X cl (compareOp .GtE) dGe := o_ib op_ge fun d e r h => by
  unfold dGe at h; split at h
  · cases h; exact ⟨_, _, rfl, rfl, rfl⟩
  · cases h
/-- == -/
def eqB : D → D → Option Bool
  | .int i, .int j => some (decide (i = j))
  | .str x, .str y => some (decide (x = y))
  | d, e => d.py.bind fun p => e.py.bind fun q => if SeqAt.shaped p = true ∧ SeqAt.shaped q = true then some (PyData.eqv p q) else none
def dEq (d e : D) : Option D := (eqB d e).map .bl
def dNe (d e : D) : Option D := (eqB d e).map fun b => .bl !b
theorem eqB_cases {d e : D} {b : Bool} (h : eqB d e = some b) : (∃ i j, d = .int i ∧ e = .int j ∧ b = decide (i = j)) ∨ (∃ x y, d = .str x ∧ e = .str y ∧ b = decide (x = y)) ∨
    ∃ p q, d.py = some p ∧ e.py = some q ∧ SeqAt.shaped p = true ∧ SeqAt.shaped q = true ∧ b = PyData.eqv p q := by
  unfold eqB at h
  split at h
  · cases h; exact .inl ⟨_, _, rfl, rfl, rfl⟩
  · cases h; exact .inr (.inl ⟨_, _, rfl, rfl, rfl⟩)
  · simp only [Option.bind_eq_some_iff] at h
    obtain ⟨p, h1, q, h2, h3⟩ := h
    split at h3
    · rename_i c
      cases h3
      exact .inr (.inr ⟨p, q, h1, h2, c.1, c.2, rfl⟩)
    · cases h3
theorem dec_vint {i j : Int} : decide (V.int i = V.int j) = decide (i = j) := by
  by_cases h : i = j
  · subst h; simp
  · have k : ¬ V.int i = V.int j := fun q => h (V.int.inj q)
    rw [decide_eq_false h, decide_eq_false k]
theorem dec_vstr {i j : Str} : decide (V.str i = V.str j) = decide (i = j) := by
  by_cases h : i = j
  · subst h; simp
  · have k : ¬ V.str i = V.str j := fun q => h (V.str.inj q)
    rw [decide_eq_false h, decide_eq_false k]
theorem o_eq (hu : X.A.units + 64 < cLine) : OpD X cl (compareOp .Eq) dEq := by
  intro pins s σ H x y v u Q I rx ry h
  obtain ⟨G, d, e, r, gh, h1, h2, h3, q⟩ := h
  simp only [dEq, Option.map_eq_some_iff] at h3
  obtain ⟨b, h3, rfl⟩ := h3
  rcases eqB_cases h3 with ⟨i, j, rfl, rfl, rfl⟩ | ⟨a, c, rfl, rfl, rfl⟩ | ⟨p, p', e1, e2, s1, s2, rfl⟩
  · cases h1
    cases h2
    exact op_eq pins s σ H _ _ v u Q I rx ry ⟨rfl, by rw [dec_vint]; exact q _ _ _ (Grow.refl gh) (.bl _)⟩
  · cases h1
    cases h2
    exact op_eq pins s σ H _ _ v u Q I rx ry ⟨rfl, by rw [dec_vstr]; exact q _ _ _ (Grow.refl gh) (.bl _)⟩
  · exact op_eqD hu pins s σ H _ _ v u Q I rx ry ⟨p, p', (h1.rep gh).dp e1, (h2.rep gh).dp e2, s1, s2, q _ _ _ (Grow.refl gh) (.bl _)⟩
theorem o_ne (hu : X.A.units + 64 < cLine) : OpD X cl (compareOp .NotEq) dNe := by
  intro pins s σ H x y v u Q I rx ry h
  obtain ⟨G, d, e, r, gh, h1, h2, h3, q⟩ := h
  simp only [dNe, Option.map_eq_some_iff] at h3
  obtain ⟨b, h3, rfl⟩ := h3
  rcases eqB_cases h3 with ⟨i, j, rfl, rfl, rfl⟩ | ⟨a, c, rfl, rfl, rfl⟩ | ⟨p, p', e1, e2, s1, s2, rfl⟩
  · cases h1
    cases h2
    exact op_ne pins s σ H _ _ v u Q I rx ry ⟨rfl, by rw [dec_vint]; exact q _ _ _ (Grow.refl gh) (.bl _)⟩
  · cases h1
    cases h2
    exact op_ne pins s σ H _ _ v u Q I rx ry ⟨rfl, by rw [dec_vstr]; exact q _ _ _ (Grow.refl gh) (.bl _)⟩
  · exact op_neD hu pins s σ H _ _ v u Q I rx ry ⟨p, p', (h1.rep gh).dp e1, (h2.rep gh).dp e2, s1, s2, q _ _ _ (Grow.refl gh) (.bl _)⟩
/-- in: a list, a tuple of data -/
def inB (d : D) : D → Option Bool
  | .list ds => d.py.bind fun p => (pyAll ds).bind fun ps => if SeqAt.shaped p = true ∧ SeqAt.shaped (.list ps) = true then some (ps.any fun z => PyData.eqv z p) else none
  | .tup ds => d.py.bind fun p => (pyAll ds).bind fun ps => if SeqAt.shaped p = true ∧ SeqAt.shaped (.tuple ps) = true then some (ps.any fun z => PyData.eqv z p) else none
  | _ => none
def dIn (d e : D) : Option D := (inB d e).map .bl
def dNotIn (d e : D) : Option D := (inB d e).map fun b => .bl !b
theorem o_in (hu : X.A.units + 65 < cLine) : OpD X cl (compareOp .In) dIn := by
  intro pins s σ H x y v u Q I rx ry h
  obtain ⟨G, d, e, r, gh, h1, h2, h3, q⟩ := h
  simp only [dIn, Option.map_eq_some_iff] at h3
  obtain ⟨b, h3, rfl⟩ := h3
  unfold inB at h3
  split at h3
  · rename_i ds
    simp only [Option.bind_eq_some_iff] at h3
    obtain ⟨p, e1, ps, e2, h3⟩ := h3
    split at h3
    · rename_i c
      cases h3
      exact op_inD hu pins s σ H _ _ v u Q I rx ry ⟨p, ps, (h1.rep gh).dp e1, (h2.rep gh).dp (by simp [D.py, e2]), c.1, c.2, q _ _ _ (Grow.refl gh) (.bl _)⟩
    · cases h3
  · rename_i ds
    simp only [Option.bind_eq_some_iff] at h3
    obtain ⟨p, e1, ps, e2, h3⟩ := h3
    split at h3
    · rename_i c
      cases h3
      obtain ⟨as, r1⟩ := Dp.reads I p x v ((h1.rep gh).dp e1) rx
      obtain ⟨bs, r2⟩ := Dp.reads I (.tuple ps) y u ((h2.rep gh).dp (by simp [D.py, e2])) ry
      have k2 : PyData.canLayAll0 ps = true := by have := SeqAt.canLay_of_shaped c.2; simpa only [PyData.canLay0] using this
      have k3 := SeqAt.depth_of_shaped c.1
      exact SeqAt.in_tuple_reads r2 r1 k2 (SeqAt.canLay_of_shaped c.1) (by omega) ⟨.bl _, H, I, rfl, q _ _ _ (Grow.refl gh) (.bl _)⟩
    · cases h3
  · cases h3
theorem o_notIn (hu : X.A.units + 65 < cLine) : OpD X cl (compareOp .NotIn) dNotIn := by
  intro pins s σ H x y v u Q I rx ry h
  obtain ⟨G, d, e, r, gh, h1, h2, h3, q⟩ := h
  simp only [dNotIn, Option.map_eq_some_iff] at h3
  obtain ⟨b, h3, rfl⟩ := h3
  unfold inB at h3
  split at h3
  · rename_i ds
    simp only [Option.bind_eq_some_iff] at h3
    obtain ⟨p, e1, ps, e2, h3⟩ := h3
    split at h3
    · rename_i c
      cases h3
      exact op_notInD hu pins s σ H _ _ v u Q I rx ry ⟨p, ps, (h1.rep gh).dp e1, (h2.rep gh).dp (by simp [D.py, e2]), c.1, c.2, q _ _ _ (Grow.refl gh) (.bl _)⟩
    · cases h3
  · rename_i ds
    simp only [Option.bind_eq_some_iff] at h3
    obtain ⟨p, e1, ps, e2, h3⟩ := h3
    split at h3
    · rename_i c
      cases h3
      obtain ⟨as, r1⟩ := Dp.reads I p x v ((h1.rep gh).dp e1) rx
      obtain ⟨bs, r2⟩ := Dp.reads I (.tuple ps) y u ((h2.rep gh).dp (by simp [D.py, e2])) ry
      have k2 : PyData.canLayAll0 ps = true := by have := SeqAt.canLay_of_shaped c.2; simpa only [PyData.canLay0] using this
      have k3 := SeqAt.depth_of_shaped c.1
      exact SeqAt.notIn_tuple_reads r2 r1 k2 (SeqAt.canLay_of_shaped c.1) (by omega) ⟨.bl _, H, I, rfl, q _ _ _ (Grow.refl gh) (.bl _)⟩
    · cases h3
  · cases h3
/-- is None, is True -/
def isNon : D → Bool
  | .non => true
  | _ => false
def dIs : D → D → Option D
  | d, .non => some (.bl (isNon d))
  | .bl a, .bl b => some (.bl (decide (a = b)))
  | _, _ => none
def dIsNot : D → D → Option D
  | d, .non => some (.bl !isNon d)
  | .bl a, .bl b => some (.bl !decide (a = b))
  | _, _ => none
theorem isNon_ok {K : PySem.W.Frag} {G : Kn} {H : Hp} {v : V} {d : D} (h : Top K cl G H v d) : decide (v = .non) = isNon d := by
  cases h <;> simp [isNon]
theorem o_is : OpD X cl (compareOp .Is) dIs := by
  intro pins s σ H x y v u Q I rx ry h
  obtain ⟨G, d, e, r, gh, h1, h2, h3, q⟩ := h
  unfold dIs at h3
  split at h3
  · cases h3
    cases h2
    exact op_isN pins s σ H _ _ v u Q I rx ry ⟨rfl, by rw [isNon_ok h1]; exact q _ _ _ (Grow.refl gh) (.bl _)⟩
  · cases h3
    cases h1
    cases h2
    exact op_isBl pins s σ H _ _ v u Q I rx ry ⟨_, _, rfl, rfl, q _ _ _ (Grow.refl gh) (.bl _)⟩
  · cases h3
theorem o_isNot : OpD X cl (compareOp .IsNot) dIsNot := by
  intro pins s σ H x y v u Q I rx ry h
  obtain ⟨G, d, e, r, gh, h1, h2, h3, q⟩ := h
  unfold dIsNot at h3
  split at h3
  · cases h3
    cases h2
    exact op_notN pins s σ H _ _ v u Q I rx ry ⟨rfl, by rw [isNon_ok h1]; exact q _ _ _ (Grow.refl gh) (.bl _)⟩
  · cases h3
    cases h1
    cases h2
    exact op_notBl pins s σ H _ _ v u Q I rx ry ⟨_, _, rfl, rfl, q _ _ _ (Grow.refl gh) (.bl _)⟩
  · cases h3

/-! ### items and slices -/
def dIx : D → D → Option D
  | .list ds, .int i => atI ds i
  | .tup ds, .int i => atI ds i
  | .str z, .int i => (atI z.cps.toList i).map fun c => .str ⟨#[c]⟩
  | _, _ => none
theorem Reps.atI {K : PySem.W.Frag} {G : Kn} {xs : List V} {ds : List D} {i : Int} {d : D} (r : Reps K cl G xs ds) (h : L2.atI ds i = some d) : ∃ v, L2.atI xs i = some v ∧ Rep K cl G v d := by
  unfold L2.atI at h ⊢
  rw [r.length]
  cases e : ixN ds.length i with
  | none => rw [e] at h; cases h
  | some j =>
    rw [e] at h
    obtain ⟨v, h1, h2⟩ := r.get h
    exact ⟨v, h1, h2⟩
theorem i_ix : IxD X cl dIx := by
  intro va sl pins s σ H x y v u Q I rx ry h hs
  obtain ⟨G, d, e, r, gh, h1, h2, h3, q⟩ := h
  cases h1 with
  | list k l rr =>
    cases h2 with
    | int i =>
      obtain ⟨w, h4, h5⟩ := rr.atI h3
      exact ix_list va sl pins s σ H _ _ v u Q I rx ry ⟨_, _, _, _, rfl, rfl, SqL.of k, h4, q _ _ _ (Grow.refl gh) h5⟩ hs
    | _ => simp [dIx] at h3
  | tup k l rr =>
    cases h2 with
    | int i =>
      obtain ⟨w, h4, h5⟩ := rr.atI h3
      exact ix_tup va sl pins s σ H _ _ v u Q I rx ry ⟨_, _, _, _, rfl, rfl, sameT gh k, h4, q _ _ _ (Grow.refl gh) h5⟩ hs
    | _ => simp [dIx] at h3
  | str z hz =>
    cases h2 with
    | int i =>
      simp only [dIx, Option.map_eq_some_iff] at h3
      obtain ⟨c, h4, rfl⟩ := h3
      exact ix_str va sl pins s σ H _ _ v u Q I rx ry ⟨z, i, c, rfl, rfl, hz, h4, q _ _ _ (Grow.refl gh) (.str _ (by show 1 ≤ sizeLine; decide))⟩ hs
    | _ => simp [dIx] at h3
  | _ => cases h2 <;> simp [dIx] at h3
/-- an item of a sequence or of a dict -/
def keyOf : D → Option Key
  | .int i => some (.inl i)
  | .str x => some (.inr x)
  | _ => none
def valD (ks : List (Key × D)) (k : Key) : Option D := (ks.find? fun kv => decide (kv.1 = k)).map (·.2)
def dAt (d e : D) : Option D := match d with
  | .dict ks => (keyOf e).bind fun k => valD ks k
  | _ => dIx d e
theorem RepK.val {K : PySem.W.Frag} {G : Kn} {k : Key} : ∀ {kvs : List (Key × V)} {ks : List (Key × D)} {d : D}, RepK K cl G kvs ks → valD ks k = some d → ∃ v, valV kvs k = some v ∧ Rep K cl G v d
  | _, _, _, .nil, h => by simp [valD] at h
  | _, _, d, .cons (k := k') (v := v) (d := d') (vs := vs) (ds := ds) h r, e => by
    by_cases c : k' = k
    · have e' : d' = d := by simpa [valD, c] using e
      subst e'
      exact ⟨v, by simp [valV, c], h⟩
    · have e' : valD ds k = some d := by simpa [valD, c] using e
      obtain ⟨w, h1, h2⟩ := RepK.val r e'
      exact ⟨w, by simpa [valV, c] using h1, h2⟩
theorem key_top {K : PySem.W.Frag} {G : Kn} {H : Hp} {v : V} {e : D} {k : Key} (h : Top K cl G H v e) (p : keyOf e = some k) : v = kV k := by
  unfold keyOf at p
  split at p
  · cases p; cases h; rfl
  · cases p; cases h; rfl
  · cases p
theorem pe_either {e : Expr} {t t' : TE} (h : PE X e t) (h' : PE X e t') : PE X e (fun σ H Q => t σ H Q ∨ t' σ H Q) := ⟨fun pins s σ H Q I q => by
  rcases q with q | q
  · exact h.run pins s σ H Q I q
  · exact h'.run pins s σ H Q I q⟩
theorem d_at {a b : Expr} {ma mb : Ex} {pos : Pos} (hu : X.A.units + 64 < cLine) (ha : PD X cl a ma) (hb : PD X cl b mb) (hs : PlainIx b := by exact fun _ _ => rfl) : PD X cl (.Subscript a b pos) (eBin dAt ma mb) := by
  have h2 : PE X (.Subscript a b pos) (tDGet (tD X.K cl ma) (tD X.K cl mb)) := pe_dget (by omega) ha hb hs
  refine pe_imp (pe_either (d_ix i_ix ha hb hs) h2) fun σ H Q h => ?_
  obtain ⟨F, T, G, ρ, r1, ρ', E, e, q⟩ := h
  simp only [eBin, Option.bind_eq_some_iff, Option.map_eq_some_iff, Prod.mk.injEq] at e
  obtain ⟨⟨ra, ρ1⟩, e1, ⟨rb, ρ2⟩, e2, d, e3, d', e4, r', e5, rfl, rfl⟩ := e
  unfold dAt at e5
  split at e5
  · rename_i ks
    simp only [Option.bind_eq_some_iff] at e5
    obtain ⟨k, k1, k2⟩ := e5
    refine .inr ⟨F, T, G, ρ, ra, ρ1, E, e1, fun x G1 H1 g1 E1 R1 => ?_⟩
    refine ⟨F, T, G1, ρ1, rb, ρ2, E1, e2, fun y G2 H2 g2 E2 R2 => ?_⟩
    have t1 := E2.top (R1.mono g2) e3
    have t2 := E2.top R2 e4
    cases t1 with
    | dict hk l rr =>
      obtain ⟨w, h4, h5⟩ := rr.val k2
      refine ⟨_, w, rfl, ?_, q w G2 H2 (g1.trans g2) E2 h5⟩
      rw [key_top t2 k1, ← h4]
      exact DGet.k hk
  · refine .inl ⟨F, T, G, ρ, .val r', ρ2, E, ?_, q⟩
    simp only [eBin, Option.bind_eq_some_iff, Option.map_eq_some_iff, Prod.mk.injEq]
    exact ⟨(ra, ρ1), e1, (rb, ρ2), e2, d, e3, d', e4, r', e5, rfl, rfl⟩
def cutD (ds : List D) (lo hi : Option Int) : List D := (ds.drop (HT.sIx ds.length 0 lo)).take (HT.sIx ds.length ds.length hi - HT.sIx ds.length 0 lo)
def dSl (d : D) (lo hi : Option Int) : Option D := match d with
  | .list ds => some (.list (cutD ds lo hi))
  | .tup ds => some (.tup (cutD ds lo hi))
  | .str z => some (.str (cutS z lo hi))
  | _ => none
theorem Reps.cut {K : PySem.W.Frag} {G : Kn} {xs : List V} {ds : List D} (r : Reps K cl G xs ds) (lo hi : Option Int) : Reps K cl G (cutV xs lo hi) (cutD ds lo hi) := by
  unfold cutV cutD
  rw [r.length]
  exact (r.drop _).take _
theorem cut_whole {xs : List V} {lo hi : Option Int} (c : HT.sIx xs.length 0 lo = 0 ∧ HT.sIx xs.length xs.length hi = xs.length) : cutV xs lo hi = xs := by
  unfold cutV
  rw [c.1, c.2, List.drop_zero, Nat.sub_zero, List.take_length]
theorem s_sl : SlD X cl dSl := by
  intro pins s σ H x v vl vu lo hi sl Q I rx hs pl pu h
  obtain ⟨G, d, r, gh, h1, h2, q⟩ := h
  cases h1 with
  | list k l rr =>
    cases h2
    refine sl_list pins s σ H _ v vl vu lo hi sl Q I rx hs pl pu ⟨_, _, rfl, SqL.of k, fun p hp => ?_⟩
    exact new_lst gh hp (Nat.le_trans (cutV_length _ _ _) l) (rr.cut lo hi) q
  | tup k l rr =>
    cases h2
    refine sl_tupA pins s σ H _ v vl vu lo hi sl Q I rx hs pl pu ⟨_, _, rfl, sameT gh k, fun c => ?_, fun c p hp => ?_⟩
    · refine q _ _ _ (Grow.refl gh) (Rep.tup k l ?_)
      have e := rr.cut lo hi
      rw [cut_whole c] at e
      exact e
    · exact new_tup gh hp (Nat.le_trans (cutV_length _ _ _) l) (rr.cut lo hi) q
  | str z hz =>
    cases h2
    exact sl_str pins s σ H _ v vl vu lo hi sl Q I rx hs pl pu ⟨z, rfl, hz, q _ _ _ (Grow.refl gh) (.str _ (Nat.le_trans (cutS_length _ _ _) hz))⟩
  | _ => simp [dSl] at h2

/-! ### built-ins -/
def gLen : List D → Option D
  | [.list ds] => some (.int ds.length)
  | [.tup ds] => some (.int ds.length)
  | [.str z] => some (.int z.length)
  | [.scr ns] => some (.int ns.length)
  | _ => none
theorem c_len : CallD X cl (.builtin "len") gLen := by
  intro pins s σ H xs us Q I r h
  obtain ⟨G, ds, r', gh, h1, h2, q⟩ := h
  unfold gLen at h2
  split at h2
  · cases h2
    cases h1 with | cons t n =>
    cases n
    cases t with | list k l rr =>
    exact call_len_seq pins s σ H _ us Q I r ⟨_, _, rfl, .inl (SqL.of k), by rw [rr.length]; exact q _ _ _ (Grow.refl gh) (.int _)⟩
  · cases h2
    cases h1 with | cons t n =>
    cases n
    cases t with | tup k l rr =>
    exact call_len_seq pins s σ H _ us Q I r ⟨_, _, rfl, .inr (sameT gh k), by rw [rr.length]; exact q _ _ _ (Grow.refl gh) (.int _)⟩
  · cases h2
    cases h1 with | cons t n =>
    cases n
    cases t with | str z hz =>
    exact call_len_str pins s σ H _ us Q I r ⟨_, rfl, hz, q _ _ _ (Grow.refl gh) (.int _)⟩
  · cases h2
    cases h1 with | cons t n =>
    cases n
    cases t with | scr k l =>
    exact call_len_seq pins s σ H _ us Q I r ⟨_, _, rfl, .inl (gh.seq k), by rw [List.length_map]; exact q _ _ _ (Grow.refl gh) (.int _)⟩
  · cases h2
def gAbs : List D → Option D
  | [.int i] => some (.int (if i < 0 then -i else i))
  | _ => none
theorem c_abs : CallD X cl (.builtin "abs") gAbs := by
  intro pins s σ H xs us Q I r h
  obtain ⟨G, ds, r', gh, h1, h2, q⟩ := h
  unfold gAbs at h2
  split at h2
  · cases h2
    cases h1 with | cons t n =>
    cases n
    cases t
    exact call_abs pins s σ H _ us Q I r ⟨_, rfl, q _ _ _ (Grow.refl gh) (.int _)⟩
  · cases h2
def gInt : List D → Option D
  | [.int i] => some (.int i)
  | [.bl b] => some (.int (if b then 1 else 0))
  | _ => none
theorem c_int : CallD X cl (.type "int") gInt := by
  intro pins s σ H xs us Q I r h
  obtain ⟨G, ds, r', gh, h1, h2, q⟩ := h
  unfold gInt at h2
  split at h2
  · cases h2
    cases h1 with | cons t n =>
    cases n
    cases t
    exact call_int1 pins s σ H _ us Q I r (.inl ⟨_, rfl, q _ _ _ (Grow.refl gh) (.int _)⟩)
  · cases h2
    cases h1 with | cons t n =>
    cases n
    cases t
    exact call_int1 pins s σ H _ us Q I r (.inr ⟨_, rfl, q _ _ _ (Grow.refl gh) (.int _)⟩)
  · cases h2
def gTuple : List D → Option D
  | [.list ds] => some (.tup ds)
  | [.tup ds] => some (.tup ds)
  | _ => none
theorem c_tuple : CallD X cl (.type "tuple") gTuple := by
  intro pins s σ H xs us Q I r h
  obtain ⟨G, ds, r', gh, h1, h2, q⟩ := h
  unfold gTuple at h2
  split at h2
  · cases h2
    cases h1 with | cons t n =>
    cases n
    cases t with | list k l rr =>
    refine call_tuple_of pins s σ H _ us Q I r ⟨_, _, rfl, .inl ⟨SqL.of k, fun p hp => ?_⟩⟩
    exact new_tup gh hp l rr q
  · cases h2
    cases h1 with | cons t n =>
    cases n
    cases t with | tup k l rr =>
    exact call_tuple_of pins s σ H _ us Q I r ⟨_, _, rfl, .inr ⟨sameT gh k, q _ _ _ (Grow.refl gh) (Rep.tup k l rr)⟩⟩
  · cases h2
def gList : List D → Option D
  | [.list ds] => some (.list ds)
  | [.tup ds] => some (.list ds)
  | [.scr ns] => some (.list (ns.map .int))
  | _ => none
theorem c_list : CallD X cl (.type "list") gList := by
  intro pins s σ H xs us Q I r h
  obtain ⟨G, ds, r', gh, h1, h2, q⟩ := h
  unfold gList at h2
  split at h2
  · cases h2
    cases h1 with | cons t n =>
    cases n
    cases t with | list k l rr =>
    refine call_list_of pins s σ H _ us Q I r ⟨_, _, rfl, .inl (SqL.of k), fun p hp => ?_⟩
    exact new_lst gh hp l rr q
  · cases h2
    cases h1 with | cons t n =>
    cases n
    cases t with | tup k l rr =>
    refine call_list_of pins s σ H _ us Q I r ⟨_, _, rfl, .inr (sameT gh k), fun p hp => ?_⟩
    exact new_lst gh hp l rr q
  · cases h2
    cases h1 with | cons t n =>
    cases n
    cases t with | scr k l =>
    refine call_list_of pins s σ H _ us Q I r ⟨_, _, rfl, .inl (gh.seq k), fun p hp => ?_⟩
    exact new_lst gh hp (by rw [List.length_map]; exact l) (Reps.ints _) q
  · cases h2
def ints? : List D → Option (List Int)
  | [] => some []
  | .int i :: ds => (ints? ds).map fun ns => i :: ns
  | _ => none
def bls? : List D → Option (List Bool)
  | [] => some []
  | .bl i :: ds => (bls? ds).map fun ns => i :: ns
  | _ => none
theorem Reps.ints? {K : PySem.W.Frag} {G : Kn} : ∀ {ds : List D} {xs : List V} {ns : List Int}, Reps K cl G xs ds → DL.ints? ds = some ns → xs = ns.map V.int
  | [], _, _, r, h => by cases r; cases h; rfl
  | .int i :: ds, _, _, r, h => by
    simp only [DL.ints?, Option.map_eq_some_iff] at h
    obtain ⟨ns, h, rfl⟩ := h
    cases r with | cons a b =>
    cases a
    rw [Reps.ints? b h]
    rfl
  | .non :: _, _, _, _, h | .bl _ :: _, _, _, _, h | .str _ :: _, _, _, _, h | .scr _ :: _, _, _, _, h | .list _ :: _, _, _, _, h | .tup _ :: _, _, _, _, h | .dict _ :: _, _, _, _, h | .inst _ _ :: _, _, _, _, h | .cel _ :: _, _, _, _, h => by cases h
theorem Reps.bls? {K : PySem.W.Frag} {G : Kn} : ∀ {ds : List D} {xs : List V} {ns : List Bool}, Reps K cl G xs ds → DL.bls? ds = some ns → xs = ns.map V.bl
  | [], _, _, r, h => by cases r; cases h; rfl
  | .bl i :: ds, _, _, r, h => by
    simp only [DL.bls?, Option.map_eq_some_iff] at h
    obtain ⟨ns, h, rfl⟩ := h
    cases r with | cons a b =>
    cases a
    rw [Reps.bls? b h]
    rfl
  | .non :: _, _, _, _, h | .int _ :: _, _, _, _, h | .str _ :: _, _, _, _, h | .scr _ :: _, _, _, _, h | .list _ :: _, _, _, _, h | .tup _ :: _, _, _, _, h | .dict _ :: _, _, _, _, h | .inst _ _ :: _, _, _, _, h | .cel _ :: _, _, _, _, h => by cases h
def gSum : List D → Option D
  | [.list ds] => (ints? ds).map fun ns => .int ns.sum
  | _ => none
theorem c_sum (hc : X.calm = true) : CallD X cl (.builtin "sum") gSum := by
  intro pins s σ H xs us Q I r h
  obtain ⟨G, ds, r', gh, h1, h2, q⟩ := h
  unfold gSum at h2
  split at h2
  · simp only [Option.map_eq_some_iff] at h2
    obtain ⟨ns, e, rfl⟩ := h2
    cases h1 with | cons t n =>
    cases n
    cases t with | list k l rr =>
    rw [rr.ints? e] at k
    exact cr_sum hc pins s σ H _ us Q I r ⟨_, _, rfl, SqL.of k, q _ _ _ (Grow.refl gh) (.int _)⟩
  · cases h2
def gAll : List D → Option D
  | [.list ds] => (bls? ds).map fun bs => .bl (bs.all id)
  | _ => none
def gAny : List D → Option D
  | [.list ds] => (bls? ds).map fun bs => .bl (bs.any id)
  | _ => none
theorem c_all (hc : X.calm = true) : CallD X cl (.builtin "all") gAll := by
  intro pins s σ H xs us Q I r h
  obtain ⟨G, ds, r', gh, h1, h2, q⟩ := h
  unfold gAll at h2
  split at h2
  · simp only [Option.map_eq_some_iff] at h2
    obtain ⟨ns, e, rfl⟩ := h2
    cases h1 with | cons t n =>
    cases n
    cases t with | list k l rr =>
    rw [rr.bls? e] at k
    exact cr_all hc pins s σ H _ us Q I r ⟨_, _, rfl, SqL.of k, q _ _ _ (Grow.refl gh) (.bl _)⟩
  · cases h2
theorem c_any (hc : X.calm = true) : CallD X cl (.builtin "any") gAny := by
  intro pins s σ H xs us Q I r h
  obtain ⟨G, ds, r', gh, h1, h2, q⟩ := h
  unfold gAny at h2
  split at h2
  · simp only [Option.map_eq_some_iff] at h2
    obtain ⟨ns, e, rfl⟩ := h2
    cases h1 with | cons t n =>
    cases n
    cases t with | list k l rr =>
    rw [rr.bls? e] at k
    exact cr_any hc pins s σ H _ us Q I r ⟨_, _, rfl, SqL.of k, q _ _ _ (Grow.refl gh) (.bl _)⟩
  · cases h2
/-- the least, the greatest of a list that is not empty -/
def minI : Int → List Int → Int
  | m, [] => m
  | m, n :: ns => minI (if n < m then n else m) ns
def maxI : Int → List Int → Int
  | m, [] => m
  | m, n :: ns => maxI (if m < n then n else m) ns
theorem minI_ok : ∀ (m : Int) (ns : List Int), minI m ns ∈ m :: ns ∧ ∀ y ∈ m :: ns, minI m ns ≤ y
  | m, [] => ⟨by simp [minI], by simp [minI]⟩
  | m, n :: ns => by
    obtain ⟨h1, h2⟩ := minI_ok (if n < m then n else m) ns
    unfold minI
    constructor
    · rcases List.mem_cons.mp h1 with h | h
      · rw [h]; split <;> simp
      · simp [h]
    · intro y hy
      have h3 := h2 (if n < m then n else m) (by simp)
      have h4 : (if n < m then n else m) ≤ m := by split <;> omega
      have h5 : (if n < m then n else m) ≤ n := by split <;> omega
      rcases List.mem_cons.mp hy with rfl | hy
      · exact Int.le_trans h3 h4
      · rcases List.mem_cons.mp hy with rfl | hy
        · exact Int.le_trans h3 h5
        · exact h2 y (by simp [hy])
theorem maxI_ok : ∀ (m : Int) (ns : List Int), maxI m ns ∈ m :: ns ∧ ∀ y ∈ m :: ns, y ≤ maxI m ns
  | m, [] => ⟨by simp [maxI], by simp [maxI]⟩
  | m, n :: ns => by
    obtain ⟨h1, h2⟩ := maxI_ok (if m < n then n else m) ns
    unfold maxI
    constructor
    · rcases List.mem_cons.mp h1 with h | h
      · rw [h]; split <;> simp
      · simp [h]
    · intro y hy
      have h3 := h2 (if m < n then n else m) (by simp)
      have h4 : m ≤ (if m < n then n else m) := by split <;> omega
      have h5 : n ≤ (if m < n then n else m) := by split <;> omega
      rcases List.mem_cons.mp hy with rfl | hy
      · exact Int.le_trans h4 h3
      · rcases List.mem_cons.mp hy with rfl | hy
        · exact Int.le_trans h5 h3
        · exact h2 y (by simp [hy])
def gMin : List D → Option D
  | [.list ds] => (ints? ds).bind fun ns => match ns with
    | [] => none
    | n :: ns => some (.int (minI n ns))
  | [.int i, .int j] => some (.int (if j < i then j else i))
  | _ => none
def gMax : List D → Option D
  | [.list ds] => (ints? ds).bind fun ns => match ns with
    | [] => none
    | n :: ns => some (.int (maxI n ns))
  | [.int i, .int j] => some (.int (if j > i then j else i))
  | _ => none
theorem c_min (hc : X.calm = true) : CallD X cl (.builtin "min") gMin := by
  intro pins s σ H xs us Q I r h
  obtain ⟨G, ds, r', gh, h1, h2, q⟩ := h
  unfold gMin at h2
  split at h2
  · simp only [Option.bind_eq_some_iff] at h2
    obtain ⟨ns, e, h3⟩ := h2
    cases h1 with | cons t n =>
    cases n
    cases t with | list k l rr =>
    rw [rr.ints? e] at k
    cases ns with
    | nil => cases h3
    | cons n ns =>
      cases h3
      refine cr_min hc pins s σ H _ us Q I r ⟨_, _, rfl, SqL.of k, by simp, fun m hm hle => ?_⟩
      have a := minI_ok n ns
      have em : m = minI n ns := Int.le_antisymm (hle _ a.1) (a.2 _ hm)
      rw [em]
      exact q _ _ _ (Grow.refl gh) (.int _)
  · cases h2
    cases h1 with | cons t n =>
    cases n with | cons t2 n =>
    cases n
    cases t
    cases t2
    exact call_min2 hc pins s σ H _ us Q I r ⟨_, _, rfl, q _ _ _ (Grow.refl gh) (.int _)⟩
  · cases h2
theorem c_max (hc : X.calm = true) : CallD X cl (.builtin "max") gMax := by
  intro pins s σ H xs us Q I r h
  obtain ⟨G, ds, r', gh, h1, h2, q⟩ := h
  unfold gMax at h2
  split at h2
  · simp only [Option.bind_eq_some_iff] at h2
    obtain ⟨ns, e, h3⟩ := h2
    cases h1 with | cons t n =>
    cases n
    cases t with | list k l rr =>
    rw [rr.ints? e] at k
    cases ns with
    | nil => cases h3
    | cons n ns =>
      cases h3
      refine cr_max hc pins s σ H _ us Q I r ⟨_, _, rfl, SqL.of k, by simp, fun m hm hle => ?_⟩
      have a := maxI_ok n ns
      have em : m = maxI n ns := Int.le_antisymm (a.2 _ hm) (hle _ a.1)
      rw [em]
      exact q _ _ _ (Grow.refl gh) (.int _)
  · cases h2
    cases h1 with | cons t n =>
    cases n with | cons t2 n =>
    cases n
    cases t
    cases t2
    exact call_max2 hc pins s σ H _ us Q I r ⟨_, _, rfl, q _ _ _ (Grow.refl gh) (.int _)⟩
  · cases h2
/-- sorted, of ints -/
def insI (n : Int) : List Int → List Int
  | [] => [n]
  | m :: ms => if n ≤ m then n :: m :: ms else m :: insI n ms
def sortI : List Int → List Int
  | [] => []
  | n :: ns => insI n (sortI ns)
theorem insI_perm (n : Int) : ∀ ns : List Int, (insI n ns).Perm (n :: ns)
  | [] => List.Perm.refl _
  | m :: ms => by
    unfold insI
    split
    · exact List.Perm.refl _
    · exact ((insI_perm n ms).cons m).trans (List.Perm.swap n m ms)
theorem insI_sorted (n : Int) : ∀ ns : List Int, ns.Pairwise (· ≤ ·) → (insI n ns).Pairwise (· ≤ ·)
  | [], _ => by simp [insI]
  | m :: ms, h => by
    unfold insI
    have h' := List.pairwise_cons.mp h
    split
    · rename_i c
      refine List.pairwise_cons.mpr ⟨fun y hy => ?_, h⟩
      rcases List.mem_cons.mp hy with rfl | hy
      · exact c
      · exact Int.le_trans c (h'.1 y hy)
    · rename_i c
      refine List.pairwise_cons.mpr ⟨fun y hy => ?_, insI_sorted n ms h'.2⟩
      rcases List.mem_cons.mp ((insI_perm n ms).mem_iff.mp hy) with rfl | hy
      · omega
      · exact h'.1 y hy
theorem sortI_perm : ∀ ns : List Int, (sortI ns).Perm ns
  | [] => List.Perm.refl _
  | n :: ns => (insI_perm n _).trans ((sortI_perm ns).cons n)
theorem sortI_sorted : ∀ ns : List Int, (sortI ns).Pairwise (· ≤ ·)
  | [] => List.Pairwise.nil
  | n :: ns => insI_sorted n _ (sortI_sorted ns)
def gSorted : List D → Option D
  | [.list ds] => (ints? ds).map fun ns => .list ((sortI ns).map .int)
  | _ => none
theorem c_sorted : CallD X cl (.builtin "sorted") gSorted := by
  intro pins s σ H xs us Q I r h
  obtain ⟨G, ds, r', gh, h1, h2, q⟩ := h
  unfold gSorted at h2
  split at h2
  · simp only [Option.map_eq_some_iff] at h2
    obtain ⟨ns, e, rfl⟩ := h2
    cases h1 with | cons t n =>
    cases n
    cases t with | list k l rr =>
    have e2 := rr.ints? e
    rw [e2] at k
    refine cr_sortedI pins s σ H _ us Q I r ⟨_, _, rfl, SqL.of k, fun ns' p h3 h4 hp => ?_⟩
    have e3 : ns' = sortI ns := PySem.W.ksm_same (h3.trans (sortI_perm ns).symm) h4 (sortI_sorted ns)
    subst e3
    refine new_lst gh hp ?_ (Reps.ints _) q
    rw [List.length_map, (sortI_perm ns).length_eq]
    rw [e2, List.length_map] at l
    exact l
  · cases h2
end
end DL

/-! E3: what is walked, comprehensions, calls of own defs, isinstance -/
namespace DL
open PySem L2

section
variable {K : PySem.W.Frag} {cl : String → Option Addr} {F : Fm} {T : Th} {G G' : Kn} {H H' : Hp} {σ : L2.St} {ρ ρ' : En} {v : V} {d : D} {r : RV}
/-! ### a place is locked while its list is walked -/
def Th.lock (T : Th) (i : Nat) (a : Addr) (o : HO) : Th := ⟨upd T.h a o, fun j => if j = i then some a else T.l j⟩
theorem EOk.lock {i : Nat} {a : Addr} {o : HO} {w : Option Nat} (E : EOk K cl F T G H σ ρ) (hi : ρ.sl[i]? = some (.own w d)) (ha : σ[i]? = some (some (.ref a))) (ho : H a = some o) : EOk K cl F (T.lock i a o) G H σ (ρ.set i (.lck w d)) ∧ T.h a = none := by
  obtain ⟨a', h1, h2, h3, h4, h5⟩ := E.own i w d hi
  rw [ha] at h1; cases h1
  have hl : i < ρ.sl.length := (List.getElem?_eq_some_iff.mp hi).1
  have apart : ∀ {j : Nat} {b : Addr} {x : Sl}, i ≠ j → ρ.sl[j]? = some x → x.obj ≠ none → σ[j]? = some (some (.ref b)) → b ≠ a := fun {j b x} hj e1 e2 e3 z => by
    subst z
    exact hj (E.sep i j b _ x hi e1 (by simp [Sl.obj]) e2 ha e3)
  refine ⟨⟨by simpa using E.len, fun j d' h' => ?_, fun j w d' h' => ?_, fun j w d' h' => ?_, fun j k b x y e1 e2 e3 e4 e5 e6 => ?_, E.g0, fun b hb => ?_, E.gh, fun b u hb => ?_, E.wh, E.cs.held fun b hb => ?_⟩, h3⟩
  · by_cases hj : i = j
    · subst hj; rw [List.getElem?_set_self hl] at h'; cases h'
    · rw [List.getElem?_set_ne hj] at h'; exact E.val j d' h'
  · by_cases hj : i = j
    · subst hj; rw [List.getElem?_set_self hl] at h'; cases h'
    · rw [List.getElem?_set_ne hj] at h'
      obtain ⟨b, k1, k2, k3, k4, k5⟩ := E.own j w d' h'
      exact ⟨b, k1, k2, by show upd T.h a o b = none; rw [upd_ne (apart hj h' (by simp [Sl.obj]) k1)]; exact k3, k4, k5⟩
  · by_cases hj : i = j
    · subst hj; rw [List.getElem?_set_self hl] at h'; cases h'
      exact ⟨a, o, ha, h2, ⟨by simp [Th.lock], upd_same⟩, h4, h5⟩
    · rw [List.getElem?_set_ne hj] at h'
      obtain ⟨b, u, k1, k2, ⟨k3, k3'⟩, k4, k5⟩ := E.lck j w d' h'
      refine ⟨b, u, k1, k2, ⟨?_, ?_⟩, k4, k5⟩
      · show (if j = i then some a else T.l j) = some b
        rw [if_neg (fun z => hj z.symm)]; exact k3
      · show upd T.h a o b = some u
        rw [upd_ne (apart hj h' (by simp [Sl.obj]) k1)]; exact k3'
  · have back : ∀ {j : Nat} {x : Sl}, (ρ.set i (.lck w d)).sl[j]? = some x → x.obj ≠ none → ∃ y, ρ.sl[j]? = some y ∧ y.obj ≠ none := fun {j x} e n => by
      by_cases hj : i = j
      · subst hj; exact ⟨_, hi, by simp [Sl.obj]⟩
      · rw [List.getElem?_set_ne hj] at e; exact ⟨x, e, n⟩
    obtain ⟨x', f1, f2⟩ := back e1 e3
    obtain ⟨y', f3, f4⟩ := back e2 e4
    exact E.sep j k b x' y' f1 f3 f2 f4 e5 e6
  · by_cases hb' : b = a
    · subst hb'; exact absurd h2.1 hb
    · show F.G0.h b ≠ none ∨ upd T.h a o b = none
      rw [upd_ne hb']; exact E.gt b hb
  · by_cases hb' : b = a
    · subst hb'
      have : upd T.h b o b = some u := hb
      rw [upd_same] at this; cases this; exact ho
    · have : upd T.h a o b = some u := hb
      rw [upd_ne hb'] at this; exact E.th b u this
  · show upd T.h a o b = none
    rw [upd_ne (fun z => h2.2 (by rw [← z]; exact hb))]; exact E.cs.th b hb
theorem EOk.unlock {i : Nat} {a : Addr} {o : HO} {w : Option Nat} (E : EOk K cl F (T.lock i a o) G H σ ρ) (hi : ρ.sl[i]? = some (.lck w d)) (hT : T.h a = none) : EOk K cl F T G H σ (ρ.set i (.own w d)) := by
  obtain ⟨a', u, h1, h2, ⟨h3, h3'⟩, h4, h5⟩ := E.lck i w d hi
  have ea : a' = a := by
    have : (if i = i then some a else T.l i) = some a' := h3
    rw [if_pos rfl] at this; cases this; rfl
  subst ea
  have hl : i < ρ.sl.length := (List.getElem?_eq_some_iff.mp hi).1
  have apart : ∀ {j : Nat} {b : Addr} {x : Sl}, i ≠ j → ρ.sl[j]? = some x → x.obj ≠ none → σ[j]? = some (some (.ref b)) → b ≠ a' := fun {j b x} hj e1 e2 e3 z => by
    subst z
    exact hj (E.sep i j b _ x hi e1 (by simp [Sl.obj]) e2 h1 e3)
  refine ⟨by simpa using E.len, fun j d' h' => ?_, fun j w d' h' => ?_, fun j w d' h' => ?_, fun j k b x y e1 e2 e3 e4 e5 e6 => ?_, E.g0, fun b hb => ?_, E.gh, fun b u hb => ?_, E.wh, E.cs.held fun b hb => ?_⟩
  · by_cases hj : i = j
    · subst hj; rw [List.getElem?_set_self hl] at h'; cases h'
    · rw [List.getElem?_set_ne hj] at h'; exact E.val j d' h'
  · by_cases hj : i = j
    · subst hj; rw [List.getElem?_set_self hl] at h'; cases h'
      exact ⟨a', h1, h2, hT, h4, h5⟩
    · rw [List.getElem?_set_ne hj] at h'
      obtain ⟨b, k1, k2, k3, k4, k5⟩ := E.own j w d' h'
      refine ⟨b, k1, k2, ?_, k4, k5⟩
      have : upd T.h a' o b = none := k3
      rw [upd_ne (apart hj h' (by simp [Sl.obj]) k1)] at this; exact this
  · by_cases hj : i = j
    · subst hj; rw [List.getElem?_set_self hl] at h'; cases h'
    · rw [List.getElem?_set_ne hj] at h'
      obtain ⟨b, u, k1, k2, ⟨k3, k3'⟩, k4, k5⟩ := E.lck j w d' h'
      refine ⟨b, u, k1, k2, ⟨?_, ?_⟩, k4, k5⟩
      · have : (if j = i then some a' else T.l j) = some b := k3
        rw [if_neg (fun z => hj z.symm)] at this; exact this
      · have : upd T.h a' o b = some u := k3'
        rw [upd_ne (apart hj h' (by simp [Sl.obj]) k1)] at this; exact this
  · have back : ∀ {j : Nat} {x : Sl}, (ρ.set i (.own w d)).sl[j]? = some x → x.obj ≠ none → ∃ y, ρ.sl[j]? = some y ∧ y.obj ≠ none := fun {j x} e n => by
      by_cases hj : i = j
      · subst hj; exact ⟨_, hi, by simp [Sl.obj]⟩
      · rw [List.getElem?_set_ne hj] at e; exact ⟨x, e, n⟩
    obtain ⟨x', f1, f2⟩ := back e1 e3
    obtain ⟨y', f3, f4⟩ := back e2 e4
    exact E.sep j k b x' y' f1 f3 f2 f4 e5 e6
  · rcases E.gt b hb with z | z
    · exact .inl z
    · refine .inr ?_
      by_cases hb' : b = a'
      · subst hb'; exact hT
      · have : upd T.h a' o b = none := z
        rw [upd_ne hb'] at this; exact this
  · refine E.th b u ?_
    have hb' : b ≠ a' := fun z => by subst z; rw [hT] at hb; cases hb
    show upd T.h a' o b = some u
    rw [upd_ne hb']; exact hb
  · have k := E.cs.th b hb
    have k' : upd T.h a' o b = none := k
    rw [upd_ne (fun z => h2.2 (by rw [← z]; exact hb))] at k'; exact k'
/-- what a loop walks: a list of a place, or of a cell -/
inductive Lk where
  | slot (i : Nat) | cell (n : Nat)
def unlk (lk : Option Lk) (ρ : En) : Option En := match lk with
  | none => some ρ
  | some (.cell _) => some ρ
  | some (.slot i) => match ρ.sl[i]? with
    | some (.lck w d) => some (ρ.set i (.own w d))
    | _ => none
/-- T' is T, or T with the place locked -/
def LkOk (T T' : Th) : Option Lk → Prop
  | none => T' = T
  | some (.cell _) => T' = T
  | some (.slot i) => ∃ a o, T.h a = none ∧ T' = T.lock i a o
/-- a cell's list stands as it stood -/
def ckOf (lk : Option Lk) (ds : List D) (ρ : En) : Prop := match lk with
  | some (.cell n) => ρ.st[n]? = some (some (.list ds))
  | _ => True
noncomputable instance (lk : Option Lk) (ds : List D) (ρ : En) : Decidable (ckOf lk ds ρ) := Classical.propDecidable _
theorem EOk.unlk {T' : Th} {lk : Option Lk} (E : EOk K cl F T' G H σ ρ) (l : LkOk T T' lk) (u : DL.unlk lk ρ = some ρ') : EOk K cl F T G H σ ρ' := by
  rcases lk with _ | i | n
  · cases l; cases u; exact E
  · obtain ⟨a, o, hT, rfl⟩ := l
    simp only [DL.unlk] at u
    split at u
    · rename_i w d q
      cases u
      exact E.unlock q hT
    · cases u
  · cases l; cases u; exact E
end

/-! ### what is walked -/
abbrev Src := En → Option (List D × Option Lk × En)
structure ItOk (K : PySem.W.Frag) (cl : String → Option Addr) (J : It) (F : Fm) (T0 : Th) (G0 : Kn) (lk : Option Lk) (ds : List D) : Prop where
  go : ∀ (T : Th) (G : Kn) (H : Hp) (σ : L2.St) (ρ : En) (i : Nat), EOk K cl F T G H σ ρ → Le G0 G → Same T0.h T.h → ckOf lk ds ρ → i < ds.length → J.go i H
  stop : ∀ (T : Th) (G : Kn) (H : Hp) (σ : L2.St) (ρ : En) (i : Nat), EOk K cl F T G H σ ρ → Le G0 G → Same T0.h T.h → ckOf lk ds ρ → ds.length ≤ i → J.stop i H
  yld : ∀ (T : Th) (G : Kn) (H : Hp) (σ : L2.St) (ρ : En) (i : Nat) (d : D) (x : V) (H' : Hp), EOk K cl F T G H σ ρ → Le G0 G → Same T0.h T.h → ckOf lk ds ρ → ds[i]? = some d → J.yld i H x H' → ∃ G', Grow G H G' H' ∧ Rep K cl G' x d
def tDI (K : PySem.W.Frag) (cl : String → Option Addr) (m : Src) : TI := fun σ H R => ∃ F T G ρ ds lk ρ', EOk K cl F T G H σ ρ ∧ m ρ = some (ds, lk, ρ') ∧
  ∀ J T' G' H', Le G G' → LkOk T T' lk → EOk K cl F T' G' H' σ ρ' → ckOf lk ds ρ' → ItOk K cl J F T' G' lk ds → R J H'
abbrev PDI (X : Cx) (cl : String → Option Addr) (tg it : Expr) (m : Src) : Prop := PI X tg it (tDI X.K cl m)
/-- a cell's list -/
def celL (ρ : En) (n : Nat) : Option (List D × Option Lk × En) := match ρ.st[n]? with
  | some (some (.list ds)) => some (ds, some (.cell n), ρ)
  | _ => none
def srcOf (ρ : En) : RV → Option (List D × Option Lk × En)
  | .val (.list ds) => some (ds, none, ρ)
  | .val (.tup ds) => some (ds, none, ρ)
  | .val (.cel n) => celL ρ n
  | .ref i => match ρ.sl[i]? with
    | some (.own w (.list ds)) => some (ds, some (.slot i), ρ.set i (.lck w (.list ds)))
    | some (.lck _ (.list ds)) => some (ds, none, ρ)
    | some (.val (.list ds)) => some (ds, none, ρ)
    | some (.val (.tup ds)) => some (ds, none, ρ)
    | some (.val (.cel n)) => celL ρ n
    | _ => none
  | _ => none
def srcSeq (m : Ex) : Src := fun ρ => (m ρ).bind fun p => srcOf p.2 p.1
section
variable {X : Cx} {cl : String → Option Addr}
theorem pi_imp {tg e : Expr} {t t' : TI} (h : PI X tg e t) (i : ∀ σ H R, t' σ H R → t σ H R) : PI X tg e t' := ⟨fun pins s σ H R I q => h.run pins s σ H R I (i _ _ _ q)⟩
theorem pi_either {tg e : Expr} {t t' : TI} (h : PI X tg e t) (h' : PI X tg e t') : PI X tg e (fun σ H R => t σ H R ∨ t' σ H R) := ⟨fun pins s σ H R I q => by
  rcases q with q | q
  · exact h.run pins s σ H R I q
  · exact h'.run pins s σ H R I q⟩
theorem itl_ok {K : PySem.W.Frag} {F : Fm} {T0 : Th} {G0 : Kn} {lk : Option Lk} {a : Addr} {xs : List V} {ds : List D} (h : G0.h a = some (.lst xs) ∨ T0.h a = some (.lst xs)) (r : Reps K cl G0 xs ds) : ItOk K cl (Itl K a) F T0 G0 lk ds := by
  have at_ : ∀ {T : Th} {G : Kn} {H : Hp} {σ : L2.St} {ρ : En}, EOk K cl F T G H σ ρ → Le G0 G → Same T0.h T.h → H a = some (.lst xs) := fun {T G H σ ρ} E g t => by
    rcases h with h | h
    · exact E.gh _ _ (g.s _ _ h)
    · exact E.th _ _ (t _ _ h)
  refine ⟨fun T G H σ ρ i E g t _ hi => ?_, fun T G H σ ρ i E g t _ hi => ?_, fun T G H σ ρ i d x H' E g t _ hd y => ?_⟩
  · have hx : i < xs.length := by rw [r.length]; exact hi
    exact ⟨xs, xs[i], SqL.of (at_ E g t), by simp [hx]⟩
  · exact ⟨xs, SqL.of (at_ E g t), by rw [r.length]; exact hi⟩
  · obtain ⟨rfl, y⟩ := y
    obtain ⟨w, h1, h2⟩ := r.get hd
    have h3 := y xs (SqL.of (at_ E g t))
    rw [h1] at h3; cases h3
    exact ⟨G, Grow.refl E.gh, h2.mono g⟩
/-- a cell's list -/
theorem itc_ok {K : PySem.W.Frag} {F : Fm} {T0 : Th} {G0 : Kn} {a : Addr} {n : Nat} {ds : List D} (h : G0.A[n]? = some a) : ItOk K cl (Itl K a) F T0 G0 (some (.cell n)) ds := by
  have at_ : ∀ {T : Th} {G : Kn} {H : Hp} {σ : L2.St} {ρ : En}, EOk K cl F T G H σ ρ → Le G0 G → ckOf (some (.cell n)) ds ρ → ∃ xs, H a = some (.lst xs) ∧ Reps K cl G xs ds := fun {T G H σ ρ} E g c => by
    obtain ⟨b, h1, _, h2, h3⟩ := E.cs.got n _ c
    rw [g.nth h] at h1; cases h1
    cases h3 with
    | list k l r => exact ⟨_, k, r⟩
  refine ⟨fun T G H σ ρ i E g t c hi => ?_, fun T G H σ ρ i E g t c hi => ?_, fun T G H σ ρ i d x H' E g t c hd y => ?_⟩
  · obtain ⟨xs, k, r⟩ := at_ E g c
    have hx : i < xs.length := by rw [r.length]; exact hi
    exact ⟨xs, xs[i], SqL.of k, by simp [hx]⟩
  · obtain ⟨xs, k, r⟩ := at_ E g c
    exact ⟨xs, SqL.of k, by rw [r.length]; exact hi⟩
  · obtain ⟨xs, k, r⟩ := at_ E g c
    obtain ⟨rfl, y⟩ := y
    obtain ⟨w, h1, h2⟩ := r.get hd
    have h3 := y xs (SqL.of k)
    rw [h1] at h3; cases h3
    exact ⟨G, Grow.refl E.gh, h2⟩
theorem itt_ok {K : PySem.W.Frag} {F : Fm} {T0 : Th} {G0 : Kn} {lk : Option Lk} {a : Addr} {xs : List V} {ds : List D} (h : SqT K G0.h a xs) (r : Reps K cl G0 xs ds) : ItOk K cl (Itt K a) F T0 G0 lk ds := by
  have at_ : ∀ {T : Th} {G : Kn} {H : Hp} {σ : L2.St} {ρ : En}, EOk K cl F T G H σ ρ → Le G0 G → SqT K H a xs := fun {T G H σ ρ} E g => sameT E.gh (sameT g.s h)
  refine ⟨fun T G H σ ρ i E g t _ hi => ?_, fun T G H σ ρ i E g t _ hi => ?_, fun T G H σ ρ i d x H' E g t _ hd y => ?_⟩
  · have hx : i < xs.length := by rw [r.length]; exact hi
    exact ⟨xs, xs[i], at_ E g, by simp [hx]⟩
  · exact ⟨xs, at_ E g, by rw [r.length]; exact hi⟩
  · obtain ⟨rfl, y⟩ := y
    obtain ⟨w, h1, h2⟩ := r.get hd
    have h3 := y xs (at_ E g)
    rw [h1] at h3; cases h3
    exact ⟨G, Grow.refl E.gh, h2.mono g⟩
/-- the source's place and items -/
theorem src_run {K : PySem.W.Frag} {F : Fm} {T : Th} {G : Kn} {H : Hp} {σ : L2.St} {ρ ρ' : En} {v : V} {r : RV} {ds : List D} {lk : Option Lk} (E : EOk K cl F T G H σ ρ) (R : RvOk K cl G σ v r) (h : srcOf ρ r = some (ds, lk, ρ')) :
    ∃ a T', v = .ref a ∧ LkOk T T' lk ∧ EOk K cl F T' G H σ ρ' ∧ ckOf lk ds ρ' ∧ ((∃ xs, H a = some (.lst xs) ∧ ItOk K cl (Itl K a) F T' G lk ds) ∨ ∃ xs, SqT K G.h a xs ∧ ItOk K cl (Itt K a) F T' G lk ds) := by
  have ofval : ∀ {d : D}, Rep K cl G v d → (d = .list ds ∨ d = .tup ds) → ∃ a, v = .ref a ∧ ((∃ xs, H a = some (.lst xs) ∧ ItOk K cl (Itl K a) F T G none ds) ∨ ∃ xs, SqT K G.h a xs ∧ ItOk K cl (Itt K a) F T G none ds) := fun {d} rp hd => by
    rcases hd with rfl | rfl
    · cases rp with
      | list k l r => exact ⟨_, rfl, .inl ⟨_, E.gh _ _ k, itl_ok (.inl k) r⟩⟩
    · cases rp with
      | tup k l r => exact ⟨_, rfl, .inr ⟨_, k, itt_ok k r⟩⟩
  have ofcel : ∀ {n : Nat}, Rep K cl G v (.cel n) → celL ρ n = some (ds, lk, ρ') → ∃ a T', v = .ref a ∧ LkOk T T' lk ∧ EOk K cl F T' G H σ ρ' ∧ ckOf lk ds ρ' ∧ ((∃ xs, H a = some (.lst xs) ∧ ItOk K cl (Itl K a) F T' G lk ds) ∨ ∃ xs, SqT K G.h a xs ∧ ItOk K cl (Itt K a) F T' G lk ds) := fun {n} rp h => by
    unfold celL at h
    split at h
    · rename_i es q
      cases h
      obtain ⟨a, h1, _, _, h3⟩ := E.cs.got n _ q
      cases rp with
      | cel k =>
        rw [h1] at k; cases k
        cases h3 with
        | list k l r => exact ⟨a, T, rfl, rfl, E, q, .inl ⟨_, k, itc_ok h1⟩⟩
    · cases h
  unfold srcOf at h
  split at h
  · cases h
    obtain ⟨a, h1, h2⟩ := ofval R (.inl rfl)
    exact ⟨a, T, h1, rfl, E, trivial, h2⟩
  · cases h
    obtain ⟨a, h1, h2⟩ := ofval R (.inr rfl)
    exact ⟨a, T, h1, rfl, E, trivial, h2⟩
  · exact ofcel R h
  · rename_i i
    have hv : σ[i]? = some (some v) := R
    split at h
    · rename_i w es q
      cases h
      obtain ⟨a, h1, h2, h3, h4, h5, h6⟩ := E.own i w _ q
      rw [h1] at hv; cases hv
      cases h6 with
      | list k l r =>
        obtain ⟨E', hT⟩ := E.lock q h1 k
        exact ⟨a, _, rfl, ⟨a, _, hT, rfl⟩, E', trivial, .inl ⟨_, k, itl_ok (.inr upd_same) r⟩⟩
    · rename_i w es q
      cases h
      obtain ⟨a, o, h1, h2, h3, h4, h5, h6⟩ := E.lck i w _ q
      rw [h1] at hv; cases hv
      cases h6 with
      | list k l r =>
        have := E.th _ _ h3.2
        rw [k] at this; cases this
        exact ⟨a, T, rfl, rfl, E, trivial, .inl ⟨_, k, itl_ok (.inr h3.2) r⟩⟩
    · rename_i es q
      cases h
      obtain ⟨u, h1, h2⟩ := E.val i _ q
      rw [h1] at hv; cases hv
      obtain ⟨a, h1, h2⟩ := ofval h2 (.inl rfl)
      exact ⟨a, T, h1, rfl, E, trivial, h2⟩
    · rename_i es q
      cases h
      obtain ⟨u, h1, h2⟩ := E.val i _ q
      rw [h1] at hv; cases hv
      obtain ⟨a, h1, h2⟩ := ofval h2 (.inr rfl)
      exact ⟨a, T, h1, rfl, E, trivial, h2⟩
    · rename_i n q
      obtain ⟨u, h1, h2⟩ := E.val i _ q
      rw [h1] at hv; cases hv
      exact ofcel h2 h
    · cases h
  · cases h
/-- a list or a tuple is walked: which, is seen when it is there -/
theorem pi_seq {tg e : Expr} {te : TE} (h : PE X e te) : PI X tg e (fun σ H R => te σ H fun x H1 => ∃ a, x = .ref a ∧ (((∃ xs, SqL X.K H1 a xs) ∧ R (Itl X.K a) H1) ∨ ((∃ xs, SqT X.K H1 a xs) ∧ R (Itt X.K a) H1))) := by
  refine ⟨fun pins s σ H R I q => thn (h.run pins s σ H _ I q) fun v s1 hv => ?_⟩
  obtain ⟨x, H1, I1, rx, a, rfl, z⟩ := hv
  cases rx
  have old : ∀ (o : Obj) (b : Addr) (u : Obj), s1.heap.get? b = some u → (s1.heap.push o).get? b = some u := fun o b u hu => Heap.get?_push_of_some _ hu
  have own1 : ∀ b ∈ [s1.heap.objs.size], FpOk X pins H1 b := fun b hb => by
    rw [List.mem_singleton] at hb
    exact I1.fpOk (Nat.le_of_eq hb.symm) (I1.hok.fresh (Nat.le_of_eq hb.symm))
  rcases z with ⟨⟨xs, hx⟩, z⟩ | ⟨⟨xs, hx⟩, z⟩
  · obtain ⟨its, _, pl, _⟩ := I1.list hx
    exact wpAny_pyIter_list pl.isList ⟨_, [s1.heap.objs.size], _, _, H1, rfl, I1.kept (t' := s1.toks) (old _), turn_list a _, ⟨_, Heap.get?_push_size _ rfl, rfl, rfl⟩, own1, z⟩
  · obtain ⟨its, _, pl, _⟩ := I1.tuple hx
    exact wpAny_pyIter_tuple (show s1.heap.IsTuple a its.toArray from pl) ⟨_, [s1.heap.objs.size], _, _, H1, rfl, I1.kept (t' := s1.toks) (old _), turn_tuple a _, ⟨_, Heap.get?_push_size _ rfl, rfl, rfl⟩, own1, z⟩
theorem i_seq {tg e : Expr} {me : Ex} (h : PD X cl e me) : PDI X cl tg e (srcSeq me) := by
  refine pi_imp (pi_seq h) fun σ H R q => ?_
  obtain ⟨F, T, G, ρ, ds, lk, ρ', E, e1, q⟩ := q
  simp only [srcSeq, Option.bind_eq_some_iff] at e1
  obtain ⟨⟨r, ρ1⟩, e1, e2⟩ := e1
  refine ⟨F, T, G, ρ, r, ρ1, E, e1, fun v G1 H1 g1 E1 R1 => ?_⟩
  obtain ⟨a, T', rfl, lkk, E2, c, z⟩ := src_run E1 R1 e2
  refine ⟨a, rfl, ?_⟩
  rcases z with ⟨xs, k1, k2⟩ | ⟨xs, k1, k2⟩
  · exact .inl ⟨⟨xs, SqL.of k1⟩, q _ T' G1 H1 g1 lkk E2 c k2⟩
  · exact .inr ⟨⟨xs, sameT E1.gh k1⟩, q _ T' G1 H1 g1 lkk E2 c k2⟩

/-! range -/
def rgD (lo hi : Int) : List D := (List.range (hi - lo).toNat).map fun i => .int (lo + (i : Nat))
theorem rgD_len (lo hi : Int) : (rgD lo hi).length = (hi - lo).toNat := by simp [rgD]
theorem rgD_at {lo hi : Int} {i : Nat} {d : D} (h : (rgD lo hi)[i]? = some d) : d = .int (lo + (i : Nat)) := by
  unfold rgD at h
  rw [List.getElem?_map] at h
  cases e : (List.range (hi - lo).toNat)[i]? with
  | none => rw [e] at h; cases h
  | some j =>
    rw [e] at h
    obtain ⟨h1, h2⟩ := List.getElem?_eq_some_iff.mp e
    rw [List.getElem_range] at h2
    subst h2
    cases h; rfl
def ok62 (i : Int) : Bool := decide (-(2 ^ 62) ≤ i) && decide (i < 2 ^ 62)
theorem ok62_iff {i : Int} (h : ok62 i = true) : -(2 ^ 62) ≤ i ∧ i < 2 ^ 62 := by
  simp only [ok62, Bool.and_eq_true, decide_eq_true_eq] at h
  exact h
def srcR1 : List D → Option (List D)
  | [.int n] => if ok62 n = true then some (rgD 0 n) else none
  | _ => none
def srcR2 : List D → Option (List D)
  | [.int a, .int b] => if ok62 a = true ∧ ok62 b = true then some (rgD a b) else none
  | _ => none
def srcRg (g : List D → Option (List D)) (m : Ax) : Src := fun ρ => (m ρ).bind fun p => (peeks p.2 p.1).bind fun ds => (g ds).map fun es => (es, none, p.2)
theorem itr_ok {K : PySem.W.Frag} {F : Fm} {T0 : Th} {G0 : Kn} {lk : Option Lk} {lo hi : Int} : ItOk K cl (Itr lo (hi - lo).toNat) F T0 G0 lk (rgD lo hi) := by
  refine ⟨fun T G H σ ρ i E g t _ hi => ?_, fun T G H σ ρ i E g t _ hi => ?_, fun T G H σ ρ i d x H' E g t _ hd y => ?_⟩
  · rw [rgD_len] at hi; exact hi
  · rw [rgD_len] at hi; exact hi
  · obtain ⟨rfl, rfl⟩ := y
    rw [rgD_at hd]
    exact ⟨G, Grow.refl E.gh, .int _⟩
variable {tg a b : Expr} {mx : Ax} {p pos : Pos}
theorem i_range1 (hm : X.mg "range" = none) (ha : PDA X cl [a] mx) (hg : Gl X "range" := by rfl) (hs : starEach [a] X.env = [(false, eval a X.env)] := by rfl) : PDI X cl tg (.Call (.Name "range" p) [a] [] pos) (srcRg srcR1 mx) := by
  refine pi_imp (pi_range1 hg hm ha hs) fun σ H R q => ?_
  obtain ⟨F, T, G, ρ, ds, lk, ρ', E, e1, q⟩ := q
  simp only [srcRg, Option.bind_eq_some_iff, Option.map_eq_some_iff, Prod.mk.injEq] at e1
  obtain ⟨⟨rs, ρ1⟩, e1, es, e2, es', e3, rfl, rfl, rfl⟩ := e1
  refine ⟨F, T, G, ρ, rs, ρ1, E, e1, fun vs G1 H1 g1 E1 R1 => ?_⟩
  have tp := E1.tops R1 e2
  unfold srcR1 at e3
  split at e3
  · rename_i n
    split at e3
    · rename_i c
      cases e3
      cases tp with | cons t1 tr =>
      cases tr
      cases t1
      have c' := ok62_iff c
      refine ⟨n, rfl, c'.1, c'.2, q _ T G1 H1 g1 rfl E1 trivial ?_⟩
      have := itr_ok (cl := cl) (K := X.K) (F := F) (T0 := T) (G0 := G1) (lk := none) (lo := 0) (hi := n)
      rwa [Int.sub_zero] at this
    · cases e3
  · cases e3
theorem i_range2 (hm : X.mg "range" = none) (ha : PDA X cl [a, b] mx) (hg : Gl X "range" := by rfl) (hs : starEach [a, b] X.env = [(false, eval a X.env), (false, eval b X.env)] := by rfl) (hs2 : starEach [b] X.env = [(false, eval b X.env)] := by rfl) :
    PDI X cl tg (.Call (.Name "range" p) [a, b] [] pos) (srcRg srcR2 mx) := by
  refine pi_imp (pi_range2 hg hm ha hs hs2) fun σ H R q => ?_
  obtain ⟨F, T, G, ρ, ds, lk, ρ', E, e1, q⟩ := q
  simp only [srcRg, Option.bind_eq_some_iff, Option.map_eq_some_iff, Prod.mk.injEq] at e1
  obtain ⟨⟨rs, ρ1⟩, e1, es, e2, es', e3, rfl, rfl, rfl⟩ := e1
  refine ⟨F, T, G, ρ, rs, ρ1, E, e1, fun vs G1 H1 g1 E1 R1 => ?_⟩
  have tp := E1.tops R1 e2
  unfold srcR2 at e3
  split at e3
  · rename_i n m
    split at e3
    · rename_i c
      cases e3
      cases tp with | cons t1 tr =>
      cases tr with | cons t2 tr =>
      cases tr
      cases t1
      cases t2
      have c1 := ok62_iff c.1
      have c2 := ok62_iff c.2
      exact ⟨n, m, rfl, ⟨c1.1, c1.2, c2.1, c2.2⟩, q _ T G1 H1 g1 rfl E1 trivial itr_ok⟩
    · cases e3
  · cases e3

/-! zip: pairs of the items, up to the shorter one -/
def zipD : List D → List D → List D
  | a :: as, b :: bs => .tup [a, b] :: zipD as bs
  | _, _ => []
theorem zipD_at : ∀ {as bs : List D} {i : Nat} {d : D}, (zipD as bs)[i]? = some d → ∃ a b, as[i]? = some a ∧ bs[i]? = some b ∧ d = .tup [a, b]
  | [], _, _, _, h => by simp [zipD] at h
  | _ :: _, [], _, _, h => by simp [zipD] at h
  | a :: as, b :: bs, 0, d, h => by simp [zipD] at h; exact ⟨a, b, rfl, rfl, h.symm⟩
  | a :: as, b :: bs, i + 1, d, h => by
    obtain ⟨x, y, h1, h2, h3⟩ := zipD_at (as := as) (bs := bs) (i := i) (d := d) (by simpa [zipD] using h)
    exact ⟨x, y, by simpa using h1, by simpa using h2, h3⟩
theorem zipD_len : ∀ (as bs : List D), (zipD as bs).length = min as.length bs.length
  | [], _ => by simp [zipD]
  | _ :: _, [] => by simp [zipD]
  | a :: as, b :: bs => by simp [zipD, zipD_len as bs]
def srcZ : List D → Option (List D)
  | [.list as, .list bs] => some (zipD as bs)
  | [.tup as, .tup bs] => some (zipD as bs)
  | _ => none
def srcZip (m : Ax) : Src := fun ρ => (m ρ).bind fun p => (escs p.2 p.1).bind fun q => (srcZ q.1).map fun es => (es, none, q.2)
theorem pair_rep {K : PySem.W.Frag} {G : Kn} {H : Hp} {t : Addr} {x y : V} {a b : D} (gh : Same G.h H) (ht : H t = none) (h1 : Rep K cl G x a) (h2 : Rep K cl G y b) : ∃ G', Grow G H G' (upd H t (.tup [x, y])) ∧ Rep K cl G' (.ref t) (.tup [a, b]) :=
  ⟨_, Grow.new_at gh ht, Rep.tup (SqT.of upd_same) (by show 2 ≤ sizeLine; decide) ((Reps.cons h1 (.cons h2 .nil)).mono (.up (gh.free ht)))⟩
theorem itz_ok {K : PySem.W.Frag} {F : Fm} {T0 : Th} {G0 : Kn} {a b : Addr} {xs ys : List V} {ds es : List D} (ha : G0.h a = some (.lst xs)) (hb : G0.h b = some (.lst ys)) (r : Reps K cl G0 xs ds) (s : Reps K cl G0 ys es) : ItOk K cl (Itz K a b) F T0 G0 none (zipD ds es) := by
  have at_ : ∀ {T : Th} {G : Kn} {H : Hp} {σ : L2.St} {ρ : En}, EOk K cl F T G H σ ρ → Le G0 G → SqL K H a xs ∧ SqL K H b ys := fun {T G H σ ρ} E g => ⟨SqL.of (E.gh _ _ (g.s _ _ ha)), SqL.of (E.gh _ _ (g.s _ _ hb))⟩
  refine ⟨fun T G H σ ρ i E g t _ hi => ?_, fun T G H σ ρ i E g t _ hi => ?_, fun T G H σ ρ i d x H' E g t _ hd y => ?_⟩
  · obtain ⟨q1, q2⟩ := at_ E g
    rw [zipD_len, ← r.length, ← s.length] at hi
    have h1 : i < xs.length := by omega
    have h2 : i < ys.length := by omega
    exact ⟨xs, ys, xs[i], ys[i], q1, q2, by simp [h1], by simp [h2]⟩
  · obtain ⟨q1, q2⟩ := at_ E g
    rw [zipD_len, ← r.length, ← s.length] at hi
    exact ⟨xs, ys, q1, q2, by omega⟩
  · obtain ⟨q1, q2⟩ := at_ E g
    obtain ⟨t', u, w, rfl, ht, rfl, k1, k2⟩ := y
    obtain ⟨da, db, e1, e2, rfl⟩ := zipD_at hd
    obtain ⟨x1, f1, f2⟩ := r.get e1
    obtain ⟨y1, f3, f4⟩ := s.get e2
    have g1 := k1 xs q1
    have g2 := k2 ys q2
    rw [f1] at g1; cases g1
    rw [f3] at g2; cases g2
    exact pair_rep E.gh ht (f2.mono g) (f4.mono g)
theorem itzT_ok {K : PySem.W.Frag} {F : Fm} {T0 : Th} {G0 : Kn} {a b : Addr} {xs ys : List V} {ds es : List D} (ha : SqT K G0.h a xs) (hb : SqT K G0.h b ys) (r : Reps K cl G0 xs ds) (s : Reps K cl G0 ys es) : ItOk K cl (RZ.ItzT K a b) F T0 G0 none (zipD ds es) := by
  have at_ : ∀ {T : Th} {G : Kn} {H : Hp} {σ : L2.St} {ρ : En}, EOk K cl F T G H σ ρ → Le G0 G → SqT K H a xs ∧ SqT K H b ys := fun {T G H σ ρ} E g => ⟨sameT E.gh (sameT g.s ha), sameT E.gh (sameT g.s hb)⟩
  refine ⟨fun T G H σ ρ i E g t _ hi => ?_, fun T G H σ ρ i E g t _ hi => ?_, fun T G H σ ρ i d x H' E g t _ hd y => ?_⟩
  · obtain ⟨q1, q2⟩ := at_ E g
    rw [zipD_len, ← r.length, ← s.length] at hi
    have h1 : i < xs.length := by omega
    have h2 : i < ys.length := by omega
    exact ⟨xs, ys, xs[i], ys[i], q1, q2, by simp [h1], by simp [h2]⟩
  · obtain ⟨q1, q2⟩ := at_ E g
    rw [zipD_len, ← r.length, ← s.length] at hi
    exact ⟨xs, ys, q1, q2, by omega⟩
  · obtain ⟨q1, q2⟩ := at_ E g
    obtain ⟨t', u, w, rfl, ht, rfl, k1, k2⟩ := y
    obtain ⟨da, db, e1, e2, rfl⟩ := zipD_at hd
    obtain ⟨x1, f1, f2⟩ := r.get e1
    obtain ⟨y1, f3, f4⟩ := s.get e2
    have g1 := k1 xs q1
    have g2 := k2 ys q2
    rw [f1] at g1; cases g1
    rw [f3] at g2; cases g2
    exact pair_rep E.gh ht (f2.mono g) (f4.mono g)
theorem i_zip {elts : List Expr} {kk : Nat} {tpos : Pos} (hm : X.mg "zip" = none) (ha : PDA X cl [a, b] mx) (hg : Gl X "zip" := by rfl)
    (hs : starEach [a, b] X.env = (false, eval a X.env) :: starEach [b] X.env := by rfl) (hpl : (backTo pos (starEach [b] X.env)).any (·.1) = false := by rfl) :
    PDI X cl (.Tuple elts kk tpos) (.Call (.Name "zip" p) [a, b] [] pos) (srcZip mx) := by
  refine pi_imp (RZ.pi_zipA hg hm ha hs hpl) fun σ H R q => ?_
  obtain ⟨F, T, G, ρ, ds, lk, ρ', E, e1, q⟩ := q
  simp only [srcZip, Option.bind_eq_some_iff, Option.map_eq_some_iff, Prod.mk.injEq] at e1
  obtain ⟨⟨rs, ρ1⟩, e1, ⟨es, ρ2⟩, e2, es', e3, rfl, rfl, rfl⟩ := e1
  refine ⟨F, T, G, ρ, rs, ρ1, E, e1, fun vs G1 H1 g1 E1 R1 => ?_⟩
  obtain ⟨G2, g2, E2, R2⟩ := E1.escs R1 e2
  have e3' : srcZ es = some es' := e3
  unfold srcZ at e3'
  split at e3'
  · cases e3'
    cases R2 with | cons t1 tr =>
    cases tr with | cons t2 tr =>
    cases tr
    cases t1 with | list k1 l1 r1 =>
    cases t2 with | list k2 l2 r2 =>
    exact ⟨_, _, _, _, rfl, .inl ⟨SqL.of (E2.gh _ _ k1), SqL.of (E2.gh _ _ k2), q _ T G2 H1 (g1.trans g2) rfl E2 trivial (itz_ok k1 k2 r1 r2)⟩⟩
  · cases e3'
    cases R2 with | cons t1 tr =>
    cases tr with | cons t2 tr =>
    cases tr
    cases t1 with | tup k1 l1 r1 =>
    cases t2 with | tup k2 l2 r2 =>
    exact ⟨_, _, _, _, rfl, .inr ⟨sameT E2.gh k1, sameT E2.gh k2, q _ T G2 H1 (g1.trans g2) rfl E2 trivial (itzT_ok k1 k2 r1 r2)⟩⟩
  · cases e3'
end

/-! ### targets -/
abbrev Tgt := D → En → Option (En)
/-- a pattern is assigned by names alone: nothing else happens -/
def TgOk (K : PySem.W.Frag) (cl : String → Option Addr) (g : TG) (t : Tgt) (vs : List Nat) : Prop := ∀ F T G H σ ρ v d ρ', EOk K cl F T G H σ ρ → Rep K cl G v d → t d ρ = some ρ' →
  ∃ σ', (∀ Q : L2.St → Hp → Prop, Q σ' H → g v σ H Q) ∧ EOk K cl F T G H σ' ρ' ∧ wipe σ' vs = wipe σ vs
def tNm (i : Nat) : Tgt := fun d ρ => some (ρ.set i (.val d))
theorem wipe_set {σ : L2.St} {x : Option V} {i : Nat} : ∀ {vs : List Nat}, i ∈ vs → wipe (σ.set i x) vs = wipe σ vs
  | [], h => nomatch h
  | v :: vs, h => by
    by_cases hv : i = v
    · subst hv
      show (wipe (σ.set i x) vs).set i none = (wipe σ vs).set i none
      by_cases hm : i ∈ vs
      · rw [wipe_set hm]
      · have go : ∀ (vs : List Nat), i ∉ vs → wipe (σ.set i x) vs = (wipe σ vs).set i x := by
          intro vs
          induction vs with
          | nil => intro _; rfl
          | cons w ws ih =>
            intro hn
            simp only [List.mem_cons, not_or] at hn
            show (wipe (σ.set i x) ws).set w none = ((wipe σ ws).set w none).set i x
            rw [ih hn.2, List.set_comm _ _ hn.1]
        rw [go vs hm, List.set_set]
    · have hm : i ∈ vs := by
        rcases List.mem_cons.mp h with z | z
        · exact absurd z hv
        · exact z
      show (wipe (σ.set i x) vs).set v none = (wipe σ vs).set v none
      rw [wipe_set hm]
theorem g_nm {K : PySem.W.Frag} {cl : String → Option Addr} {i : Nat} {vs : List Nat} (h : i ∈ vs := by decide) : TgOk K cl (gName i) (tNm i) vs := by
  intro F T G H σ ρ v d ρ' E R e
  cases e
  exact ⟨σ.set i (some v), fun Q q => q, E.set R, wipe_set h⟩
def TgsOk (K : PySem.W.Frag) (cl : String → Option Addr) (g : TGs) (t : List D → En → Option (En)) (vs : List Nat) : Prop := ∀ F T G H σ ρ us ds ρ', EOk K cl F T G H σ ρ → Reps K cl G us ds → t ds ρ = some ρ' →
  ∃ σ', (∀ Q : L2.St → Hp → Prop, Q σ' H → g us σ H Q) ∧ EOk K cl F T G H σ' ρ' ∧ wipe σ' vs = wipe σ vs
def tsNil : List D → En → Option (En)
  | [], ρ => some ρ
  | _, _ => none
def tsCons (t : Tgt) (u : List D → En → Option (En)) : List D → En → Option (En)
  | d :: ds, ρ => (t d ρ).bind fun ρ1 => u ds ρ1
  | _, _ => none
theorem gs_nil {K : PySem.W.Frag} {cl : String → Option Addr} {vs : List Nat} : TgsOk K cl gNil tsNil vs := by
  intro F T G H σ ρ us ds ρ' E R e
  unfold tsNil at e
  split at e
  · cases e
    cases R
    exact ⟨σ, fun Q q => ⟨rfl, q⟩, E, rfl⟩
  · cases e
theorem gs_cons {K : PySem.W.Frag} {cl : String → Option Addr} {g : TG} {gs : TGs} {t : Tgt} {u : List D → En → Option (En)} {vs : List Nat} (h : TgOk K cl g t vs) (k : TgsOk K cl gs u vs) : TgsOk K cl (gCons g gs) (tsCons t u) vs := by
  intro F T G H σ ρ us ds ρ' E R e
  unfold tsCons at e
  split at e
  · simp only [Option.bind_eq_some_iff] at e
    obtain ⟨ρ1, e1, e2⟩ := e
    cases R with | cons r1 r2 =>
    obtain ⟨σ1, q1, E1, w1⟩ := h _ _ _ _ _ _ _ _ _ E r1 e1
    obtain ⟨σ2, q2, E2, w2⟩ := k _ _ _ _ _ _ _ _ _ E1 r2 e2
    exact ⟨σ2, fun Q q => ⟨_, _, rfl, q1 _ (q2 _ q)⟩, E2, w2.trans w1⟩
  · cases e
def tTp (n : Nat) (u : List D → En → Option (En)) : Tgt := fun d ρ => match d with
  | .tup ds => if ds.length = n then u ds ρ else none
  | _ => none
theorem g_tp {K : PySem.W.Frag} {cl : String → Option Addr} {n : Nat} {gs : TGs} {u : List D → En → Option (En)} {vs : List Nat} (k : TgsOk K cl gs u vs) : TgOk K cl (gTup K n gs) (tTp n u) vs := by
  intro F T G H σ ρ v d ρ' E R e
  unfold tTp at e
  split at e
  · split at e
    · rename_i hn
      cases R with | tup h l r =>
      obtain ⟨σ', q, E', w⟩ := k _ _ _ _ _ _ _ _ _ E r e
      exact ⟨σ', fun Q z => ⟨_, _, rfl, sameT E.gh h, r.length.trans hn, q _ z⟩, E', w⟩
    · cases e
  · cases e

/-! ### comprehensions -/
def wipeE (ρ : En) : List Nat → En
  | [] => ρ
  | v :: vs => (wipeE ρ vs).set v .emp
def restE (ρ0 ρ : En) : List Nat → En
  | [] => ρ
  | v :: vs => (restE ρ0 ρ vs).set v (ρ0.sl.getD v .emp)
def plainE (ρ : En) (vs : List Nat) : Bool := vs.all fun v => match ρ.sl[v]? with
  | some .emp => true
  | some (.val _) => true
  | _ => false
theorem wipeE_len (ρ : En) : ∀ vs, (wipeE ρ vs).sl.length = ρ.sl.length
  | [] => rfl
  | v :: vs => by unfold wipeE; rw [List.length_set, wipeE_len ρ vs]
theorem restE_len (ρ0 ρ : En) : ∀ vs, (restE ρ0 ρ vs).sl.length = ρ.sl.length
  | [] => rfl
  | v :: vs => by unfold restE; rw [List.length_set, restE_len ρ0 ρ vs]
theorem wipeE_st (ρ : En) : ∀ vs, (wipeE ρ vs).st = ρ.st
  | [] => rfl
  | _ :: vs => wipeE_st ρ vs
theorem restE_st (ρ0 ρ : En) : ∀ vs, (restE ρ0 ρ vs).st = ρ.st
  | [] => rfl
  | _ :: vs => restE_st ρ0 ρ vs
theorem wipeE_at {ρ : En} {i : Nat} {x : Sl} : ∀ {vs : List Nat}, (wipeE ρ vs).sl[i]? = some x → x = .emp ∨ (ρ.sl[i]? = some x ∧ i ∉ vs)
  | [], h => .inr ⟨h, by simp⟩
  | v :: vs, h => by
    unfold wipeE at h
    by_cases hi : v = i
    · subst hi
      by_cases hv : v < (wipeE ρ vs).sl.length
      · rw [List.getElem?_set_self hv] at h; cases h; exact .inl rfl
      · rw [List.getElem?_eq_none (by simpa using hv)] at h; cases h
    · rw [List.getElem?_set_ne hi] at h
      rcases wipeE_at h with z | ⟨z1, z2⟩
      · exact .inl z
      · exact .inr ⟨z1, by simp only [List.mem_cons, not_or]; exact ⟨fun e => hi e.symm, z2⟩⟩
theorem wipe_at {σ : L2.St} {i : Nat} : ∀ {vs : List Nat}, i ∉ vs → (wipe σ vs)[i]? = σ[i]?
  | [], _ => rfl
  | v :: vs, h => by
    simp only [List.mem_cons, not_or] at h
    unfold wipe
    rw [List.getElem?_set_ne (fun e => h.1 e.symm), wipe_at h.2]
theorem EOk.wipe {K : PySem.W.Frag} {cl : String → Option Addr} {F : Fm} {T : Th} {G : Kn} {H : Hp} {σ : L2.St} {ρ : En} (E : EOk K cl F T G H σ ρ) (vs : List Nat) : EOk K cl F T G H (L2.wipe σ vs) (wipeE ρ vs) :=
  E.forget (wipeE_len ρ vs) (wipeE_st ρ vs) (wipe_length σ vs) fun i x h => by
    rcases wipeE_at h with z | ⟨z1, z2⟩
    · exact .inl z
    · exact .inr ⟨z1, wipe_at z2⟩
theorem restE_at {ρ0 ρ : En} {i : Nat} {x : Sl} : ∀ {vs : List Nat}, (restE ρ0 ρ vs).sl[i]? = some x → (i ∈ vs ∧ x = ρ0.sl.getD i .emp) ∨ (ρ.sl[i]? = some x ∧ i ∉ vs)
  | [], h => .inr ⟨h, by simp⟩
  | v :: vs, h => by
    unfold restE at h
    by_cases hi : v = i
    · subst hi
      by_cases hv : v < (restE ρ0 ρ vs).sl.length
      · rw [List.getElem?_set_self hv] at h; cases h; exact .inl ⟨by simp, rfl⟩
      · rw [List.getElem?_eq_none (by simpa using hv)] at h; cases h
    · rw [List.getElem?_set_ne hi] at h
      rcases restE_at h with ⟨z1, z2⟩ | ⟨z1, z2⟩
      · exact .inl ⟨by simp [z1], z2⟩
      · exact .inr ⟨z1, by simp only [List.mem_cons, not_or]; exact ⟨fun e => hi e.symm, z2⟩⟩
/-- the places as they stood ahead of the block -/
theorem EOk.rest {K : PySem.W.Frag} {cl : String → Option Addr} {F : Fm} {T T0 : Th} {G G0 : Kn} {H H0 : Hp} {σ : L2.St} {ρ ρ0 : En} {vs : List Nat} (E : EOk K cl F T G H (L2.wipe σ vs) ρ) (E0 : EOk K cl F T0 G0 H0 σ ρ0) (g : Le G0 G) (p : plainE ρ0 vs = true) : EOk K cl F T G H σ (restE ρ0 ρ vs) := by
  have hp : ∀ i ∈ vs, ρ0.sl.getD i .emp = .emp ∨ ∃ d, ρ0.sl[i]? = some (.val d) ∧ ρ0.sl.getD i .emp = .val d := fun i hi => by
    have := List.all_eq_true.mp p i hi
    rw [List.getD_eq_getElem?_getD]
    cases q : ρ0.sl[i]? with
    | none => exact .inl rfl
    | some x =>
      rw [q] at this
      cases x with
      | emp => exact .inl rfl
      | val d => exact .inr ⟨d, rfl, rfl⟩
      | own w d => cases this
      | lck w d => cases this
  have ob : ∀ {i : Nat} {x : Sl}, (restE ρ0 ρ vs).sl[i]? = some x → x.obj ≠ none → ρ.sl[i]? = some x ∧ i ∉ vs := fun {i x} h n => by
    rcases restE_at h with ⟨z1, z2⟩ | z
    · rcases hp i z1 with k | ⟨d, _, k⟩
      · rw [z2, k] at n; exact absurd rfl n
      · rw [z2, k] at n; exact absurd rfl n
    · exact z
  have hs : ∀ {i : Nat}, i ∉ vs → (L2.wipe σ vs)[i]? = σ[i]? := fun h => wipe_at h
  refine ⟨?_, fun i d h => ?_, fun i w d h => ?_, fun i w d h => ?_, fun i j a x y e1 e2 e3 e4 e5 e6 => ?_, E.g0, E.gt, E.gh, E.th, E.wh, by rw [restE_st]; exact E.cs⟩
  · rw [restE_len, ← E.len, wipe_length]
  · rcases restE_at h with ⟨z1, z2⟩ | ⟨z1, z2⟩
    · rcases hp i z1 with k | ⟨d', k1, k⟩
      · rw [k] at z2; cases z2
      · rw [k] at z2; cases z2
        obtain ⟨v, f1, f2⟩ := E0.val i d k1
        exact ⟨v, f1, f2.mono g⟩
    · rw [← hs z2]; exact E.val i d z1
  · obtain ⟨z1, z2⟩ := ob h (by simp [Sl.obj])
    rw [← hs z2]; exact E.own i w d z1
  · obtain ⟨z1, z2⟩ := ob h (by simp [Sl.obj])
    rw [← hs z2]; exact E.lck i w d z1
  · obtain ⟨z1, z2⟩ := ob e1 e3
    obtain ⟨z3, z4⟩ := ob e2 e4
    rw [← hs z2] at e5
    rw [← hs z4] at e6
    exact E.sep i j a x y z1 z3 e3 e4 e5 e6
noncomputable def lcLoop (ck : En → Prop) [∀ ρ, Decidable (ck ρ)] (t : Tgt) (tt : Tx) (te : Ex) (vs : List Nat) : List D → List D → En → Option (List D × En)
  | [], acc, ρ => if ck ρ then some (acc, ρ) else none
  | d :: ds, acc, ρ => if ck ρ then (t d (wipeE ρ vs)).bind fun ρ1 => (tt ρ1).bind fun p =>
    if p.1 = true then (te p.2).bind fun q => (esc q.2 q.1).bind fun s => lcLoop ck t tt te vs ds (acc ++ [s.1]) s.2
    else lcLoop ck t tt te vs ds acc p.2
    else none
end DL

/-! E4: comprehensions, isinstance, list(range), calls of own defs -/
namespace DL
open PySem L2

section
variable {K : PySem.W.Frag} {cl : String → Option Addr} {F : Fm} {T : Th} {G : Kn} {H : Hp} {σ : L2.St} {ρ : En}
/-! ### an object that is being made -/
open Classical in
noncomputable def Th.add (T : Th) (a : Addr) (o : HO) : Th := ⟨upd T.h a o, fun j => if T.l j = some a then none else T.l j⟩
theorem add_l {T : Th} {a b : Addr} {o : HO} {j : Nat} (h : (T.add a o).l j = some b) : T.l j = some b ∧ b ≠ a := by
  have h' : (if T.l j = some a then none else T.l j) = some b := h
  split at h'
  · cases h'
  · rename_i n
    exact ⟨h', fun z => n (by rw [h', z])⟩
theorem l_add {T : Th} {a b : Addr} {o : HO} {j : Nat} (h : T.l j = some b) (n : b ≠ a) : (T.add a o).l j = some b := by
  show (if T.l j = some a then none else T.l j) = some b
  rw [if_neg (fun z => n (by rw [h] at z; exact Option.some.inj z))]
  exact h
theorem EOk.hold {a : Addr} {o : HO} (E : EOk K cl F T G H σ ρ) (ha : H a = none) : EOk K cl F (T.add a o) G (upd H a o) σ ρ := by
  have gn : G.h a = none := E.gh.free ha
  have tn : T.h a = none := E.th.free ha
  have ne : ∀ {b : Addr} {d : D}, OwnAt K cl G H b d → b ≠ a := fun h z => by
    obtain ⟨u, hu⟩ := h.there
    rw [z, ha] at hu; cases hu
  refine ⟨E.len, E.val, fun i w d h => ?_, fun i w d h => ?_, E.sep, E.g0, fun b hb => ?_, fun b u hb => ?_, fun b u hb => ?_, fun b hb => ?_, (E.cs.off (E.cs.fresh ha)).held fun b hb => ?_⟩
  · obtain ⟨b, h1, h2, h3, h4, h5⟩ := E.own i w d h
    exact ⟨b, h1, h2, by show upd T.h a o b = none; rw [upd_ne (ne h5)]; exact h3, h4, h5.at (Le.refl _) (upd_ne (ne h5))⟩
  · obtain ⟨b, u, h1, h2, ⟨h3, h3'⟩, h4, h5⟩ := E.lck i w d h
    exact ⟨b, u, h1, h2, ⟨l_add h3 (ne h5), by show upd T.h a o b = some u; rw [upd_ne (ne h5)]; exact h3'⟩, h4, h5.at (Le.refl _) (upd_ne (ne h5))⟩
  · by_cases hb' : b = a
    · subst hb'; exact absurd gn hb
    · show F.G0.h b ≠ none ∨ upd T.h a o b = none
      rw [upd_ne hb']; exact E.gt b hb
  · rw [upd_ne (ne_of_none (E.gh _ _ hb) ha)]; exact E.gh b u hb
  · by_cases hb' : b = a
    · subst hb'
      have : upd T.h b o b = some u := hb
      rw [upd_same] at this ⊢; exact this
    · have : upd T.h a o b = some u := hb
      rw [upd_ne hb'] at this ⊢; exact E.th b u this
  · by_cases hb' : b = a
    · subst hb'; rw [upd_same]; simp
    · rw [upd_ne hb']; exact E.wh b hb
  · show upd T.h a o b = none
    rw [upd_ne (fun z => E.cs.fresh ha (by rw [← z]; exact hb))]; exact E.cs.th b hb
theorem EOk.hold_set {a : Addr} {o o' : HO} (E : EOk K cl F (T.add a o) G H σ ρ) (h0 : F.G0.h a = none) : EOk K cl F (T.add a o') G (upd H a o') σ ρ := by
  have ta : (T.add a o).h a = some o := upd_same
  have na : a ∉ G.A := fun z => by have := E.cs.th a z; rw [ta] at this; cases this
  have gn : G.h a = none := by
    cases q : G.h a with
    | none => rfl
    | some u =>
      rcases E.gt a (by rw [q]; simp) with z | z
      · exact absurd h0 z
      · rw [ta] at z; cases z
  refine ⟨E.len, E.val, fun i w d h => ?_, fun i w d h => ?_, E.sep, E.g0, fun b hb => ?_, fun b u hb => ?_, fun b u hb => ?_, fun b hb => ?_, (E.cs.off na).held fun b hb => ?_⟩
  · obtain ⟨b, h1, h2, h3, h4, h5⟩ := E.own i w d h
    have nb : b ≠ a := fun z => by subst z; rw [ta] at h3; cases h3
    exact ⟨b, h1, h2, by have : upd T.h a o b = none := h3; rw [upd_ne nb] at this; show upd T.h a o' b = none; rw [upd_ne nb]; exact this, h4, h5.at (Le.refl _) (upd_ne nb)⟩
  · obtain ⟨b, u, h1, h2, ⟨h3, h3'⟩, h4, h5⟩ := E.lck i w d h
    obtain ⟨h3, nb⟩ := add_l h3
    exact ⟨b, u, h1, h2, ⟨l_add h3 nb, by have : upd T.h a o b = some u := h3'; rw [upd_ne nb] at this; show upd T.h a o' b = some u; rw [upd_ne nb]; exact this⟩, h4, h5.at (Le.refl _) (upd_ne nb)⟩
  · by_cases hb' : b = a
    · subst hb'; exact absurd gn hb
    · have := E.gt b hb
      have e : (T.add a o).h b = T.h b := upd_ne hb'
      have e' : (T.add a o').h b = T.h b := upd_ne hb'
      rw [e'] ; rw [e] at this; exact this
  · have nb : b ≠ a := fun z => by subst z; rw [gn] at hb; cases hb
    rw [upd_ne nb]; exact E.gh b u hb
  · by_cases hb' : b = a
    · subst hb'
      have : upd T.h b o' b = some u := hb
      rw [upd_same] at this ⊢; exact this
    · have : upd T.h a o' b = some u := hb
      rw [upd_ne hb'] at this ⊢
      exact E.th b u (by show upd T.h a o b = some u; rw [upd_ne hb']; exact this)
  · by_cases hb' : b = a
    · subst hb'; rw [upd_same]; simp
    · rw [upd_ne hb']; exact E.wh b hb
  · have nb : b ≠ a := fun z => na (by rw [← z]; exact hb)
    have k : upd T.h a o b = none := E.cs.th b hb
    show upd T.h a o' b = none
    rw [upd_ne nb] at k ⊢; exact k
theorem EOk.release {a : Addr} {o : HO} (E : EOk K cl F (T.add a o) G H σ ρ) (h0 : F.G0.h a = none) (ht : T.h a = none) : EOk K cl F T (G.up a o) H σ ρ ∧ Le G (G.up a o) := by
  have ta : (T.add a o).h a = some o := upd_same
  have na : a ∉ G.A := fun z => by have := E.cs.th a z; rw [ta] at this; cases this
  have gn : G.h a = none := by
    cases q : G.h a with
    | none => rfl
    | some u =>
      rcases E.gt a (by rw [q]; simp) with z | z
      · exact absurd h0 z
      · rw [ta] at z; cases z
  have gg : Le G (G.up a o) := .up gn
  have un : ∀ {b : Addr}, b ≠ a → (G.up a o).h b = G.h b := fun hb => upd_ne hb
  have us : (G.up a o).h a = some o := upd_same
  refine ⟨⟨E.len, fun i d h => ?_, fun i w d h => ?_, fun i w d h => ?_, E.sep, E.g0.trans gg, fun b hb => ?_, fun b u hb => ?_, fun b u hb => ?_, E.wh, (E.cs.know gn na).held fun b hb => ?_⟩, gg⟩
  · obtain ⟨v, h1, h2⟩ := E.val i d h
    exact ⟨v, h1, h2.mono gg⟩
  · obtain ⟨b, h1, h2, h3, h4, h5⟩ := E.own i w d h
    have nb : b ≠ a := fun z => by subst z; rw [ta] at h3; cases h3
    exact ⟨b, h1, ⟨by rw [un nb]; exact h2.1, h2.2⟩, by have : upd T.h a o b = none := h3; rw [upd_ne nb] at this; exact this, h4, h5.at gg rfl⟩
  · obtain ⟨b, u, h1, h2, ⟨h3, h3'⟩, h4, h5⟩ := E.lck i w d h
    obtain ⟨h3, nb⟩ := add_l h3
    exact ⟨b, u, h1, ⟨by rw [un nb]; exact h2.1, h2.2⟩, ⟨h3, by have : upd T.h a o b = some u := h3'; rw [upd_ne nb] at this; exact this⟩, h4, h5.at gg rfl⟩
  · by_cases hb' : b = a
    · subst hb'; exact .inr ht
    · rw [un hb'] at hb
      have := E.gt b hb
      have e : (T.add a o).h b = T.h b := upd_ne hb'
      rw [e] at this; exact this
  · by_cases hb' : b = a
    · subst hb'
      rw [us] at hb; cases hb
      exact E.th _ _ ta
    · rw [un hb'] at hb; exact E.gh b u hb
  · have nb : b ≠ a := fun z => by subst z; rw [ht] at hb; cases hb
    exact E.th b u (by show upd T.h a o b = some u; rw [upd_ne nb]; exact hb)
  · have nb : b ≠ a := fun z => na (by rw [← z]; exact hb)
    have k : upd T.h a o b = none := E.cs.th b hb
    rw [upd_ne nb] at k; exact k
theorem wipe_wipe (σ : L2.St) : ∀ vs : List Nat, wipe (wipe σ vs) vs = wipe σ vs := by
  intro vs
  have go : ∀ (vs : List Nat) (i : Nat), (wipe σ vs)[i]? = if i ∈ vs ∧ i < σ.length then some none else σ[i]? := by
    intro vs
    induction vs with
    | nil => intro i; simp [wipe]
    | cons v vs ih =>
      intro i
      unfold wipe
      by_cases hi : v = i
      · subst hi
        by_cases hv : v < σ.length
        · rw [List.getElem?_set_self (by rw [wipe_length]; exact hv)]; simp [hv]
        · rw [List.getElem?_eq_none (by rw [List.length_set, wipe_length]; omega)]
          simp [hv]
      · rw [List.getElem?_set_ne hi, ih]
        have hi' : i ≠ v := fun z => hi z.symm
        simp [hi']
  have go2 : ∀ (τ : L2.St) (vs : List Nat) (i : Nat), (wipe τ vs)[i]? = if i ∈ vs ∧ i < τ.length then some none else τ[i]? := by
    intro τ vs
    induction vs with
    | nil => intro i; simp [wipe]
    | cons v vs ih =>
      intro i
      unfold wipe
      by_cases hi : v = i
      · subst hi
        by_cases hv : v < τ.length
        · rw [List.getElem?_set_self (by rw [wipe_length]; exact hv)]; simp [hv]
        · rw [List.getElem?_eq_none (by rw [List.length_set, wipe_length]; omega)]
          simp [hv]
      · rw [List.getElem?_set_ne hi, ih]
        have hi' : i ≠ v := fun z => hi z.symm
        simp [hi']
  refine List.ext_getElem? fun i => ?_
  rw [go2, go, wipe_length]
  split
  · rename_i c; rfl
  · rfl
end

section
variable {X : Cx} {cl : String → Option Addr}
noncomputable def eLc (src : Src) (t : Tgt) (tt : Tx) (te : Ex) (vs : List Nat) : Ex := fun ρ => (src ρ).bind fun p =>
  if p.1.length ≤ sizeLine ∧ plainE p.2.2 vs = true then (lcLoop (ckOf p.2.1 p.1) t tt te vs p.1 [] p.2.2).bind fun q => (unlk p.2.1 (restE p.2.2 (wipeE q.2 vs) vs)).map fun ρ3 => (.val (.list q.1), ρ3) else none
theorem ckOf_st {lk : Option Lk} {ds : List D} {ρ ρ' : En} (e : ρ'.st = ρ.st) (c : ckOf lk ds ρ) : ckOf lk ds ρ' := by
  rcases lk with _ | i | n
  · trivial
  · trivial
  · show ρ'.st[n]? = _; rw [e]; exact c
theorem lc_run {K : PySem.W.Frag} {σ : L2.St} {H : Hp} {Q : VK} {src : Src} {t : Tgt} {tt : Tx} {te : Ex} {vs : List Nat} {g : TG} (tok : TgOk K cl g t vs) (h : tD K cl (eLc src t tt te vs) σ H Q) :
    tLc (tDI K cl src) g (tDT K cl tt) (tD K cl te) vs σ H Q := by
  obtain ⟨F, T, G, ρ, r, ρ', E, e, q⟩ := h
  simp only [eLc, Option.bind_eq_some_iff] at e
  obtain ⟨⟨ds, lk, ρ1⟩, e1, e2⟩ := e
  split at e2
  · rename_i c
    obtain ⟨hz, hp⟩ := c
    replace hz : ds.length ≤ sizeLine := hz
    simp only [Option.bind_eq_some_iff, Option.map_eq_some_iff, Prod.mk.injEq] at e2
    obtain ⟨⟨accF, ρ2⟩, e2, ρ3, e3, rfl, rfl⟩ := e2
    refine ⟨F, T, G, ρ, ds, lk, ρ1, E, e1, fun J T' G1 H1 g1 lkk E1 ck1 it => ?_⟩
    intro Dd hD
    have h0 : F.G0.h Dd = none := E1.g0.s.free (E1.gh.free hD)
    have ht : T'.h Dd = none := E1.th.free hD
    refine ⟨fun i m H => m = ds.length - i ∧ i ≤ ds.length ∧ ∃ G ρ acc accV, EOk K cl F (T'.add Dd (.lst accV)) G H (wipe σ vs) (wipeE ρ vs) ∧ Le G1 G ∧ Reps K cl G accV acc ∧ accV.length ≤ i ∧ lcLoop (ckOf lk ds) t tt te vs (ds.drop i) acc ρ = some (accF, ρ2),
      ⟨ds.length, by simp, Nat.zero_le _, G1, ρ1, [], [], (E1.wipe vs).hold hD, Le.refl _, .nil, Nat.le_refl _, by simpa using e2⟩, ?_⟩
    rintro i m H ⟨rfl, hi, G2, ρa, acc, accV, Ea, ga, Ra, la, run⟩
    have same : Same T'.h (T'.add Dd (.lst accV)).h := upd_same' ht
    by_cases hlt : i < ds.length
    · rw [List.drop_eq_getElem_cons hlt] at run
      unfold lcLoop at run
      split at run
      case isFalse => cases run
      rename_i hck
      have hck' : ckOf lk ds (wipeE ρa vs) := ckOf_st (wipeE_st ρa vs) hck
      refine .inr ⟨it.go _ _ _ _ _ i Ea ga same hck' hlt, fun H' => ∃ m', m' < ds.length - i ∧ m' = ds.length - (i + 1) ∧ i + 1 ≤ ds.length ∧ ∃ G ρ acc accV, EOk K cl F (T'.add Dd (.lst accV)) G H' (wipe σ vs) (wipeE ρ vs) ∧ Le G1 G ∧ Reps K cl G accV acc ∧ accV.length ≤ i + 1 ∧ lcLoop (ckOf lk ds) t tt te vs (ds.drop (i + 1)) acc ρ = some (accF, ρ2),
        fun H' ⟨m', k1, k2, k3, k4⟩ => ⟨m', k1, k2, k3, k4⟩, fun x H2 y => ?_⟩
      have hd : ds[i]? = some ds[i] := by simp [hlt]
      obtain ⟨G3, gr, R3⟩ := it.yld _ _ _ _ _ i _ x H2 Ea ga same hck' hd y
      have E3 := Ea.grow gr
      simp only [Option.bind_eq_some_iff] at run
      obtain ⟨ρb, k1, ⟨b, ρc⟩, k2, k3⟩ := run
      obtain ⟨σ2, q1, E4, w⟩ := tok _ _ _ _ _ _ _ _ _ E3 R3 k1
      refine q1 _ ⟨by rw [w, wipe_wipe], ?_⟩
      refine ⟨F, _, G3, ρb, b, ρc, E4, k2, fun G5 H5 g5 E5 => ?_⟩
      have w' : wipe σ2 vs = wipe σ vs := by rw [w, wipe_wipe]
      cases b with
      | true =>
        refine iteT ?_
        simp only [if_true, Option.bind_eq_some_iff] at k3
        obtain ⟨⟨rr, ρd⟩, k3, ⟨dd, ρe⟩, k4, k5⟩ := k3
        refine ⟨F, _, G5, ρc, rr, ρd, E5, k3, fun yv G6 H6 g6 E6 R6 => ?_⟩
        obtain ⟨G7, g7, E7, R7⟩ := E6.esc R6 k4
        have hacc : H6 Dd = some (.lst accV) := E6.th _ _ upd_same
        refine ⟨accV, hacc, by omega, _, by omega, rfl, hlt, G7, ρe, acc ++ [dd], accV ++ [yv], ?_, ?_, ?_, ?_, k5⟩
        · have E8 := (E7.hold_set (o' := .lst (accV ++ [yv])) h0).wipe vs
          rw [w'] at E8
          exact E8
        · exact ga.trans (gr.gg.trans (g5.trans (g6.trans g7)))
        · exact ((Ra.mono (gr.gg.trans (g5.trans (g6.trans g7)))).append (.cons R7 .nil))
        · rw [List.length_append]; simpa using la
      | false =>
        refine iteF ?_
        simp only [Bool.false_eq_true, if_false] at k3
        refine ⟨_, by omega, rfl, hlt, G5, ρc, acc, accV, ?_, ?_, ?_, ?_, k3⟩
        · have E8 := E5.wipe vs
          rw [w'] at E8
          exact E8
        · exact ga.trans (gr.gg.trans g5)
        · exact Ra.mono (gr.gg.trans g5)
        · omega
    · have hie : i = ds.length := by omega
      subst hie
      rw [List.drop_length] at run
      unfold lcLoop at run
      split at run
      case isFalse => cases run
      rename_i hck
      cases run
      refine .inl ⟨it.stop _ _ _ _ _ _ Ea ga same (ckOf_st (wipeE_st _ vs) hck) (Nat.le_refl _), ?_⟩
      obtain ⟨Eb, gb⟩ := Ea.release h0 ht
      have Ec := Eb.rest E1 (ga.trans gb) hp
      have Ed := Ec.unlk lkk e3
      exact q _ _ H (g1.trans (ga.trans gb)) Ed (Rep.list upd_same (by omega) (Ra.mono gb))
  · cases e2
theorem d_lc {elt tg iter : Expr} {ifs : List Expr} {scope : Scope} {own : List (Str × Nat)} {pos : Pos} {src : Src} {g : TG} {t : Tgt} {tt : Tx} {te : Ex} (hc : X.calm = true) (hN : X.N.Nodup) (hi : PDI X cl tg iter src) (ok : BlkOk X.N X.env.scope scope own)
    (tok : TgOk X.K cl g t (own.map (·.2)))
    (hg : ∀ (s : Shared) (H : Hp) (C : Addr) (c : List (Str × Addr)) (fp : List Addr), PG (X.blk s H scope (compEnvC scope c C X.env) fp) tg g)
    (ht : ∀ (s : Shared) (H : Hp) (C : Addr) (c : List (Str × Addr)) (fp : List Addr), PTs (X.blk s H scope (compEnvC scope c C X.env) fp) ifs (tDT X.K cl tt))
    (he : ∀ (s : Shared) (H : Hp) (C : Addr) (c : List (Str × Addr)) (fp : List Addr), PE (X.blk s H scope (compEnvC scope c C X.env) fp) elt (tD X.K cl te)) (hs : ∀ x, foldedSetIterable iter X.env x = pure x := by intro _; rfl) :
    PD X cl (.ListComp elt [⟨tg, iter, ifs, 0⟩] scope pos) (eLc src t tt te (own.map (·.2))) :=
  pe_imp (pe_lc hc hN hi ok hg ht he hs) fun σ H Q h => lc_run tok h
def bYes : Tx := fun ρ => some (true, ρ)
theorem ts_nil : PTs X [] (tDT X.K cl bYes) := ⟨fun pins s σ H Q I h => by
  obtain ⟨F, T, G, ρ, b, ρ', E, e, q⟩ := h
  cases e
  exact pts_nil.run pins s σ H Q I (q G H (Le.refl _) E)⟩
theorem ts_one {c : Expr} {m : Tx} (h : PDT X cl c m) : PTs X [c] (tDT X.K cl m) := pts_one h

/-! ### isinstance of a built-in type -/
inductive T5 where
  | int | bool | str | tuple | list
  deriving DecidableEq
def T5.name : T5 → String
  | .int => "int" | .bool => "bool" | .str => "str" | .tuple => "tuple" | .list => "list"
def isT (T : T5) : D → Option Bool
  | .non => some false
  | .bl _ => some (decide (T = .bool ∨ T = .int))
  | .int _ => some (decide (T = .int))
  | .str _ => some (decide (T = .str))
  | .list _ => some (decide (T = .list))
  | .tup _ => some (decide (T = .tuple))
  | _ => none
theorem isT_ok {K : PySem.W.Frag} {G : Kn} {H : Hp} {v : V} {d : D} {T : T5} {b : Bool} (gh : Same G.h H) (h : Top K cl G H v d) (e : isT T d = some b) : ∃ n, TyX K H v (.type n) ∧ kitB n T.name = some b := by
  cases h with
  | non => cases e; exact ⟨"NoneType", .base .non, by cases T <;> decide +kernel⟩
  | bl x => cases e; exact ⟨"bool", .base (.bl x), by cases T <;> decide +kernel⟩
  | int i => cases e; exact ⟨"int", .base (.int i), by cases T <;> decide +kernel⟩
  | str x _ => cases e; exact ⟨"str", .base (.str x), by cases T <;> decide +kernel⟩
  | list h _ _ => cases e; exact ⟨"list", .base (.lst h), by cases T <;> decide +kernel⟩
  | tup h _ _ =>
    cases e
    refine ⟨"tuple", ?_, by cases T <;> decide +kernel⟩
    rcases h with (h | ⟨o, h⟩) | ⟨o, its, n, h, hc, _⟩
    · exact .base (.tup (gh _ _ h))
    · exact .fTuple (gh _ _ h)
    · exact .kTuple h hc
  | scr _ _ => cases e
  | dict _ _ _ => cases e
  | inst _ _ _ => cases e
  | cel _ => cases e
def eIsi (T : T5) (m : Ex) : Ex := fun ρ => (m ρ).bind fun p => (peek p.2 p.1).bind fun d => (isT T d).map fun b => (.val (.bl b), p.2)
variable {x ty : Str} {p p2 pos : Pos} {e : Expr} {me : Ex}
theorem d_isi (T : T5) (hm : X.mg "isinstance" = none) (hmt : X.mg T.name = none) (ha : PD X cl e me) (hg : Gl X "isinstance" := by rfl) (hgt : Gl X T.name := by rfl) (hvt : bootBuiltins T.name = some (.type T.name) := by decide +kernel)
    (hn : (T.name : Str) ≠ "__name__" := by decide) (hdb : ((T.name : Str) == ("__debug__" : Str)) = false := by decide)
    (h1 : starEach [e, Expr.Name T.name p2] X.env = (false, eval e X.env) :: starEach [Expr.Name T.name p2] X.env := by rfl) (h2 : starEach [Expr.Name T.name p2] X.env = (false, eval (Expr.Name T.name p2) X.env) :: starEach [] X.env := by rfl)
    (hpl : (backTo pos (starEach [Expr.Name T.name p2] X.env)).any (·.1) = false := by rfl) : PD X cl (.Call (.Name "isinstance" p) [e, .Name T.name p2] [] pos) (eIsi T me) := by
  have ht : PE X (.Name T.name p2) (tC (.ty T.name)) := pe_bltn hgt hmt hvt rfl hn hdb
  refine pe_imp (pe_callB call_isi hg hm PyProof.Rows.boot_isinstance (pa_cons ha (pa_cons ht pa_nil h2) h1) (by decide) (by decide) h1 hpl) fun σ H Q h => ?_
  obtain ⟨F, T', G, ρ, r, ρ', E, e1, q⟩ := h
  simp only [eIsi, Option.bind_eq_some_iff, Option.map_eq_some_iff, Prod.mk.injEq] at e1
  obtain ⟨⟨r1, ρ1⟩, e1, d, e2, b, e3, rfl, rfl⟩ := e1
  refine ⟨F, T', G, ρ, r1, ρ1, E, e1, fun v G1 H1 g1 E1 R1 => ?_⟩
  obtain ⟨n, t1, t2⟩ := isT_ok E1.gh (E1.top R1 e2) e3
  exact ⟨v, .ty T.name, .type n, .type T.name, b, rfl, .ty _, t1, kit_ty t2, q _ G1 H1 g1 E1 (Rep.bl b)⟩

/-! ### list(range(..)) -/
def RgOkB (a b : Int) : Bool := ok62 a && ok62 b && decide ((b - a).toNat ≤ 2 ^ 24)
def eLstR1 (m : Ex) : Ex := fun ρ => (m ρ).bind fun p => match p.1 with
  | .val (.int n) => if RgOkB 0 n = true then some (.val (.list (rgD 0 n)), p.2) else none
  | _ => none
theorem rg_reps {K : PySem.W.Frag} {G : Kn} (a b : Int) : Reps K cl G (rgV a b) (rgD a b) := by
  unfold rgV rgD
  generalize List.range (b - a).toNat = l
  induction l with
  | nil => exact .nil
  | cons i l ih => exact .cons (.int _) ih
theorem RgOkB_ok {a b : Int} (h : RgOkB a b = true) : RgOk a b := by
  simp only [RgOkB, Bool.and_eq_true, decide_eq_true_eq] at h
  obtain ⟨⟨h1, h2⟩, h3⟩ := h
  have k1 := ok62_iff h1
  have k2 := ok62_iff h2
  exact ⟨k1.1, k1.2, k2.1, k2.2, h3⟩
theorem d_lstR1 {p3 pos3 : Pos} (hc : X.calm = true) (hm : X.mg "list" = none) (hm2 : X.mg "range" = none) (ha : PD X cl e me) (hg : Gl X "list" := by rfl) (hg2 : Gl X "range" := by rfl)
    (na : starEach [e] X.env = (false, eval e X.env) :: starEach [] X.env := by rfl) (nb : starEach [Expr.Call (.Name "range" p3) [e] [] pos3] X.env = (false, eval (Expr.Call (.Name "range" p3) [e] [] pos3) X.env) :: starEach [] X.env := by rfl) :
    PD X cl (.Call (.Name "list" p) [.Call (.Name "range" p3) [e] [] pos3] [] pos) (eLstR1 me) := by
  refine pe_imp (pe_listRg hc hg hm (prg_1 hg2 hm2 ha na) nb) fun σ H Q h => ?_
  obtain ⟨F, T', G, ρ, r, ρ', E, e1, q⟩ := h
  simp only [eLstR1, Option.bind_eq_some_iff] at e1
  obtain ⟨⟨r1, ρ1⟩, e1, e2⟩ := e1
  refine ⟨F, T', G, ρ, r1, ρ1, E, e1, fun v G1 H1 g1 E1 R1 => ?_⟩
  split at e2
  · rename_i n hr
    have hr' : r1 = .val (.int n) := hr
    subst hr'
    split at e2
    · rename_i c
      cases e2
      cases R1
      refine ⟨n, rfl, RgOkB_ok c, fun l hl => ?_⟩
      have hz : (rgV 0 n).length ≤ sizeLine := by
        have := (RgOkB_ok c).2.2.2.2
        rw [rgV_length, sizeLine_eq]; omega
      have gr := Grow.new_at (o := .lst (rgV 0 n)) E1.gh hl
      exact q _ _ _ (g1.trans gr.gg) (E1.grow gr) (Rep.list upd_same hz (rg_reps 0 n))
    · cases e2
  · cases e2
end

/-! ### defs and their calls -/
/-- nothing known of cells -/
abbrev Kn.of (g : Hp) : Kn := ⟨g, []⟩
mutual
/-- a value in which no cell's number stands -/
def D.pure : D → Bool
  | .cel _ => false
  | .list ds => pureL ds
  | .tup ds => pureL ds
  | .dict ks => pureK ks
  | .inst _ fs => pureF fs
  | _ => true
def pureL : List D → Bool
  | [] => true
  | d :: ds => d.pure && pureL ds
def pureK : List (Key × D) → Bool
  | [] => true
  | (_, d) :: ds => d.pure && pureK ds
def pureF : List (Str × D) → Bool
  | [] => true
  | (_, d) :: ds => d.pure && pureF ds
end
section
variable {K : PySem.W.Frag} {cl : String → Option Addr} {G : Kn}
mutual
theorem Rep.of : ∀ {v : V} {d : D}, Rep K cl G v d → d.pure = true → Rep K cl (.of G.h) v d
  | _, _, .non, _ => .non
  | _, _, .bl b, _ => .bl b
  | _, _, .int i, _ => .int i
  | _, _, .str x h, _ => .str x h
  | _, _, .scr h l, _ => .scr h l
  | _, _, .list h l r, p => .list h l (Reps.of r (by simpa [D.pure] using p))
  | _, _, .tup h l r, p => .tup h l (Reps.of r (by simpa [D.pure] using p))
  | _, _, .dict h l r, p => .dict h l (RepK.of r (by simpa [D.pure] using p))
  | _, _, .inst h c r, p => .inst h c (RepF.of r (by simpa [D.pure] using p))
  | _, _, .cel _, p => by simp [D.pure] at p
theorem Reps.of : ∀ {vs : List V} {ds : List D}, Reps K cl G vs ds → pureL ds = true → Reps K cl (.of G.h) vs ds
  | _, _, .nil, _ => .nil
  | _, _, .cons h r, p => by
    simp only [pureL, Bool.and_eq_true] at p
    exact .cons (Rep.of h p.1) (Reps.of r p.2)
theorem RepK.of : ∀ {vs : List (Key × V)} {ds : List (Key × D)}, RepK K cl G vs ds → pureK ds = true → RepK K cl (.of G.h) vs ds
  | _, _, .nil, _ => .nil
  | _, _, .cons h r, p => by
    simp only [pureK, Bool.and_eq_true] at p
    exact .cons (Rep.of h p.1) (RepK.of r p.2)
theorem RepF.of : ∀ {vs : List (Str × V)} {ds : List (Str × D)}, RepF K cl G vs ds → pureF ds = true → RepF K cl (.of G.h) vs ds
  | _, _, .nil, _ => .nil
  | _, _, .cons h r, p => by
    simp only [pureF, Bool.and_eq_true] at p
    exact .cons (Rep.of h p.1) (RepF.of r p.2)
end
end
/-- no cells, or no cell's number in these -/
def pureOk (st : List (Option D)) (ds : List D) : Bool := st.isEmpty || pureL ds
theorem pureL_app : ∀ (xs ys : List D), pureL (xs ++ ys) = (pureL xs && pureL ys)
  | [], _ => by simp [pureL]
  | x :: xs, ys => by simp [pureL, pureL_app xs ys, Bool.and_assoc]
/-- what a def does: it hands back a value, or raises (its class, its fields) -/
inductive Rs where
  | ok (d : D) | er (c : String) (fs : List (Str × D))
  deriving Inhabited
abbrev Fn := List D → Option (Rs × List D)
def spD (K : PySem.W.Frag) (cl : String → Option Addr) (n nio : Nat) (fn : Fn) : Sp := fun vs H Q _ => vs.length = n ∧ ∃ (G : Hp) (as : List Addr) (ios : List D) (xs : List V) (ds : List D) (d : D) (outs : List D),
  vs = as.map V.ref ++ xs ∧ as.length = nio ∧ as.Nodup ∧ Paired (OwnAt K cl (.of G) H) as ios ∧ (∀ a ∈ as, G a = none) ∧ Reps K cl (.of G) xs ds ∧ Same G H ∧ fn (ios ++ ds) = some (.ok d, outs) ∧
  ∀ v G' H', Same G G' → Same G' H' → (∀ b, G' b ≠ none → G b ≠ none ∨ H b = none) → (∀ b o, b ∉ as → H b = some o → H' b = some o) → Paired (OwnAt K cl (.of G') H') as outs → Rep K cl (.of G') v d → Q v H'
/-- .. it hands back an object of its own making -/
def spO (K : PySem.W.Frag) (cl : String → Option Addr) (n nio : Nat) (fn : Fn) : Sp := fun vs H Q _ => vs.length = n ∧ ∃ (G : Hp) (as : List Addr) (ios : List D) (xs : List V) (ds : List D) (d : D) (outs : List D),
  vs = as.map V.ref ++ xs ∧ as.length = nio ∧ as.Nodup ∧ Paired (OwnAt K cl (.of G) H) as ios ∧ (∀ a ∈ as, G a = none) ∧ Reps K cl (.of G) xs ds ∧ Same G H ∧ fn (ios ++ ds) = some (.ok d, outs) ∧
  ∀ p G' H', Same G G' → Same G' H' → (∀ b, G' b ≠ none → G b ≠ none ∨ H b = none) → (∀ b o, b ∉ as → H b = some o → H' b = some o) → Paired (OwnAt K cl (.of G') H') as outs → G' p = none → H p = none → OwnAt K cl (.of G') H' p d → Q (.ref p) H'
theorem paired_at {α β : Type} {R S : α → β → Prop} {as : List α} {bs : List β} (h : Paired R as bs) (k : ∀ a b, a ∈ as → R a b → S a b) : Paired S as bs := by
  induction h with
  | nil => exact .nil
  | cons h1 h2 ih => exact .cons (k _ _ (by simp) h1) (ih fun a b ha => k a b (by simp [ha]))
theorem paired_there {K : PySem.W.Frag} {cl : String → Option Addr} {G : Kn} {H : Hp} {as : List Addr} {ds : List D} (h : Paired (OwnAt K cl G H) as ds) : ∀ a ∈ as, ∃ o, H a = some o := by
  induction h with
  | nil => intro a ha; cases ha
  | cons h1 h2 ih =>
    intro a ha
    rcases List.mem_cons.mp ha with rfl | ha
    · exact h1.there
    · exact ih a ha
theorem spO_val {K : PySem.W.Frag} {cl : String → Option Addr} {n nio : Nat} {fn : Fn} (vs : List V) (H : Hp) (Q : VK) (E : XK) (h : spD K cl n nio fn vs H Q E) : spO K cl n nio fn vs H Q E := by
  obtain ⟨hl, G, as, ios, xs, ds, d, outs, h1, h2, h3, h4, h5, h6, h7, h8, q⟩ := h
  refine ⟨hl, G, as, ios, xs, ds, d, outs, h1, h2, h3, h4, h5, h6, h7, h8, fun p G' H' k1 k2 k3 k4 k5 k6 k7 k8 => ?_⟩
  obtain ⟨o, ho⟩ := k8.there
  have gg : Same G' (upd G' p o) := upd_same' k6
  have gl : Le (.of G') (.of (upd G' p o)) := .of gg rfl
  refine q _ (upd G' p o) H' (k1.trans gg) (fun b u hb => ?_) (fun b hb => ?_) k4 (paired_at k5 fun a b ha hab => hab.at gl rfl) (k8.rep gl ho upd_same)
  · by_cases hb' : b = p
    · subst hb'; rw [upd_same] at hb; cases hb; exact ho
    · rw [upd_ne hb'] at hb; exact k2 b u hb
  · by_cases hb' : b = p
    · subst hb'; exact .inr k7
    · rw [upd_ne hb'] at hb; exact k3 b hb
/-- a def that stands in the module, known by its promise -/
structure Cal (P : Program) (w : World) (K : PySem.W.Frag) (mg : Str → Option Value) (base : Heap) (cx : CXT) (k : Nat) (x : Str) (ps : List Str) (sp : Sp) : Prop where
  ex : ∃ (f : Addr) (fd : FuncData), mg x = some (.ref f) ∧ PySem.W.keepIn K (.ref f) = true ∧ Binds K fd ps [] ∧ FnOk P w K mg base cx k f fd ps sp
/-- the objects lent, as they stand -/
def lent (ρ : En) : List RV → Option (List D)
  | [] => some []
  | .ref i :: rs => match ρ.sl[i]? with
    | some (.own _ d) => (lent ρ rs).map fun ds => d :: ds
    | _ => none
  | .val _ :: _ => none
def places : List RV → List Nat
  | [] => []
  | .ref i :: rs => i :: places rs
  | .val _ :: rs => places rs
/-- what became of them -/
def giveBack (ρ : En) : List RV → List D → Option (En)
  | [], [] => some ρ
  | .ref i :: rs, d :: ds => match ρ.sl[i]? with
    | some (.own w _) => giveBack (ρ.set i (.own w d)) rs ds
    | _ => none
  | _, _ => none
def eCall (nio : Nat) (fn : Fn) (m : Ax) : Ex := fun ρ => (m ρ).bind fun p => (escs p.2 (p.1.drop nio)).bind fun q => if (places (p.1.take nio)).Nodup ∧ (p.1.take nio).length = nio then (lent q.2 (p.1.take nio)).bind fun ios =>
  if pureOk q.2.st (ios ++ q.1) = true then (fn (ios ++ q.1)).bind fun z => match z.1 with
    | .ok d => (giveBack q.2 (p.1.take nio) z.2).map fun ρ' => (.val d, ρ')
    | .er _ _ => none
    else none
  else none
end DL

/-! E5: a call of an own def -/
namespace DL
open PySem L2

section
variable {K : PySem.W.Frag} {cl : String → Option Addr} {F : Fm} {T : Th} {G G' : Kn} {H H' : Hp} {σ : L2.St} {ρ ρ' : En}
inductive Lent (σ : L2.St) (ρ : En) : List RV → List Addr → List D → Prop
  | nil : Lent σ ρ [] [] []
  | cons {i : Nat} {a : Addr} {w : Option Nat} {d : D} {rs : List RV} {as : List Addr} {ds : List D} : ρ.sl[i]? = some (.own w d) → σ[i]? = some (some (.ref a)) → Lent σ ρ rs as ds → Lent σ ρ (.ref i :: rs) (a :: as) (d :: ds)
theorem lent_of (E : EOk K cl F T G H σ ρ) : ∀ {rs : List RV} {vs : List V} {ds : List D}, RvOks K cl G σ vs rs → lent ρ rs = some ds → ∃ as, vs = as.map V.ref ∧ Lent σ ρ rs as ds
  | [], _, _, h, e => by cases h; cases e; exact ⟨[], rfl, .nil⟩
  | .val _ :: _, _, _, _, e => by cases e
  | .ref i :: rs, _, ds, h, e => by
    cases h with | cons h1 h2 =>
    simp only [lent] at e
    split at e
    · rename_i w d q
      simp only [Option.map_eq_some_iff] at e
      obtain ⟨ds', e1, rfl⟩ := e
      obtain ⟨as, e2, l⟩ := lent_of E h2 e1
      obtain ⟨a, k1, _⟩ := E.own i w d q
      have hv : σ[i]? = some (some _) := h1
      rw [k1] at hv; cases hv
      exact ⟨a :: as, by rw [e2]; rfl, .cons q k1 l⟩
    · cases e
theorem Lent.set {i : Nat} {x : Sl} {rs : List RV} {as : List Addr} {ds : List D} (l : Lent σ ρ rs as ds) (h : i ∉ places rs) : Lent σ (ρ.set i x) rs as ds := by
  induction l with
  | nil => exact .nil
  | cons h1 h2 h3 ih =>
    simp only [places, List.mem_cons, not_or] at h
    exact .cons (by rw [List.getElem?_set_ne h.1]; exact h1) h2 (ih h.2)
theorem Lent.mem {rs : List RV} {as : List Addr} {ds : List D} (l : Lent σ ρ rs as ds) : ∀ a ∈ as, ∃ i w d, i ∈ places rs ∧ ρ.sl[i]? = some (.own w d) ∧ σ[i]? = some (some (.ref a)) := by
  induction l with
  | nil => intro a h; cases h
  | cons h1 h2 h3 ih =>
    intro b hb
    rcases List.mem_cons.mp hb with rfl | hb
    · exact ⟨_, _, _, by simp [places], h1, h2⟩
    · obtain ⟨j, w, d, k1, k2⟩ := ih b hb
      exact ⟨j, w, d, by simp [places, k1], k2⟩
theorem Lent.nodup (E : EOk K cl F T G H σ ρ) {rs : List RV} {as : List Addr} {ds : List D} (l : Lent σ ρ rs as ds) (n : (places rs).Nodup) : as.Nodup := by
  induction l with
  | nil => exact .nil
  | cons h1 h2 h3 ih =>
    simp only [places, List.nodup_cons] at n
    refine List.nodup_cons.mpr ⟨fun hm => ?_, ih n.2⟩
    obtain ⟨j, w, d, k1, k2, k3⟩ := h3.mem _ hm
    have := E.sep _ _ _ _ _ h1 k2 (by simp [Sl.obj]) (by simp [Sl.obj]) h2 k3
    subst this
    exact n.1 k1
theorem Lent.owns (E : EOk K cl F T G H σ ρ) {rs : List RV} {as : List Addr} {ds : List D} (l : Lent σ ρ rs as ds) : Paired (OwnAt K cl G H) as ds ∧ (∀ a ∈ as, G.h a = none ∧ a ∉ G.A) ∧ ∀ a ∈ as, T.h a = none := by
  induction l with
  | nil => exact ⟨.nil, by simp, by simp⟩
  | cons h1 h2 h3 ih =>
    obtain ⟨i1, i2, i3⟩ := ih
    obtain ⟨a, k1, k2, k3, _, k4⟩ := E.own _ _ _ h1
    rw [h2] at k1; cases k1
    refine ⟨.cons k4 i1, fun b hb => ?_, fun b hb => ?_⟩
    · rcases List.mem_cons.mp hb with rfl | hb
      · exact k2
      · exact i2 b hb
    · rcases List.mem_cons.mp hb with rfl | hb
      · exact k3
      · exact i3 b hb
theorem giveBack_at {R : Addr → D → Prop} : ∀ {rs : List RV} {as : List Addr} {ds outs : List D} {ρ ρ' : En}, Lent σ ρ rs as ds → Paired R as outs → (places rs).Nodup → giveBack ρ rs outs = some ρ' →
    ρ'.sl.length = ρ.sl.length ∧ ∀ i x, ρ'.sl[i]? = some x → (i ∉ places rs ∧ ρ.sl[i]? = some x) ∨ ∃ w d a out, x = .own w out ∧ ρ.sl[i]? = some (.own w d) ∧ σ[i]? = some (some (.ref a)) ∧ R a out ∧ a ∈ as
  | _, _, _, _, ρ, ρ', .nil, .nil, _, e => by
    simp only [giveBack, Option.some.injEq] at e
    subst e
    exact ⟨rfl, fun i x h => .inl ⟨by simp [places], h⟩⟩
  | _, _, _, _, ρ, ρ', .cons (i := i) (rs := rs) h1 h2 l, .cons r1 r2, n, e => by
    simp only [places, List.nodup_cons] at n
    simp only [giveBack, h1] at e
    obtain ⟨q1, q2⟩ := giveBack_at (l.set n.1) r2 n.2 e
    refine ⟨by rw [q1, List.length_set], fun j x hx => ?_⟩
    have hi : i < ρ.sl.length := (List.getElem?_eq_some_iff.mp h1).1
    rcases q2 j x hx with ⟨k1, k2⟩ | ⟨w, d, a, out, k1, k2, k3, k4, k5⟩
    · by_cases hj : i = j
      · subst hj
        rw [List.getElem?_set_self hi] at k2; cases k2
        exact .inr ⟨_, _, _, _, rfl, h1, h2, r1, by simp⟩
      · rw [List.getElem?_set_ne hj] at k2
        exact .inl ⟨by simp only [places, List.mem_cons, not_or]; exact ⟨fun z => hj z.symm, k1⟩, k2⟩
    · by_cases hj : i = j
      · subst hj
        rw [List.getElem?_set_self hi] at k2; cases k2
        exact .inr ⟨_, _, _, _, k1, h1, k3, k4, by simp [k5]⟩
      · rw [List.getElem?_set_ne hj] at k2
        exact .inr ⟨w, d, a, out, k1, k2, k3, k4, by simp [k5]⟩
/-- behind the call -/
theorem giveBack_st : ∀ {rs : List RV} {as : List Addr} {ds outs : List D} {ρ ρ' : En}, Lent σ ρ rs as ds → giveBack ρ rs outs = some ρ' → ρ'.st = ρ.st
  | [], _, _, outs, ρ, ρ', _, e => by
    cases outs with
    | nil => simp only [giveBack, Option.some.injEq] at e; rw [← e]
    | cons _ _ => simp [giveBack] at e
  | .val _ :: _, _, _, _, _, _, l, _ => by cases l
  | .ref i :: rs, _, _, outs, ρ, ρ', .cons h1 h2 l, e => by
    cases outs with
    | nil => simp [giveBack] at e
    | cons o outs =>
      simp only [giveBack, h1] at e
      exact go rs outs (ρ.set i _) ρ' e
where
  go : ∀ (rs : List RV) (outs : List D) (ρ ρ' : En), giveBack ρ rs outs = some ρ' → ρ'.st = ρ.st
  | [], [], ρ, ρ', e => by simp only [giveBack, Option.some.injEq] at e; rw [← e]
  | [], _ :: _, ρ, ρ', e => by simp [giveBack] at e
  | .val _ :: _, _, ρ, ρ', e => by simp [giveBack] at e
  | .ref i :: rs, [], ρ, ρ', e => by simp [giveBack] at e
  | .ref i :: rs, o :: outs, ρ, ρ', e => by
    simp only [giveBack] at e
    split at e
    · have := go rs outs _ ρ' e
      exact this
    · cases e
theorem EOk.back (E : EOk K cl F T G H σ ρ) {rs : List RV} {as : List Addr} {ds outs : List D} (l : Lent σ ρ rs as ds) (n : (places rs).Nodup) (gg : Le G G') (ga : G'.A = G.A) (gh : Same G'.h H') (new : ∀ b, G'.h b ≠ none → G.h b ≠ none ∨ H b = none)
    (off : ∀ b o, b ∉ as → H b = some o → H' b = some o) (po : Paired (OwnAt K cl G' H') as outs) (e : giveBack ρ rs outs = some ρ') : EOk K cl F T G' H' σ ρ' := by
  obtain ⟨hl, hat⟩ := giveBack_at l po n e
  obtain ⟨ow, gn, tn⟩ := l.owns E
  have non : ∀ {a : Addr} {o : HO}, G.h a = none → H a = some o → G'.h a = none := fun {a o} h2 ho => by
    cases q : G'.h a with
    | none => rfl
    | some u =>
      rcases new a (by rw [q]; simp) with z | z
      · exact absurd h2 z
      · rw [ho] at z; cases z
  have ob : ∀ {i : Nat} {x : Sl}, ρ'.sl[i]? = some x → x.obj ≠ none → ∃ y, ρ.sl[i]? = some y ∧ y.obj ≠ none := fun {i x} h k => by
    rcases hat i x h with ⟨_, z⟩ | ⟨w, d, a, out, z1, z2, _⟩
    · exact ⟨x, z, k⟩
    · exact ⟨_, z2, by simp [Sl.obj]⟩
  -- a place that is not lent stands apart from those
  have apart : ∀ {i : Nat} {b : Addr} {y : Sl}, i ∉ places rs → ρ.sl[i]? = some y → y.obj ≠ none → σ[i]? = some (some (.ref b)) → b ∉ as := fun {i b y} h1 h2 h3 h4 hm => by
    obtain ⟨j, w, d, k1, k2, k3⟩ := l.mem b hm
    have := E.sep _ _ _ _ _ h2 k2 h3 (by simp [Sl.obj]) h4 k3
    subst this
    exact h1 k1
  refine ⟨by rw [E.len, hl], fun i d h => ?_, fun i w d h => ?_, fun i w d h => ?_, fun i j a x y e1 e2 e3 e4 e5 e6 => ?_, E.g0.trans gg, fun b hb => ?_, gh, fun b o hb => ?_, fun b hb => ?_, ?_⟩
  · rcases hat i _ h with ⟨_, z⟩ | ⟨w, d, a, out, z1, _⟩
    · obtain ⟨v, k1, k2⟩ := E.val i d z
      exact ⟨v, k1, k2.mono gg⟩
    · cases z1
  · rcases hat i _ h with ⟨z0, z⟩ | ⟨w', d', a, out, z1, z2, z3, z4, z5⟩
    · obtain ⟨a, k1, k2, k3, k4, k5⟩ := E.own i w d z
      obtain ⟨o, ho⟩ := k5.there
      exact ⟨a, k1, ⟨non k2.1 ho, by rw [ga]; exact k2.2⟩, k3, k4, k5.at gg ((off a o (apart z0 z (by simp [Sl.obj]) k1) ho).trans ho.symm)⟩
    · cases z1
      obtain ⟨b, k1, k2, k3, k4, k5⟩ := E.own i w d' z2
      rw [z3] at k1; cases k1
      obtain ⟨o, ho⟩ := k5.there
      exact ⟨_, z3, ⟨non k2.1 ho, by rw [ga]; exact k2.2⟩, k3, k4, z4⟩
  · rcases hat i _ h with ⟨z0, z⟩ | ⟨w', d', a, out, z1, _⟩
    · obtain ⟨a, o', k1, k2, k3, k4, k5⟩ := E.lck i w d z
      obtain ⟨o, ho⟩ := k5.there
      exact ⟨a, o', k1, ⟨non k2.1 ho, by rw [ga]; exact k2.2⟩, k3, k4, k5.at gg ((off a o (apart z0 z (by simp [Sl.obj]) k1) ho).trans ho.symm)⟩
    · cases z1
  · obtain ⟨x', f1, f2⟩ := ob e1 e3
    obtain ⟨y', f3, f4⟩ := ob e2 e4
    exact E.sep i j a x' y' f1 f3 f2 f4 e5 e6
  · rcases new b hb with z | z
    · exact E.gt b z
    · exact .inr (E.th.free z)
  · have ho := E.th b o hb
    exact off b o (fun hm => by rw [tn b hm] at hb; cases hb) ho
  · cases q : H b with
    | none => exact absurd q (E.wh b hb)
    | some o =>
      by_cases hm : b ∈ as
      · obtain ⟨u, hu⟩ := paired_there po b hm
        rw [hu]; simp
      · rw [off b o hm q]; simp
  · rw [giveBack_st l e]
    refine ⟨by rw [ga]; exact E.cs.len, by rw [ga]; exact E.cs.nd, by rw [ga]; exact E.cs.th, by rw [ga]; exact E.cs.fw, fun b hb => ?_, fun n c h => ?_⟩
    · rw [ga] at hb
      cases q : H b with
      | none => exact absurd q (E.cs.hh b hb)
      | some o => rw [off b o (fun hm => (gn b hm).2 hb) q]; simp
    · obtain ⟨b, k1, k2, k3⟩ := E.cs.got n c h
      obtain ⟨o, ho⟩ := k3.there
      have hb := List.mem_of_getElem? k1
      exact ⟨b, by rw [ga]; exact k1, non k2 ho, k3.at gg ((off b o (fun hm => (gn b hm).2 hb) ho).trans ho.symm)⟩
theorem RvOks.take : ∀ {vs : List V} {rs : List RV} (n : Nat), RvOks K cl G σ vs rs → RvOks K cl G σ (vs.take n) (rs.take n)
  | _, _, 0, _ => .nil
  | _, _, _ + 1, .nil => .nil
  | _, _, n + 1, .cons h r => .cons h (RvOks.take n r)
theorem RvOks.drop : ∀ {vs : List V} {rs : List RV} (n : Nat), RvOks K cl G σ vs rs → RvOks K cl G σ (vs.drop n) (rs.drop n)
  | _, _, 0, r => r
  | _, _, _ + 1, .nil => .nil
  | _, _, n + 1, .cons _ r => RvOks.drop n r
theorem RvOks.length : ∀ {vs : List V} {rs : List RV}, RvOks K cl G σ vs rs → vs.length = rs.length
  | _, _, .nil => rfl
  | _, _, .cons _ r => by simp [RvOks.length r]
theorem Lent.len {rs : List RV} {as : List Addr} {ds : List D} (l : Lent σ ρ rs as ds) : as.length = rs.length := by
  induction l with
  | nil => rfl
  | cons _ _ _ ih => simp [ih]
theorem OwnAt.of {a : Addr} {d : D} (h : OwnAt K cl G H a d) (p : d.pure = true) : OwnAt K cl (.of G.h) H a d := by
  obtain ⟨m, h⟩ := h
  refine ⟨m, ?_⟩
  cases h with
  | list h l r => exact .list h l (r.of (by simpa [D.pure] using p))
  | dict h l r => exact .dict h l (r.of (by simpa [D.pure] using p))
  | inst h l r => exact .inst h l (r.of (by simpa [D.pure] using p))
  | scr _ _ => cases m
  | tup _ _ _ => cases m
  | cel _ => cases m
theorem Paired.pure : ∀ {as : List Addr} {ds : List D}, Paired (OwnAt K cl G H) as ds → pureL ds = true → Paired (OwnAt K cl (.of G.h) H) as ds
  | _, _, .nil, _ => .nil
  | _, _, .cons h r, p => by
    simp only [pureL, Bool.and_eq_true] at p
    exact .cons (h.of p.1) (Paired.pure r p.2)
theorem nil_of {st : List (Option D)} (E : EOk K cl F T G H σ ρ) (e : ρ.st.isEmpty = true) : G = .of G.h := by
  have := E.cs.len
  rw [List.isEmpty_iff] at e
  rw [e] at this
  have ha : G.A = [] := List.length_eq_zero_iff.mp this
  cases G
  simp only at ha
  subst ha
  rfl
theorem pure_both {as : List Addr} {ios ds : List D} {xs : List V} (E : EOk K cl F T G H σ ρ) (p : pureOk ρ.st (ios ++ ds) = true) (ow : Paired (OwnAt K cl G H) as ios) (R : Reps K cl G xs ds) : Paired (OwnAt K cl (.of G.h) H) as ios ∧ Reps K cl (.of G.h) xs ds := by
  unfold pureOk at p
  rw [Bool.or_eq_true] at p
  rcases p with p | p
  · have e := nil_of (st := ρ.st) E p
    exact ⟨by rw [← e]; exact ow, by rw [← e]; exact R⟩
  · rw [pureL_app, Bool.and_eq_true] at p
    exact ⟨Paired.pure ow p.1, R.of p.2⟩
/-- all that a call asks -/
theorem call_run {n nio : Nat} {fn : Fn} {m : Ax} {Q : VK} {E0 : XK} (hn : ∀ ρ rs ρ', m ρ = some (rs, ρ') → rs.length = n) (h : tD K cl (eCall nio fn m) σ H Q) : tCall (spD K cl n nio fn) [] E0 (tDA K cl m) σ H Q := by
  obtain ⟨F, T, G, ρ, r, ρ', E, e, q⟩ := h
  simp only [eCall, Option.bind_eq_some_iff] at e
  obtain ⟨⟨rs, ρ1⟩, e1, ⟨ds, ρ2⟩, e2, e3⟩ := e
  refine ⟨F, T, G, ρ, rs, ρ1, E, e1, fun vs G1 H1 g1 E1 R1 => ?_⟩
  have e2' : DL.escs ρ1 (rs.drop nio) = some (ds, ρ2) := e2
  split at e3
  · rename_i c
    obtain ⟨c1, c2⟩ := c
    simp only [Option.bind_eq_some_iff] at e3
    obtain ⟨ios, e3, e4⟩ := e3
    split at e4
    case isFalse => cases e4
    rename_i hpu
    simp only [Option.bind_eq_some_iff] at e4
    obtain ⟨⟨z, outs⟩, e4, e5⟩ := e4
    obtain ⟨G2, g2, E2, R2⟩ := E1.escs (R1.drop nio) e2'
    obtain ⟨as, ea, l⟩ := lent_of E2 ((R1.take nio).mono g2) e3
    obtain ⟨ow, gn, tn⟩ := l.owns E2
    have hl : (vs ++ ([] : List V)).length = n := by rw [List.append_nil, R1.length]; exact hn _ _ _ e1
    have e4' : fn (ios ++ ds) = some (z, outs) := e4
    cases z with
    | er c fs => cases e5
    | ok d =>
      simp only [Option.map_eq_some_iff, Prod.mk.injEq] at e5
      obtain ⟨ρ3, e5, rfl, rfl⟩ := e5
      obtain ⟨p1, p2⟩ := pure_both E2 (by exact hpu) ow R2
      refine ⟨hl, G2.h, as, ios, vs.drop nio, ds, d, outs, ?_, ?_, l.nodup E2 c1, p1, fun a ha => (gn a ha).1, p2, E2.gh, e4', fun v G3 H3 k1 k2 k3 k4 k5 k6 => ?_⟩
      · rw [List.append_nil, ← ea, List.take_append_drop]
      · rw [l.len]; exact c2
      · have kl : Le G2 ⟨G3, G2.A⟩ := .of k1 rfl
        have kd : Le (.of G3) ⟨G3, G2.A⟩ := ⟨Same.refl _, G2.A, rfl⟩
        exact q v ⟨G3, G2.A⟩ H3 (g1.trans (g2.trans kl)) (E2.back l c1 kl rfl k2 k3 k4 (paired_at k5 fun a b _ h => h.at kd rfl) e5) (k6.mono kd)
  · cases e3
end
section
variable {X : Cx} {cl : String → Option Addr} {cx : CXT} {k n nio : Nat} {x : Str} {ps : List Str} {fn : Fn} {e : Expr} {es : List Expr} {mx : Ax} {p pos : Pos}
/-- how many arguments an argument list has -/
theorem aNil_len : ∀ ρ rs ρ', aNil ρ = some (rs, ρ') → rs.length = 0 := fun ρ rs ρ' h => by cases h; rfl
theorem aCons_len {me : Ex} {n : Nat} {mx : Ax} (h : ∀ ρ rs ρ', mx ρ = some (rs, ρ') → rs.length = n) : ∀ ρ rs ρ', aCons me mx ρ = some (rs, ρ') → rs.length = n + 1 := fun ρ rs ρ' e => by
  simp only [aCons, Option.bind_eq_some_iff, Option.map_eq_some_iff, Prod.mk.injEq] at e
  obtain ⟨⟨r, ρ1⟩, e1, ⟨rs', ρ2⟩, e2, rfl, rfl⟩ := e
  simp [h _ _ _ e2]
theorem d_call (C : Cal X.prog X.w X.K X.mg X.base cx k x ps (spD X.K cl n nio fn)) (hr : Room k X.A) (hx : Passes cx X E0) (hn : ∀ ρ rs ρ', mx ρ = some (rs, ρ') → rs.length = n) (ha : PDA X cl (e :: es) mx) (hg : Gl X x := by rfl)
    (hdb : (x == ("__debug__" : Str)) = false := by decide) (he : starEach (e :: es) X.env = (false, eval e X.env) :: starEach es X.env := by rfl) (hpl : (backTo pos (starEach es X.env)).any (·.1) = false := by rfl) :
    PD X cl (.Call (.Name x p) (e :: es) [] pos) (eCall nio fn mx) := by
  obtain ⟨f, fd, h1, h2, h3, h4⟩ := C.ex
  exact pe_imp (pe_call h4 hr hg h1 h2 h3 .nil hx ha hdb he hpl) fun σ H Q h => call_run hn h
theorem Cal.val (C : Cal X.prog X.w X.K X.mg X.base cx k x ps (spO X.K cl n nio fn)) : Cal X.prog X.w X.K X.mg X.base cx k x ps (spD X.K cl n nio fn) := by
  obtain ⟨f, fd, h1, h2, h3, h4⟩ := C.ex
  exact ⟨f, fd, h1, h2, h3, h4.imp fun vs H Q E h => spO_val vs H Q E h⟩
end
end DL

/-! E6: statements, a def's body -/
namespace DL
open PySem L2

/-- how a statement ends: it goes on, breaks, continues, hands back a value, hands back an object of its own making -/
inductive Fl where
  | nx (ρ : En) | bk (ρ : En) | ct (ρ : En) | rt (d : D) (ρ : En) | ro (d : D) (ρ : En)
  deriving Inhabited
abbrev Sx := En → Option Fl

section
variable (K : PySem.W.Frag) (cl : String → Option Addr)
def FlOk (F : Fm) (T : Th) (G : Kn) (D : Ends) : Fl → Prop
  | .nx ρ => ∀ σ' G' H', Le G G' → EOk K cl F T G' H' σ' ρ → D.nx σ' H'
  | .bk ρ => ∀ σ' G' H', Le G G' → EOk K cl F T G' H' σ' ρ → D.bk σ' H'
  | .ct ρ => ∀ σ' G' H', Le G G' → EOk K cl F T G' H' σ' ρ → D.ct σ' H'
  | .rt d ρ => ∀ v σ' G' H', Le G G' → EOk K cl F T G' H' σ' ρ → Rep K cl G' v d → D.rt v H'
  | .ro d ρ => ∀ p σ' G' H', Le G G' → EOk K cl F T G' H' σ' ρ → (G'.h p = none ∧ p ∉ G'.A) → T.h p = none → p ∉ F.W → OwnAt K cl G' H' p d → D.rt (.ref p) H'
def tDS (m : Sx) : TS := fun D σ H => ∃ F T G ρ fl, EOk K cl F T G H σ ρ ∧ m ρ = some fl ∧ FlOk K cl F T G D fl
end
section
variable {K : PySem.W.Frag} {cl : String → Option Addr} {F : Fm} {T : Th} {G G' : Kn} {H H' : Hp} {σ : L2.St} {ρ ρ' : En} {D : Ends} {fl : Fl}
theorem FlOk.mono (g : Le G G') (h : FlOk K cl F T G D fl) : FlOk K cl F T G' D fl := by
  cases fl with
  | nx ρ => exact fun σ' G2 H' k => h σ' G2 H' (g.trans k)
  | bk ρ => exact fun σ' G2 H' k => h σ' G2 H' (g.trans k)
  | ct ρ => exact fun σ' G2 H' k => h σ' G2 H' (g.trans k)
  | rt d ρ => exact fun v σ' G2 H' k => h v σ' G2 H' (g.trans k)
  | ro d ρ => exact fun p σ' G2 H' k => h p σ' G2 H' (g.trans k)
end
section
variable {X : Cx} {cl : String → Option Addr}
theorem ps_imp {st : Stmt} {t t' : TS} (h : PS X st t) (i : ∀ D σ H, t' D σ H → t D σ H) : PS X st t' := ⟨fun pins s σ H D I q => h.run pins s σ H D I (i _ _ _ q)⟩
theorem pss_imp {st : List Stmt} {t t' : TS} (h : PSs X st t) (i : ∀ D σ H, t' D σ H → t D σ H) : PSs X st t' := ⟨fun pins s σ H D I q => h.run pins s σ H D I (i _ _ _ q)⟩
theorem ps_either {st : Stmt} {t t' : TS} (h : PS X st t) (h' : PS X st t') : PS X st (fun D σ H => t D σ H ∨ t' D σ H) := ⟨fun pins s σ H D I q => by
  rcases q with q | q
  · exact h.run pins s σ H D I q
  · exact h'.run pins s σ H D I q⟩
abbrev PDS (X : Cx) (cl : String → Option Addr) (st : Stmt) (m : Sx) : Prop := PS X st (tDS X.K cl m)
abbrev PDB (X : Cx) (cl : String → Option Addr) (st : List Stmt) (m : Sx) : Prop := PSs X st (tDS X.K cl m)
variable {st : Stmt} {rest : List Stmt} {m n : Sx} {e : Expr} {me : Ex} {pos pos' : Pos}
/-! ### blocks -/
def sSkip : Sx := fun ρ => some (.nx ρ)
def sSeq (m n : Sx) : Sx := fun ρ => (m ρ).bind fun fl => match fl with
  | .nx ρ' => n ρ'
  | .bk ρ' => some (.bk ρ')
  | .ct ρ' => some (.ct ρ')
  | .rt d ρ' => some (.rt d ρ')
  | .ro d ρ' => some (.ro d ρ')
theorem b_nil : PDB X cl [] sSkip := by
  refine pss_imp pss_nil fun D σ H h => ?_
  obtain ⟨F, T, G, ρ, fl, E, e, q⟩ := h
  cases e
  exact q σ G H (Le.refl _) E
theorem b_one (h : PDS X cl st m) : PDB X cl [st] m := pss_one h
theorem b_cons (h : PDS X cl st m) (k : PDB X cl rest n) : PDB X cl (st :: rest) (sSeq m n) := by
  refine pss_imp (pss_cons h k) fun D σ H h => ?_
  obtain ⟨F, T, G, ρ, fl, E, e, q⟩ := h
  simp only [sSeq, Option.bind_eq_some_iff] at e
  obtain ⟨fl1, e1, e2⟩ := e
  refine ⟨F, T, G, ρ, fl1, E, e1, ?_⟩
  cases fl1 with
  | nx ρ1 => exact fun σ' G' H' g E' => ⟨F, T, G', ρ1, fl, E', e2, q.mono g⟩
  | bk ρ1 => cases e2; exact q
  | ct ρ1 => cases e2; exact q
  | rt d ρ1 => cases e2; exact q
  | ro d ρ1 => cases e2; exact q
theorem st_pass : PDS X cl (.Pass pos) sSkip := by
  refine ps_imp ps_pass fun D σ H h => ?_
  obtain ⟨F, T, G, ρ, fl, E, e, q⟩ := h
  cases e
  exact q σ G H (Le.refl _) E
def sBrk : Sx := fun ρ => some (.bk ρ)
theorem st_brk : PDS X cl (.Break pos) sBrk := by
  refine ps_imp ps_break fun D σ H h => ?_
  obtain ⟨F, T, G, ρ, fl, E, e, q⟩ := h
  cases e
  exact q σ G H (Le.refl _) E
/-- an expression whose value is dropped -/
def sDrop (m : Ex) : Sx := fun ρ => (m ρ).map fun p => .nx p.2
theorem st_expr (h : PD X cl e me) (hs : swapsWith e none pos.line X.env = pure false := by rfl) : PDS X cl (.Expr e pos) (sDrop me) := by
  refine ps_imp (ps_expr h hs) fun D σ H h => ?_
  obtain ⟨F, T, G, ρ, fl, E, e, q⟩ := h
  simp only [sDrop, Option.map_eq_some_iff] at e
  obtain ⟨⟨r, ρ1⟩, e1, rfl⟩ := e
  exact ⟨F, T, G, ρ, r, ρ1, E, e1, fun v G' H' g E' _ => q σ G' H' g E'⟩
/-! ### return -/
def sRet (m : Ex) : Sx := fun ρ => (m ρ).bind fun p => (esc p.2 p.1).map fun q => .rt q.1 q.2
theorem st_ret (h : PD X cl e me) : PDS X cl (.Return (some e) pos) (sRet me) := by
  refine ps_imp (ps_ret h) fun D σ H h => ?_
  obtain ⟨F, T, G, ρ, fl, E, e, q⟩ := h
  simp only [sRet, Option.bind_eq_some_iff, Option.map_eq_some_iff] at e
  obtain ⟨⟨r, ρ1⟩, e1, ⟨d, ρ2⟩, e2, rfl⟩ := e
  refine ⟨F, T, G, ρ, r, ρ1, E, e1, fun v G' H' g E' R => ?_⟩
  obtain ⟨G2, g2, E2, R2⟩ := E'.esc R e2
  exact q v σ G2 H' (g.trans g2) E2 R2
def sRetN : Sx := fun ρ => some (.rt .non ρ)
theorem st_retN : PDS X cl (.Return none pos) sRetN := by
  refine ps_imp ps_retN fun D σ H h => ?_
  obtain ⟨F, T, G, ρ, fl, E, e, q⟩ := h
  cases e
  exact q .non σ G H (Le.refl _) E .non
/-- an object of its own making, by its name -/
def sRetO (m : Ex) : Sx := fun ρ => (m ρ).bind fun p => match p.1 with
  | .ref i => match p.2.sl[i]? with
    | some (.own none d) => some (.ro d p.2)
    | _ => none
  | _ => none
theorem st_retO (h : PD X cl e me) : PDS X cl (.Return (some e) pos) (sRetO me) := by
  refine ps_imp (ps_ret h) fun D σ H h => ?_
  obtain ⟨F, T, G, ρ, fl, E, e, q⟩ := h
  simp only [sRetO, Option.bind_eq_some_iff] at e
  obtain ⟨⟨r, ρ1⟩, e1, e2⟩ := e
  refine ⟨F, T, G, ρ, r, ρ1, E, e1, fun v G' H' g E' R => ?_⟩
  split at e2
  · rename_i i hi
    have hi' : r = .ref i := hi
    subst hi'
    split at e2
    · rename_i d hd
      cases e2
      obtain ⟨a, k1, k2, k3, k4, k5⟩ := E'.own i none d hd
      have hv : σ[i]? = some (some v) := R
      rw [k1] at hv; cases hv
      exact q a σ G' H' g E' k2 k3 k4 k5
    · cases e2
  · cases e2
/-- a new list, written -/
def sRetL (m : Ax) : Sx := fun ρ => (m ρ).bind fun p => (escs p.2 p.1).bind fun q => if q.1.length ≤ sizeLine then some (.ro (.list q.1) q.2) else none
theorem new_own {K : PySem.W.Frag} {F : Fm} {T : Th} {G : Kn} {H : Hp} {σ : L2.St} {ρ : En} {p : Addr} {o : HO} (E : EOk K cl F T G H σ ρ) (hp : H p = none) : (G.h p = none ∧ p ∉ G.A) ∧ T.h p = none ∧ p ∉ F.W ∧ EOk K cl F T G (upd H p o) σ ρ := by
  have gn : G.h p = none := E.gh.free hp
  have tn : T.h p = none := E.th.free hp
  refine ⟨⟨gn, E.cs.fresh hp⟩, tn, fun hm => E.wh p hm hp, ⟨E.len, E.val, fun i w d h => ?_, fun i w d h => ?_, E.sep, E.g0, E.gt, fun b u hb => ?_, fun b u hb => ?_, fun b hb => ?_, E.cs.off (E.cs.fresh hp)⟩⟩
  · obtain ⟨b, h1, h2, h3, h4, h5⟩ := E.own i w d h
    obtain ⟨u, hu⟩ := h5.there
    exact ⟨b, h1, h2, h3, h4, h5.at (Le.refl _) (upd_ne (ne_of_none hu hp))⟩
  · obtain ⟨b, u', h1, h2, h3, h4, h5⟩ := E.lck i w d h
    obtain ⟨u, hu⟩ := h5.there
    exact ⟨b, u', h1, h2, h3, h4, h5.at (Le.refl _) (upd_ne (ne_of_none hu hp))⟩
  · rw [upd_ne (ne_of_none (E.gh _ _ hb) hp)]; exact E.gh b u hb
  · rw [upd_ne (ne_of_none (E.th _ _ hb) hp)]; exact E.th b u hb
  · by_cases hb' : b = p
    · subst hb'; rw [upd_same]; simp
    · rw [upd_ne hb']; exact E.wh b hb
variable {es : List Expr} {mx : Ax}
theorem st_retL {p2 : Pos} (h : PDA X cl es mx) : PDS X cl (.Return (some (.List es p2)) pos) (sRetL mx) := by
  refine ps_imp (ps_ret (pe_lst h)) fun D σ H h => ?_
  obtain ⟨F, T, G, ρ, fl, E, e, q⟩ := h
  simp only [sRetL, Option.bind_eq_some_iff] at e
  obtain ⟨⟨rs, ρ1⟩, e1, ⟨ds, ρ2⟩, e2, e3⟩ := e
  split at e3
  · rename_i hz
    cases e3
    refine ⟨F, T, G, ρ, rs, ρ1, E, e1, fun vs G' H' g E' R => ?_⟩
    obtain ⟨G2, g2, E2, R2⟩ := E'.escs R e2
    have hl : vs.length ≤ sizeLine := by rw [R2.length]; exact hz
    refine ⟨hl, fun p hp => ?_⟩
    obtain ⟨k1, k2, k3, k4⟩ := new_own (o := .lst vs) E2 hp
    exact q p σ G2 _ (g.trans g2) k4 k1 k2 k3 ⟨rfl, .list upd_same hl R2⟩
  · cases e3
/-! ### names are set -/
variable {i : Nat} {x : Str}
def sSet (i : Nat) (m : Ex) : Sx := fun ρ => (m ρ).bind fun p => (esc p.2 p.1).map fun q => .nx (q.2.set i (.val q.1))
theorem set_run {K : PySem.W.Frag} {D : Ends} {σ : L2.St} {H : Hp} (h : tDS K cl (sSet i me) D σ H) : tAsg (tD K cl me) (gName i) D σ H := by
  obtain ⟨F, T, G, ρ, fl, E, e, q⟩ := h
  simp only [sSet, Option.bind_eq_some_iff, Option.map_eq_some_iff] at e
  obtain ⟨⟨r, ρ1⟩, e1, ⟨d, ρ2⟩, e2, rfl⟩ := e
  refine ⟨F, T, G, ρ, r, ρ1, E, e1, fun v G' H' g E' R => ?_⟩
  obtain ⟨G2, g2, E2, R2⟩ := E'.esc R e2
  exact q _ G2 H' (g.trans g2) (E2.set R2)
theorem st_set (i : Nat) (hN : X.N.Nodup) (h : PD X cl e me) (hi : X.N[i]? = some x := by rfl) (hx : Loc X.env.scope x := by first | exact Or.inl rfl | exact Or.inr rfl) (hs : swapsWith e (some (.Name x pos')) pos.line X.env = pure false := by rfl) (hf : X.fn x = true ∨ X.env.scope.names.lookup x = some .local := by first | exact Or.inl rfl | exact Or.inr rfl) :
    PDS X cl (.Assign [.Name x pos'] e pos) (sSet i me) := ps_imp (ps_set hN hi hx h hs hf) fun D σ H h => set_run h
/-- a place gets an object of its own making -/
theorem EOk.setOwn {K : PySem.W.Frag} {F : Fm} {T : Th} {G : Kn} {H : Hp} {σ : L2.St} {ρ : En} {p : Addr} {d : D} (E : EOk K cl F T G H σ ρ) (gn : G.h p = none ∧ p ∉ G.A) (tn : T.h p = none) (wn : p ∉ F.W) (ow : OwnAt K cl G H p d) (ap : ∀ (j : Nat) (y : Sl), ρ.sl[j]? = some y → y.obj ≠ none → σ[j]? ≠ some (some (.ref p))) :
    EOk K cl F T G H (σ.set i (some (.ref p))) (ρ.set i (.own none d)) := by
  by_cases hi : i < ρ.sl.length
  · have hs : i < σ.length := by rw [E.len]; exact hi
    refine ⟨by simpa using E.len, fun j d' h' => ?_, fun j w d' h' => ?_, fun j w d' h' => ?_, fun j k b x y e1 e2 e3 e4 e5 e6 => ?_, E.g0, E.gt, E.gh, E.th, E.wh, E.cs⟩
    · by_cases hj : i = j
      · subst hj
        rw [List.getElem?_set_self hi] at h'; cases h'
      · rw [List.getElem?_set_ne hj] at h' ⊢
        exact E.val j d' h'
    · by_cases hj : i = j
      · subst hj
        rw [List.getElem?_set_self hi] at h'; cases h'
        exact ⟨p, List.getElem?_set_self hs, gn, tn, wn, ow⟩
      · rw [List.getElem?_set_ne hj] at h' ⊢
        exact E.own j w d' h'
    · by_cases hj : i = j
      · subst hj
        rw [List.getElem?_set_self hi] at h'; cases h'
      · rw [List.getElem?_set_ne hj] at h' ⊢
        exact E.lck j w d' h'
    · by_cases hj : i = j
      · subst hj
        by_cases hk : i = k
        · exact hk
        · rw [List.getElem?_set_self hs] at e5
          cases e5
          rw [List.getElem?_set_ne hk] at e2 e6
          exact absurd e6 (ap k y e2 e4)
      · by_cases hk : i = k
        · subst hk
          rw [List.getElem?_set_self hs] at e6
          cases e6
          rw [List.getElem?_set_ne hj] at e1 e5
          exact absurd e5 (ap j x e1 e3)
        · rw [List.getElem?_set_ne hj] at e1 e5
          rw [List.getElem?_set_ne hk] at e2 e6
          exact E.sep j k b x y e1 e2 e3 e4 e5 e6
  · have : (ρ.set i (.own none d)) = ρ := by
      show En.mk _ _ = ρ
      rw [List.set_eq_of_length_le (by omega)]
    rw [this, List.set_eq_of_length_le (by rw [E.len]; omega)]
    exact E
theorem EOk.apart {K : PySem.W.Frag} {F : Fm} {T : Th} {G : Kn} {H : Hp} {σ : L2.St} {ρ : En} {p : Addr} (E : EOk K cl F T G H σ ρ) (hp : H p = none) : ∀ (j : Nat) (y : Sl), ρ.sl[j]? = some y → y.obj ≠ none → σ[j]? ≠ some (some (.ref p)) := fun j y h1 h2 h3 => by
  cases y with
  | emp => exact h2 rfl
  | val d => exact h2 rfl
  | own w d =>
    obtain ⟨a, k1, _, _, _, k5⟩ := E.own j w d h1
    rw [k1] at h3; cases h3
    obtain ⟨o, ho⟩ := k5.there
    rw [hp] at ho; cases ho
  | lck w d =>
    obtain ⟨a, o', k1, _, _, _, k5⟩ := E.lck j w d h1
    rw [k1] at h3; cases h3
    obtain ⟨o, ho⟩ := k5.there
    rw [hp] at ho; cases ho
/-- x = [..], x to be changed in place -/
def sNewL (i : Nat) (m : Ax) : Sx := fun ρ => (m ρ).bind fun p => (escs p.2 p.1).bind fun q => if q.1.length ≤ sizeLine then some (.nx (q.2.set i (.own none (.list q.1)))) else none
theorem st_newL {p2 : Pos} (i : Nat) (hN : X.N.Nodup) (h : PDA X cl es mx) (hi : X.N[i]? = some x := by rfl) (hx : Loc X.env.scope x := by first | exact Or.inl rfl | exact Or.inr rfl) (hs : swapsWith (.List es p2) (some (.Name x pos')) pos.line X.env = pure false := by rfl) (hf : X.fn x = true ∨ X.env.scope.names.lookup x = some .local := by first | exact Or.inl rfl | exact Or.inr rfl) :
    PDS X cl (.Assign [.Name x pos'] (.List es p2) pos) (sNewL i mx) := by
  refine ps_imp (ps_set hN hi hx (pe_lst h) hs hf) fun D σ H h => ?_
  obtain ⟨F, T, G, ρ, fl, E, e, q⟩ := h
  simp only [sNewL, Option.bind_eq_some_iff] at e
  obtain ⟨⟨rs, ρ1⟩, e1, ⟨ds, ρ2⟩, e2, e3⟩ := e
  split at e3
  · rename_i hz
    cases e3
    refine ⟨F, T, G, ρ, rs, ρ1, E, e1, fun vs G' H' g E' R => ?_⟩
    obtain ⟨G2, g2, E2, R2⟩ := E'.escs R e2
    have hl : vs.length ≤ sizeLine := by rw [R2.length]; exact hz
    refine ⟨hl, fun p hp => ?_⟩
    obtain ⟨k1, k2, k3, k4⟩ := new_own (o := .lst vs) E2 hp
    exact q _ G2 _ (g.trans g2) (k4.setOwn k1 k2 k3 ⟨rfl, .list upd_same hl R2⟩ (E2.apart hp))
  · cases e3
/-- x = f(..), the object is x's own -/
def sCallO (i : Nat) (nio : Nat) (fn : Fn) (m : Ax) : Sx := fun ρ => (m ρ).bind fun p => (escs p.2 (p.1.drop nio)).bind fun q => if (places (p.1.take nio)).Nodup ∧ (p.1.take nio).length = nio then (lent q.2 (p.1.take nio)).bind fun ios =>
  if pureOk q.2.st (ios ++ q.1) = true then (fn (ios ++ q.1)).bind fun z => match z.1 with
    | .ok d => (giveBack q.2 (p.1.take nio) z.2).map fun ρ' => .nx (ρ'.set i (.own none d))
    | .er _ _ => none
    else none
  else none
theorem callO_run {K : PySem.W.Frag} {σ : L2.St} {H : Hp} {D : Ends} {n nio : Nat} {fn : Fn} {m : Ax} {E0 : XK} (hn : ∀ ρ rs ρ', m ρ = some (rs, ρ') → rs.length = n) (h : tDS K cl (sCallO i nio fn m) D σ H) : tAsg (tCall (spO K cl n nio fn) [] E0 (tDA K cl m)) (gName i) D σ H := by
  obtain ⟨F, T, G, ρ, fl, E, e, q⟩ := h
  simp only [sCallO, Option.bind_eq_some_iff] at e
  obtain ⟨⟨rs, ρ1⟩, e1, ⟨ds, ρ2⟩, e2, e3⟩ := e
  refine ⟨F, T, G, ρ, rs, ρ1, E, e1, fun vs G1 H1 g1 E1 R1 => ?_⟩
  have e2' : DL.escs ρ1 (rs.drop nio) = some (ds, ρ2) := e2
  split at e3
  · rename_i c
    obtain ⟨c1, c2⟩ := c
    simp only [Option.bind_eq_some_iff] at e3
    obtain ⟨ios, e3, e4⟩ := e3
    split at e4
    case isFalse => cases e4
    rename_i hpu
    simp only [Option.bind_eq_some_iff] at e4
    obtain ⟨⟨z, outs⟩, e4, e5⟩ := e4
    obtain ⟨G2, g2, E2, R2⟩ := E1.escs (R1.drop nio) e2'
    obtain ⟨as, ea, l⟩ := lent_of E2 ((R1.take nio).mono g2) e3
    obtain ⟨ow, gn, tn⟩ := l.owns E2
    have hl : (vs ++ ([] : List V)).length = n := by rw [List.append_nil, R1.length]; exact hn _ _ _ e1
    have e4' : fn (ios ++ ds) = some (z, outs) := e4
    cases z with
    | er c fs => cases e5
    | ok d =>
      simp only [Option.map_eq_some_iff] at e5
      obtain ⟨ρ3, e5, rfl⟩ := e5
      obtain ⟨p1, p2⟩ := pure_both E2 (by exact hpu) ow R2
      refine ⟨hl, G2.h, as, ios, vs.drop nio, ds, d, outs, ?_, ?_, l.nodup E2 c1, p1, fun a ha => (gn a ha).1, p2, E2.gh, e4', fun p G3 H3 k1 k2 k3 k4 k5 k6 k7 k8 => ?_⟩
      · rw [List.append_nil, ← ea, List.take_append_drop]
      · rw [l.len]; exact c2
      · have kl : Le G2 ⟨G3, G2.A⟩ := .of k1 rfl
        have kd : Le (.of G3) ⟨G3, G2.A⟩ := ⟨Same.refl _, G2.A, rfl⟩
        have k5' := paired_at k5 fun a b _ h => h.at kd rfl
        have E3 := E2.back l c1 kl rfl k2 k3 k4 k5' e5
        refine q _ ⟨G3, G2.A⟩ H3 (g1.trans (g2.trans kl)) (E3.setOwn ⟨k6, E2.cs.fresh k7⟩ (E2.th.free k7) (fun hm => E2.wh p hm k7) (k8.at kd rfl) fun j y h1 h2 h3 => ?_)
        -- what stood ahead of the call stands apart from what is new
        have hb : ∃ y', ρ2.sl[j]? = some y' ∧ y'.obj ≠ none := by
          rcases (giveBack_at l k5 c1 e5).2 j y h1 with ⟨_, z⟩ | ⟨w, d', a, out, z1, z2, _⟩
          · exact ⟨y, z, h2⟩
          · exact ⟨_, z2, by simp [Sl.obj]⟩
        obtain ⟨y', f1, f2⟩ := hb
        exact E2.apart k7 j y' f1 f2 h3
  · cases e3
theorem st_callO {cx : CXT} {k n nio : Nat} {f : Str} {ps : List Str} {fn : Fn} {p p2 : Pos} (i : Nat) (hN : X.N.Nodup) (C : Cal X.prog X.w X.K X.mg X.base cx k f ps (spO X.K cl n nio fn)) (hr : Room k X.A) (hx : Passes cx X E0) (hn : ∀ ρ rs ρ', mx ρ = some (rs, ρ') → rs.length = n) (ha : PDA X cl (e :: es) mx) (hg : Gl X f := by rfl)
    (hi : X.N[i]? = some x := by rfl) (hxl : Loc X.env.scope x := by first | exact Or.inl rfl | exact Or.inr rfl) (hs : swapsWith (.Call (.Name f p) (e :: es) [] p2) (some (.Name x pos')) pos.line X.env = pure false := by rfl) (hf : X.fn x = true ∨ X.env.scope.names.lookup x = some .local := by first | exact Or.inl rfl | exact Or.inr rfl)
    (hdb : (f == ("__debug__" : Str)) = false := by decide) (he : starEach (e :: es) X.env = (false, eval e X.env) :: starEach es X.env := by rfl) (hpl : (backTo p2 (starEach es X.env)).any (·.1) = false := by rfl) :
    PDS X cl (.Assign [.Name x pos'] (.Call (.Name f p) (e :: es) [] p2) pos) (sCallO i nio fn mx) := by
  obtain ⟨fa, fd, h1, h2, h3, h4⟩ := C.ex
  exact ps_imp (ps_set hN hi hxl (pe_call h4 hr hg h1 h2 h3 .nil hx ha hdb he hpl) hs hf) fun D σ H h => callO_run hn h
/-- x = [.. for ..], a value -/
theorem st_setLc {y : Str} {py : Pos} {elt tg iter : Expr} {ifs : List Expr} {scope : Scope} {own : List (Str × Nat)} {pos spos : Pos} {src : Src} {g : TG} {t : Tgt} {tt : Tx} {te : Ex} (i : Nat) (hc : X.calm = true) (hN : X.N.Nodup) (hi : PDI X cl tg iter src) (ok : BlkOk X.N X.env.scope scope own) (tok : TgOk X.K cl g t (own.map (·.2)))
    (hg : ∀ (s : Shared) (H : Hp) (C : Addr) (c : List (Str × Addr)) (fp : List Addr), PG (X.blk s H scope (compEnvC scope c C X.env) fp) tg g)
    (ht : ∀ (s : Shared) (H : Hp) (C : Addr) (c : List (Str × Addr)) (fp : List Addr), PTs (X.blk s H scope (compEnvC scope c C X.env) fp) ifs (tDT X.K cl tt))
    (he : ∀ (s : Shared) (H : Hp) (C : Addr) (c : List (Str × Addr)) (fp : List Addr), PE (X.blk s H scope (compEnvC scope c C X.env) fp) elt (tD X.K cl te)) (hy : X.N[i]? = some y := by rfl) (hyl : X.env.scope.names.lookup y = some .local := by rfl)
    (hsw : swapsWith (.ListComp elt [⟨tg, iter, ifs, 0⟩] scope pos) (some (.Name y py)) spos.line X.env = pure true := by exact sw_true rfl rfl rfl (by decide +kernel)) (hs : ∀ x, foldedSetIterable iter X.env x = pure x := by intro _; rfl) :
    PDS X cl (.Assign [.Name y py] (.ListComp elt [⟨tg, iter, ifs, 0⟩] scope pos) spos) (sSet i (eLc src t tt te (own.map (·.2)))) := by
  refine ps_imp (ps_setLc hc hN hy hyl hsw hi ok hg ht he hs) fun D σ H h => ?_
  obtain ⟨F, T, G, ρ, fl, E, e, q⟩ := h
  simp only [sSet, Option.bind_eq_some_iff, Option.map_eq_some_iff] at e
  obtain ⟨⟨r, ρ1⟩, e1, ⟨d, ρ2⟩, e2, rfl⟩ := e
  refine lc_run tok ⟨F, T, G, ρ, r, ρ1, E, e1, fun v G' H' g' E' R => ?_⟩
  obtain ⟨G2, g2, E2, R2⟩ := E'.esc R e2
  exact q _ G2 H' (g'.trans g2) (E2.set R2)
/-! ### name op= e, ints -/
def sAug (i : Nat) (k : Int → Int → Int) (m : Ex) : Sx := fun ρ => match ρ.sl[i]? with
  | some (.val (.int a)) => (m ρ).bind fun p => match p.1 with
    | .val (.int b) => some (.nx (p.2.set i (.val (.int (k a b)))))
    | _ => none
  | _ => none
theorem st_aug {op : Operator} {k : Int → Int → Int} (i : Nat) (hN : X.N.Nodup) (ho : PIp X op (ipI k)) (h : PD X cl e me) (hi : X.N[i]? = some x := by rfl) (hx : Loc X.env.scope x := by first | exact Or.inl rfl | exact Or.inr rfl) (hf : X.fn x = true ∨ X.env.scope.names.lookup x = some .local := by first | exact Or.inl rfl | exact Or.inr rfl) :
    PDS X cl (.AugAssign (.Name x pos') op e pos) (sAug i k me) := by
  refine ps_imp (ps_aug hN hi hx h ho hf) fun D σ H h => ?_
  obtain ⟨F, T, G, ρ, fl, E, e, q⟩ := h
  unfold sAug at e
  split at e
  · rename_i a ha
    simp only [Option.bind_eq_some_iff] at e
    obtain ⟨⟨r, ρ1⟩, e1, e2⟩ := e
    obtain ⟨v, k1, k2⟩ := E.val i _ ha
    cases k2
    refine ⟨_, k1, F, T, G, ρ, r, ρ1, E, e1, fun v G' H' g E' R => ?_⟩
    split at e2
    · rename_i b hb
      have hb' : r = .val (.int b) := hb
      subst hb'
      cases e2
      cases R
      exact ⟨a, b, rfl, rfl, q _ G' H' g (E'.set (.int _))⟩
    · cases e2
  · cases e
/-! ### x, y = a, b -/
def par2 (i j : Nat) : List D → En → Option Fl
  | [a, b], ρ => some (.nx ((ρ.set i (.val a)).set j (.val b)))
  | _, _ => none
def sPar (i j : Nat) (m : Ax) : Sx := fun ρ => (m ρ).bind fun p => (escs p.2 p.1).bind fun q => par2 i j q.1 q.2
theorem st_par {i j : Nat} {x y : Str} {a b : Expr} {px py pt : Pos} {kt k2 pt2} (hc : X.calm = true) (hN : X.N.Nodup) (hij : i ≠ j) (ha : PDA X cl [a, b] mx) (hi : X.N[i]? = some x := by rfl) (hj : X.N[j]? = some y := by rfl)
    (hx : X.env.scope.names.lookup x = some .local := by rfl) (hy : X.env.scope.names.lookup y = some .local := by rfl)
    (hw : swappedStores [.Tuple [.Name x px, .Name y py] kt pt] (.Tuple [a, b] k2 pt2) X.env = pure (some [x, y]) := by rfl)
    (hs : swapsWithSole [.Tuple [.Name x px, .Name y py] kt pt] (.Tuple [a, b] k2 pt2) pos.line X.env = pure false := by rfl) :
    PDS X cl (.Assign [.Tuple [.Name x px, .Name y py] kt pt] (.Tuple [a, b] k2 pt2) pos) (sPar i j mx) := by
  refine ps_imp (ps_par hc hN hi hj hij hx hy ha hw hs) fun D σ H h => ?_
  obtain ⟨F, T, G, ρ, fl, E, e, q⟩ := h
  simp only [sPar, Option.bind_eq_some_iff] at e
  obtain ⟨⟨rs, ρ1⟩, e1, ⟨ds, ρ2⟩, e2, e3⟩ := e
  refine ⟨F, T, G, ρ, rs, ρ1, E, e1, fun vs G' H' g E' R => ?_⟩
  obtain ⟨G2, g2, E2, R2⟩ := E'.escs R e2
  have e3' : par2 i j ds ρ2 = some fl := e3
  unfold par2 at e3'
  split at e3'
  · cases e3'
    cases R2 with | cons r1 r2 =>
    cases r2 with | cons r2 r3 =>
    cases r3
    exact ⟨_, _, rfl, q _ G2 H' (g.trans g2) ((E2.set r1).set r2)⟩
  · cases e3'
/-- a, b = a tuple -/
def sUnp (t : Tgt) (m : Ex) : Sx := fun ρ => (m ρ).bind fun p => (esc p.2 p.1).bind fun q => (t q.1 q.2).map fun ρ' => .nx ρ'
theorem st_unp {tg : Expr} {g : TG} {t : Tgt} {vs : List Nat} (h : PD X cl e me) (hg : PG X tg g) (tok : TgOk X.K cl g t vs) (hs : swapsWithSole [tg] e pos.line X.env = pure false := by rfl) (hw : swappedStores [tg] e X.env = pure none := by rfl)
    (h1 : (assignEach [tg] X.env).map (·.2) = [assign tg X.env] := by rfl) : PDS X cl (.Assign [tg] e pos) (sUnp t me) := by
  refine ps_imp (ps_asg h hg hs hw h1) fun D σ H h => ?_
  obtain ⟨F, T, G, ρ, fl, E, e, q⟩ := h
  simp only [sUnp, Option.bind_eq_some_iff, Option.map_eq_some_iff] at e
  obtain ⟨⟨r, ρ1⟩, e1, ⟨d, ρ2⟩, e2, ρ3, e3, rfl⟩ := e
  refine ⟨F, T, G, ρ, r, ρ1, E, e1, fun v G' H' g E' R => ?_⟩
  obtain ⟨G2, g2, E2, R2⟩ := E'.esc R e2
  obtain ⟨σ', q1, E3, _⟩ := tok _ _ _ _ _ _ _ _ _ E2 R2 e3
  exact q1 _ (q σ' G2 H' (g.trans g2) E3)
/-! ### if, for, while -/
variable {c : Expr} {tc : Tx} {a b : List Stmt}
def sIf (t : Tx) (m n : Sx) : Sx := fun ρ => (t ρ).bind fun p => if p.1 = true then m p.2 else n p.2
theorem st_if (hc : PDT X cl c tc) (ha : PDB X cl a m) (hb : PDB X cl b n) : PDS X cl (.If c a b pos) (sIf tc m n) := by
  refine ps_imp (ps_if hc ha hb) fun D σ H h => ?_
  obtain ⟨F, T, G, ρ, fl, E, e, q⟩ := h
  simp only [sIf, Option.bind_eq_some_iff] at e
  obtain ⟨⟨c, ρ1⟩, e1, e2⟩ := e
  refine ⟨F, T, G, ρ, c, ρ1, E, e1, fun G1 H1 g1 E1 => ?_⟩
  cases c with
  | true => exact ⟨F, T, G1, ρ1, fl, E1, by simpa using e2, q.mono g1⟩
  | false => exact ⟨F, T, G1, ρ1, fl, E1, by simpa using e2, q.mono g1⟩
noncomputable def forLoop (ck : En → Prop) [∀ ρ, Decidable (ck ρ)] (t : Tgt) (body : Sx) : List D → En → Option Fl
  | [], ρ => if ck ρ then some (.nx ρ) else none
  | d :: ds, ρ => if ck ρ then (t d ρ).bind fun ρ1 => (body ρ1).bind fun fl => match fl with
    | .nx ρ2 => forLoop ck t body ds ρ2
    | .ct ρ2 => forLoop ck t body ds ρ2
    | .bk ρ2 => some (.nx ρ2)
    | .rt d ρ2 => some (.rt d ρ2)
    | .ro d ρ2 => some (.ro d ρ2)
    else none
def unlkF (lk : Option Lk) : Fl → Option Fl
  | .nx ρ => (unlk lk ρ).map .nx
  | .bk ρ => (unlk lk ρ).map .bk
  | .ct ρ => (unlk lk ρ).map .ct
  | .rt d ρ => (unlk lk ρ).map (.rt d)
  | .ro d ρ => (unlk lk ρ).map (.ro d)
noncomputable def sFor (src : Src) (t : Tgt) (body : Sx) : Sx := fun ρ => (src ρ).bind fun p => (forLoop (ckOf p.2.1 p.1) t body p.1 p.2.2).bind fun fl => unlkF p.2.1 fl
theorem LkOk.le {T T' : Th} {lk : Option Lk} (l : LkOk T T' lk) : Same T.h T'.h := by
  rcases lk with _ | i | n
  · cases l; exact Same.refl _
  · obtain ⟨a, o, h, rfl⟩ := l
    exact upd_same' h
  · cases l; exact Same.refl _
theorem unlkF_ok {K : PySem.W.Frag} {F : Fm} {T T' : Th} {G : Kn} {D : Ends} {fl fl' : Fl} {lk : Option Lk} (l : LkOk T T' lk) (e : unlkF lk fl = some fl') (h : FlOk K cl F T G D fl') : FlOk K cl F T' G D fl := by
  cases fl with
  | nx ρ =>
    simp only [unlkF, Option.map_eq_some_iff] at e
    obtain ⟨ρ', e, rfl⟩ := e
    exact fun σ' G' H' g E => h σ' G' H' g (E.unlk l e)
  | bk ρ =>
    simp only [unlkF, Option.map_eq_some_iff] at e
    obtain ⟨ρ', e, rfl⟩ := e
    exact fun σ' G' H' g E => h σ' G' H' g (E.unlk l e)
  | ct ρ =>
    simp only [unlkF, Option.map_eq_some_iff] at e
    obtain ⟨ρ', e, rfl⟩ := e
    exact fun σ' G' H' g E => h σ' G' H' g (E.unlk l e)
  | rt d ρ =>
    simp only [unlkF, Option.map_eq_some_iff] at e
    obtain ⟨ρ', e, rfl⟩ := e
    exact fun v σ' G' H' g E => h v σ' G' H' g (E.unlk l e)
  | ro d ρ =>
    simp only [unlkF, Option.map_eq_some_iff] at e
    obtain ⟨ρ', e, rfl⟩ := e
    exact fun p σ' G' H' g E k1 k2 => h p σ' G' H' g (E.unlk l e) k1 (l.le.free k2)
theorem st_for {tg iter : Expr} {body : List Stmt} {src : Src} {g : TG} {t : Tgt} {vs : List Nat} (hp : PassesOwn (model X.prog X.w) X.A X.env X.xe) (hc : X.calm = true) (hi : PDI X cl tg iter src) (hg : PG X tg g) (tok : TgOk X.K cl g t vs) (hb : PDB X cl body m)
    (hs : ∀ x, foldedSetIterable iter X.env x = pure x := by intro _; rfl) : PDS X cl (.For tg iter body [] pos) (sFor src t m) := by
  refine ps_imp (ps_for hp hc hi hg hb hs) fun D σ H h => ?_
  obtain ⟨F, T, G, ρ, fl, E, e, q⟩ := h
  simp only [sFor, Option.bind_eq_some_iff] at e
  obtain ⟨⟨ds, lk, ρ1⟩, e1, fl1, e2, e3⟩ := e
  refine ⟨F, T, G, ρ, ds, lk, ρ1, E, e1, fun J T' G1 H1 g1 lkk E1 ck1 it => ?_⟩
  have q' : FlOk X.K cl F T' G1 D fl1 := unlkF_ok lkk e3 (q.mono g1)
  clear q e3
  refine ⟨fun i m' σ H => m' = ds.length - i ∧ i ≤ ds.length ∧ ∃ G ρ, EOk X.K cl F T' G H σ ρ ∧ Le G1 G ∧ forLoop (ckOf lk ds) t m (ds.drop i) ρ = some fl1, ⟨ds.length, by simp, Nat.zero_le _, G1, ρ1, E1, Le.refl _, by simpa using e2⟩, ?_⟩
  rintro i m' σ H ⟨rfl, hi, G2, ρa, Ea, ga, run⟩
  by_cases hlt : i < ds.length
  · rw [List.drop_eq_getElem_cons hlt] at run
    unfold forLoop at run
    split at run
    case isFalse => cases run
    rename_i hck
    refine .inr ⟨it.go _ _ _ _ _ i Ea ga (Same.refl _) hck hlt, fun σ' H' => ∃ m', m' < ds.length - i ∧ m' = ds.length - (i + 1) ∧ i + 1 ≤ ds.length ∧ ∃ G ρ, EOk X.K cl F T' G H' σ' ρ ∧ Le G1 G ∧ forLoop (ckOf lk ds) t m (ds.drop (i + 1)) ρ = some fl1, fun σ' H' ⟨m', k1, k2, k3, k4⟩ => ⟨m', k1, k2, k3, k4⟩, fun x H2 y => ?_⟩
    have hd : ds[i]? = some ds[i] := by simp [hlt]
    obtain ⟨G3, gr, R3⟩ := it.yld _ _ _ _ _ i _ x H2 Ea ga (Same.refl _) hck hd y
    have E3 := Ea.grow gr
    simp only [Option.bind_eq_some_iff] at run
    obtain ⟨ρb, k1, fl2, k2, k3⟩ := run
    obtain ⟨σ2, q1, E4, _⟩ := tok _ _ _ _ _ _ _ _ _ E3 R3 k1
    refine q1 _ ⟨F, T', G3, ρb, fl2, E4, k2, ?_⟩
    have ga3 := ga.trans gr.gg
    cases fl2 with
    | nx ρ2 => exact fun σ' G' H' g E' => ⟨_, by omega, rfl, hlt, G', ρ2, E', ga3.trans g, k3⟩
    | ct ρ2 => exact fun σ' G' H' g E' => ⟨_, by omega, rfl, hlt, G', ρ2, E', ga3.trans g, k3⟩
    | bk ρ2 =>
      cases k3
      exact fun σ' G' H' g E' => q' σ' G' H' (ga3.trans g) E'
    | rt d ρ2 =>
      cases k3
      exact fun v σ' G' H' g E' R => q' v σ' G' H' (ga3.trans g) E' R
    | ro d ρ2 =>
      cases k3
      exact fun p σ' G' H' g E' => q' p σ' G' H' (ga3.trans g) E'
  · have hie : i = ds.length := by omega
    subst hie
    rw [List.drop_length] at run
    unfold forLoop at run
    split at run
    case isFalse => cases run
    rename_i hck
    simp only [Option.some.injEq] at run
    subst run
    exact .inl ⟨it.stop _ _ _ _ _ _ Ea ga (Same.refl _) hck (Nat.le_refl _), q' σ G2 H ga Ea⟩
/-- at most so many turns -/
def whileLoop : Nat → Tx → Sx → En → Option Fl
  | 0, _, _, _ => none
  | n + 1, t, body, ρ => (t ρ).bind fun p => if p.1 = true then (body p.2).bind fun fl => match fl with
      | .nx ρ2 => whileLoop n t body ρ2
      | .ct ρ2 => whileLoop n t body ρ2
      | .bk ρ2 => some (.nx ρ2)
      | .rt d ρ2 => some (.rt d ρ2)
      | .ro d ρ2 => some (.ro d ρ2)
    else some (.nx p.2)
def sWhile (n : Nat) (t : Tx) (body : Sx) : Sx := fun ρ => whileLoop n t body ρ
theorem st_while {body : List Stmt} (k : Nat) (hp : PassesOwn (model X.prog X.w) X.A X.env X.xe) (hc : PDT X cl c tc) (hb : PDB X cl body m) : PDS X cl (.While c body [] pos) (sWhile k tc m) := by
  refine ps_imp (ps_while hp hc hb) fun D σ H h => ?_
  obtain ⟨F, T, G, ρ, fl, E, e, q⟩ := h
  refine ⟨fun k σ H => ∃ G1 ρ, EOk X.K cl F T G1 H σ ρ ∧ Le G G1 ∧ whileLoop k tc m ρ = some fl, ⟨k, G, ρ, E, Le.refl _, e⟩, ?_⟩
  rintro k σ H ⟨G1, ρ1, E1, g1, run⟩
  cases k with
  | zero => cases run
  | succ k =>
    simp only [whileLoop, Option.bind_eq_some_iff] at run
    obtain ⟨⟨b, ρ2⟩, k1, k2⟩ := run
    refine ⟨F, T, G1, ρ1, b, ρ2, E1, k1, fun G2 H2 g2 E2 => ?_⟩
    cases b with
    | false =>
      refine iteF ?_
      simp only [Bool.false_eq_true, if_false, Option.some.injEq] at k2
      subst k2
      exact q σ G2 H2 (g1.trans g2) E2
    | true =>
      refine iteT ?_
      simp only [if_true, Option.bind_eq_some_iff] at k2
      obtain ⟨fl2, k3, k4⟩ := k2
      refine ⟨fun σ' H' => ∃ G1 ρ, EOk X.K cl F T G1 H' σ' ρ ∧ Le G G1 ∧ whileLoop k tc m ρ = some fl, fun σ' H' h => ⟨k, Nat.lt_succ_self k, h⟩, F, T, G2, ρ2, fl2, E2, k3, ?_⟩
      have g3 := g1.trans g2
      cases fl2 with
      | nx ρ2 => exact fun σ' G' H' g E' => ⟨G', ρ2, E', g3.trans g, k4⟩
      | ct ρ2 => exact fun σ' G' H' g E' => ⟨G', ρ2, E', g3.trans g, k4⟩
      | bk ρ2 =>
        cases k4
        exact fun σ' G' H' g E' => q σ' G' H' (g3.trans g) E'
      | rt d ρ2 =>
        cases k4
        exact fun v σ' G' H' g E' R => q v σ' G' H' (g3.trans g) E' R
      | ro d ρ2 =>
        cases k4
        exact fun p σ' G' H' g E' => q p σ' G' H' (g3.trans g) E'
/-! ### an object of ours is changed in place -/
theorem EOk.mut {K : PySem.W.Frag} {F : Fm} {T : Th} {G : Kn} {H : Hp} {σ : L2.St} {ρ : En} {a : Addr} {o : HO} {w : Option Nat} {d d' : D} (E : EOk K cl F T G H σ ρ) (hi : ρ.sl[i]? = some (.own w d)) (ha : σ[i]? = some (some (.ref a))) (ow : OwnAt K cl G (upd H a o) a d') : EOk K cl F T G (upd H a o) σ (ρ.set i (.own w d')) := by
  obtain ⟨a', h1, h2, h3, h4, h5⟩ := E.own i w d hi
  rw [ha] at h1; cases h1
  have hl : i < ρ.sl.length := (List.getElem?_eq_some_iff.mp hi).1
  have apart : ∀ {j : Nat} {b : Addr} {x : Sl}, i ≠ j → ρ.sl[j]? = some x → x.obj ≠ none → σ[j]? = some (some (.ref b)) → b ≠ a := fun {j b x} hj e1 e2 e3 z => by
    subst z
    exact hj (E.sep i j b _ x hi e1 (by simp [Sl.obj]) e2 ha e3)
  refine ⟨by simpa using E.len, fun j d' h' => ?_, fun j w d' h' => ?_, fun j w d' h' => ?_, fun j k b x y e1 e2 e3 e4 e5 e6 => ?_, E.g0, E.gt, fun b u hb => ?_, fun b u hb => ?_, fun b hb => ?_, E.cs.off h2.2⟩
  · by_cases hj : i = j
    · subst hj; rw [List.getElem?_set_self hl] at h'; cases h'
    · rw [List.getElem?_set_ne hj] at h'; exact E.val j d' h'
  · by_cases hj : i = j
    · subst hj; rw [List.getElem?_set_self hl] at h'; cases h'
      exact ⟨a, ha, h2, h3, h4, ow⟩
    · rw [List.getElem?_set_ne hj] at h'
      obtain ⟨b, k1, k2, k3, k4, k5⟩ := E.own j w d' h'
      exact ⟨b, k1, k2, k3, k4, k5.at (Le.refl _) (upd_ne (apart hj h' (by simp [Sl.obj]) k1))⟩
  · by_cases hj : i = j
    · subst hj; rw [List.getElem?_set_self hl] at h'; cases h'
    · rw [List.getElem?_set_ne hj] at h'
      obtain ⟨b, u, k1, k2, k3, k4, k5⟩ := E.lck j w d' h'
      exact ⟨b, u, k1, k2, k3, k4, k5.at (Le.refl _) (upd_ne (apart hj h' (by simp [Sl.obj]) k1))⟩
  · have back : ∀ {j : Nat} {x : Sl}, (ρ.set i (.own w d')).sl[j]? = some x → x.obj ≠ none → ∃ y, ρ.sl[j]? = some y ∧ y.obj ≠ none := fun {j x} e n => by
      by_cases hj : i = j
      · subst hj; exact ⟨_, hi, by simp [Sl.obj]⟩
      · rw [List.getElem?_set_ne hj] at e; exact ⟨x, e, n⟩
    obtain ⟨x', f1, f2⟩ := back e1 e3
    obtain ⟨y', f3, f4⟩ := back e2 e4
    exact E.sep j k b x' y' f1 f3 f2 f4 e5 e6
  · rw [upd_ne (fun z => by subst z; rw [h2.1] at hb; cases hb)]; exact E.gh b u hb
  · rw [upd_ne (fun z => by subst z; rw [h3] at hb; cases hb)]; exact E.th b u hb
  · by_cases hb' : b = a
    · subst hb'; rw [upd_same]; simp
    · rw [upd_ne hb']; exact E.wh b hb
/-- a cell's object is changed -/
theorem EOk.mutC {K : PySem.W.Frag} {F : Fm} {T : Th} {G : Kn} {H : Hp} {σ : L2.St} {ρ : En} {n : Nat} {a : Addr} {o : HO} {d d' : D} (E : EOk K cl F T G H σ ρ) (hn : ρ.st[n]? = some (some d)) (ha : G.A[n]? = some a) (ow : OwnAt K cl G (upd H a o) a d') : EOk K cl F T G (upd H a o) σ (ρ.put n (some d')) := by
  obtain ⟨a', h1, h2, h3⟩ := E.cs.got n d hn
  rw [ha] at h1; cases h1
  have am : a ∈ G.A := List.mem_of_getElem? ha
  have hl : n < ρ.st.length := (List.getElem?_eq_some_iff.mp hn).1
  refine ⟨E.len, E.val, fun i w d h => ?_, fun i w d h => ?_, E.sep, E.g0, E.gt, fun b u hb => ?_, fun b u hb => ?_, fun b hb => ?_, ⟨?_, E.cs.nd, E.cs.th, E.cs.fw, fun b hb => ?_, fun m c h => ?_⟩⟩
  · obtain ⟨b, k1, k2, k3, k4, k5⟩ := E.own i w d h
    exact ⟨b, k1, k2, k3, k4, k5.at (Le.refl _) (upd_ne (fun z => k2.2 (by rw [z]; exact am)))⟩
  · obtain ⟨b, u, k1, k2, k3, k4, k5⟩ := E.lck i w d h
    exact ⟨b, u, k1, k2, k3, k4, k5.at (Le.refl _) (upd_ne (fun z => k2.2 (by rw [z]; exact am)))⟩
  · rw [upd_ne (fun z => by subst z; rw [h2] at hb; cases hb)]; exact E.gh b u hb
  · rw [upd_ne (fun z => by subst z; rw [E.cs.th _ am] at hb; cases hb)]; exact E.th b u hb
  · rw [upd_ne (fun z => E.cs.fw _ am (by rw [← z]; exact hb))]; exact E.wh b hb
  · show G.A.length = (ρ.st.set n (some d')).length
    rw [List.length_set]; exact E.cs.len
  · by_cases z : b = a
    · subst z; rw [upd_same]; simp
    · rw [upd_ne z]; exact E.cs.hh b hb
  · replace h : (ρ.st.set n (some d'))[m]? = some (some c) := h
    by_cases z : n = m
    · subst z
      rw [List.getElem?_set_self hl] at h; cases h
      exact ⟨a, ha, h2, ow⟩
    · rw [List.getElem?_set_ne z] at h
      obtain ⟨b, k1, k2, k3⟩ := E.cs.got m c h
      refine ⟨b, k1, k2, k3.at (Le.refl _) (upd_ne (fun zz => z ?_))⟩
      subst zz
      obtain ⟨l1, g1⟩ := List.getElem?_eq_some_iff.mp ha
      obtain ⟨l2, g2⟩ := List.getElem?_eq_some_iff.mp k1
      exact (List.getElem_inj E.cs.nd).mp (g1.trans g2.symm)
/-- where an object stands that may be changed -/
inductive Plc where
  | slot (i : Nat) | cell (n : Nat)
def plc : RV → Option Plc
  | .ref i => some (.slot i)
  | .val (.cel n) => some (.cell n)
  | _ => none
def En.obj (ρ : En) : Plc → Option D
  | .slot i => match ρ.sl[i]? with
    | some (.own _ d) => some d
    | _ => none
  | .cell n => match ρ.st[n]? with
    | some (some d) => some d
    | _ => none
def En.upd (ρ : En) (l : Plc) (d : D) : En := match l with
  | .slot i => match ρ.sl[i]? with
    | some (.own w _) => ρ.set i (.own w d)
    | _ => ρ
  | .cell n => ρ.put n (some d)
theorem EOk.obj {K : PySem.W.Frag} {F : Fm} {T : Th} {G : Kn} {H : Hp} {σ : L2.St} {ρ : En} {v : V} {r : RV} {l : Plc} {d : D} (E : EOk K cl F T G H σ ρ) (R : RvOk K cl G σ v r) (e : plc r = some l) (h : ρ.obj l = some d) :
    ∃ a, v = .ref a ∧ G.h a = none ∧ OwnAt K cl G H a d ∧ ∀ o d', OwnAt K cl G (L2.upd H a o) a d' → EOk K cl F T G (L2.upd H a o) σ (ρ.upd l d') := by
  unfold plc at e
  split at e
  · rename_i i
    cases e
    simp only [En.obj] at h
    split at h
    · rename_i w d0 q
      cases h
      obtain ⟨a, h1, h2, h3, h4, h5⟩ := E.own i w _ q
      have hv : σ[i]? = some (some v) := R
      rw [h1] at hv; cases hv
      refine ⟨a, rfl, h2.1, h5, fun o d' ow => ?_⟩
      simp only [En.upd, q]
      exact E.mut q h1 ow
    · cases h
  · rename_i n
    cases e
    simp only [En.obj] at h
    split at h
    · rename_i d0 q
      cases h
      obtain ⟨a, h1, h2, h3⟩ := E.cs.got n _ q
      cases R with
      | cel k =>
        rw [h1] at k; cases k
        exact ⟨a, rfl, h2, h3, fun o d' ow => E.mutC q h1 ow⟩
    · cases h
  · cases e
/-- a method that changes its object and hands back None -/
def MutD (X : Cx) (cl : String → Option Addr) (id : String) (g : D → List D → Option D) : Prop := MtR X id fun x xs H Q => ∃ (a : Addr) (G : Kn) (d : D) (ds : List D) (d' : D), x = .ref a ∧ Same G.h H ∧ G.h a = none ∧ OwnAt X.K cl G H a d ∧ Reps X.K cl G xs ds ∧ g d ds = some d' ∧
  ∀ o, OwnAt X.K cl G (upd H a o) a d' → Q .non (upd H a o)
def mutAt (g : D → List D → Option D) (l : Plc) (ds : List D) (ρ : En) : Option (RV × En) := (ρ.obj l).bind fun d => (g d ds).map fun d' => (.val .non, ρ.upd l d')
def isLst : D → Bool
  | .list _ => true
  | _ => false
def listAt (ρ : En) (r : RV) : Option Plc := (plc r).bind fun l => (ρ.obj l).bind fun d => if isLst d = true then some l else none
def eMutL (g : D → List D → Option D) (mo : Ex) (mx : Ax) : Ex := fun ρ => (mo ρ).bind fun p => (listAt p.2 p.1).bind fun l => (mx p.2).bind fun q => (escs q.2 q.1).bind fun s => mutAt g l s.1 s.2
theorem isList_ty {K : PySem.W.Frag} {G : Kn} {H : Hp} {a : Addr} {d : D} (h : Top K cl G H (.ref a) d) (e : isLst d = true) : tyV K "list" (.ref a) H := by
  cases h with
  | list k l r => exact Or.inl ⟨rfl, _, SqL.of k⟩
  | _ => cases e
theorem d_mutL {o e : Expr} {es : List Expr} {mo : Ex} {mx : Ax} {name : Str} {apos cpos : Pos} {id : String} {g : D → List D → Option D} (slot : Slot "list" name id) (hty : typeOf (.builtin id) = pure (.type "method_descriptor")) (hm : MutD X cl id g) (ho : PD X cl o mo) (ha : PDA X cl (e :: es) mx)
    (hbase : attributeBase o name X.env (eval o X.env) = eval o X.env := by rfl)
    (hfew : ((backTo cpos (starEach (e :: es) X.env)).all (fun x => !x.1) && (backToKw cpos (keywordEach [] X.env)).all (fun x => x.1.isSome)
      && decide ((e :: es).length + ([] : List Keyword).length + (if ([] : List Keyword).isEmpty then 0 else 1) < 30)) = true := by rfl)
    (hline : (apos.endLine == cpos.line) = true := by rfl) (hs : starEach (e :: es) X.env = (false, eval e X.env) :: starEach es X.env := by rfl) (hplain : (backTo cpos (starEach es X.env)).any (·.1) = false := by rfl) :
    PD X cl (.Call (.Attribute o name apos) (e :: es) [] cpos) (eMutL g mo mx) := by
  refine pe_imp (pe_bm PySem.F.plainAttrs_list slot hty hm ho ha hbase hfew hline hs hplain) fun σ H Q h => ?_
  obtain ⟨F, T, G, ρ, r, ρ', E, e1, q⟩ := h
  simp only [eMutL, Option.bind_eq_some_iff] at e1
  obtain ⟨⟨r1, ρ1⟩, e1, i, e2, ⟨rs, ρ2⟩, e3, ⟨ds, ρ3⟩, e4, e5⟩ := e1
  refine ⟨F, T, G, ρ, r1, ρ1, E, e1, fun v G1 H1 g1 E1 R1 => ?_⟩
  have e2' : listAt ρ1 r1 = some i := e2
  simp only [listAt, Option.bind_eq_some_iff] at e2'
  obtain ⟨l, f1, d0, f2, f3⟩ := e2'
  split at f3
  case isFalse => cases f3
  rename_i hl
  cases f3
  obtain ⟨a, rfl, k2, k3, _⟩ := E1.obj R1 f1 f2
  refine ⟨isList_ty k3.2 hl, F, T, G1, ρ1, rs, ρ2, E1, e3, fun vs G2 H2 g2 E2 R2 => ?_⟩
  have e4' : DL.escs ρ2 rs = some (ds, ρ3) := e4
  obtain ⟨G3, g3, E3, R3⟩ := E2.escs R2 e4'
  have e5' : mutAt g i ds ρ3 = some (r, ρ') := e5
  simp only [mutAt, Option.bind_eq_some_iff, Option.map_eq_some_iff, Prod.mk.injEq] at e5'
  obtain ⟨d, f4, d', f5, rfl, rfl⟩ := e5'
  obtain ⟨b, hb, f6, f7, f8⟩ := E3.obj ((R1.mono g2).mono g3) f1 f4
  cases hb
  exact ⟨a, G3, d, ds, d', rfl, E3.gh, f6, f7, R3, f5, fun o ow => q _ G3 _ (g1.trans (g2.trans g3)) (f8 o d' ow) .non⟩
def gApp : D → List D → Option D
  | .list xs, [d] => if xs.length < sizeLine then some (.list (xs ++ [d])) else none
  | _, _ => none
def gExt : D → List D → Option D
  | .list xs, [.list ds] => if xs.length + ds.length ≤ sizeLine then some (.list (xs ++ ds)) else none
  | _, _ => none
def gIns : D → List D → Option D
  | .list xs, [.int i, d] => if xs.length < sizeLine ∧ 0 ≤ i ∧ i < 2 ^ 63 then some (.list (xs.take i.toNat ++ [d] ++ xs.drop i.toNat)) else none
  | _, _ => none
theorem m_app : MutD X cl "list.append" gApp := by
  intro pins s σ H x xs v us Q I rx rv h
  obtain ⟨a, G, d, ds, d', rfl, gh, gn, ow, R, e, q⟩ := h
  unfold gApp at e
  split at e
  · split at e
    · rename_i hz
      cases e
      cases ow.2 with | list k l r =>
      cases R with | cons r1 r2 =>
      cases r2
      rw [← r.length] at hz
      exact mt_append pins s σ H _ _ v us Q I rx rv ⟨_, _, _, rfl, rfl, k, hz, q _ ⟨rfl, .list upd_same (by rw [List.length_append]; exact hz) (r.append (.cons r1 .nil))⟩⟩
    · cases e
  · cases e
theorem m_ext : MutD X cl "list.extend" gExt := by
  intro pins s σ H x xs v us Q I rx rv h
  obtain ⟨a, G, d, ds, d', rfl, gh, gn, ow, R, e, q⟩ := h
  unfold gExt at e
  split at e
  · split at e
    · rename_i hz
      cases e
      cases ow.2 with | list k l r =>
      cases R with | cons r1 r2 =>
      cases r2
      cases r1 with | list k' l' r' =>
      rw [← r.length, ← r'.length] at hz
      exact mt_extend pins s σ H _ _ v us Q I rx rv ⟨_, _, _, _, rfl, rfl, k, gh _ _ k', hz, q _ ⟨rfl, .list upd_same (by rw [List.length_append]; exact hz) (r.append r')⟩⟩
    · cases e
  · cases e
theorem m_ins : MutD X cl "list.insert" gIns := by
  intro pins s σ H x xs v us Q I rx rv h
  obtain ⟨a, G, d, ds, d', rfl, gh, gn, ow, R, e, q⟩ := h
  unfold gIns at e
  split at e
  · split at e
    · rename_i hz
      cases e
      cases ow.2 with | list k l r =>
      cases R with | cons r1 r2 =>
      cases r2 with | cons r2 r3 =>
      cases r3
      cases r1
      obtain ⟨hz, h0, h1⟩ := hz
      rw [← r.length] at hz
      refine mt_insert pins s σ H _ _ v us Q I rx rv ⟨_, _, _, _, rfl, rfl, k, hz, h0, h1, q _ ⟨rfl, .list upd_same ?_ (((r.take _).append (.cons r2 .nil)).append (r.drop _))⟩⟩
      rw [List.length_append, List.length_append, List.length_take, List.length_drop, List.length_singleton]
      omega
    · cases e
  · cases e
end
end DL

/-! E7: stores by place and key; a def's body keeps its promise -/
namespace DL
open PySem L2

section
variable {X : Cx} {cl : String → Option Addr} {o i value : Expr} {mo mi mv : Ex} {pos pos' : Pos}
/-! ### x[i] = e of a list or a dict of ours -/
def putD (ks : List (Key × D)) (k : Key) (v : D) : List (Key × D) :=
  if (ks.any fun kv => decide (kv.1 = k)) = true then ks.map (fun kv => if kv.1 = k then (kv.1, v) else kv) else ks ++ [(k, v)]
theorem RepK.any {K : PySem.W.Frag} {G : Kn} {k : Key} : ∀ {kvs : List (Key × V)} {ks : List (Key × D)}, RepK K cl G kvs ks → (kvs.any fun kv => decide (kv.1 = k)) = ks.any fun kv => decide (kv.1 = k)
  | _, _, .nil => rfl
  | _, _, .cons h r => by simp only [List.any_cons, RepK.any r]
theorem RepK.upd {K : PySem.W.Frag} {G : Kn} {k : Key} {v : V} {d : D} (hd : Rep K cl G v d) : ∀ {kvs : List (Key × V)} {ks : List (Key × D)}, RepK K cl G kvs ks → RepK K cl G (kvs.map fun kv => if kv.1 = k then (kv.1, v) else kv) (ks.map fun kv => if kv.1 = k then (kv.1, d) else kv)
  | _, _, .nil => .nil
  | _, _, .cons (k := k') h r => by
    simp only [List.map_cons]
    by_cases c : k' = k
    · simp only [c, if_true]; exact .cons hd (RepK.upd hd r)
    · simp only [c, if_false]; exact .cons h (RepK.upd hd r)
theorem RepK.snoc {K : PySem.W.Frag} {G : Kn} {k : Key} {v : V} {d : D} (hd : Rep K cl G v d) : ∀ {kvs : List (Key × V)} {ks : List (Key × D)}, RepK K cl G kvs ks → RepK K cl G (kvs ++ [(k, v)]) (ks ++ [(k, d)])
  | _, _, .nil => .cons hd .nil
  | _, _, .cons h r => .cons h (RepK.snoc hd r)
theorem RepK.put {K : PySem.W.Frag} {G : Kn} {k : Key} {v : V} {d : D} {kvs : List (Key × V)} {ks : List (Key × D)} (hd : Rep K cl G v d) (r : RepK K cl G kvs ks) : RepK K cl G (putK kvs k v) (putD ks k d) := by
  unfold putK putD
  rw [r.any]
  split
  · exact r.upd hd
  · exact r.snoc hd
theorem putK_len {kvs : List (Key × V)} {k : Key} {v : V} (h : kvs.length < sizeLine) : (putK kvs k v).length ≤ sizeLine := by
  unfold putK
  split
  · rw [List.length_map]; omega
  · rw [List.length_append, List.length_singleton]; omega
/-- what a store makes of the object -/
def storeD : D → D → D → Option D
  | .list ds, .int k, v => (ixN ds.length k).map fun j => .list (ds.set j v)
  | .dict ks, e, v => (keyOf e).bind fun k => if ks.length < sizeLine then some (.dict (putD ks k v)) else none
  | _, _, _ => none
def sStore (mo mi mv : Ex) : Sx := fun ρ => (mv ρ).bind fun p => (esc p.2 p.1).bind fun q => (mo q.2).bind fun r => (mi r.2).bind fun s => (plc r.1).bind fun l => (s.2.obj l).bind fun d => (peek s.2 s.1).bind fun e => (storeD d e q.1).map fun d' => .nx (s.2.upd l d')
theorem st_store (hu : X.A.units + 64 < cLine) (ho : PD X cl o mo) (hi : PD X cl i mi) (hv : PD X cl value mv)
    (ha : ∀ v, assign (.Subscript o i pos') X.env v = (do
      let ov ← holding [v] (eval o X.env)
      let iv ← holding [v, ov] (eval i X.env)
      standAt pos'
      holding [v, ov, iv] (setItem ov iv v)
      release [v, ov, iv] []) := by intro _; rfl)
    (hs : swapsWithSole [.Subscript o i pos'] value pos.line X.env = pure false := by rfl) (hw : swappedStores [.Subscript o i pos'] value X.env = pure none := by rfl) (h1 : (assignEach [.Subscript o i pos'] X.env).map (·.2) = [assign (.Subscript o i pos') X.env] := by rfl)
    (hs2 : swapsWith value (some (.Subscript o i pos')) pos.line X.env = pure false := by rfl) :
    PDS X cl (.Assign [.Subscript o i pos'] value pos) (sStore mo mi mv) := by
  have k1 : PS X (.Assign [.Subscript o i pos'] value pos) _ := ps_asg hv (pg_sub ho hi set_list ha) hs hw h1
  have k2 : PS X (.Assign [.Subscript o i pos'] value pos) _ := ps_dput (by omega) ho hi hv hs2
  refine ps_imp (ps_either k1 k2) fun D σ H h => ?_
  obtain ⟨F, T, G, ρ, fl, E, e, q⟩ := h
  simp only [sStore, Option.bind_eq_some_iff, Option.map_eq_some_iff] at e
  obtain ⟨⟨rv, ρ1⟩, e1, ⟨dv, ρ2⟩, e2, ⟨ro, ρ3⟩, e3, ⟨ri, ρ4⟩, e4, l, e5, d, e5', de, e6, d', e7, rfl⟩ := e
  have e2' : DL.esc ρ1 rv = some (dv, ρ2) := e2
  have e7' : storeD d de dv = some d' := e7
  unfold storeD at e7'
  split at e7'
  · rename_i ds k
    simp only [Option.map_eq_some_iff] at e7'
    obtain ⟨n, e8, rfl⟩ := e7'
    refine .inl ⟨F, T, G, ρ, rv, ρ1, E, e1, fun x G1 H1 g1 E1 R1 => ?_⟩
    obtain ⟨G2, g2, E2, R2⟩ := E1.esc R1 e2'
    refine ⟨F, T, G2, ρ2, _, ρ3, E2, e3, fun xo G3 H3 g3 E3 R3 => ?_⟩
    refine ⟨F, T, G3, ρ3, ri, ρ4, E3, e4, fun xi G4 H4 g4 E4 R4 => ?_⟩
    have ti := E4.top R4 e6
    cases ti
    obtain ⟨a, rfl, f3, f5, f6⟩ := E4.obj (R3.mono g4) e5 e5'
    cases f5.2 with | list kk l r =>
    refine ⟨a, _, k, n, rfl, rfl, kk, by rw [r.length]; exact e8, ?_⟩
    refine q σ G4 _ (g1.trans (g2.trans (g3.trans g4))) (f6 _ _ ⟨rfl, .list upd_same (by rw [List.length_set]; exact l) (r.set n (R2.mono (g3.trans g4)))⟩)
  · rename_i ks
    simp only [Option.bind_eq_some_iff] at e7'
    obtain ⟨k, e8, e9⟩ := e7'
    split at e9
    · rename_i hz
      cases e9
      refine .inr ⟨F, T, G, ρ, rv, ρ1, E, e1, fun x G1 H1 g1 E1 R1 => ?_⟩
      obtain ⟨G2, g2, E2, R2⟩ := E1.esc R1 e2'
      refine ⟨F, T, G2, ρ2, _, ρ3, E2, e3, fun xo G3 H3 g3 E3 R3 => ?_⟩
      refine ⟨F, T, G3, ρ3, ri, ρ4, E3, e4, fun xi G4 H4 g4 E4 R4 => ?_⟩
      have ti := E4.top R4 e6
      obtain ⟨a, rfl, f3, f5, f6⟩ := E4.obj (R3.mono g4) e5 e5'
      cases f5.2 with | dict kk l r =>
      rw [← r.length] at hz
      refine ⟨a, _, rfl, by rw [key_top ti e8]; exact DPut.k kk hz, ?_⟩
      exact q σ G4 _ (g1.trans (g2.trans (g3.trans g4))) (f6 _ _ ⟨rfl, .dict upd_same (putK_len hz) (r.put (R2.mono (g3.trans g4)))⟩)
    · cases e9
  · cases e7'
end

/-! ### a def's body -/
/-- the places at the entry -/
def lend : Nat → Nat → List D → List Sl
  | _, _, [] => []
  | j, 0, d :: ds => .val d :: lend (j + 1) 0 ds
  | j, n + 1, d :: ds => .own (some j) d :: lend (j + 1) n ds
/-- what the lent objects are at the end -/
def gave (ρ : En) : Nat → Nat → Option (List D)
  | _, 0 => some []
  | j, n + 1 => match ρ.sl[j]? with
    | some (.own (some k) d) => if k = j then (gave ρ (j + 1) n).map fun ds => d :: ds else none
    | _ => none
/-- the frame at the entry: no cells -/
def entE (N nio : Nat) (args : List D) : En := ⟨lend 0 nio args ++ List.replicate (N - args.length) .emp, []⟩
def fnBody (N nio : Nat) (body : Sx) : Fn := fun args => (body (entE N nio args)).bind fun fl => match fl with
  | .rt d ρ => (gave ρ 0 nio).bind fun os => if pureOk ρ.st (d :: os) = true then some (.ok d, os) else none
  | .nx ρ => (gave ρ 0 nio).bind fun os => if pureOk ρ.st os = true then some (.ok .non, os) else none
  | _ => none
def fnBodyO (N nio : Nat) (body : Sx) : Fn := fun args => (body (entE N nio args)).bind fun fl => match fl with
  | .ro d ρ => (gave ρ 0 nio).bind fun os => if pureOk ρ.st (d :: os) = true then some (.ok d, os) else none
  | _ => none
def entryT (H : Hp) (as : List Addr) : Th := ⟨fun b => if b ∈ as then none else H b, fun _ => none⟩
theorem lend_len : ∀ (ds : List D) (j n : Nat), (lend j n ds).length = ds.length
  | [], _, _ => by simp [lend]
  | d :: ds, j, 0 => by simp [lend, lend_len ds]
  | d :: ds, j, n + 1 => by simp [lend, lend_len ds]
theorem lend_at : ∀ (ds : List D) (j n i : Nat) (x : Sl), (lend j n ds)[i]? = some x → ∃ d, ds[i]? = some d ∧ ((i < n ∧ x = .own (some (j + i)) d) ∨ (n ≤ i ∧ x = .val d))
  | [], _, _, _, _, h => by simp [lend] at h
  | d :: ds, j, 0, 0, x, h => by simp [lend] at h; exact ⟨d, rfl, .inr ⟨Nat.le_refl _, h.symm⟩⟩
  | d :: ds, j, n + 1, 0, x, h => by simp [lend] at h; exact ⟨d, rfl, .inl ⟨by omega, by rw [← h]; simp⟩⟩
  | d :: ds, j, 0, i + 1, x, h => by
    have h' : (lend (j + 1) 0 ds)[i]? = some x := by simpa [lend] using h
    obtain ⟨d', h1, h2⟩ := lend_at ds _ _ i x h'
    refine ⟨d', by simpa using h1, ?_⟩
    rcases h2 with ⟨h2, h3⟩ | ⟨h2, h3⟩
    · omega
    · exact .inr ⟨by omega, h3⟩
  | d :: ds, j, n + 1, i + 1, x, h => by
    have h' : (lend (j + 1) n ds)[i]? = some x := by simpa [lend] using h
    obtain ⟨d', h1, h2⟩ := lend_at ds _ _ i x h'
    refine ⟨d', by simpa using h1, ?_⟩
    rcases h2 with ⟨h2, h3⟩ | ⟨h2, h3⟩
    · exact .inl ⟨by omega, by rw [h3, Nat.add_assoc, Nat.add_comm 1 i]⟩
    · exact .inr ⟨by omega, h3⟩
theorem paired_get' {α β : Type} {R : α → β → Prop} {as : List α} {bs : List β} (h : Paired R as bs) : ∀ {i : Nat} {b : β}, bs[i]? = some b → ∃ a, as[i]? = some a ∧ R a b := by
  induction h with
  | nil => intro i b e; simp at e
  | cons h1 _ ih =>
    intro i b e
    cases i with
    | zero => simp at e; subst e; exact ⟨_, rfl, h1⟩
    | succ i =>
      obtain ⟨a, k1, k2⟩ := ih (i := i) (b := b) (by simpa using e)
      exact ⟨a, by simpa using k1, k2⟩
theorem paired_len {α β : Type} {R : α → β → Prop} {as : List α} {bs : List β} (h : Paired R as bs) : as.length = bs.length := by
  induction h with
  | nil => rfl
  | cons _ _ ih => simp [ih]
section
variable {K : PySem.W.Frag} {cl : String → Option Addr} {H : Hp}
theorem entry_ok {G : Hp} {N : List Str} {as : List Addr} {ios ds : List D} {xs : List V} (hN : as.length + xs.length ≤ N.length) (nd : as.Nodup) (ow : Paired (OwnAt K cl (.of G) H) as ios) (gn : ∀ a ∈ as, G a = none) (R : Reps K cl (.of G) xs ds) (gh : Same G H) :
    EOk K cl ⟨.of G, as⟩ (entryT H as) (.of G) H (L2.start N (as.map V.ref ++ xs)) (entE N.length as.length (ios ++ ds)) := by
  have l1 : as.length = ios.length := paired_len ow
  have l2 : xs.length = ds.length := R.length
  have at_ : ∀ {i : Nat} {x : Sl}, (lend 0 as.length (ios ++ ds) ++ List.replicate (N.length - (ios ++ ds).length) .emp)[i]? = some x → x = .emp ∨ ∃ d, (ios ++ ds)[i]? = some d ∧ ((i < as.length ∧ x = .own (some i) d) ∨ (as.length ≤ i ∧ x = .val d)) := fun {i x} h => by
    by_cases hi : i < (lend 0 as.length (ios ++ ds)).length
    · rw [List.getElem?_append_left hi] at h
      obtain ⟨d, h1, h2⟩ := lend_at _ _ _ _ _ h
      refine .inr ⟨d, h1, ?_⟩
      rwa [Nat.zero_add] at h2
    · rw [List.getElem?_append_right (by omega)] at h
      have := List.mem_of_getElem? h
      rw [List.mem_replicate] at this
      exact .inl this.2
  have st : ∀ {i : Nat} {v : V}, (as.map V.ref ++ xs)[i]? = some v → (L2.start N (as.map V.ref ++ xs))[i]? = some (some v) := fun {i v} h => by
    unfold L2.start
    have hi := (List.getElem?_eq_some_iff.mp h).1
    rw [List.getElem?_append_left (by rw [List.length_map]; exact hi), List.getElem?_map, h]; rfl
  have own : ∀ {i : Nat} {d : D}, i < as.length → (ios ++ ds)[i]? = some d → ∃ a, as[i]? = some a ∧ (L2.start N (as.map V.ref ++ xs))[i]? = some (some (.ref a)) ∧ OwnAt K cl (.of G) H a d := fun {i d} h1 h2 => by
    rw [List.getElem?_append_left (by omega)] at h2
    obtain ⟨a, k1, k2⟩ := paired_get' ow h2
    refine ⟨a, k1, st ?_, k2⟩
    rw [List.getElem?_append_left (by rw [List.length_map]; exact h1), List.getElem?_map, k1]; rfl
  refine ⟨?_, fun i d h => ?_, fun i w d h => ?_, fun i w d h => ?_, fun i j a x y e1 e2 e3 e4 e5 e6 => ?_, Le.refl _, fun b hb => .inl hb, gh, fun b u hb => ?_, fun a ha => ?_, ⟨rfl, List.nodup_nil, (fun a ha => nomatch ha), (fun a ha => nomatch ha), (fun a ha => nomatch ha), fun n c h => by simp [entE] at h⟩⟩
  · unfold L2.start entE
    simp only [List.length_append, lend_len, List.length_map, List.length_replicate]
    omega
  · rcases at_ h with z | ⟨d', h1, ⟨h2, h3⟩ | ⟨h2, h3⟩⟩
    · cases z
    · cases h3
    · cases h3
      rw [List.getElem?_append_right (by omega)] at h1
      obtain ⟨v, k1, k2⟩ := R.get h1
      refine ⟨v, st ?_, k2⟩
      rw [List.getElem?_append_right (by rw [List.length_map]; exact h2), List.length_map, l1]
      exact k1
  · rcases at_ h with z | ⟨d', h1, ⟨h2, h3⟩ | ⟨h2, h3⟩⟩
    · cases z
    · cases h3
      obtain ⟨a, k1, k2, k3⟩ := own h2 h1
      have hm := List.mem_of_getElem? k1
      exact ⟨a, k2, ⟨gn a hm, (fun z => nomatch z)⟩, by simp [entryT, hm], k1, k3⟩
    · cases h3
  · rcases at_ h with z | ⟨d', h1, ⟨h2, h3⟩ | ⟨h2, h3⟩⟩
    · cases z
    · cases h3
    · cases h3
  · have ob : ∀ {i : Nat} {x : Sl}, (lend 0 as.length (ios ++ ds) ++ List.replicate (N.length - (ios ++ ds).length) .emp)[i]? = some x → x.obj ≠ none → (L2.start N (as.map V.ref ++ xs))[i]? = some (some (.ref a)) → as[i]? = some a := fun {i x} h n s => by
      rcases at_ h with z | ⟨d', h1, ⟨h2, h3⟩ | ⟨h2, h3⟩⟩
      · subst z; exact absurd rfl n
      · obtain ⟨b, k1, k2, _⟩ := own h2 h1
        rw [k2] at s; cases s; exact k1
      · subst h3; exact absurd rfl n
    have a1 := ob e1 e3 e5
    have a2 := ob e2 e4 e6
    obtain ⟨h1, k1⟩ := List.getElem?_eq_some_iff.mp a1
    obtain ⟨h2, k2⟩ := List.getElem?_eq_some_iff.mp a2
    exact (List.getElem_inj nd).mp (k1.trans k2.symm)
  · simp only [entryT] at hb
    split at hb
    · cases hb
    · exact hb
  · obtain ⟨o, ho⟩ := paired_there ow a ha
    rw [ho]; simp
theorem gave_ok {F : Fm} {T : Th} {G : Kn} {σ : L2.St} {ρ : En} (E : EOk K cl F T G H σ ρ) : ∀ (n j : Nat) (os : List D), gave ρ j n = some os → j + n = F.W.length → Paired (OwnAt K cl G H) (F.W.drop j) os ∧ ∀ a ∈ F.W.drop j, G.h a = none
  | 0, j, os, h, e => by
    simp only [gave, Option.some.injEq] at h
    subst h
    rw [List.drop_eq_nil_of_le (by omega)]
    exact ⟨.nil, by simp⟩
  | n + 1, j, os, h, e => by
    simp only [gave] at h
    split at h
    · rename_i k d hd
      split at h
      · rename_i hk
        subst hk
        simp only [Option.map_eq_some_iff] at h
        obtain ⟨os', h1, rfl⟩ := h
        obtain ⟨a, k1, k2, k3, k4, k5⟩ := E.own _ _ d hd
        obtain ⟨i1, i2⟩ := gave_ok E n _ os' h1 (by omega)
        have k4' : F.W[k]? = some a := k4
        obtain ⟨hl, ha⟩ := List.getElem?_eq_some_iff.mp k4'
        rw [List.drop_eq_getElem_cons hl, ha]
        refine ⟨.cons k5 i1, fun b hb => ?_⟩
        rcases List.mem_cons.mp hb with rfl | hb
        · exact k2.1
        · exact i2 b hb
      · cases h
    · cases h
theorem exit_ok {F : Fm} {G : Kn} {σ : L2.St} {ρ : En} {as : List Addr} {H0 : Hp} {os : List D} {nio : Nat} (E : EOk K cl F (entryT H0 as) G H σ ρ) (hF : F.W = as) (hn : as.length = nio) (g : gave ρ 0 nio = some os) (p : pureOk ρ.st os = true) :
    (∀ b, G.h b ≠ none → F.G0.h b ≠ none ∨ H0 b = none) ∧ (∀ b o, b ∉ as → H0 b = some o → H b = some o) ∧ Paired (OwnAt K cl (.of G.h) H) as os := by
  obtain ⟨p1, p2⟩ := gave_ok E nio 0 os g (by rw [hF]; omega)
  rw [hF, List.drop_zero] at p1 p2
  refine ⟨fun b hb => ?_, fun b o hm ho => E.th b o (by simp [entryT, hm, ho]), ?_⟩
  · rcases E.gt b hb with z | z
    · exact .inl z
    · by_cases hm : b ∈ as
      · exact absurd (p2 b hm) hb
      · simp only [entryT, hm, if_false] at z
        exact .inr z
  · exact (pure_both (xs := []) (ds := []) E (by rw [List.append_nil]; exact p) p1 .nil).1
theorem pure_one {F : Fm} {T : Th} {G : Kn} {σ : L2.St} {ρ : En} {v : V} {d : D} {os : List D} (E : EOk K cl F T G H σ ρ) (p : pureOk ρ.st (d :: os) = true) (R : Rep K cl G v d) : Rep K cl (.of G.h) v d := by
  unfold pureOk at p
  rw [Bool.or_eq_true] at p
  rcases p with p | p
  · have e := nil_of (st := ρ.st) E p
    rw [← e]; exact R
  · simp only [pureL, Bool.and_eq_true] at p
    exact R.of p.1
theorem own_one {F : Fm} {T : Th} {G : Kn} {σ : L2.St} {ρ : En} {a : Addr} {d : D} {os : List D} (E : EOk K cl F T G H σ ρ) (p : pureOk ρ.st (d :: os) = true) (R : OwnAt K cl G H a d) : OwnAt K cl (.of G.h) H a d := by
  unfold pureOk at p
  rw [Bool.or_eq_true] at p
  rcases p with p | p
  · have e := nil_of (st := ρ.st) E p
    rw [← e]; exact R
  · simp only [pureL, Bool.and_eq_true] at p
    exact R.of p.1
theorem pure_tl {st : List (Option D)} {d : D} {os : List D} (p : pureOk st (d :: os) = true) : pureOk st os = true := by
  unfold pureOk at p ⊢
  rw [Bool.or_eq_true] at p ⊢
  rcases p with p | p
  · exact .inl p
  · simp only [pureL, Bool.and_eq_true] at p
    exact .inr p.2
end
/-- THE RULE: a def's body, read by data -/
theorem fn_ok {P : Program} {w : World} {K : PySem.W.Frag} {mg : Str → Option Value} {base : Heap} {cl : String → Option Addr} {x qual : Str} {st : Stmt} {f : Addr} {fd : FuncData} {N ps : List Str} {k nio : Nat} {body : Sx} (Fu : Fun K x qual st f fd) (S : FnScope N ps (defScope st)) (hps : ps.length ≤ N.length)
    (hbody : ∀ (cdv : Value) (A : Around) (outer : List PySem.Env) (s : Shared) (H : Hp) (E : XK), Room k (A.deeper (PyProof.Rows.envOfC qual (defScope st) s.heap.objs.size f cdv)) → PDB (cxOf CX0 P w K mg base N qual (defScope st) f cdv A outer s H E).nox cl (defBody st) body) :
    FnOk P w K mg base CX0 (k + 1) f fd ps (spD K cl ps.length nio (fnBody N.length nio body)) := by
  refine Fu.ok S (fun vs H Q E h => h.1) fun cdv A outer s H vs Q E hr h => ⟨_, hbody cdv A outer s H E hr, ?_⟩
  obtain ⟨hl, G, as, ios, xs, ds, d, outs, rfl, hn, nd, ow, gn, R, gh, e, q⟩ := h
  have l1 : as.length = ios.length := paired_len ow
  have l2 : xs.length = ds.length := R.length
  rw [List.length_append, List.length_map] at hl
  simp only [fnBody, Option.bind_eq_some_iff] at e
  obtain ⟨fl, e1, e2⟩ := e
  have E0 := entry_ok (N := N) (by omega) nd ow gn R gh
  rw [hn] at E0
  refine ⟨⟨.of G, as⟩, entryT H as, .of G, _, fl, E0, e1, ?_⟩
  cases fl with
  | rt d' ρ =>
    simp only [Option.bind_eq_some_iff] at e2
    obtain ⟨os, e2, e3⟩ := e2
    split at e3
    case isFalse => cases e3
    rename_i hpu
    cases e3
    intro v σ' G' H' g E' R'
    obtain ⟨x1, x2, x3⟩ := exit_ok E' rfl hn e2 (pure_tl hpu)
    exact q v G'.h H' g.s E'.gh x1 x2 x3 (pure_one E' hpu R')
  | nx ρ =>
    simp only [Option.bind_eq_some_iff] at e2
    obtain ⟨os, e2, e3⟩ := e2
    split at e3
    case isFalse => cases e3
    rename_i hpu
    cases e3
    intro σ' G' H' g E'
    obtain ⟨x1, x2, x3⟩ := exit_ok E' rfl hn e2 hpu
    exact q .non G'.h H' g.s E'.gh x1 x2 x3 .non
  | bk ρ => cases e2
  | ct ρ => cases e2
  | ro d' ρ => cases e2
theorem fn_okO {P : Program} {w : World} {K : PySem.W.Frag} {mg : Str → Option Value} {base : Heap} {cl : String → Option Addr} {x qual : Str} {st : Stmt} {f : Addr} {fd : FuncData} {N ps : List Str} {k nio : Nat} {body : Sx} (Fu : Fun K x qual st f fd) (S : FnScope N ps (defScope st)) (hps : ps.length ≤ N.length)
    (hbody : ∀ (cdv : Value) (A : Around) (outer : List PySem.Env) (s : Shared) (H : Hp) (E : XK), Room k (A.deeper (PyProof.Rows.envOfC qual (defScope st) s.heap.objs.size f cdv)) → PDB (cxOf CX0 P w K mg base N qual (defScope st) f cdv A outer s H E).nox cl (defBody st) body) :
    FnOk P w K mg base CX0 (k + 1) f fd ps (spO K cl ps.length nio (fnBodyO N.length nio body)) := by
  refine Fu.ok S (fun vs H Q E h => h.1) fun cdv A outer s H vs Q E hr h => ⟨_, hbody cdv A outer s H E hr, ?_⟩
  obtain ⟨hl, G, as, ios, xs, ds, d, outs, rfl, hn, nd, ow, gn, R, gh, e, q⟩ := h
  have l1 : as.length = ios.length := paired_len ow
  have l2 : xs.length = ds.length := R.length
  rw [List.length_append, List.length_map] at hl
  simp only [fnBodyO, Option.bind_eq_some_iff] at e
  obtain ⟨fl, e1, e2⟩ := e
  have E0 := entry_ok (N := N) (by omega) nd ow gn R gh
  rw [hn] at E0
  refine ⟨⟨.of G, as⟩, entryT H as, .of G, _, fl, E0, e1, ?_⟩
  cases fl with
  | ro d' ρ =>
    simp only [Option.bind_eq_some_iff] at e2
    obtain ⟨os, e2, e3⟩ := e2
    split at e3
    case isFalse => cases e3
    rename_i hpu
    cases e3
    intro p σ' G' H' g E' k1 k2 k3 k4
    obtain ⟨x1, x2, x3⟩ := exit_ok E' rfl hn e2 (pure_tl hpu)
    refine q p G'.h H' g.s E'.gh x1 x2 x3 k1.1 ?_ (own_one E' hpu k4)
    have k2' : (if p ∈ as then none else H p) = none := k2
    rwa [if_neg k3] at k2'
  | rt d' ρ => cases e2
  | nx ρ => cases e2
  | bk ρ => cases e2
  | ct ρ => cases e2
/-- nothing is asked where nothing is promised -/
theorem fn_none {P : Program} {w : World} {K : PySem.W.Frag} {mg : Str → Option Value} {base : Heap} {cx : CXT} {cl : String → Option Addr} {f : Addr} {fd : FuncData} {ps : List Str} {n nio k : Nat} : FnOk P w K mg base cx k f fd ps (spD K cl n nio fun _ => none) := by
  have no : ∀ vs H Q E, ¬ spD K cl n nio (fun _ => none) vs H Q E := fun vs H Q E h => by
    obtain ⟨_, G, as, ios, xs, ds, d, outs, _, _, _, _, _, _, _, e, _⟩ := h
    cases e
  exact ⟨fun vs H Q E h => absurd h (no vs H Q E), fun A outer s H args us vs Q E _ _ _ _ h => absurd h (no vs H Q E)⟩
theorem fn_noneO {P : Program} {w : World} {K : PySem.W.Frag} {mg : Str → Option Value} {base : Heap} {cx : CXT} {cl : String → Option Addr} {f : Addr} {fd : FuncData} {ps : List Str} {n nio k : Nat} : FnOk P w K mg base cx k f fd ps (spO K cl n nio fun _ => none) := by
  have no : ∀ vs H Q E, ¬ spO K cl n nio (fun _ => none) vs H Q E := fun vs H Q E h => by
    obtain ⟨_, G, as, ios, xs, ds, d, outs, _, _, _, _, _, _, _, e, _⟩ := h
    cases e
  exact ⟨fun vs H Q E h => absurd h (no vs H Q E), fun A outer s H args us vs Q E _ _ _ _ h => absurd h (no vs H Q E)⟩
end DL

/-! E8: a tuple turned about, str(n), room -/
namespace DL
open PySem L2

theorem hu64 {k : Nat} {A : Around} (hr : Room k A) : A.units + 64 < cLine := hr.units
theorem hu65 {k : Nat} {A : Around} (hr : Room k A) : A.units + 65 < cLine := by have := hr.un; omega

section
variable {prog : Program} {w : World} {A : Around} {E : Value → Shared → Prop} {s : Shared}
open PyProof.Rows PySem.Spec
theorem fm_congr {α β : Type} {f g : α → Option β} : ∀ {l : List α}, (∀ x ∈ l, f x = g x) → l.filterMap f = l.filterMap g
  | [], _ => rfl
  | a :: l, h => by
    have ih : l.filterMap f = l.filterMap g := fm_congr fun x hx => h x (List.mem_cons_of_mem _ hx)
    rw [List.filterMap_cons, List.filterMap_cons, h a List.mem_cons_self, ih]
/-- the places of a walk down the whole -/
theorem down_pick (xs : Array Value) : ((List.range xs.size).filterMap fun (k : Nat) => xs[(((xs.size : Int) - 1) + (k : Int) * (-1)).toNat]?).toArray = xs.toList.reverse.toArray := by
  congr 1
  have h1 : ((List.range xs.size).filterMap fun (k : Nat) => xs[(((xs.size : Int) - 1) + (k : Int) * (-1)).toNat]?) = (List.range xs.size).filterMap fun k => xs[xs.size - 1 - k]? := by
    refine fm_congr fun k hk => ?_
    have := List.mem_range.mp hk
    congr 1
    omega
  have h2 : ((List.range xs.size).map fun k => xs.size - 1 - k).filterMap (xs[·]?) = (List.range xs.size).filterMap fun k => xs[xs.size - 1 - k]? := by
    rw [List.filterMap_map]; rfl
  rw [h1, ← h2, PySem.W.krv_range, List.filterMap_reverse, PySem.W.krv_all]
theorem down_places (n : Nat) : Builtin.Slice.slicePlaces ((n : Int) - 1) (-1) (-1) = n := by
  unfold Builtin.Slice.slicePlaces
  rw [if_neg (by decide)]
  by_cases h : (n : Int) - 1 > -1
  · rw [if_pos h, show (-(-1) : Int) = 1 by decide, Int.ediv_one]
    omega
  · rw [if_neg h]
    omega
theorem down_applied {sl : Addr} {vl vu vs : Value} {n : Nat} {Q : Int × Int × Nat → Shared → Prop} (hs : s.heap.IsSliceOf sl vl vu vs) (pl : IsPart vl none) (pu : IsPart vu none) (ps : IsPart vs (some (-1)))
    (h : Q ((n : Int) - 1, -1, n) s) : wpAny (model prog w) A (Builtin.Slice.sliceApplied (.ref sl) (pure (n : Int))) Q E s := by
  obtain ⟨os, ho, _, hd⟩ := id hs
  unfold Builtin.Slice.sliceApplied Builtin.Slice.sliceFields
  refine wpAny_bind (wpAny_bind (wpAny_field ho hd (x := vl) rfl (wpAny_bind (wpAny_field ho hd (x := vu) rfl (wpAny_bind (wpAny_field ho hd (x := vs) rfl (wpAny_pure ?_)))))))
  refine wpAny_bind (HT.slicePart_ ps ?_)
  show wpAny _ _ (if ((-1 : Int) == 0) = true then _ else _) _ _ s
  rw [if_neg (show ¬ ((-1 : Int) == 0) = true by decide)]
  refine wpAny_bind (HT.slicePart_ pl (wpAny_bind (HT.slicePart_ pu (wpAny_bind (wpAny_pure ?_)))))
  show wpAny _ _ (pure ((n : Int) - 1, (-1 : Int), Builtin.Slice.slicePlaces ((n : Int) - 1) (-1) (-1))) _ _ s
  rw [down_places]
  exact wpAny_pure h
theorem down_item {t sl : Addr} {xs : Array Value} {vl vu vs : Value} {Q : Value → Shared → Prop} (ht : IsTup s.heap t xs) (hs : s.heap.IsSliceOf sl vl vu vs) (pl : IsPart vl none) (pu : IsPart vu none) (ps : IsPart vs (some (-1)))
    (h : Q (.ref s.heap.objs.size) { s with heap := s.heap.push { cls := .type "tuple", data := .seq xs.toList.reverse.toArray } }) (hz : xs.size ≤ sizeLine) : wpAny (model prog w) A (getItem (.ref t) (.ref sl)) Q E s := by
  have fits : sizeOk (.seq xs.toList.reverse.toArray) := by
    show xs.toList.reverse.toArray.size ≤ sizeLine
    simpa using hz
  obtain ⟨os, ho, hcs, hd⟩ := id hs
  have isSlice : s.TypeIs (.ref sl) "slice" := ⟨os, ho, hcs⟩
  unfold getItem
  try with_reducible refine wpAny_holding ?_
  first | refine wpAny_bind (wpAny_pure ?_) | skip
  refine wpAny_bind (wpAny_sequenceKey ht.typeIs (by decide) (wpAny_bind ?_))
  refine wpAny_callSpecial?_slot (name := Str.ofString "__getitem__") ht.typeIs PyProof.Rows.slot_tuple_getitem ?_
  refine wpAny_call_entry PyProof.Rows.slot_tuple_getitem ht.typeIs entry_tuple_getitem ?_ (args_tuple_getitem _ _)
  show wpAny _ _ (Builtin.Tuple.tupleItemsOf (.ref t) >>= _) _ _ s
  refine wpAny_bind (tupleItemsOf_ ht (wpAny_bind (wpAny_typeOf isSlice ?_)))
  rw [if_pos (show (Value.type "slice" == Value.type "slice") = true by decide)]
  refine wpAny_bind (down_applied hs pl pu ps ?_)
  have no : ¬ (((xs.size : Int) - 1 == 0 && (-1 : Int) == 1 && xs.size == xs.size) = true) := by
    rw [show ((-1 : Int) == 1) = false by decide, Bool.and_false, Bool.false_and]; decide
  show wpAny _ _ (if ((xs.size : Int) - 1 == 0 && (-1 : Int) == 1 && xs.size == xs.size) = true then _ else _) _ _ s
  rw [if_neg no, down_pick]
  first
    | exact wpAny_bind (m := Builtin.Tuple.tupleExact _) (wpAny_newObj_type (wpAny_pure ⟨_, rfl, wpAny_pure h⟩) fits)
    | exact wpAny_bind (m := Builtin.Tuple.tupleExact _) (wpAny_newObj_type (wpAny_bind (wpAny_pure (wpAny_pure ⟨_, rfl, wpAny_pure h⟩))) fits)
    | exact wpAny_bind (wpAny_bind (m := Builtin.Tuple.tupleExact _) (wpAny_newObj_type (wpAny_pure (wpAny_pure ⟨_, rfl, wpAny_pure h⟩)) fits))
end
section
open PyProof.Rows
variable {X : Cx} {cl : String → Option Addr} {e : Expr} {te : TE} {me : Ex} {k : Nat} {p1 p2 p3 pos : Pos}
theorem pe_revT (he : PE X e te) : PE X (.Subscript e (.Slice none none (some (.UnaryOp .USub (.Constant (.int 1) k p1) p2)) p3) pos) (fun σ H Q => te σ H fun x H1 => ∃ a xs, x = .ref a ∧ SqT X.K H1 a xs ∧ ∀ p, H1 p = none → Q (.ref p) (upd H1 p (.tup xs.reverse))) := by
  refine ⟨fun pins s σ H Q I h => Subscript_ (thn (he.run pins s σ H _ I h) fun v s1 hv => ?_)⟩
  obtain ⟨x, H1, I1, rx, a, xs, rfl, hx, q⟩ := hv
  cases rx
  have step : PO X (some (.UnaryOp .USub (.Constant (.int 1) k p1) p2)) (tPart (tUn (rU fun i => .int (-i)) (tC (.int 1)))) := po_some (pe_un un_neg pe_int)
  refine wpAny_Slice (thn (po_none.run pins s1 σ H1 (fun o H2 => o = none ∧ H2 = H1) I1 ⟨rfl, rfl⟩) fun vl s2 hl => ?_)
  obtain ⟨l, H2, I2, pl, rfl, rfl⟩ := hl
  refine thn (po_none.run pins s2 σ H2 (fun o H3 => o = none ∧ H3 = H2) I2 ⟨rfl, rfl⟩) fun vu s3 hu => ?_
  obtain ⟨u, H3, I3, pu, rfl, rfl⟩ := hu
  refine thn (step.run pins s3 σ H3 (fun o H4 => o = some (-1) ∧ H4 = H3) I3 ⟨1, rfl, -1, rfl, rfl, rfl⟩) fun vs s4 ho => ?_
  obtain ⟨o, H4, I4, ps, rfl, rfl⟩ := ho
  have I5 : Inv X pins σ H4 { s4 with heap := s4.heap.push { cls := .type "slice", data := .fields #[vl, vu, vs] } } := I4.kept (t' := s4.toks) fun b ob hb => Heap.get?_push_of_some _ hb
  obtain ⟨its, r, ht, hz⟩ := I5.tuple hx
  have hlen := r.length
  show wpAny (model X.prog X.w) X.A (subscriptTail e (.Slice none none (some (.UnaryOp .USub (.Constant (.int 1) k p1) p2)) p3) (.ref a) (.ref s4.heap.objs.size)) (EP X pins σ Q) X.xe { s4 with heap := s4.heap.push { cls := .type "slice", data := .fields #[vl, vu, vs] } }
  refine tail_any (ops := [.ref a, .ref s4.heap.objs.size]) ht.typeIs (PyProof.Rows.slot_tuple_getitem.lookup) ?_ (by with_unfolding_all rfl)
  refine down_item ht (Heap.IsSliceOf.new _ vl vu vs) pl pu ps ?_ (by rw [List.size_toArray]; omega)
  refine ⟨.ref _, _, I5.laid (t' := s4.toks) (o := .tup xs.reverse) (fun b ob hb => Heap.get?_push_of_some _ hb) (Nat.le_refl _) ?_, rfl, q _ (I5.hok.fresh (Nat.le_refl _))⟩
  exact ⟨by rw [List.length_reverse]; exact hz, _, r.reverse, IsTup.new _ _⟩
def dRev : D → Option D
  | .list ds => some (.list ds.reverse)
  | .tup ds => some (.tup ds.reverse)
  | _ => none
def eRev (m : Ex) : Ex := eUn dRev m
theorem d_rev (he : PD X cl e me) : PD X cl (.Subscript e (.Slice none none (some (.UnaryOp .USub (.Constant (.int 1) k p1) p2)) p3) pos) (eRev me) := by
  refine pe_imp (pe_either (pe_revL (p1 := p1) (p2 := p2) (p3 := p3) (pos := pos) (k := k) he) (pe_revT he)) fun σ H Q h => ?_
  obtain ⟨F, T, G, ρ, r1, ρ', E, e, q⟩ := h
  simp only [eRev, eUn, Option.bind_eq_some_iff, Option.map_eq_some_iff, Prod.mk.injEq] at e
  obtain ⟨⟨ra, ρ1⟩, e1, d, e3, r', e5, rfl, rfl⟩ := e
  unfold dRev at e5
  split at e5
  · cases e5
    refine .inl ⟨F, T, G, ρ, ra, ρ1, E, e1, fun x G1 H1 g1 E1 R1 => ?_⟩
    cases E1.top R1 e3 with | list hk l rr =>
    refine ⟨_, _, rfl, SqL.of hk, fun p hp => ?_⟩
    exact new_lst E1.gh hp (by rw [List.length_reverse]; exact l) rr.reverse fun v G' H' gr R => q v G' H' (g1.trans gr.gg) (E1.grow gr) R
  · cases e5
    refine .inr ⟨F, T, G, ρ, ra, ρ1, E, e1, fun x G1 H1 g1 E1 R1 => ?_⟩
    cases E1.top R1 e3 with | tup hk l rr =>
    refine ⟨_, _, rfl, sameT E1.gh hk, fun p hp => ?_⟩
    exact new_tup E1.gh hp (by rw [List.length_reverse]; exact l) rr.reverse fun v G' H' gr R => q v G' H' (g1.trans gr.gg) (E1.grow gr) R
  · cases e5
/-! str(n) -/
def strI (i : Int) : Str := (toString i : String)
def gStr : List D → Option D
  | [.int i] => if i.natAbs.log2 < 1920 ∧ (strI i).length ≤ sizeLine then some (.str (strI i)) else none
  | [.str x] => some (.str x)
  | _ => none
theorem c_str : CallD X cl (.type "str") gStr := by
  intro pins s σ H xs us Q I r h
  obtain ⟨G, ds, r', gh, h1, h2, q⟩ := h
  unfold gStr at h2
  split at h2
  · split at h2
    · rename_i c
      cases h2
      cases h1 with | cons t n =>
      cases n
      cases t
      exact call_str_int pins s σ H _ us Q I r ⟨_, rfl, c.1, q _ _ _ (Grow.refl gh) (.str _ c.2)⟩
    · cases h2
  · cases h2
    cases h1 with | cons t n =>
    cases n
    cases t with | str x hx =>
    exact SkE.call_str_str pins s σ H _ us Q I r ⟨_, rfl, q _ _ _ (Grow.refl gh) (.str _ hx)⟩
  · cases h2
end
end DL

/-! E9: walking through a meaning, plain Lean: wq x Q, the value is there and Q holds of it -/
namespace DL
open PySem L2

/-- what is wanted behind; it is laid as an instance: simp does not look into it while the head is worked on -/
class Kt (α : Type) where
  q : α → Prop
def wp {α : Type} (x : Option α) [k : Kt α] : Prop := ∃ a, x = some a ∧ k.q a
abbrev wq {α : Type} (x : Option α) (Q : α → Prop) : Prop := @wp α x ⟨Q⟩
theorem wq_def {α : Type} {x : Option α} {Q : α → Prop} : wq x Q = @wp α x ⟨Q⟩ := rfl
theorem wp_some {α : Type} {a : α} {Q : α → Prop} : wq (some a) Q = Q a := by
  apply propext
  constructor
  · rintro ⟨b, e, q⟩; cases e; exact q
  · intro q; exact ⟨a, rfl, q⟩
theorem wp_none {α : Type} {Q : α → Prop} : wq (none : Option α) Q = False := by
  apply propext
  constructor
  · rintro ⟨b, e, q⟩; cases e
  · intro q; exact q.elim
theorem wp_bind {α β : Type} {x : Option α} {f : α → Option β} {Q : β → Prop} : wq (x.bind f) Q = wq x (fun a => wq (f a) Q) := by
  apply propext
  constructor
  · rintro ⟨b, e, q⟩
    simp only [Option.bind_eq_some_iff] at e
    obtain ⟨a, e1, e2⟩ := e
    exact ⟨a, e1, b, e2, q⟩
  · rintro ⟨a, e1, b, e2, q⟩
    exact ⟨b, by simp [e1, e2], q⟩
theorem wp_map {α β : Type} {x : Option α} {f : α → β} {Q : β → Prop} : wq (x.map f) Q = wq x (fun a => Q (f a)) := by
  apply propext
  constructor
  · rintro ⟨b, e, q⟩
    simp only [Option.map_eq_some_iff] at e
    obtain ⟨a, e1, rfl⟩ := e
    exact ⟨a, e1, q⟩
  · rintro ⟨a, e1, q⟩
    exact ⟨f a, by simp [e1], q⟩
theorem wp_guard {α : Type} {c : Prop} [Decidable c] {x : Option α} {Q : α → Prop} : wq (if c then x else none) Q = (c ∧ wq x Q) := by
  by_cases h : c <;> simp [h, wp_none]
theorem wp_guard' {α : Type} {c : Prop} [Decidable c] {x : α} {Q : α → Prop} : wq (if c then some x else none) Q = (c ∧ Q x) := by rw [wp_guard, wp_some]
theorem wp_eq {α : Type} {x : Option α} {a : α} {Q : α → Prop} (e : x = some a) (q : Q a) : wq x Q := ⟨a, e, q⟩
theorem wp_mono {α : Type} {x : Option α} {P Q : α → Prop} (h : wq x P) (i : ∀ a, P a → Q a) : wq x Q := by
  obtain ⟨a, e, q⟩ := h
  exact ⟨a, e, i a q⟩
theorem of_wp {α : Type} {x : Option α} {a : α} (h : wq x (fun b => b = a)) : x = some a := by
  obtain ⟨b, e, q⟩ := h
  rw [e, q]
theorem wp_iff {α : Type} {x : Option α} {a : α} : wq x (fun b => b = a) ↔ x = some a := ⟨of_wp, fun h => ⟨a, h, rfl⟩⟩
/-- a choice -/
theorem wp_ite {α : Type} {c : Prop} [Decidable c] {x y : Option α} {Q : α → Prop} (h1 : c → wq x Q) (h2 : ¬ c → wq y Q) : wq (if c then x else y) Q := by
  by_cases h : c
  · rw [if_pos h]; exact h1 h
  · rw [if_neg h]; exact h2 h
/-- behind a statement -/
def seqK (n : Sx) (Q : Fl → Prop) : Fl → Prop
  | .nx ρ => wq (n ρ) Q
  | .bk ρ => Q (.bk ρ)
  | .ct ρ => Q (.ct ρ)
  | .rt d ρ => Q (.rt d ρ)
  | .ro d ρ => Q (.ro d ρ)
theorem wp_seq {m n : Sx} {ρ : En} {Q : Fl → Prop} : wq (sSeq m n ρ) Q = wq (m ρ) (seqK n Q) := by
  rw [sSeq, wp_bind]
  congr 1
  funext fl
  cases fl <;> simp [seqK, wp_some]
theorem seqK_nx {n : Sx} {Q : Fl → Prop} {ρ : En} : seqK n Q (.nx ρ) = wq (n ρ) Q := rfl
theorem seqK_rt {n : Sx} {Q : Fl → Prop} {d : D} {ρ : En} : seqK n Q (.rt d ρ) = Q (.rt d ρ) := rfl
theorem seqK_ro {n : Sx} {Q : Fl → Prop} {d : D} {ρ : En} : seqK n Q (.ro d ρ) = Q (.ro d ρ) := rfl
theorem seqK_bk {n : Sx} {Q : Fl → Prop} {ρ : En} : seqK n Q (.bk ρ) = Q (.bk ρ) := rfl
theorem seqK_ct {n : Sx} {Q : Fl → Prop} {ρ : En} : seqK n Q (.ct ρ) = Q (.ct ρ) := rfl
/-- a def's end -/
def endK (nio : Nat) (Q : Rs × List D → Prop) : Fl → Prop
  | .rt d ρ => wq (gave ρ 0 nio) fun os => pureOk ρ.st (d :: os) = true ∧ Q (.ok d, os)
  | .nx ρ => wq (gave ρ 0 nio) fun os => pureOk ρ.st os = true ∧ Q (.ok .non, os)
  | _ => False
theorem wp_body {N nio : Nat} {body : Sx} {args : List D} {Q : Rs × List D → Prop} : wq (fnBody N nio body args) Q = wq (body (entE N nio args)) (endK nio Q) := by
  rw [fnBody, wp_bind]
  congr 1
  funext fl
  cases fl <;> simp [endK, wp_bind, wp_guard', wp_none]
theorem endK_rt {nio : Nat} {Q : Rs × List D → Prop} {d : D} {ρ : En} : endK nio Q (.rt d ρ) = wq (gave ρ 0 nio) fun os => pureOk ρ.st (d :: os) = true ∧ Q (.ok d, os) := rfl
theorem endK_nx {nio : Nat} {Q : Rs × List D → Prop} {ρ : En} : endK nio Q (.nx ρ) = wq (gave ρ 0 nio) fun os => pureOk ρ.st os = true ∧ Q (.ok .non, os) := rfl
def endO (nio : Nat) (Q : Rs × List D → Prop) : Fl → Prop
  | .ro d ρ => wq (gave ρ 0 nio) fun os => pureOk ρ.st (d :: os) = true ∧ Q (.ok d, os)
  | _ => False
theorem wp_bodyO {N nio : Nat} {body : Sx} {args : List D} {Q : Rs × List D → Prop} : wq (fnBodyO N nio body args) Q = wq (body (entE N nio args)) (endO nio Q) := by
  rw [fnBodyO, wp_bind]
  congr 1
  funext fl
  cases fl <;> simp [endO, wp_bind, wp_guard', wp_none]
theorem endO_ro {nio : Nat} {Q : Rs × List D → Prop} {d : D} {ρ : En} : endO nio Q (.ro d ρ) = wq (gave ρ 0 nio) fun os => pureOk ρ.st (d :: os) = true ∧ Q (.ok d, os) := rfl
/-- a call hands back -/
def callK (ρ : En) (rs : List RV) (Q : RV × En → Prop) : Rs × List D → Prop
  | (.ok d, os) => wq (giveBack ρ rs os) fun ρ' => Q (.val d, ρ')
  | _ => False
theorem wp_call {nio : Nat} {fn : Fn} {m : Ax} {ρ : En} {Q : RV × En → Prop} : wq (eCall nio fn m ρ) Q = wq (m ρ) fun p => wq (escs p.2 (p.1.drop nio)) fun q => ((places (p.1.take nio)).Nodup ∧ (p.1.take nio).length = nio) ∧ wq (lent q.2 (p.1.take nio)) fun ios => pureOk q.2.st (ios ++ q.1) = true ∧ wq (fn (ios ++ q.1)) (callK q.2 (p.1.take nio) Q) := by
  simp only [eCall, wp_bind]
  congr 1
  funext p
  congr 1
  funext q
  by_cases c : (places (p.1.take nio)).Nodup ∧ (p.1.take nio).length = nio
  · rw [if_pos c]
    simp only [c, and_self, true_and, wp_bind, wp_guard]
    congr 1
    funext ios
    congr 2
    funext z
    obtain ⟨r, os⟩ := z
    cases r <;> simp [callK, wp_map, wp_none]
  · rw [if_neg c, wp_none]
    simp only [c, false_and]
theorem callK_ok {ρ : En} {rs : List RV} {Q : RV × En → Prop} {d : D} {os : List D} : callK ρ rs Q (.ok d, os) = wq (giveBack ρ rs os) fun ρ' => Q (.val d, ρ') := rfl
def callOK (i : Nat) (ρ : En) (rs : List RV) (Q : Fl → Prop) : Rs × List D → Prop
  | (.ok d, os) => wq (giveBack ρ rs os) fun ρ' => Q (.nx (ρ'.set i (.own none d)))
  | _ => False
theorem wp_callO {i nio : Nat} {fn : Fn} {m : Ax} {ρ : En} {Q : Fl → Prop} : wq (sCallO i nio fn m ρ) Q = wq (m ρ) fun p => wq (escs p.2 (p.1.drop nio)) fun q => ((places (p.1.take nio)).Nodup ∧ (p.1.take nio).length = nio) ∧ wq (lent q.2 (p.1.take nio)) fun ios => pureOk q.2.st (ios ++ q.1) = true ∧ wq (fn (ios ++ q.1)) (callOK i q.2 (p.1.take nio) Q) := by
  simp only [sCallO, wp_bind]
  congr 1
  funext p
  congr 1
  funext q
  by_cases c : (places (p.1.take nio)).Nodup ∧ (p.1.take nio).length = nio
  · rw [if_pos c]
    simp only [c, and_self, true_and, wp_bind, wp_guard]
    congr 1
    funext ios
    congr 2
    funext z
    obtain ⟨r, os⟩ := z
    cases r <;> simp [callOK, wp_map, wp_none]
  · rw [if_neg c, wp_none]
    simp only [c, false_and]
theorem callOK_ok {i : Nat} {ρ : En} {rs : List RV} {Q : Fl → Prop} {d : D} {os : List D} : callOK i ρ rs Q (.ok d, os) = wq (giveBack ρ rs os) fun ρ' => Q (.nx (ρ'.set i (.own none d))) := rfl
/-! ### loops -/
/-- a turn's end -/
def turnK (P : En → Prop) (Q : Fl → Prop) : Fl → Prop
  | .nx ρ => P ρ
  | .ct ρ => P ρ
  | .bk ρ => Q (.nx ρ)
  | .rt d ρ => Q (.rt d ρ)
  | .ro d ρ => Q (.ro d ρ)
theorem turnK_nx {P : En → Prop} {Q : Fl → Prop} {ρ : En} : turnK P Q (.nx ρ) = P ρ := rfl
theorem turnK_rt {P : En → Prop} {Q : Fl → Prop} {d : D} {ρ : En} : turnK P Q (.rt d ρ) = Q (.rt d ρ) := rfl
section
variable {ck : En → Prop} [∀ ρ, Decidable (ck ρ)]
theorem wp_for_nil {t : Tgt} {body : Sx} {ρ : En} {Q : Fl → Prop} : wq (forLoop ck t body [] ρ) Q = (ck ρ ∧ Q (.nx ρ)) := by rw [forLoop, wp_guard']
theorem wp_for_cons {t : Tgt} {body : Sx} {d : D} {ds : List D} {ρ : En} {Q : Fl → Prop} : wq (forLoop ck t body (d :: ds) ρ) Q = (ck ρ ∧ wq (t d ρ) fun ρ1 => wq (body ρ1) (turnK (fun ρ2 => wq (forLoop ck t body ds ρ2) Q) Q)) := by
  rw [forLoop, wp_guard, wp_bind]
  congr 2
  funext ρ1
  rw [wp_bind]
  congr 1
  funext fl
  cases fl <;> simp [turnK, wp_some]
/-- a for, by a word over what it has gone through -/
theorem wp_forC {t : Tgt} {body : Sx} {ds : List D} {ρ : En} {Q : Fl → Prop} (W : List D → En → Prop) (hc : ∀ pre post ρ, ds = pre ++ post → W pre ρ → ck ρ) (h0 : W [] ρ)
    (hs : ∀ pre d post ρ, ds = pre ++ d :: post → W pre ρ → wq (t d ρ) fun ρ1 => wq (body ρ1) (turnK (W (pre ++ [d])) Q)) (hd : ∀ ρ, W ds ρ → Q (.nx ρ)) : wq (forLoop ck t body ds ρ) Q := by
  have go : ∀ (post pre : List D) (ρ : En), ds = pre ++ post → W pre ρ → wq (forLoop ck t body post ρ) Q := by
    intro post
    induction post with
    | nil =>
      intro pre ρ e w
      rw [wp_for_nil]
      refine ⟨hc _ _ _ e w, ?_⟩
      rw [List.append_nil] at e
      subst e
      exact hd ρ w
    | cons d post ih =>
      intro pre ρ e w
      rw [wp_for_cons]
      refine ⟨hc _ _ _ e w, wp_mono (hs pre d post ρ e w) fun ρ1 h => wp_mono h fun fl h => ?_⟩
      cases fl with
      | nx ρ2 => exact ih (pre ++ [d]) ρ2 (by simp [e]) h
      | ct ρ2 => exact ih (pre ++ [d]) ρ2 (by simp [e]) h
      | bk ρ2 => exact h
      | rt d ρ2 => exact h
      | ro d ρ2 => exact h
  exact go ds [] ρ rfl h0
end
/-- .. where nothing can change what is walked -/
def lkFree : Option Lk → Bool
  | some (.cell _) => false
  | _ => true
theorem ck_free {lk : Option Lk} {ds : List D} {ρ : En} (h : lkFree lk = true) : ckOf lk ds ρ := by
  rcases lk with _ | i | n
  · trivial
  · trivial
  · cases h
theorem wp_for {lk : Option Lk} {ds0 : List D} {t : Tgt} {body : Sx} {ds : List D} {ρ : En} {Q : Fl → Prop} (W : List D → En → Prop) (h0 : W [] ρ)
    (hs : ∀ pre d post ρ, ds = pre ++ d :: post → W pre ρ → wq (t d ρ) fun ρ1 => wq (body ρ1) (turnK (W (pre ++ [d])) Q)) (hd : ∀ ρ, W ds ρ → Q (.nx ρ)) (hf : lkFree lk = true := by rfl) : wq (forLoop (ckOf lk ds0) t body ds ρ) Q :=
  wp_forC W (fun _ _ _ _ _ => ck_free hf) h0 hs hd
theorem wp_while_succ {n : Nat} {t : Tx} {body : Sx} {ρ : En} {Q : Fl → Prop} : wq (whileLoop (n + 1) t body ρ) Q = wq (t ρ) fun p => if p.1 = true then wq (body p.2) (turnK (fun ρ2 => wq (whileLoop n t body ρ2) Q) Q) else Q (.nx p.2) := by
  rw [whileLoop, wp_bind]
  congr 1
  funext p
  by_cases c : p.1 = true
  · rw [if_pos c, if_pos c, wp_bind]
    congr 1
    funext fl
    cases fl <;> simp [turnK, wp_some]
  · rw [if_neg c, if_neg c, wp_some]
/-- a while, by a word and a number that falls -/
theorem wp_while {N : Nat} {t : Tx} {body : Sx} {ρ : En} {Q : Fl → Prop} (W : Nat → En → Prop) (m : Nat) (hm : m < N) (h0 : W m ρ)
    (hs : ∀ m ρ, W m ρ → wq (t ρ) fun p => if p.1 = true then wq (body p.2) (turnK (fun ρ2 => ∃ m', m' < m ∧ W m' ρ2) Q) else Q (.nx p.2)) : wq (sWhile N t body ρ) Q := by
  unfold sWhile
  have go : ∀ (N m : Nat) (ρ : En), m < N → W m ρ → wq (whileLoop N t body ρ) Q := by
    intro N
    induction N with
    | zero => intro m ρ h; omega
    | succ N ih =>
      intro m ρ h w
      rw [wp_while_succ]
      refine wp_mono (hs m ρ w) fun p h1 => ?_
      by_cases c : p.1 = true
      · rw [if_pos c] at h1 ⊢
        refine wp_mono h1 fun fl h2 => ?_
        cases fl with
        | nx ρ2 =>
          obtain ⟨m', k1, k2⟩ := h2
          exact ih m' ρ2 (by omega) k2
        | ct ρ2 =>
          obtain ⟨m', k1, k2⟩ := h2
          exact ih m' ρ2 (by omega) k2
        | bk ρ2 => exact h2
        | rt d ρ2 => exact h2
        | ro d ρ2 => exact h2
      · rw [if_neg c] at h1 ⊢
        exact h1
  exact go N m ρ hm h0
/-! comprehensions -/
section
variable {ck : En → Prop} [∀ ρ, Decidable (ck ρ)]
theorem wp_lcLoop_nil {t : Tgt} {tt : Tx} {te : Ex} {vs : List Nat} {acc : List D} {ρ : En} {Q : List D × En → Prop} : wq (lcLoop ck t tt te vs [] acc ρ) Q = (ck ρ ∧ Q (acc, ρ)) := by rw [lcLoop, wp_guard']
theorem wp_lcLoop_cons {t : Tgt} {tt : Tx} {te : Ex} {vs : List Nat} {d : D} {ds acc : List D} {ρ : En} {Q : List D × En → Prop} :
    wq (lcLoop ck t tt te vs (d :: ds) acc ρ) Q = (ck ρ ∧ wq (t d (wipeE ρ vs)) fun ρ1 => wq (tt ρ1) fun p => if p.1 = true then wq (te p.2) fun q => wq (esc q.2 q.1) fun s => wq (lcLoop ck t tt te vs ds (acc ++ [s.1]) s.2) Q else wq (lcLoop ck t tt te vs ds acc p.2) Q) := by
  rw [lcLoop, wp_guard, wp_bind]
  congr 2
  funext ρ1
  rw [wp_bind]
  congr 1
  funext p
  by_cases c : p.1 = true
  · rw [if_pos c, if_pos c, wp_bind]
    congr 1
    funext q
    rw [wp_bind]
  · rw [if_neg c, if_neg c]
/-- a comprehension, by a word -/
theorem wp_lcLoopC {t : Tgt} {tt : Tx} {te : Ex} {vs : List Nat} {ds : List D} {ρ : En} {Q : List D × En → Prop} (W : List D → List D → En → Prop) (hc : ∀ pre post acc ρ, ds = pre ++ post → W pre acc ρ → ck ρ) (h0 : W [] [] ρ)
    (hs : ∀ pre d post acc ρ, ds = pre ++ d :: post → W pre acc ρ → wq (t d (wipeE ρ vs)) fun ρ1 => wq (tt ρ1) fun p => if p.1 = true then wq (te p.2) fun q => wq (esc q.2 q.1) fun s => W (pre ++ [d]) (acc ++ [s.1]) s.2 else W (pre ++ [d]) acc p.2)
    (hd : ∀ acc ρ, W ds acc ρ → Q (acc, ρ)) : wq (lcLoop ck t tt te vs ds [] ρ) Q := by
  have go : ∀ (post pre acc : List D) (ρ : En), ds = pre ++ post → W pre acc ρ → wq (lcLoop ck t tt te vs post acc ρ) Q := by
    intro post
    induction post with
    | nil =>
      intro pre acc ρ e w
      rw [wp_lcLoop_nil]
      refine ⟨hc _ _ _ _ e w, ?_⟩
      rw [List.append_nil] at e
      subst e
      exact hd acc ρ w
    | cons d post ih =>
      intro pre acc ρ e w
      rw [wp_lcLoop_cons]
      refine ⟨hc _ _ _ _ e w, wp_mono (hs pre d post acc ρ e w) fun ρ1 h => wp_mono h fun p h => ?_⟩
      by_cases c : p.1 = true
      · rw [if_pos c] at h ⊢
        exact wp_mono h fun q h => wp_mono h fun s h => ih (pre ++ [d]) _ _ (by simp [e]) h
      · rw [if_neg c] at h ⊢
        exact ih (pre ++ [d]) _ _ (by simp [e]) h
  exact go ds [] [] ρ rfl h0
end
theorem wp_lcLoop {lk : Option Lk} {ds0 : List D} {t : Tgt} {tt : Tx} {te : Ex} {vs : List Nat} {ds : List D} {ρ : En} {Q : List D × En → Prop} (W : List D → List D → En → Prop) (h0 : W [] [] ρ)
    (hs : ∀ pre d post acc ρ, ds = pre ++ d :: post → W pre acc ρ → wq (t d (wipeE ρ vs)) fun ρ1 => wq (tt ρ1) fun p => if p.1 = true then wq (te p.2) fun q => wq (esc q.2 q.1) fun s => W (pre ++ [d]) (acc ++ [s.1]) s.2 else W (pre ++ [d]) acc p.2)
    (hd : ∀ acc ρ, W ds acc ρ → Q (acc, ρ)) (hf : lkFree lk = true := by rfl) : wq (lcLoop (ckOf lk ds0) t tt te vs ds [] ρ) Q :=
  wp_lcLoopC W (fun _ _ _ _ _ _ => ck_free hf) h0 hs hd
theorem wp_lc {src : Src} {t : Tgt} {tt : Tx} {te : Ex} {vs : List Nat} {ρ : En} {Q : RV × En → Prop} : wq (eLc src t tt te vs ρ) Q = wq (src ρ) fun p => (p.1.length ≤ sizeLine ∧ plainE p.2.2 vs = true) ∧ wq (lcLoop (ckOf p.2.1 p.1) t tt te vs p.1 [] p.2.2) fun q => wq (unlk p.2.1 (restE p.2.2 (wipeE q.2 vs) vs)) fun ρ3 => Q (.val (.list q.1), ρ3) := by
  rw [eLc, wp_bind]
  congr 1
  funext p
  by_cases c : p.1.length ≤ sizeLine ∧ plainE p.2.2 vs = true
  · rw [if_pos c, wp_bind]
    simp only [c, and_self, true_and, wp_map]
  · rw [if_neg c, wp_none]
    simp only [c, false_and]
theorem wp_sFor {src : Src} {t : Tgt} {body : Sx} {ρ : En} {Q : Fl → Prop} : wq (sFor src t body ρ) Q = wq (src ρ) fun p => wq (forLoop (ckOf p.2.1 p.1) t body p.1 p.2.2) fun fl => wq (unlkF p.2.1 fl) Q := by
  rw [sFor, wp_bind]
  congr 1
  funext p
  rw [wp_bind]
/-! ### one law a word -/
section
variable {ρ : En} {Q : RV × En → Prop} {B : Bool × En → Prop} {R : List RV × En → Prop} {S : Fl → Prop} {O : Option Int × En → Prop} {I : List D × Option Lk × En → Prop}
theorem wp_C {d : D} : wq (eC d ρ) Q = Q (.val d, ρ) := wp_some
theorem wp_eBin {g : D → D → Option D} {a b : Ex} : wq (eBin g a b ρ) Q = wq (a ρ) fun p => wq (b p.2) fun q => wq (peek q.2 p.1) fun d => wq (peek q.2 q.1) fun e => wq (g d e) fun r => Q (.val r, q.2) := by simp only [eBin, wp_bind, wp_map]
theorem wp_eUn {g : D → Option D} {a : Ex} : wq (eUn g a ρ) Q = wq (a ρ) fun p => wq (peek p.2 p.1) fun d => wq (g d) fun r => Q (.val r, p.2) := by simp only [eUn, wp_bind, wp_map]
theorem wp_eRev {a : Ex} : wq (eRev a ρ) Q = wq (a ρ) fun p => wq (peek p.2 p.1) fun d => wq (dRev d) fun r => Q (.val r, p.2) := by simp only [eRev, wp_eUn]
theorem wp_bVal {a : Ex} : wq (bVal a ρ) B = wq (a ρ) fun p => wq (asB p.1) fun b => B (b, p.2) := by simp only [bVal, wp_bind, wp_map]
theorem wp_bTru {a : Ex} : wq (bTru a ρ) B = wq (a ρ) fun p => wq (peek p.2 p.1) fun d => wq (truth d) fun b => B (b, p.2) := by simp only [bTru, wp_bind, wp_map]
theorem wp_bNot {t : Tx} : wq (bNot t ρ) B = wq (t ρ) fun p => B (!p.1, p.2) := by simp only [bNot, wp_map]
def iteP (b : Bool) (A C : Prop) : Prop := if b = true then A else C
theorem iteP_t {A C : Prop} : iteP true A C = A := if_pos rfl
theorem iteP_f {A C : Prop} : iteP false A C = C := if_neg Bool.false_ne_true
theorem wp_if {α : Type} {b : Bool} {x y : Option α} {P : α → Prop} : wq (if b = true then x else y) P = iteP b (wq x P) (wq y P) := by
  cases b <;> simp [iteP]
theorem wp_bAnd {s t : Tx} : wq (bAnd s t ρ) B = wq (s ρ) fun p => iteP p.1 (wq (t p.2) B) (B (false, p.2)) := by simp only [bAnd, wp_bind, wp_if, wp_some]
theorem wp_bOr {s t : Tx} : wq (bOr s t ρ) B = wq (s ρ) fun p => iteP p.1 (B (true, p.2)) (wq (t p.2) B) := by simp only [bOr, wp_bind, wp_if, wp_some]
theorem wp_bYes : wq (bYes ρ) B = B (true, ρ) := wp_some
theorem wp_eAnd {a b : Ex} : wq (eAnd a b ρ) Q = wq (a ρ) fun p => wq (asB p.1) fun c => iteP c (wq (b p.2) Q) (Q (.val (.bl false), p.2)) := by simp only [eAnd, wp_bind, wp_if, wp_some]
theorem wp_eOr {a b : Ex} : wq (eOr a b ρ) Q = wq (a ρ) fun p => wq (asB p.1) fun c => iteP c (Q (.val (.bl true), p.2)) (wq (b p.2) Q) := by simp only [eOr, wp_bind, wp_if, wp_some]
theorem wp_eNot {a : Ex} : wq (eNot a ρ) Q = wq (a ρ) fun p => wq (asB p.1) fun c => Q (.val (.bl !c), p.2) := by simp only [eNot, wp_bind, wp_map]
theorem wp_eIf {t : Tx} {a b : Ex} : wq (eIf t a b ρ) Q = wq (t ρ) fun p => iteP p.1 (wq (a p.2) Q) (wq (b p.2) Q) := by simp only [eIf, wp_bind, wp_if]
theorem wp_aNil : wq (aNil ρ) R = R ([], ρ) := wp_some
theorem wp_aCons {a : Ex} {m : Ax} : wq (aCons a m ρ) R = wq (a ρ) fun p => wq (m p.2) fun q => R (p.1 :: q.1, q.2) := by simp only [aCons, wp_bind, wp_map]
def fits (ds : List D) : Prop := ds.length ≤ sizeLine
theorem wp_fit {α : Type} {ds : List D} {x : α} {P : α → Prop} : wq (if ds.length ≤ sizeLine then some x else none) P = (fits ds ∧ P x) := by
  unfold fits
  by_cases c : ds.length ≤ sizeLine <;> simp [c, wp_some, wp_none]
theorem wp_eTup {m : Ax} : wq (eTup m ρ) Q = wq (m ρ) fun p => wq (escs p.2 p.1) fun q => fits q.1 ∧ Q (.val (.tup q.1), q.2) := by simp only [eTup, wp_bind, wp_fit]
theorem wp_eLst {m : Ax} : wq (eLst m ρ) Q = wq (m ρ) fun p => wq (escs p.2 p.1) fun q => fits q.1 ∧ Q (.val (.list q.1), q.2) := by simp only [eLst, wp_bind, wp_fit]
theorem wp_eCB {g : List D → Option D} {m : Ax} : wq (eCB g m ρ) Q = wq (m ρ) fun p => wq (peeks p.2 p.1) fun ds => wq (g ds) fun r => Q (.val r, p.2) := by simp only [eCB, wp_bind, wp_map]
theorem wp_eIsi {T : T5} {a : Ex} : wq (eIsi T a ρ) Q = wq (a ρ) fun p => wq (peek p.2 p.1) fun d => wq (isT T d) fun b => Q (.val (.bl b), p.2) := by simp only [eIsi, wp_bind, wp_map]
def asI : RV → Option Int
  | .val (.int i) => some i
  | _ => none
theorem asI_int {i : Int} : asI (.val (.int i)) = some i := rfl
theorem asB_bl {b : Bool} : asB (.val (.bl b)) = some b := rfl
theorem wp_oNone : wq (oNone ρ) O = O (none, ρ) := wp_some
theorem wp_oSome {a : Ex} : wq (oSome a ρ) O = wq (a ρ) fun p => wq (asI p.1) fun i => O (some i, p.2) := by
  simp only [oSome, wp_bind]
  congr 1
  funext p
  obtain ⟨r, ρ1⟩ := p
  cases r with
  | ref i => simp [asI, wp_none]
  | val d => cases d <;> simp [asI, wp_none, wp_some]
theorem wp_eSl {g : D → Option Int → Option Int → Option D} {a : Ex} {l u : Ox} : wq (eSl g a l u ρ) Q = wq (a ρ) fun p => wq (l p.2) fun q => wq (u q.2) fun s => wq (peek s.2 p.1) fun d => wq (g d q.1 s.1) fun r => Q (.val r, s.2) := by simp only [eSl, wp_bind, wp_map]
theorem wp_eLstR1 {a : Ex} : wq (eLstR1 a ρ) Q = wq (a ρ) fun p => wq (asI p.1) fun n => RgOkB 0 n = true ∧ Q (.val (.list (rgD 0 n)), p.2) := by
  simp only [eLstR1, wp_bind]
  congr 1
  funext p
  obtain ⟨r, ρ1⟩ := p
  cases r with
  | ref i => simp [asI, wp_none]
  | val d =>
    cases d with
    | int n =>
      simp only [asI, wp_some]
      by_cases c : RgOkB 0 n = true <;> simp [c, wp_some, wp_none]
    | _ => simp [asI, wp_none]
def chainK (g' : D → D → Option D) (mc : Ex) (y : RV) (ρ : En) (Q : RV × En → Prop) : D → Prop
  | .bl true => wq (mc ρ) fun s => wq (peek s.2 y) fun e' => wq (peek s.2 s.1) fun f => wq (g' e' f) fun r => Q (.val r, s.2)
  | .bl false => Q (.val (.bl false), ρ)
  | _ => False
theorem wp_eChain {g g' : D → D → Option D} {a b c : Ex} : wq (eChain g g' a b c ρ) Q = wq (a ρ) fun p => wq (b p.2) fun q => wq (peek q.2 p.1) fun d => wq (peek q.2 q.1) fun e => wq (g d e) (chainK g' c q.1 q.2 Q) := by
  simp only [eChain, wp_bind]
  congr 1
  funext p
  congr 1
  funext q
  congr 1
  funext d
  congr 1
  funext e
  congr 1
  funext r
  cases r with
  | bl x => cases x <;> simp [chainK, wp_bind, wp_map, wp_some]
  | _ => simp [chainK, wp_none]
theorem chainK_bl {g' : D → D → Option D} {mc : Ex} {y : RV} {x : Bool} : chainK g' mc y ρ Q (.bl x) = iteP x (wq (mc ρ) fun s => wq (peek s.2 y) fun e' => wq (peek s.2 s.1) fun f => wq (g' e' f) fun r => Q (.val r, s.2)) (Q (.val (.bl false), ρ)) := by
  cases x <;> simp [chainK, iteP]
theorem wp_sSkip : wq (sSkip ρ) S = S (.nx ρ) := wp_some
theorem wp_sBrk : wq (sBrk ρ) S = S (.bk ρ) := wp_some
theorem wp_sDrop {a : Ex} : wq (sDrop a ρ) S = wq (a ρ) fun p => S (.nx p.2) := by simp only [sDrop, wp_map]
theorem wp_sRet {a : Ex} : wq (sRet a ρ) S = wq (a ρ) fun p => wq (esc p.2 p.1) fun q => S (.rt q.1 q.2) := by simp only [sRet, wp_bind, wp_map]
theorem wp_sRetN : wq (sRetN ρ) S = S (.rt .non ρ) := wp_some
def ownAt (ρ : En) : RV → Option D
  | .ref i => match ρ.sl[i]? with
    | some (.own none d) => some d
    | _ => none
  | _ => none
theorem wp_sRetO {a : Ex} : wq (sRetO a ρ) S = wq (a ρ) fun p => wq (ownAt p.2 p.1) fun d => S (.ro d p.2) := by
  unfold sRetO
  rw [wp_bind]
  congr 1
  funext p
  obtain ⟨r, ρ1⟩ := p
  cases r with
  | val d => show wq none S = wq none _; rw [wp_none, wp_none]
  | ref i =>
    unfold ownAt
    try dsimp only
    rcases ρ1.sl[i]? with _ | _ | d | ⟨_ | w, d⟩ | ⟨w, d⟩ <;> (try dsimp only) <;> first | rw [wp_some, wp_some] | rw [wp_none, wp_none]
theorem wp_sRetL {m : Ax} : wq (sRetL m ρ) S = wq (m ρ) fun p => wq (escs p.2 p.1) fun q => fits q.1 ∧ S (.ro (.list q.1) q.2) := by simp only [sRetL, wp_bind, wp_fit]
theorem wp_sSet {i : Nat} {a : Ex} : wq (sSet i a ρ) S = wq (a ρ) fun p => wq (esc p.2 p.1) fun q => S (.nx (q.2.set i (.val q.1))) := by simp only [sSet, wp_bind, wp_map]
theorem wp_sNewL {i : Nat} {m : Ax} : wq (sNewL i m ρ) S = wq (m ρ) fun p => wq (escs p.2 p.1) fun q => fits q.1 ∧ S (.nx (q.2.set i (.own none (.list q.1)))) := by simp only [sNewL, wp_bind, wp_fit]
def intAt (ρ : En) (i : Nat) : Option Int := match ρ.sl[i]? with
  | some (.val (.int a)) => some a
  | _ => none
theorem wp_sAug {i : Nat} {k : Int → Int → Int} {a : Ex} : wq (sAug i k a ρ) S = wq (intAt ρ i) fun x => wq (a ρ) fun p => wq (asI p.1) fun y => S (.nx (p.2.set i (.val (.int (k x y))))) := by
  have step : ∀ x : Int, wq ((a ρ).bind fun p => match p.1 with
      | .val (.int y) => some (Fl.nx (p.2.set i (.val (.int (k x y)))))
      | _ => none) S = wq (a ρ) fun p => wq (asI p.1) fun y => S (.nx (p.2.set i (.val (.int (k x y))))) := by
    intro x
    rw [wp_bind]
    congr 1
    funext p
    obtain ⟨r, ρ1⟩ := p
    cases r with
    | ref i => simp [asI, wp_none]
    | val d => cases d <;> simp [asI, wp_none, wp_some]
  unfold sAug intAt
  cases h : ρ.sl[i]? with
  | none => simp only [wp_none]
  | some s =>
    cases s with
    | val d =>
      cases d with
      | int x => simp only [wp_some]; exact step x
      | _ => simp only [wp_none]
    | _ => simp only [wp_none]
theorem wp_sPar {i j : Nat} {m : Ax} : wq (sPar i j m ρ) S = wq (m ρ) fun p => wq (escs p.2 p.1) fun q => wq (par2 i j q.1 q.2) S := by simp only [sPar, wp_bind]
theorem wp_sUnp {t : Tgt} {a : Ex} : wq (sUnp t a ρ) S = wq (a ρ) fun p => wq (esc p.2 p.1) fun q => wq (t q.1 q.2) fun ρ' => S (.nx ρ') := by simp only [sUnp, wp_bind, wp_map]
theorem wp_sIf {t : Tx} {m n : Sx} : wq (sIf t m n ρ) S = wq (t ρ) fun p => iteP p.1 (wq (m p.2) S) (wq (n p.2) S) := by simp only [sIf, wp_bind, wp_if]
theorem wp_sStore {o i v : Ex} : wq (sStore o i v ρ) S = wq (v ρ) fun p => wq (esc p.2 p.1) fun q => wq (o q.2) fun r => wq (i r.2) fun s => wq (plc r.1) fun l => wq (s.2.obj l) fun d => wq (peek s.2 s.1) fun e => wq (storeD d e q.1) fun d' => S (.nx (s.2.upd l d')) := by simp only [sStore, wp_bind, wp_map]
theorem wp_eMutL {g : D → List D → Option D} {a : Ex} {m : Ax} : wq (eMutL g a m ρ) Q = wq (a ρ) fun p => wq (listAt p.2 p.1) fun i => wq (m p.2) fun q => wq (escs q.2 q.1) fun s => wq (mutAt g i s.1 s.2) Q := by simp only [eMutL, wp_bind]
theorem wp_srcSeq {a : Ex} : wq (srcSeq a ρ) I = wq (a ρ) fun p => wq (srcOf p.2 p.1) I := by simp only [srcSeq, wp_bind]
theorem wp_srcRg {g : List D → Option (List D)} {m : Ax} : wq (srcRg g m ρ) I = wq (m ρ) fun p => wq (peeks p.2 p.1) fun ds => wq (g ds) fun es => I (es, none, p.2) := by simp only [srcRg, wp_bind, wp_map]
theorem wp_srcZip {m : Ax} : wq (srcZip m ρ) I = wq (m ρ) fun p => wq (escs p.2 p.1) fun q => wq (srcZ q.1) fun es => I (es, none, q.2) := by simp only [srcZip, wp_bind, wp_map]
end
end DL

/-! E10: the words of a walk that simp turns into plain facts -/
namespace DL
open PySem L2
section
variable {ρ : En} {i : Nat} {d : D} {w : Option Nat}
def varR (i : Nat) (ρ : En) : Option Sl → Option (RV × En)
  | some (.val d) => some (.val d, ρ)
  | some (.own _ _) => some (.ref i, ρ)
  | some (.lck _ _) => some (.ref i, ρ)
  | _ => none
theorem eVar_at : eVar i ρ = varR i ρ ρ.sl[i]? := by
  unfold eVar varR
  all_goals rcases ρ.sl[i]? with _ | _ | d | ⟨_ | w, d⟩ | ⟨w, d⟩ <;> rfl
theorem varR_val : varR i ρ (some (.val d)) = some (.val d, ρ) := rfl
theorem varR_own : varR i ρ (some (.own w d)) = some (.ref i, ρ) := rfl
theorem varR_lck : varR i ρ (some (.lck w d)) = some (.ref i, ρ) := rfl
def peekS (st : List (Option D)) : Option Sl → Option D
  | some (.val d) => some (deref st d)
  | some (.own _ d) => some d
  | some (.lck _ d) => some d
  | _ => none
theorem peek_val : peek ρ (.val d) = some (deref ρ.st d) := rfl
theorem peek_ref : peek ρ (.ref i) = peekS ρ.st ρ.sl[i]? := by
  show peek ρ (.ref i) = _
  unfold peek peekS
  try dsimp only
  all_goals rcases ρ.sl[i]? with _ | _ | d | ⟨_ | w, d⟩ | ⟨w, d⟩ <;> rfl
theorem peekS_val {st : List (Option D)} : peekS st (some (.val d)) = some (deref st d) := rfl
theorem peekS_own {st : List (Option D)} : peekS st (some (.own w d)) = some d := rfl
theorem peekS_lck {st : List (Option D)} : peekS st (some (.lck w d)) = some d := rfl
theorem deref_nil : deref [] d = d := by cases d <;> rfl
def derefS (n : Nat) : Option (Option D) → D
  | some (some c) => c
  | _ => .cel n
theorem deref_cel {st : List (Option D)} {n : Nat} : deref st (.cel n) = derefS n st[n]? := rfl
theorem derefS_c {n : Nat} {c : D} : derefS n (some (some c)) = c := rfl
theorem deref_non {st : List (Option D)} : deref st .non = .non := rfl
theorem deref_bl {st : List (Option D)} {b : Bool} : deref st (.bl b) = .bl b := rfl
theorem deref_int {st : List (Option D)} {b : Int} : deref st (.int b) = .int b := rfl
theorem deref_str {st : List (Option D)} {b : Str} : deref st (.str b) = .str b := rfl
theorem deref_list {st : List (Option D)} {b : List D} : deref st (.list b) = .list b := rfl
theorem deref_tup {st : List (Option D)} {b : List D} : deref st (.tup b) = .tup b := rfl
theorem deref_dict {st : List (Option D)} {b : List (Key × D)} : deref st (.dict b) = .dict b := rfl
theorem deref_inst {st : List (Option D)} {c : String} {b : List (Str × D)} : deref st (.inst c b) = .inst c b := rfl
theorem pureOk_nil {ds : List D} : pureOk [] ds = true := rfl
theorem pureOk_cons {c : Option D} {st : List (Option D)} {ds : List D} : pureOk (c :: st) ds = pureL ds := rfl
theorem pureL_nil : pureL [] = true := rfl
theorem pureL_cons {ds : List D} : pureL (d :: ds) = (d.pure && pureL ds) := rfl
theorem pure_non : D.pure .non = true := rfl
theorem pure_bl {b : Bool} : D.pure (.bl b) = true := rfl
theorem pure_int {b : Int} : D.pure (.int b) = true := rfl
theorem pure_str {b : Str} : D.pure (.str b) = true := rfl
theorem pure_list {b : List D} : D.pure (.list b) = pureL b := rfl
theorem pure_tup {b : List D} : D.pure (.tup b) = pureL b := rfl
theorem entE_eq {N nio : Nat} {args : List D} : entE N nio args = ⟨lend 0 nio args ++ List.replicate (N - args.length) .emp, []⟩ := rfl
theorem peeks_nil : peeks ρ [] = some [] := rfl
theorem wp_peeks {r : RV} {rs : List RV} {Q : List D → Prop} : wq (peeks ρ (r :: rs)) Q = wq (peek ρ r) fun d => wq (peeks ρ rs) fun ds => Q (d :: ds) := by simp only [peeks, wp_bind, wp_map]
def escR (i : Nat) (ρ : En) : Option Sl → Option (D × En)
  | some (.own none d) => some (d, ρ.set i (.val d))
  | some (.val d) => some (d, ρ)
  | _ => none
theorem esc_val : esc ρ (.val d) = some (d, ρ) := rfl
theorem esc_ref : esc ρ (.ref i) = escR i ρ ρ.sl[i]? := by
  unfold esc escR
  try dsimp only
  all_goals rcases ρ.sl[i]? with _ | _ | d | ⟨_ | w, d⟩ | ⟨w, d⟩ <;> rfl
theorem escR_own : escR i ρ (some (.own none d)) = some (d, ρ.set i (.val d)) := rfl
theorem escR_val : escR i ρ (some (.val d)) = some (d, ρ) := rfl
theorem escs_nil : escs ρ [] = some ([], ρ) := rfl
theorem wp_escs {r : RV} {rs : List RV} {Q : List D × En → Prop} : wq (escs ρ (r :: rs)) Q = wq (esc ρ r) fun p => wq (escs p.2 rs) fun q => Q (p.1 :: q.1, q.2) := by simp only [escs, wp_bind, wp_map]
def ownS : Option Sl → Option (Option Nat × D)
  | some (.own w d) => some (w, d)
  | _ => none
theorem ownS_own : ownS (some (.own w d)) = some (w, d) := rfl
theorem lent_nil : lent ρ [] = some [] := rfl
theorem wp_lent {rs : List RV} {Q : List D → Prop} : wq (lent ρ (.ref i :: rs)) Q = wq (ownS ρ.sl[i]?) fun z => wq (lent ρ rs) fun ds => Q (z.2 :: ds) := by
  rw [lent]
  unfold ownS
  all_goals rcases ρ.sl[i]? with _ | _ | d | ⟨_ | w, d⟩ | ⟨w, d⟩ <;> (try dsimp only) <;> first | rw [wp_map, wp_some] | rw [wp_none, wp_none]
theorem places_nil : places [] = [] := rfl
theorem places_ref {rs : List RV} : places (.ref i :: rs) = i :: places rs := rfl
theorem giveBack_nil : giveBack ρ [] [] = some ρ := rfl
theorem wp_giveBack {rs : List RV} {ds : List D} {Q : En → Prop} : wq (giveBack ρ (.ref i :: rs) (d :: ds)) Q = wq (ownS ρ.sl[i]?) fun z => wq (giveBack (ρ.set i (.own z.1 d)) rs ds) Q := by
  rw [giveBack]
  unfold ownS
  all_goals rcases ρ.sl[i]? with _ | _ | d | ⟨_ | w, d⟩ | ⟨w, d⟩ <;> (try dsimp only) <;> first | rw [wp_some] | rw [wp_none, wp_none]
def gaveS (j : Nat) : Option Sl → Option D
  | some (.own (some k) d) => if k = j then some d else none
  | _ => none
theorem gaveS_own : gaveS i (some (.own (some i) d)) = some d := by simp [gaveS]
theorem gave_nil {j : Nat} : gave ρ j 0 = some [] := rfl
theorem wp_gave {j n : Nat} {Q : List D → Prop} : wq (gave ρ j (n + 1)) Q = wq (gaveS j ρ.sl[j]?) fun d => wq (gave ρ (j + 1) n) fun ds => Q (d :: ds) := by
  rw [gave]
  unfold gaveS
  all_goals rcases ρ.sl[j]? with _ | _ | d | ⟨_ | w, d⟩ | ⟨w, d⟩ <;> (try dsimp only) <;> first | (rw [wp_none, wp_none]; done) | skip
  by_cases c : w = j
  · rw [if_pos c, if_pos c, wp_map, wp_some]
  · rw [if_neg c, if_neg c, wp_none, wp_none]
theorem lend_nil {j n : Nat} : lend j n [] = [] := by cases n <;> rfl
theorem lend_val {j : Nat} {ds : List D} : lend j 0 (d :: ds) = .val d :: lend (j + 1) 0 ds := rfl
theorem lend_own {j n : Nat} {ds : List D} : lend j (n + 1) (d :: ds) = .own (some j) d :: lend (j + 1) n ds := rfl
theorem plc_ref : plc (.ref i) = some (.slot i) := rfl
theorem plc_cel : plc (.val (.cel i)) = some (.cell i) := rfl
theorem obj_slot {Q : D → Prop} : wq (ρ.obj (.slot i)) Q = wq (ownS ρ.sl[i]?) fun z => Q z.2 := by
  unfold En.obj ownS
  try dsimp only
  all_goals rcases ρ.sl[i]? with _ | _ | d | ⟨_ | w, d⟩ | ⟨w, d⟩ <;> (try dsimp only) <;> first | rw [wp_some, wp_some] | rw [wp_none, wp_none]
def celS : Option (Option D) → Option D
  | some (some c) => some c
  | _ => none
theorem obj_cell : ρ.obj (.cell i) = celS ρ.st[i]? := by
  unfold En.obj celS
  try dsimp only
  all_goals rcases ρ.st[i]? with _ | _ | d <;> rfl
theorem celS_c : celS (some (some d)) = some d := rfl
def updS (i : Nat) (d : D) (ρ : En) : Option Sl → En
  | some (.own w _) => ρ.set i (.own w d)
  | _ => ρ
theorem upd_slot : ρ.upd (.slot i) d = updS i d ρ ρ.sl[i]? := by
  unfold En.upd updS
  try dsimp only
  all_goals rcases ρ.sl[i]? with _ | _ | d | ⟨_ | w, d⟩ | ⟨w, d⟩ <;> rfl
theorem updS_own {e : D} : updS i d ρ (some (.own w e)) = ρ.set i (.own w d) := rfl
theorem upd_cell : ρ.upd (.cell i) d = ρ.put i (some d) := rfl
theorem isLst_list {ds : List D} : isLst (.list ds) = true := rfl
theorem wp_listAt {r : RV} {Q : Plc → Prop} : wq (listAt ρ r) Q = wq (plc r) fun l => wq (ρ.obj l) fun d => isLst d = true ∧ Q l := by simp only [listAt, wp_bind, wp_guard']
theorem wp_mutAt {g : D → List D → Option D} {l : Plc} {ds : List D} {Q : RV × En → Prop} : wq (mutAt g l ds ρ) Q = wq (ρ.obj l) fun d => wq (g d ds) fun d' => Q (.val .non, ρ.upd l d') := by simp only [mutAt, wp_bind, wp_map]
def celLS (n : Nat) (ρ : En) : Option (Option D) → Option (List D × Option Lk × En)
  | some (some (.list ds)) => some (ds, some (.cell n), ρ)
  | _ => none
theorem srcOf_cel : srcOf ρ (.val (.cel i)) = celLS i ρ ρ.st[i]? := by
  show celL ρ i = _
  unfold celL celLS
  rcases ρ.st[i]? with _ | _ | d
  · rfl
  · rfl
  · cases d <;> rfl
theorem celLS_list {ds : List D} : celLS i ρ (some (some (.list ds))) = some (ds, some (.cell i), ρ) := rfl
theorem srcOf_list {ds : List D} : srcOf ρ (.val (.list ds)) = some (ds, none, ρ) := rfl
theorem srcOf_tup {ds : List D} : srcOf ρ (.val (.tup ds)) = some (ds, none, ρ) := rfl
def srcS (i : Nat) (ρ : En) : Option Sl → Option (List D × Option Lk × En)
  | some (.own w (.list ds)) => some (ds, some (.slot i), ρ.set i (.lck w (.list ds)))
  | some (.lck _ (.list ds)) => some (ds, none, ρ)
  | some (.val (.list ds)) => some (ds, none, ρ)
  | some (.val (.tup ds)) => some (ds, none, ρ)
  | some (.val (.cel n)) => celL ρ n
  | _ => none
theorem srcS_own {ds : List D} : srcS i ρ (some (.own w (.list ds))) = some (ds, some (.slot i), ρ.set i (.lck w (.list ds))) := rfl
theorem srcS_lck {ds : List D} : srcS i ρ (some (.lck w (.list ds))) = some (ds, none, ρ) := rfl
theorem srcS_list {ds : List D} : srcS i ρ (some (.val (.list ds))) = some (ds, none, ρ) := rfl
theorem srcS_tup {ds : List D} : srcS i ρ (some (.val (.tup ds))) = some (ds, none, ρ) := rfl
theorem srcOf_at : srcOf ρ (.ref i) = srcS i ρ ρ.sl[i]? := by
  unfold srcOf srcS
  try dsimp only
  all_goals rcases ρ.sl[i]? with _ | _ | d | ⟨_ | w, d⟩ | ⟨w, d⟩ <;> first | rfl | (cases d <;> rfl)
theorem srcOf_own {ds : List D} (h : ρ.sl[i]? = some (.own w (.list ds))) : srcOf ρ (.ref i) = some (ds, some (.slot i), ρ.set i (.lck w (.list ds))) := by simp [srcOf, h]
theorem srcOf_lck {ds : List D} (h : ρ.sl[i]? = some (.lck w (.list ds))) : srcOf ρ (.ref i) = some (ds, none, ρ) := by simp [srcOf, h]
def unlkS (i : Nat) (ρ : En) : Option Sl → Option (En)
  | some (.lck w d) => some (ρ.set i (.own w d))
  | _ => none
theorem unlk_none : unlk none ρ = some ρ := rfl
theorem unlk_cell : unlk (some (.cell i)) ρ = some ρ := rfl
theorem unlk_some : unlk (some (.slot i)) ρ = unlkS i ρ ρ.sl[i]? := by
  unfold unlk unlkS
  try dsimp only
  all_goals rcases ρ.sl[i]? with _ | _ | d | ⟨_ | w, d⟩ | ⟨w, d⟩ <;> rfl
theorem unlkS_lck : unlkS i ρ (some (.lck w d)) = some (ρ.set i (.own w d)) := rfl
theorem unlkF_nx {lk : Option Lk} {Q : Fl → Prop} : wq (unlkF lk (.nx ρ)) Q = wq (unlk lk ρ) fun r => Q (.nx r) := by simp only [unlkF, wp_map]
theorem unlkF_rt {lk : Option Lk} {Q : Fl → Prop} : wq (unlkF lk (.rt d ρ)) Q = wq (unlk lk ρ) fun r => Q (.rt d r) := by simp only [unlkF, wp_map]
theorem intAt_at : intAt ρ i = (match ρ.sl[i]? with | some (.val (.int a)) => some a | _ => none) := rfl
def intS : Option Sl → Option Int
  | some (.val (.int a)) => some a
  | _ => none
theorem intAt_S : intAt ρ i = intS ρ.sl[i]? := by
  unfold intAt intS
  all_goals rcases ρ.sl[i]? with _ | _ | d | ⟨_ | w, d⟩ | ⟨w, d⟩ <;> first | rfl | (cases d <;> rfl)
theorem intS_val {a : Int} : intS (some (.val (.int a))) = some a := rfl
theorem ownAt_own (h : ρ.sl[i]? = some (.own none d)) : ownAt ρ (.ref i) = some d := by simp [ownAt, h]
def ownO : Option Sl → Option D
  | some (.own none d) => some d
  | _ => none
theorem ownAt_ref : ownAt ρ (.ref i) = ownO ρ.sl[i]? := by
  unfold ownAt ownO
  try dsimp only
  all_goals rcases ρ.sl[i]? with _ | _ | d | ⟨_ | w, d⟩ | ⟨w, d⟩ <;> rfl
theorem ownO_own : ownO (some (.own none d)) = some d := rfl
theorem tNm_ok : tNm i d ρ = some (ρ.set i (.val d)) := rfl
end
/-! data -/
theorem wp_ifs {α : Type} {c : Prop} [Decidable c] {x : α} {P : α → Prop} : wq (if c then some x else none) P = (c ∧ P x) := by
  by_cases h : c <;> simp [h, wp_some, wp_none]
section
variable {i j : Int} {a b c e : D} {xs ys ds : List D} {x y : Str} {Q : D → Prop} {L : List D → Prop} {p q : Prop}
theorem add_int : dAdd (.int i) (.int j) = some (.int (i + j)) := rfl
theorem add_tup : wq (dAdd (.tup xs) (.tup ys)) Q = (xs.length + ys.length ≤ sizeLine ∧ Q (.tup (xs ++ ys))) := wp_ifs
theorem add_list : wq (dAdd (.list xs) (.list ys)) Q = (xs.length + ys.length ≤ sizeLine ∧ Q (.list (xs ++ ys))) := wp_ifs
theorem add_str : wq (dAdd (.str x) (.str y)) Q = (x.length + y.length ≤ sizeLine ∧ Q (.str (x ++ y))) := wp_ifs
theorem sub_int : dSub (.int i) (.int j) = some (.int (i - j)) := rfl
theorem mul_int : wq (dMul (.int i) (.int j)) Q = (CMulA i j ∧ Q (.int (i * j))) := wp_ifs
def LogOk (j : Int) : Prop := j.natAbs.log2 < 9000
theorem fdv_int : wq (dFdv (.int i) (.int j)) Q = ((0 < j ∧ LogOk j) ∧ Q (.int (i / j))) := wp_ifs
theorem mod_int : wq (dMod (.int i) (.int j)) Q = (0 < j ∧ Q (.int (i % j))) := wp_ifs
theorem pow_int : wq (dPow (.int i) (.int j)) Q = ((0 ≤ j ∧ j ≤ 1000000 ∧ -18446744073709551616 < i ∧ i < 18446744073709551616) ∧ Q (.int (i ^ j.toNat))) := by
  unfold dPow
  rw [wp_ifs]
  congr 1
  apply propext
  omega
theorem neg_int : dNeg (.int i) = some (.int (-i)) := rfl
theorem lt_int : dLt (.int i) (.int j) = some (.bl (decide (i < j))) := rfl
theorem le_int : dLe (.int i) (.int j) = some (.bl (decide (i ≤ j))) := rfl
theorem gt_int : dGt (.int i) (.int j) = some (.bl (decide (j < i))) := rfl
theorem ge_int : dGe (.int i) (.int j) = some (.bl (decide (j ≤ i))) := rfl
theorem eq_int : dEq (.int i) (.int j) = some (.bl (decide (i = j))) := rfl
theorem ne_int : dNe (.int i) (.int j) = some (.bl !(decide (i = j))) := rfl
theorem eq_str : dEq (.str x) (.str y) = some (.bl (decide (x = y))) := rfl
theorem ne_str : dNe (.str x) (.str y) = some (.bl !(decide (x = y))) := rfl
theorem is_bl {s t : Bool} : dIs (.bl s) (.bl t) = some (.bl (decide (s = t))) := rfl
theorem is_non : dIs a .non = some (.bl (isNon a)) := by cases a <;> rfl
theorem at_list : dAt (.list ds) (.int i) = atI ds i := rfl
theorem at_tup : dAt (.tup ds) (.int i) = atI ds i := rfl
theorem atI_of {n : Nat} {d : D} (h : ds[n]? = some d) (e : i = (n : Int)) : atI ds i = some d := by
  obtain ⟨h1, h2⟩ := List.getElem?_eq_some_iff.mp h
  subst e
  unfold atI ixN
  rw [if_pos (by omega), if_pos (by omega)]
  simpa using h
theorem atI_0 : atI (a :: ds) 0 = some a := atI_of (n := 0) rfl rfl
theorem atI_1 : atI (a :: b :: ds) 1 = some b := atI_of (n := 1) rfl rfl
theorem atI_2 : atI (a :: b :: c :: ds) 2 = some c := atI_of (n := 2) rfl rfl
theorem atI_3 : atI (a :: b :: c :: e :: ds) 3 = some e := atI_of (n := 3) rfl rfl
theorem sl_tup {l u : Option Int} : dSl (.tup ds) l u = some (.tup (cutD ds l u)) := rfl
theorem sl_list {l u : Option Int} : dSl (.list ds) l u = some (.list (cutD ds l u)) := rfl
theorem sl_str {l u : Option Int} : dSl (.str x) l u = some (.str (cutS x l u)) := rfl
theorem rev_tup : dRev (.tup ds) = some (.tup ds.reverse) := rfl
theorem rev_list : dRev (.list ds) = some (.list ds.reverse) := rfl
theorem len_list : gLen [.list ds] = some (.int ds.length) := rfl
theorem len_tup : gLen [.tup ds] = some (.int ds.length) := rfl
theorem len_str : gLen [.str x] = some (.int x.length) := rfl
theorem len_scr {ns : List Int} : gLen [.scr ns] = some (.int ns.length) := rfl
theorem abs_int : gAbs [.int i] = some (.int (if i < 0 then -i else i)) := rfl
theorem int_int : gInt [.int i] = some (.int i) := rfl
theorem tuple_list : gTuple [.list ds] = some (.tup ds) := rfl
theorem tuple_tup : gTuple [.tup ds] = some (.tup ds) := rfl
theorem list_list : gList [.list ds] = some (.list ds) := rfl
theorem list_tup : gList [.tup ds] = some (.list ds) := rfl
theorem list_scr {ns : List Int} : gList [.scr ns] = some (.list (ns.map .int)) := rfl
theorem min_int : gMin [.int i, .int j] = some (.int (min i j)) := by
  show some (D.int (if j < i then j else i)) = some (D.int (min i j))
  congr 2
  omega
theorem max_int : gMax [.int i, .int j] = some (.int (max i j)) := by
  show some (D.int (if j > i then j else i)) = some (D.int (max i j))
  congr 2
  omega
theorem str_int : wq (gStr [.int i]) Q = ((i.natAbs.log2 < 1920 ∧ (strI i).length ≤ sizeLine) ∧ Q (.str (strI i))) := wp_ifs
theorem app_list : wq (gApp (.list xs) [a]) Q = (xs.length < sizeLine ∧ Q (.list (xs ++ [a]))) := wp_ifs
theorem ins_list : wq (gIns (.list xs) [.int i, a]) Q = ((xs.length < sizeLine ∧ 0 ≤ i ∧ i < 2 ^ 63) ∧ Q (.list (xs.take i.toNat ++ [a] ++ xs.drop i.toNat))) := wp_ifs
theorem ext_list : wq (gExt (.list xs) [.list ys]) Q = (xs.length + ys.length ≤ sizeLine ∧ Q (.list (xs ++ ys))) := wp_ifs
theorem int_bl {s : Bool} : gInt [.bl s] = some (.int (if s then 1 else 0)) := rfl
theorem store_0 : storeD (.list (a :: ds)) (.int 0) e = some (.list (e :: ds)) := by simp [storeD, ixN]
theorem store_1 : storeD (.list (a :: b :: ds)) (.int 1) e = some (.list (a :: e :: ds)) := by simp [storeD, ixN, if_pos (show (1 : Int) < ds.length + 1 + 1 by omega)]
theorem store_2 : storeD (.list (a :: b :: c :: ds)) (.int 2) e = some (.list (a :: b :: e :: ds)) := by simp [storeD, ixN, if_pos (show (2 : Int) < ds.length + 1 + 1 + 1 by omega)]
theorem store_3 {f : D} : storeD (.list (a :: b :: c :: f :: ds)) (.int 3) e = some (.list (a :: b :: c :: e :: ds)) := by simp [storeD, ixN, if_pos (show (3 : Int) < ds.length + 1 + 1 + 1 + 1 by omega)]
theorem rg1_int : wq (srcR1 [.int i]) L = (ok62 i = true ∧ L (rgD 0 i)) := wp_ifs
theorem rg2_int : wq (srcR2 [.int i, .int j]) L = ((ok62 i = true ∧ ok62 j = true) ∧ L (rgD i j)) := wp_ifs
theorem zip_tup : srcZ [.tup xs, .tup ys] = some (zipD xs ys) := rfl
theorem zip_list : srcZ [.list xs, .list ys] = some (zipD xs ys) := rfl
theorem iteP_dec [Decidable p] {A C : Prop} : iteP (decide p) A C = ((p → A) ∧ (¬ p → C)) := by
  by_cases c : p <;> simp [c, iteP]
theorem iteP_ite {s : Bool} {A C : Prop} : iteP s A C = ((s = true → A) ∧ (s = false → C)) := by
  cases s <;> simp [iteP]
theorem iteP_not {s : Bool} {A C : Prop} : iteP (!s) A C = iteP s C A := by cases s <;> rfl
theorem tru_bl {s : Bool} : truth (.bl s) = some s := rfl
theorem isT_int {T : T5} : isT T (.int i) = some (decide (T = .int)) := rfl
theorem isT_str {T : T5} : isT T (.str x) = some (decide (T = .str)) := rfl
theorem isT_tup {T : T5} : isT T (.tup ds) = some (decide (T = .tuple)) := rfl
theorem isT_list {T : T5} : isT T (.list ds) = some (decide (T = .list)) := rfl
theorem dec_t {h : Decidable p} (k : p) : @decide p h = true := decide_eq_true k
theorem dec_f {h : Decidable p} (k : ¬ p) : @decide p h = false := decide_eq_false k
theorem cm_r (h1 : -18446744073709551616 < j) (h2 : j < 18446744073709551616) : CMulA i j = True := eq_true (.inr (.inl ⟨h1, h2⟩))
theorem cm_l (h1 : -18446744073709551616 < i) (h2 : i < 18446744073709551616) : CMulA i j = True := eq_true (.inl ⟨h1, h2⟩)
theorem lo_small (h1 : -18446744073709551616 < j) (h2 : j < 18446744073709551616) : LogOk j = True := by
  apply eq_true
  show j.natAbs.log2 < 9000
  by_cases c : j.natAbs = 0
  · rw [c]; decide
  · exact (Nat.log2_lt c).mpr (Nat.lt_of_lt_of_le (show j.natAbs < 2 ^ 64 by omega) (show (2 : Nat) ^ 64 ≤ 2 ^ 9000 from Nat.pow_le_pow_right (by omega) (by omega)))
theorem sz_le {n : Nat} (h : n ≤ 4096) : (n ≤ sizeLine) = True := eq_true (Nat.le_trans h (by decide))
theorem sz_lt {n : Nat} (h : n ≤ 4096) : (n < sizeLine) = True := eq_true (Nat.lt_of_le_of_lt h (by decide))
theorem fits_nil : fits [] = True := eq_true (Nat.zero_le _)
theorem fits_cons : fits (a :: ds) = (ds.length + 1 ≤ sizeLine) := rfl
theorem wipeE_nil {ρ : En} : wipeE ρ [] = ρ := rfl
theorem wipeE_cons {ρ : En} {v : Nat} {vs : List Nat} : wipeE ρ (v :: vs) = (wipeE ρ vs).set v .emp := rfl
theorem restE_nil {ρ ρ0 : En} : restE ρ0 ρ [] = ρ := rfl
theorem restE_cons {ρ ρ0 : En} {v : Nat} {vs : List Nat} : restE ρ0 ρ (v :: vs) = (restE ρ0 ρ vs).set v (ρ0.sl.getD v .emp) := rfl
def plainS : Option Sl → Bool
  | some .emp => true
  | some (.val _) => true
  | _ => false
theorem plainS_emp : plainS (some .emp) = true := rfl
theorem plainS_val : plainS (some (.val a)) = true := rfl
theorem plainE_nil {ρ : En} : plainE ρ [] = true := rfl
theorem plainE_cons {ρ : En} {v : Nat} {vs : List Nat} : plainE ρ (v :: vs) = (plainS ρ.sl[v]? && plainE ρ vs) := by
  unfold plainE plainS
  rw [List.all_cons]
  all_goals rcases ρ.sl[v]? with _ | _ | d | ⟨_ | w, d⟩ | ⟨w, d⟩ <;> rfl
theorem bls_map {α : Type} {f : α → Bool} : ∀ zs : List α, bls? (zs.map fun z => .bl (f z)) = some (zs.map f)
  | [] => rfl
  | z :: zs => by simp [bls?, bls_map zs]
theorem all_map {α : Type} {f : α → Bool} {zs : List α} : gAll [.list (zs.map fun z => .bl (f z))] = some (.bl (zs.all f)) := by
  simp [gAll, bls_map, List.all_map]
theorem any_map {α : Type} {f : α → Bool} {zs : List α} : gAny [.list (zs.map fun z => .bl (f z))] = some (.bl (zs.any f)) := by
  simp [gAny, bls_map, List.any_map]
theorem ints_map {α : Type} {f : α → Int} : ∀ zs : List α, ints? (zs.map fun z => .int (f z)) = some (zs.map f)
  | [] => rfl
  | z :: zs => by simp [ints?, ints_map zs]
theorem ints_mapI : ∀ zs : List Int, ints? (zs.map .int) = some zs
  | [] => rfl
  | z :: zs => by simp [ints?, ints_mapI zs]
theorem cut_drop {n : Nat} (e : i = (n : Int)) : cutD ds (some i) none = ds.drop n := by
  subst e
  unfold cutD
  rw [HT.sIx_none, HT.sIx_nat, List.take_of_length_le (by rw [List.length_drop]; omega)]
  by_cases h : n ≤ ds.length
  · rw [Nat.min_eq_left h]
  · rw [Nat.min_eq_right (by omega), List.drop_eq_nil_of_le (Nat.le_refl _), List.drop_eq_nil_of_le (by omega)]
theorem cut_take {n : Nat} (e : i = (n : Int)) : cutD ds none (some i) = ds.take n := by
  subst e
  unfold cutD
  rw [HT.sIx_none, HT.sIx_nat, List.drop_zero, Nat.sub_zero]
  by_cases h : n ≤ ds.length
  · rw [Nat.min_eq_left h]
  · rw [Nat.min_eq_right (by omega), List.take_of_length_le (Nat.le_refl _), List.take_of_length_le (by omega)]
theorem cut_1 : cutD ds (some 1) none = ds.drop 1 := cut_drop (n := 1) rfl
theorem mem_cut {l u : Option Int} (h : a ∈ cutD ds l u) : a ∈ ds := List.mem_of_mem_drop (List.mem_of_mem_take h)
theorem len_cut {l u : Option Int} : (cutD ds l u).length ≤ ds.length := by
  unfold cutD
  rw [List.length_take, List.length_drop]
  omega
theorem sum_map {α : Type} {f : α → Int} {zs : List α} : gSum [.list (zs.map fun z => .int (f z))] = some (.int (zs.map f).sum) := by
  unfold gSum
  try dsimp only
  rw [ints_map]
  all_goals rfl
theorem sum_ints {zs : List Int} : gSum [.list (zs.map .int)] = some (.int zs.sum) := by
  unfold gSum
  try dsimp only
  rw [ints_mapI]
  all_goals rfl
/-- a comprehension that keeps every item -/
theorem lc_map {lk : Option Lk} {ds0 : List D} {t : Tgt} {tt : Tx} {te : Ex} {vs : List Nat} {ρ : En} {Q : List D × En → Prop} (g : D → D) (I : En → Prop) (h0 : I ρ)
    (hs : ∀ d ρ (R : D → En → Prop), d ∈ ds → I ρ → (∀ ρ', I ρ' → R (g d) ρ') → wq (t d (wipeE ρ vs)) fun ρ1 => wq (tt ρ1) fun p => iteP p.1 (wq (te p.2) fun q => wq (esc q.2 q.1) fun s => R s.1 s.2) False)
    (hd : ∀ ρ, I ρ → Q (ds.map g, ρ)) (hf : lkFree lk = true := by rfl) : wq (lcLoop (ckOf lk ds0) t tt te vs ds [] ρ) Q := by
  refine wp_lcLoop (fun pre acc ρ => acc = pre.map g ∧ I ρ) ⟨rfl, h0⟩ ?_ ?_ hf
  · rintro pre d post acc ρ e ⟨rfl, hi⟩
    refine wp_mono (hs d ρ (fun v ρ' => v = g d ∧ I ρ') (by rw [e]; simp) hi fun ρ' h => ⟨rfl, h⟩) fun ρ1 h => wp_mono h fun p h => ?_
    unfold iteP at h
    by_cases c : p.1 = true
    · rw [if_pos c] at h ⊢
      refine wp_mono h fun q h => wp_mono h fun z h => ?_
      exact ⟨by rw [h.1, List.map_append]; rfl, h.2⟩
    · rw [if_neg c] at h
      exact h.elim
  · rintro acc ρ ⟨rfl, h⟩
    exact hd ρ h
theorem zip_mem : ∀ {xs ys : List D} {z : D}, z ∈ zipD xs ys → ∃ a b, z = .tup [a, b] ∧ a ∈ xs ∧ b ∈ ys
  | [], _, _, h => by simp [zipD] at h
  | _ :: _, [], _, h => by simp [zipD] at h
  | x :: xs, y :: ys, z, h => by
    simp only [zipD, List.mem_cons] at h
    rcases h with rfl | h
    · exact ⟨x, y, rfl, by simp, by simp⟩
    · obtain ⟨a, b, h1, h2, h3⟩ := zip_mem h
      exact ⟨a, b, h1, by simp [h2], by simp [h3]⟩
theorem tTp_ok {n : Nat} {u : List D → En → Option (En)} {ρ : En} {P : En → Prop} : wq (tTp n u (.tup ds) ρ) P = (ds.length = n ∧ wq (u ds ρ) P) := by
  show wq (if ds.length = n then u ds ρ else none) P = _
  by_cases h : ds.length = n <;> simp [h, wp_none]
theorem wp_tsCons {t : Tgt} {u : List D → En → Option (En)} {ρ : En} {P : En → Prop} : wq (tsCons t u (a :: ds) ρ) P = wq (t a ρ) fun ρ1 => wq (u ds ρ1) P := by
  show wq ((t a ρ).bind fun ρ1 => u ds ρ1) P = _
  rw [wp_bind]
theorem tsNil_ok {ρ : En} : tsNil [] ρ = some ρ := rfl
theorem ok62_of (h : -4611686018427387904 ≤ i) (h' : i < 4611686018427387904) : (ok62 i = true) = True := by
  apply eq_true
  simp only [ok62, Bool.and_eq_true, decide_eq_true_eq]
  exact ⟨h, h'⟩
/-- for over a range from 0, by a word -/
theorem wp_rg0 {lk : Option Lk} {ds0 : List D} {t : Tgt} {body : Sx} {n : Nat} {ρ : En} {Q : Fl → Prop} (W : Nat → En → Prop) (h0 : W 0 ρ)
    (hs : ∀ k ρ, k < n → W k ρ → wq (t (.int k) ρ) fun ρ1 => wq (body ρ1) (turnK (W (k + 1)) Q)) (hd : ∀ ρ, W n ρ → Q (.nx ρ)) (hf : lkFree lk = true := by rfl) : wq (forLoop (ckOf lk ds0) t body (rgD 0 n) ρ) Q := by
  have hl : (rgD 0 n).length = n := by rw [rgD_len]; omega
  refine wp_for (fun pre ρ => W pre.length ρ) h0 ?_ ?_ hf
  · intro pre d post ρ e w
    have hp : pre.length < n := by rw [← hl, e]; simp
    have hd : (rgD 0 n)[pre.length]? = some d := by rw [e]; simp
    rw [rgD_at hd, Int.zero_add, List.length_append]
    exact hs _ _ hp w
  · intro ρ w
    rw [hl] at w
    exact hd ρ w
theorem sorted_ints {ns : List Int} : gSorted [.list (ns.map .int)] = some (.list ((sortI ns).map .int)) := by
  show (ints? _).map _ = _
  rw [ints_mapI, Option.map_some]
theorem T5_1 : (T5.int = T5.bool) = False := by simp
end
end DL

/-! E11: equality of plain data, comprehensions over ranges and with tests -/
namespace DL
open PySem L2
/-- data that == compares as it is: no bool in it -/
inductive Eqd : Nat → D → Prop
  | non {n : Nat} : Eqd n .non
  | int {n : Nat} {i : Int} : Eqd n (.int i)
  | str {n : Nat} {x : Str} : PyData.strOk x = true → Eqd n (.str x)
  | list {n : Nat} {ds : List D} : (∀ d ∈ ds, Eqd n d) → Eqd (n + 1) (.list ds)
  | tup {n : Nat} {ds : List D} : (∀ d ∈ ds, Eqd n d) → Eqd (n + 1) (.tup ds)
/-- its form as given data -/
def Pyd (n : Nat) (d : D) (p : PyData) : Prop := d.py = some p ∧ p.canLay0 = true ∧ p.depth ≤ n
theorem pyds {n : Nat} : ∀ {ds : List D}, (∀ d ∈ ds, ∃ p, Pyd n d p) → ∃ ps, pyAll ds = some ps ∧ PyData.canLayAll0 ps = true ∧ PyData.depthAll ps ≤ n
  | [], _ => ⟨[], by simp only [pyAll], by simp only [PyData.canLayAll0], by simp only [PyData.depthAll]; omega⟩
  | d :: ds, h => by
    obtain ⟨p, h1, h2, h3⟩ := h d (by simp)
    obtain ⟨ps, k1, k2, k3⟩ := pyds (ds := ds) fun d hd => h d (by simp [hd])
    refine ⟨p :: ps, by simp only [pyAll, h1, k1, Option.bind_some, Option.map_some], ?_, ?_⟩
    · simp only [PyData.canLayAll0, h2, k2, Bool.and_self]
    · simp only [PyData.depthAll]; omega
theorem Eqd.pyd {n : Nat} {d : D} (h : Eqd n d) : ∃ p, Pyd n d p := by
  induction h with
  | non => exact ⟨.none, by simp only [D.py], by simp only [PyData.canLay0], by simp only [PyData.depth]; omega⟩
  | int => exact ⟨.int _, by simp only [D.py]; rfl, by simp only [PyData.canLay0], by simp only [PyData.depth]; omega⟩
  | str hx => exact ⟨.str _, by simp only [D.py]; rfl, by simp only [PyData.canLay0, hx], by simp only [PyData.depth]; omega⟩
  | list _ ih =>
    obtain ⟨ps, h1, h2, h3⟩ := pyds ih
    exact ⟨.list ps, by simp only [D.py, h1, Option.map_some], by simp only [PyData.canLay0, h2], by simp only [PyData.depth]; omega⟩
  | tup _ ih =>
    obtain ⟨ps, h1, h2, h3⟩ := pyds ih
    exact ⟨.tuple ps, by simp only [D.py, h1, Option.map_some], by simp only [PyData.canLay0, h2], by simp only [PyData.depth]; omega⟩
theorem eqv_all {n : Nat} : ∀ {ds es : List D} {ps qs : List PyData}, (∀ d ∈ ds, ∀ e p q, Eqd n e → d.py = some p → e.py = some q → (PyData.eqv p q = true ↔ d = e)) → (∀ e ∈ es, Eqd n e) → pyAll ds = some ps → pyAll es = some qs → (PyData.eqvAll ps qs = true ↔ ds = es)
  | [], [], ps, qs, _, _, h1, h2 => by
    simp only [pyAll, Option.some.injEq] at h1 h2
    subst h1; subst h2
    simp only [PyData.eqvAll]
  | [], e :: es, ps, qs, _, _, h1, h2 => by
    simp only [pyAll, Option.some.injEq, Option.bind_eq_some_iff, Option.map_eq_some_iff] at h1 h2
    obtain ⟨q, _, qs', _, rfl⟩ := h2
    subst h1
    simp [PyData.eqvAll]
  | d :: ds, [], ps, qs, _, _, h1, h2 => by
    simp only [pyAll, Option.some.injEq, Option.bind_eq_some_iff, Option.map_eq_some_iff] at h1 h2
    obtain ⟨q, _, qs', _, rfl⟩ := h1
    subst h2
    simp [PyData.eqvAll]
  | d :: ds, e :: es, ps, qs, h, k, h1, h2 => by
    simp only [pyAll, Option.bind_eq_some_iff, Option.map_eq_some_iff] at h1 h2
    obtain ⟨p, f1, ps', f2, rfl⟩ := h1
    obtain ⟨q, g1, qs', g2, rfl⟩ := h2
    have a := h d (by simp) e p q (k e (by simp)) f1 g1
    have b := eqv_all (ds := ds) (es := es) (fun d hd => h d (by simp [hd])) (fun e he => k e (by simp [he])) f2 g2
    simp only [PyData.eqvAll, Bool.and_eq_true, a, b, List.cons.injEq]
theorem Eqd.eqv {n : Nat} {d : D} (h : Eqd n d) : ∀ {m : Nat} {e : D} {p q : PyData}, Eqd m e → d.py = some p → e.py = some q → (PyData.eqv p q = true ↔ d = e) := by
  induction h with
  | non =>
    intro m e p q he h1 h2
    simp only [D.py, Option.some.injEq] at h1
    subst h1
    cases he <;> simp only [D.py, Option.some.injEq, Option.map_eq_some_iff] at h2 <;> first | (subst h2; simp [PyData.eqv]) | (obtain ⟨qs, _, rfl⟩ := h2; simp [PyData.eqv])
  | int =>
    intro m e p q he h1 h2
    simp only [D.py, Option.some.injEq] at h1
    subst h1
    cases he <;> simp only [D.py, Option.some.injEq, Option.map_eq_some_iff] at h2 <;> first | (subst h2; simp [PyData.eqv]) | (obtain ⟨qs, _, rfl⟩ := h2; simp [PyData.eqv])
  | str _ =>
    intro m e p q he h1 h2
    simp only [D.py, Option.some.injEq] at h1
    subst h1
    cases he <;> simp only [D.py, Option.some.injEq, Option.map_eq_some_iff] at h2 <;> first | (subst h2; simp [PyData.eqv]) | (obtain ⟨qs, _, rfl⟩ := h2; simp [PyData.eqv])
  | list _ ih =>
    intro m e p q he h1 h2
    simp only [D.py, Option.map_eq_some_iff] at h1
    obtain ⟨ps, h1, rfl⟩ := h1
    cases he <;> simp only [D.py, Option.some.injEq, Option.map_eq_some_iff] at h2
    case list he =>
      obtain ⟨qs, h2, rfl⟩ := h2
      rw [PyData.eqv, eqv_all (fun d hd e p q he f1 f2 => ih d hd he f1 f2) he h1 h2, D.list.injEq]
    all_goals first | (subst h2; simp [PyData.eqv]) | (obtain ⟨qs, _, rfl⟩ := h2; simp [PyData.eqv])
  | tup _ ih =>
    intro m e p q he h1 h2
    simp only [D.py, Option.map_eq_some_iff] at h1
    obtain ⟨ps, h1, rfl⟩ := h1
    cases he <;> simp only [D.py, Option.some.injEq, Option.map_eq_some_iff] at h2
    case tup he =>
      obtain ⟨qs, h2, rfl⟩ := h2
      rw [PyData.eqv, eqv_all (fun d hd e p q he f1 f2 => ih d hd he f1 f2) he h1 h2, D.tup.injEq]
    all_goals first | (subst h2; simp [PyData.eqv]) | (obtain ⟨qs, _, rfl⟩ := h2; simp [PyData.eqv])
theorem Pyd.shaped {n : Nat} {d : D} {p : PyData} (h : Pyd n d p) (hn : n ≤ 64) : SeqAt.shaped p = true := by
  obtain ⟨_, h2, h3⟩ := h
  simp only [SeqAt.shaped, h2, Bool.true_and, decide_eq_true_eq]
  omega
theorem eqB_data {n : Nat} {d e : D} (hn : n ≤ 64) (hd : Eqd n d) (he : Eqd n e) : ∃ b, eqB d e = some b ∧ (b = true ↔ d = e) := by
  obtain ⟨p, hp⟩ := hd.pyd
  obtain ⟨q, hq⟩ := he.pyd
  have g : ∃ b, (d.py.bind fun p => e.py.bind fun q => if SeqAt.shaped p = true ∧ SeqAt.shaped q = true then some (PyData.eqv p q) else none) = some b ∧ (b = true ↔ d = e) := by
    refine ⟨PyData.eqv p q, ?_, hd.eqv he hp.1 hq.1⟩
    rw [hp.1, hq.1, Option.bind_some, Option.bind_some, if_pos ⟨hp.shaped hn, hq.shaped hn⟩]
  unfold eqB
  split
  · exact ⟨_, rfl, by simp⟩
  · exact ⟨_, rfl, by simp⟩
  · exact g
theorem wp_eqD {n : Nat} {d e : D} {Q : D → Prop} (hn : n ≤ 64) (hd : Eqd n d) (he : Eqd n e) (h : ∀ b, (b = true ↔ d = e) → Q (.bl b)) : wq (dEq d e) Q := by
  obtain ⟨b, h1, h2⟩ := eqB_data hn hd he
  rw [dEq, h1, Option.map_some, wp_some]
  exact h b h2
theorem wp_neD {n : Nat} {d e : D} {Q : D → Prop} (hn : n ≤ 64) (hd : Eqd n d) (he : Eqd n e) (h : ∀ b, (b = true ↔ d = e) → Q (.bl !b)) : wq (dNe d e) Q := by
  obtain ⟨b, h1, h2⟩ := eqB_data hn hd he
  rw [dNe, h1, Option.map_some, wp_some]
  exact h b h2
theorem Eqd.ints {n : Nat} {ns : List Int} : Eqd (n + 1) (.list (ns.map .int)) := .list fun d hd => by
  obtain ⟨i, _, rfl⟩ := List.mem_map.mp hd
  exact .int
/-- a word between two statements -/
def midK (R : En → Prop) (Q : Fl → Prop) : Fl → Prop
  | .nx ρ => R ρ
  | .bk ρ => Q (.bk ρ)
  | .ct ρ => Q (.ct ρ)
  | .rt d ρ => Q (.rt d ρ)
  | .ro d ρ => Q (.ro d ρ)
theorem midK_nx {R : En → Prop} {Q : Fl → Prop} {ρ : En} : midK R Q (.nx ρ) = R ρ := rfl
theorem midK_rt {R : En → Prop} {Q : Fl → Prop} {d : D} {ρ : En} : midK R Q (.rt d ρ) = Q (.rt d ρ) := rfl
theorem midK_bk {R : En → Prop} {Q : Fl → Prop} {ρ : En} : midK R Q (.bk ρ) = Q (.bk ρ) := rfl
theorem midK_ct {R : En → Prop} {Q : Fl → Prop} {ρ : En} : midK R Q (.ct ρ) = Q (.ct ρ) := rfl
theorem wp_cut {m n : Sx} {ρ : En} {Q : Fl → Prop} (R : En → Prop) (h2 : ∀ ρ', R ρ' → wq (n ρ') Q) (h1 : wq (m ρ) (midK R Q)) : wq (sSeq m n ρ) Q := by
  rw [wp_seq]
  refine wp_mono h1 fun fl h => ?_
  cases fl with
  | nx ρ' => exact h2 _ h
  | _ => exact h
theorem wp_whl {N : Nat} {t : Tx} {body : Sx} {ρ : En} {Q : Fl → Prop} (W : Nat → En → Prop) (m : Nat) (hm : m < N) (h0 : W m ρ)
    (hs : ∀ m ρ, W m ρ → wq (t ρ) fun p => iteP p.1 (wq (body p.2) (turnK (fun ρ2 => ∃ m', m' < m ∧ W m' ρ2) Q)) (Q (.nx p.2))) : wq (sWhile N t body ρ) Q := wp_while W m hm h0 hs
/-- for over items that are made of others -/
theorem wp_forM {lk : Option Lk} {ds0 : List D} {α : Type} {zs : List α} {g : α → D} {t : Tgt} {body : Sx} {ρ : En} {Q : Fl → Prop} (W : List α → En → Prop) (h0 : W [] ρ)
    (hs : ∀ p z q ρ, zs = p ++ z :: q → W p ρ → wq (t (g z) ρ) fun ρ1 => wq (body ρ1) (turnK (W (p ++ [z])) Q)) (hd : ∀ ρ, W zs ρ → Q (.nx ρ)) (hf : lkFree lk = true := by rfl) : wq (forLoop (ckOf lk ds0) t body (zs.map g) ρ) Q := by
  have go : ∀ (q p : List α) (ρ : En), zs = p ++ q → W p ρ → wq (forLoop (ckOf lk ds0) t body (q.map g) ρ) Q := by
    intro q
    induction q with
    | nil =>
      intro p ρ e w
      rw [List.map_nil, wp_for_nil]
      refine ⟨ck_free hf, ?_⟩
      rw [List.append_nil] at e
      subst e
      exact hd ρ w
    | cons z q ih =>
      intro p ρ e w
      rw [List.map_cons, wp_for_cons]
      refine ⟨ck_free hf, ?_⟩
      refine wp_mono (hs p z q ρ e w) fun ρ1 h => wp_mono h fun fl h => ?_
      cases fl with
      | nx ρ2 => exact ih (p ++ [z]) ρ2 (by simp [e]) h
      | ct ρ2 => exact ih (p ++ [z]) ρ2 (by simp [e]) h
      | bk ρ2 => exact h
      | rt d ρ2 => exact h
      | ro d ρ2 => exact h
  exact go zs [] ρ rfl h0
/-- for over a range, by a word over the turn's number -/
theorem wp_rg {lk : Option Lk} {ds0 : List D} {t : Tgt} {body : Sx} {lo hi : Int} {ρ : En} {Q : Fl → Prop} (W : Nat → En → Prop) (h0 : W 0 ρ)
    (hs : ∀ k ρ, k < (hi - lo).toNat → W k ρ → wq (t (.int (lo + k)) ρ) fun ρ1 => wq (body ρ1) (turnK (W (k + 1)) Q)) (hd : ∀ ρ, W (hi - lo).toNat ρ → Q (.nx ρ)) (hf : lkFree lk = true := by rfl) : wq (forLoop (ckOf lk ds0) t body (rgD lo hi) ρ) Q := by
  have hl : (rgD lo hi).length = (hi - lo).toNat := rgD_len lo hi
  refine wp_for (fun pre ρ => W pre.length ρ) h0 ?_ ?_ hf
  · intro pre d post ρ e w
    have hp : pre.length < (hi - lo).toNat := by rw [← hl, e]; simp
    have hd : (rgD lo hi)[pre.length]? = some d := by rw [e]; simp
    rw [rgD_at hd, List.length_append]
    exact hs _ _ hp w
  · intro ρ w
    rw [hl] at w
    exact hd ρ w
/-! comprehensions -/
/-- with a test: what is kept, what is made of it -/
theorem lc_filt {lk : Option Lk} {ds0 : List D} {t : Tgt} {tt : Tx} {te : Ex} {vs : List Nat} {ρ : En} {ds : List D} {Q : List D × En → Prop} (p : D → Bool) (g : D → D) (I : En → Prop) (h0 : I ρ)
    (hs : ∀ d ρ (R : D → En → Prop) (S : En → Prop), d ∈ ds → I ρ → (∀ ρ', I ρ' → p d = true → R (g d) ρ') → (∀ ρ', I ρ' → p d = false → S ρ') → wq (t d (wipeE ρ vs)) fun ρ1 => wq (tt ρ1) fun z => iteP z.1 (wq (te z.2) fun q => wq (esc q.2 q.1) fun s => R s.1 s.2) (S z.2))
    (hd : ∀ ρ, I ρ → Q ((ds.filter p).map g, ρ)) (hf : lkFree lk = true := by rfl) : wq (lcLoop (ckOf lk ds0) t tt te vs ds [] ρ) Q := by
  refine wp_lcLoop (fun pre acc ρ => acc = (pre.filter p).map g ∧ I ρ) ⟨rfl, h0⟩ ?_ ?_ hf
  · rintro pre d post acc ρ e ⟨rfl, hi⟩
    refine wp_mono (hs d ρ (fun v ρ' => p d = true ∧ v = g d ∧ I ρ') (fun ρ' => p d = false ∧ I ρ') (by rw [e]; simp) hi (fun ρ' h h' => ⟨h', rfl, h⟩) (fun ρ' h h' => ⟨h', h⟩)) fun ρ1 h => wp_mono h fun z h => ?_
    unfold iteP at h
    by_cases c : z.1 = true
    · rw [if_pos c] at h ⊢
      refine wp_mono h fun q h => wp_mono h fun s h => ?_
      exact ⟨by rw [h.2.1, List.filter_append, List.map_append]; simp [h.1], h.2.2⟩
    · rw [if_neg c] at h ⊢
      exact ⟨by rw [List.filter_append]; simp [h.1], h.2⟩
  · rintro acc ρ ⟨rfl, h⟩
    exact hd ρ h
/-- over a range -/
theorem lc_rg {lk : Option Lk} {ds0 : List D} {t : Tgt} {tt : Tx} {te : Ex} {vs : List Nat} {ρ : En} {lo hi : Int} {Q : List D × En → Prop} (g : Nat → D) (I : En → Prop) (h0 : I ρ)
    (hs : ∀ k ρ (R : D → En → Prop), k < (hi - lo).toNat → I ρ → (∀ ρ', I ρ' → R (g k) ρ') → wq (t (.int (lo + k)) (wipeE ρ vs)) fun ρ1 => wq (tt ρ1) fun p => iteP p.1 (wq (te p.2) fun q => wq (esc q.2 q.1) fun s => R s.1 s.2) False)
    (hd : ∀ ρ, I ρ → Q ((List.range (hi - lo).toNat).map g, ρ)) (hf : lkFree lk = true := by rfl) : wq (lcLoop (ckOf lk ds0) t tt te vs (rgD lo hi) [] ρ) Q := by
  have hl : (rgD lo hi).length = (hi - lo).toNat := rgD_len lo hi
  refine wp_lcLoop (fun pre acc ρ => acc = (List.range pre.length).map g ∧ I ρ) ⟨rfl, h0⟩ ?_ ?_ hf
  · rintro pre d post acc ρ e ⟨rfl, hi'⟩
    have hp : pre.length < (hi - lo).toNat := by rw [← hl, e]; simp
    have hd : (rgD lo hi)[pre.length]? = some d := by rw [e]; simp
    rw [rgD_at hd]
    refine wp_mono (hs pre.length ρ (fun v ρ' => v = g pre.length ∧ I ρ') hp hi' fun ρ' h => ⟨rfl, h⟩) fun ρ1 h => wp_mono h fun p h => ?_
    unfold iteP at h
    by_cases c : p.1 = true
    · rw [if_pos c] at h ⊢
      refine wp_mono h fun q h => wp_mono h fun z h => ?_
      exact ⟨by rw [h.1, List.length_append, List.length_singleton, List.range_succ, List.map_append]; rfl, h.2⟩
    · rw [if_neg c] at h
      exact h.elim
  · rintro acc ρ ⟨rfl, h⟩
    rw [hl]
    exact hd ρ h
theorem lc_rg0 {lk : Option Lk} {ds0 : List D} {t : Tgt} {tt : Tx} {te : Ex} {vs : List Nat} {ρ : En} {n : Nat} {Q : List D × En → Prop} (g : Nat → D) (I : En → Prop) (h0 : I ρ)
    (hs : ∀ (k : Nat) ρ (R : D → En → Prop), k < n → I ρ → (∀ ρ', I ρ' → R (g k) ρ') → wq (t (.int k) (wipeE ρ vs)) fun ρ1 => wq (tt ρ1) fun p => iteP p.1 (wq (te p.2) fun q => wq (esc q.2 q.1) fun s => R s.1 s.2) False)
    (hd : ∀ ρ, I ρ → Q ((List.range n).map g, ρ)) (hf : lkFree lk = true := by rfl) : wq (lcLoop (ckOf lk ds0) t tt te vs (rgD 0 n) [] ρ) Q := by
  have e : ((n : Int) - 0).toNat = n := by omega
  refine lc_rg g I h0 (fun k ρ R hk hi hR => ?_) (fun ρ h => by rw [e]; exact hd ρ h) hf
  rw [Int.zero_add]
  exact hs k ρ R (by omega) hi hR
/-- a comprehension over items that are made of others -/
theorem lc_mapM {lk : Option Lk} {ds0 : List D} {α : Type} {zs : List α} {h : α → D} {t : Tgt} {tt : Tx} {te : Ex} {vs : List Nat} {ρ : En} {Q : List D × En → Prop} (g : α → D) (I : En → Prop) (h0 : I ρ)
    (hs : ∀ z ρ (R : D → En → Prop), z ∈ zs → I ρ → (∀ ρ', I ρ' → R (g z) ρ') → wq (t (h z) (wipeE ρ vs)) fun ρ1 => wq (tt ρ1) fun p => iteP p.1 (wq (te p.2) fun q => wq (esc q.2 q.1) fun s => R s.1 s.2) False)
    (hd : ∀ ρ, I ρ → Q (zs.map g, ρ)) (hf : lkFree lk = true := by rfl) : wq (lcLoop (ckOf lk ds0) t tt te vs (zs.map h) [] ρ) Q := by
  have go : ∀ (q p : List α) (acc : List D) (ρ : En), zs = p ++ q → acc = p.map g → I ρ → wq (lcLoop (ckOf lk ds0) t tt te vs (q.map h) acc ρ) Q := by
    intro q
    induction q with
    | nil =>
      intro p acc ρ e1 e2 i
      rw [List.map_nil, wp_lcLoop_nil, e2]
      refine ⟨ck_free hf, ?_⟩
      rw [List.append_nil] at e1
      subst e1
      exact hd ρ i
    | cons z q ih =>
      intro p acc ρ e1 e2 i
      rw [List.map_cons, wp_lcLoop_cons]
      refine ⟨ck_free hf, ?_⟩
      refine wp_mono (hs z ρ (fun v ρ' => v = g z ∧ I ρ') (by rw [e1]; simp) i fun ρ' k => ⟨rfl, k⟩) fun ρ1 k => wp_mono k fun p' k => ?_
      unfold iteP at k
      by_cases c : p'.1 = true
      · rw [if_pos c] at k ⊢
        refine wp_mono k fun q' k => wp_mono k fun s k => ?_
        exact ih (p ++ [z]) _ _ (by simp [e1]) (by rw [e2, k.1, List.map_append]; rfl) k.2
      · rw [if_neg c] at k
        exact k.elim
  exact go zs [] [] ρ rfl rfl h0
theorem inB_data {n : Nat} {d : D} {ds : List D} (hn : n + 1 ≤ 64) (hd : Eqd n d) (hs : ∀ e ∈ ds, Eqd n e) : ∃ b, (d.py.bind fun p => (pyAll ds).bind fun ps => if SeqAt.shaped p = true ∧ SeqAt.shaped (.tuple ps) = true then some (ps.any fun z => PyData.eqv z p) else none) = some b ∧ (b = true ↔ d ∈ ds) := by
  obtain ⟨p, hp⟩ := hd.pyd
  obtain ⟨ps, k1, k2, k3⟩ := pyds fun e he => (hs e he).pyd
  have sh : SeqAt.shaped (.tuple ps) = true := by
    have hz : (PyData.tuple ps).depth ≤ 64 := by rw [PyData.depth]; omega
    have hc : (PyData.tuple ps).canLay0 = true := by rw [PyData.canLay0]; exact k2
    unfold SeqAt.shaped
    rw [hc, Bool.true_and]
    exact decide_eq_true hz
  refine ⟨_, by rw [hp.1, Option.bind_some, k1, Option.bind_some, if_pos ⟨hp.shaped (by omega), sh⟩], ?_⟩
  clear sh k2 k3
  induction ds generalizing ps with
  | nil =>
    simp only [pyAll, Option.some.injEq] at k1
    subst k1
    simp
  | cons e ds ih =>
    simp only [pyAll, Option.bind_eq_some_iff, Option.map_eq_some_iff] at k1
    obtain ⟨q, f1, qs, f2, rfl⟩ := k1
    have := ih (fun e he => hs e (by simp [he])) qs f2
    rw [List.any_cons, Bool.or_eq_true, this, (hs e (by simp)).eqv hd f1 hp.1, List.mem_cons]
    exact ⟨fun h => h.imp Eq.symm id, fun h => h.imp Eq.symm id⟩
theorem wp_inT {n : Nat} {d : D} {ds : List D} {Q : D → Prop} (hn : n + 1 ≤ 64) (hd : Eqd n d) (hs : ∀ e ∈ ds, Eqd n e) (h : ∀ b, (b = true ↔ d ∈ ds) → Q (.bl b)) : wq (dIn d (.tup ds)) Q := by
  obtain ⟨b, h1, h2⟩ := inB_data hn hd hs
  rw [dIn, inB, h1, Option.map_some, wp_some]
  exact h b h2
theorem wp_ninT {n : Nat} {d : D} {ds : List D} {Q : D → Prop} (hn : n + 1 ≤ 64) (hd : Eqd n d) (hs : ∀ e ∈ ds, Eqd n e) (h : ∀ b, (b = true ↔ d ∈ ds) → Q (.bl !b)) : wq (dNotIn d (.tup ds)) Q := by
  obtain ⟨b, h1, h2⟩ := inB_data hn hd hs
  rw [dNotIn, inB, h1, Option.map_some, wp_some]
  exact h b h2
end DL

/-! E12: sorted of tuples of ints of any lengths, from a list or a tuple -/
namespace DL
open PySem L2 PyProof.Rows
/-- one row ahead of another -/
def rowLt : List Int → List Int → Bool
  | [], [] => false
  | [], _ :: _ => true
  | _ :: _, [] => false
  | x :: xs, y :: ys => if x = y then rowLt xs ys else decide (x < y)
theorem rowLt_asym : ∀ x y : List Int, rowLt x y = true → rowLt y x = false
  | [], [], h => by simp [rowLt] at h
  | [], _ :: _, _ => rfl
  | _ :: _, [], h => by simp [rowLt] at h
  | x :: xs, y :: ys, h => by
    simp only [rowLt] at h ⊢
    by_cases c : x = y
    · rw [if_pos c] at h
      rw [if_pos c.symm]
      exact rowLt_asym xs ys h
    · rw [if_neg c, decide_eq_true_eq] at h
      rw [if_neg (Ne.symm c), decide_eq_false_iff_not]
      omega
theorem rowLt_tr : ∀ x y z : List Int, rowLt y x = false → rowLt z y = false → rowLt z x = false
  | [], y, [], _, _ => rfl
  | [], [], _ :: _, _, h => rfl
  | [], _ :: _, _ :: _, _, _ => rfl
  | _ :: _, [], _, h, _ => by simp [rowLt] at h
  | _ :: _, _ :: _, [], _, h => by simp [rowLt] at h
  | x :: xs, y :: ys, z :: zs, h1, h2 => by
    simp only [rowLt] at h1 h2 ⊢
    by_cases c : y = x
    · subst c
      rw [if_pos rfl] at h1
      by_cases d : z = y
      · rw [if_pos d] at h2 ⊢
        exact rowLt_tr xs ys zs h1 h2
      · rw [if_neg d] at h2 ⊢
        exact h2
    · rw [if_neg c, decide_eq_false_iff_not] at h1
      by_cases d : z = y
      · subst d
        rw [if_neg c, decide_eq_false_iff_not]
        exact h1
      · rw [if_neg d, decide_eq_false_iff_not] at h2
        rw [if_neg (by omega), decide_eq_false_iff_not]
        omega
theorem rowLt_total : ∀ x y : List Int, rowLt x y = false → rowLt y x = false → x = y
  | [], [], _, _ => rfl
  | [], _ :: _, h, _ => by simp [rowLt] at h
  | _ :: _, [], _, h => by simp [rowLt] at h
  | x :: xs, y :: ys, h1, h2 => by
    simp only [rowLt] at h1 h2
    by_cases c : x = y
    · subst c
      rw [if_pos rfl] at h1 h2
      rw [rowLt_total xs ys h1 h2]
    · rw [if_neg c, decide_eq_false_iff_not] at h1
      rw [if_neg (Ne.symm c), decide_eq_false_iff_not] at h2
      omega
theorem rowLt_swo : SrtO.Swo rowLt := ⟨rowLt_asym, rowLt_tr⟩
section
variable {prog : Program} {w : World} {A : Around} {E : Value → Shared → Prop} {s : Shared}
/-- the walk over two tuples -/
theorem rows_walk {Q : Bool → Shared → Prop} {fin : Bool} : ∀ {us vs : List Value} {ns ms : List Int} (i : Nat), IntsAre us ns → IntsAre vs ms → fin = decide (ns.length < ms.length) → Q (rowLt ns ms) s → PySem.W.KatLex prog w A true fin Q (us.zip vs) i s
  | _, _, [], [], i, hx, hy, e, q => by
    cases hx
    cases hy
    refine PySem.W.kat_nil ?_
    rw [e]
    exact q
  | _, _, [], m :: ms, i, hx, hy, e, q => by
    cases hx
    try rw [List.zip_nil_left]
    refine PySem.W.kat_nil ?_
    rw [e]
    exact q
  | _, _, n :: ns, [], i, hx, hy, e, q => by
    cases hy
    try rw [List.zip_nil_right]
    refine PySem.W.kat_nil ?_
    rw [e]
    exact q
  | _, _, n :: ns, m :: ms, i, hx, hy, e, q => by
    obtain ⟨t, us', rfl, hx'⟩ := hx.cons_inv
    obtain ⟨u, vs', rfl, hy'⟩ := hy.cons_inv
    show PySem.W.KatLex prog w A true fin Q ((Value.int n t, Value.int m u) :: us'.zip vs') i s
    refine PySem.W.kat_cons (wpAny_eqBool_int ?_)
    by_cases c : n = m
    · subst c
      rw [beq_self_eq_true]
      refine PySem.W.kat_yes (rows_walk (i + 1) hx' hy' ?_ ?_)
      · rw [e]; simp
      · rw [rowLt, if_pos rfl] at q; exact q
    · rw [beq_eq_false_iff_ne.mpr c]
      refine PySem.W.kat_no (TS.oneLt_ints _ ?_)
      rw [rowLt, if_neg c] at q
      exact q
/-- all the items are tuples of ints, told by k -/
def RowsOk (h : Heap) (k : Value → List Int) (us : List Value) : Prop := ∀ u ∈ us, TS.TupInts h u (k u)
theorem rows_cmp {k : Value → List Int} {us : List Value} (x : RowsOk s.heap k us) : SrtO.Cmp prog w A s (tuples' true) (fun p => p.1 ∈ us) (SrtO.lt2 fun u v => rowLt (k u) (k v)) := by
  intro p q hm hm'
  obtain ⟨a, xs, e1, ⟨o, ho, _, n, hd⟩, i1⟩ := x _ hm
  obtain ⟨b, ys, e2, ⟨o', ho', _, n', hd'⟩, i2⟩ := x _ hm'
  show wpAny (model prog w) A (keyLt' (tuples' true) p.1 q.1) (fun r s' => s' = s ∧ r = rowLt (k p.1) (k q.1)) (fun _ _ => False) s
  rw [show p.1 = Value.ref a from e1, show q.1 = Value.ref b from e2] at *
  refine PySem.W.kat_lt ho hd ho' hd' ?_
  have l1 := i1.length
  have l2 := i2.length
  refine rows_walk 0 i1 i2 ?_ ⟨rfl, rfl⟩
  rw [← l1, ← l2, Array.length_toList, Array.length_toList]
theorem rows_firsts {h : Heap} {k : Value → List Int} : ∀ {us : List Value}, RowsOk h k us → (∀ u ∈ us, k u ≠ []) → ∃ fs, PySem.W.KatTups h us fs ∧ fs.length = us.length ∧ ∀ f ∈ fs, ∃ n t, f = Value.int n t
  | [], _, _ => ⟨[], PySem.W.KatTups.nil, rfl, fun f hf => nomatch hf⟩
  | u :: us, x, ne => by
    obtain ⟨fs, q1, q2, q3⟩ := rows_firsts (us := us) (fun v hv => x v (List.mem_cons_of_mem _ hv)) fun v hv => ne v (List.mem_cons_of_mem _ hv)
    obtain ⟨a, xs, e1, ⟨o, ho, hc, n, hd⟩, i1⟩ := x u List.mem_cons_self
    cases q : k u with
    | nil => exact absurd q (ne u List.mem_cons_self)
    | cons m ms =>
      rw [q] at i1
      obtain ⟨t, xs', e3, _⟩ := i1.cons_inv
      subst e1
      refine ⟨.int m t :: fs, PySem.W.KatTups.cons ho hc hd ?_ q1, by simp [q2], fun f hf => ?_⟩
      · have z : xs.toList[0]? = some (Value.int m t) := by rw [e3]; rfl
        simpa using z
      · rcases List.mem_cons.mp hf with rfl | hf
        · exact ⟨m, t, rfl⟩
        · exact q3 f hf
theorem RowsOk.keeps {h h' : Heap} {k : Value → List Int} {us : List Value} (x : RowsOk h k us) (kp : ∀ b o, h.get? b = some o → o.cls = .type "tuple" → h'.get? b = some o) : RowsOk h' k us := fun u hu => (x u hu).keeps kp
theorem rows_sortable {a : Addr} {k : Value → List Int} {us : List Value} (h2 : 2 ≤ us.length) (x : RowsOk s.heap k us) (ne : ∀ u ∈ us, k u ≠ []) (ha : ∀ o, s.heap.get? a = some o → o.cls ≠ .type "tuple") : SrtO.SortableO prog w A s a us fun u v => rowLt (k u) (k v) := by
  intro h' kp
  have x' : RowsOk h' k us := x.keeps fun b o e c => kp b o (fun z => by subst z; exact ha o e c) e
  obtain ⟨fs, q1, q2, q3⟩ := rows_firsts x' ne
  refine ⟨tuples' true, fun Q E hq => PySem.W.kat_kind (T := .type "int") q1 (by omega) (fun f hf => ?_) rfl ?_, rows_cmp x'⟩
  · obtain ⟨n, t, rfl⟩ := q3 f hf
    exact PySem.W.Looks.now
  · have e : (Value.type "int" != Value.type "tuple") = true := by decide +kernel
    rw [e]
    exact hq
/-- what a tuple holds, taken up as a list -/
theorem take_up {l : Addr} {us : List Value} {T : String} {Q : List Value → Shared → Prop} (hT : T = "list" ∨ T = "tuple") (hl : ∃ o n, s.heap.get? l = some o ∧ o.cls = .type T ∧ o.data = .seq us.toArray n) (hz : us.length ≤ sizeLine)
    (hq : Q us { s with heap := (s.heap.push (seqObj "list" #[] 0)).update s.heap.objs.size (Obj.mapSeq (· ++ us.toArray)) }) : wpAny (model prog w) A (collect (.ref l)) Q E s := by
  obtain ⟨o, n, ho, hc, hd⟩ := hl
  have hn : (s.heap.push (seqObj "list" #[] 0)).get? s.heap.objs.size = some (seqObj "list" #[] 0) := Heap.get?_push_size _ rfl
  have hk : (s.heap.push (seqObj "list" #[] 0)).get? l = some o := Heap.get?_push_of_some _ ho
  unfold collect
  refine wpAny_bind (wpAny_runValue (codeAny_builtin entry_proto_collect' ?_))
  show wpAny _ _ (newList [] >>= fun r => again (.builtin "list.__iadd__" ⟨[r, .ref l], []⟩)) _ _ s
  refine wpAny_bind (wpAny_newList (wpAny_pure ⟨Code.quiet_builtin _ (by decide +kernel), codeAny_builtin entry_list_iadd' ?_⟩))
  show wpAny _ _ (Builtin.List.listExtendWith (.ref s.heap.objs.size) (.ref l) (.ref s.heap.objs.size)) _ _ ({ s with heap := s.heap.push (seqObj "list" #[] 0) } : Shared)
  unfold Builtin.List.listExtendWith
  refine wpAny_bind (wpAny_typeOf (T := T) ⟨o, hk, hc⟩ ?_)
  rw [if_pos (by rcases hT with rfl | rfl <;> simp)]
  refine wpAny_bind (listItems_at hk hd (wpAny_bind (listItems_at (xs := #[]) (n := 0) hn rfl ?_)))
  rw [if_neg (by simp)]
  refine wpAny_bind (listUpdate_at (xs := #[]) (n := 0) hn rfl (wpAny_pure ?_) (Nat.zero_le _) ?_)
  · show wpAny (model prog w) A (load s.heap.objs.size >>= fun o => match o.data with
      | .seq xs _ => pure xs.toList
      | _ => unsupported "internal:collect") Q E ({ s with heap := (s.heap.push (seqObj "list" #[] 0)).update s.heap.objs.size (Obj.mapSeq (· ++ us.toArray)) } : Shared)
    refine wpAny_bind (wpAny_load (get?_update_seq hn _) ?_)
    show wpAny _ _ (pure ((#[] : Array Value) ++ us.toArray).toList) Q E _
    refine wpAny_pure ?_
    simpa using hq
  · simp only [Array.size_append, List.size_toArray, List.length_nil]
    simp
    omega
/-- sorted of a list or a tuple under an order of its items -/
theorem sorted_up {l : Addr} {us : List Value} {T : String} {lt : Value → Value → Bool} {Q : Value → Shared → Prop} (O : SrtO.Swo lt) (hT : T = "list" ∨ T = "tuple") (hl : ∃ o n, s.heap.get? l = some o ∧ o.cls = .type T ∧ o.data = .seq us.toArray n) (hz : us.length ≤ sizeLine)
    (hs : 2 ≤ us.length → ∀ (g : Heap) (a : Addr), g.get? a = some (seqObj "list" us.toArray 0) → (∀ b o, s.heap.get? b = some o → b ≠ a ∧ g.get? b = some o) → SrtO.SortableO prog w A.in1.in1 { s with heap := g } a us lt)
    (hq : ∀ out : List Value, SrtO.Srtd lt out → SrtO.Stb lt out us → Q (.ref (s.heap.objs.size + 1)) { s with heap := sortedAll s.heap us out.toArray }) :
    wpAny (model prog w) A (call (.builtin "sorted") [.ref l]) Q E s := by
  refine Calls.call_function_entry kind_sorted plain_sorted entry_sorted (args_sorted1 _) ?_
  unfold Builtin.«sorted»
  refine wpAny_bind (m := checkCount "sorted" 1 1 _) (wpAny_pure (wpAny_bind (take_up hT hl hz (wpAny_bind (wpAny_newList ?_ hz)))))
  obtain ⟨g0, hg0⟩ : ∃ g0, g0 = (s.heap.push (seqObj "list" #[] 0)).update s.heap.objs.size (Obj.mapSeq (· ++ us.toArray)) := ⟨_, rfl⟩
  have z1 : g0.objs.size = s.heap.objs.size + 1 := by rw [hg0, Heap.size_update, size_push']
  have old : ∀ b o, s.heap.get? b = some o → g0.get? b = some o := fun b o e => by
    rw [hg0, Heap.get?_update_ne _ _ _ _ (Nat.ne_of_lt (Heap.lt_size e))]
    exact Heap.get?_push_of_some _ e
  have hnew : (g0.push (seqObj "list" us.toArray 0)).get? (s.heap.objs.size + 1) = some (seqObj "list" us.toArray 0) := by
    rw [← z1]
    exact Heap.get?_push_size _ rfl
  have kp : ∀ b o, s.heap.get? b = some o → b ≠ s.heap.objs.size + 1 ∧ (g0.push (seqObj "list" us.toArray 0)).get? b = some o := fun b o e =>
    ⟨Nat.ne_of_lt (Nat.lt_succ_of_lt (Heap.lt_size e)), Heap.get?_push_of_some _ (old b o e)⟩
  rw [← hg0]
  show wpAny _ _ _ _ _ ({ s with heap := g0.push (seqObj "list" us.toArray 0) } : Shared)
  rw [z1]
  refine wpAny_bind (wpAny_holding (wpAny_call_entry slot_list_sort ⟨_, hnew, rfl⟩ entry_list_sort (SrtO.list_sort_ord O hnew hz (fun h2 => hs h2 _ _ hnew kp) fun out o1 o2 => ⟨_, rfl, ?_⟩) (args_list_sort _)))
  subst hg0
  exact wpAny_pure ⟨_, rfl, hq out o1 o2⟩
end
/-! sorted of rows -/
def insR (x : List Int) : List (List Int) → List (List Int)
  | [] => [x]
  | y :: ys => if rowLt y x = true then y :: insR x ys else x :: y :: ys
def sortR : List (List Int) → List (List Int)
  | [] => []
  | x :: xs => insR x (sortR xs)
theorem insR_perm (x : List Int) : ∀ ys, (insR x ys).Perm (x :: ys)
  | [] => .refl _
  | y :: ys => by
    unfold insR
    split
    · exact ((insR_perm x ys).cons y).trans (.swap x y ys)
    · exact .refl _
abbrev RSrt (l : List (List Int)) : Prop := l.Pairwise fun x y => rowLt y x = false
theorem insR_srt (x : List Int) : ∀ ys, RSrt ys → RSrt (insR x ys)
  | [], _ => by simp [insR]
  | y :: ys, h => by
    have h' := List.pairwise_cons.mp h
    unfold insR
    split
    · rename_i c
      refine List.pairwise_cons.mpr ⟨fun z hz => ?_, insR_srt x ys h'.2⟩
      rcases List.mem_cons.mp ((insR_perm x ys).mem_iff.mp hz) with rfl | hz
      · exact rowLt_asym _ _ c
      · exact h'.1 z hz
    · rename_i c
      refine List.pairwise_cons.mpr ⟨fun z hz => ?_, h⟩
      have c : rowLt y x = false := by simpa using c
      rcases List.mem_cons.mp hz with rfl | hz
      · exact c
      · exact rowLt_tr _ _ _ c (h'.1 z hz)
theorem sortR_perm : ∀ xs, (sortR xs).Perm xs
  | [] => .refl _
  | x :: xs => (insR_perm x _).trans ((sortR_perm xs).cons x)
theorem sortR_srt : ∀ xs, RSrt (sortR xs)
  | [] => .nil
  | x :: xs => insR_srt x _ (sortR_srt xs)
theorem srt_one {l m : List (List Int)} (h1 : RSrt l) (h2 : RSrt m) (p : l.Perm m) : l = m :=
  p.eq_of_pairwise (fun a b _ _ u v => rowLt_total a b v u) h1 h2
def rowsOf : List D → Option (List (List Int))
  | [] => some []
  | .tup es :: ds => (ints? es).bind fun ns => (rowsOf ds).map fun rs => ns :: rs
  | _ => none
def rowD (ns : List Int) : D := .tup (ns.map .int)
def srtR (ds : List D) : Option D := (rowsOf ds).bind fun rs => if rs.length < 2 ∨ ∀ r ∈ rs, r ≠ [] then some (.list ((sortR rs).map rowD)) else none
def gSortR : List D → Option D
  | [.list ds] => srtR ds
  | [.tup ds] => srtR ds
  | _ => none
section
variable {X : Cx} {cl : String → Option Addr}
theorem rows_raw {pins : List (Addr × Obj)} {σ : L2.St} {G : Kn} {H : Hp} {s : Shared} (I : Inv X pins σ H s) (gh : Same G.h H) : ∀ {xs : List V} {us : List Value} {ds : List D} {rs : List (List Int)}, Reps X.K cl G xs ds → Vals xs us → rowsOf ds = some rs →
    us.map (TS.intsOf s.heap) = rs ∧ ∀ u ∈ us, TS.TupInts s.heap u (TS.intsOf s.heap u) ∧ (∃ a, u = .ref a) ∧ Rep X.K cl G (backV u) (rowD (TS.intsOf s.heap u))
  | _, _, _, _, .nil, r, e => by
    cases r
    simp only [rowsOf, Option.some.injEq] at e
    subst e
    exact ⟨rfl, fun u hu => nomatch hu⟩
  | _, _, .tup es :: ds, rs, .cons q qs, r, e => by
    cases r with
    | cons r1 r2 =>
    simp only [rowsOf, Option.bind_eq_some_iff, Option.map_eq_some_iff] at e
    obtain ⟨ns, e1, rs', e2, rfl⟩ := e
    obtain ⟨k1, k2⟩ := rows_raw I gh qs r2 e2
    cases q with
    | tup ht hz hr =>
    rename_i a vs
    rename_i u us'
    obtain rfl : u = Value.ref a := r1
    have hv := hr.ints? e1
    subst hv
    obtain ⟨its, rv, it, _⟩ := I.tuple (sameT gh ht)
    have ti : TS.TupInts s.heap (.ref a) ns := ⟨a, its.toArray, rfl, it, by simpa using rv.ints⟩
    have en := ti.ints
    refine ⟨by rw [List.map_cons, en, k1], fun u hu => ?_⟩
    rcases List.mem_cons.mp hu with rfl | hu
    · rw [en]
      exact ⟨ti, ⟨a, rfl⟩, Rep.tup ht hz (Reps.ints ns)⟩
    · exact k2 u hu
theorem reps_map {G : Kn} {f : Value → D} : ∀ {us : List Value}, (∀ u ∈ us, Rep X.K cl G (backV u) (f u)) → Reps X.K cl G (us.map backV) (us.map f)
  | [], _ => .nil
  | u :: us, h => .cons (h u List.mem_cons_self) (reps_map fun v hv => h v (List.mem_cons_of_mem _ hv))
theorem srt_call {pins : List (Addr × Obj)} {σ : L2.St} {G : Kn} {H : Hp} {s : Shared} {E : Value → Shared → Prop} {A : Around} {Q : VK} {a : Addr} {xs : List V} {us : List Value} {ds : List D} {r : D} {T : String} (I : Inv X pins σ H s) (gh : Same G.h H) (hT : T = "list" ∨ T = "tuple")
    (rv : Vals xs us) (hl : ∃ o n, s.heap.get? a = some o ∧ o.cls = .type T ∧ o.data = .seq us.toArray n) (hz : xs.length ≤ sizeLine) (hr : Reps X.K cl G xs ds) (e : srtR ds = some r)
    (q : ∀ v G' H', Grow G H G' H' → Rep X.K cl G' v r → Q v H') : wpAny (model X.prog X.w) A (call (.builtin "sorted") [.ref a]) (fun v s' => ∃ x H', Inv X pins σ H' s' ∧ RelV x v ∧ Q x H') E s := by
  unfold srtR at e
  simp only [Option.bind_eq_some_iff] at e
  obtain ⟨rs, e1, e2⟩ := e
  split at e2
  · rename_i hne
    cases e2
    obtain ⟨k1, k2⟩ := rows_raw I gh hr rv e1
    have hlen : us.length = rs.length := by rw [← k1, List.length_map]
    have zu : us.length ≤ sizeLine := by rw [← rv.length]; exact hz
    refine sorted_up (lt := fun u v => rowLt (TS.intsOf s.heap u) (TS.intsOf s.heap v)) ⟨fun x y => rowLt_asym _ _, fun x y z => rowLt_tr _ _ _⟩ hT hl zu (fun h2 g b hb kp => ?_) fun out o1 o2 => ?_
    · refine rows_sortable h2 (RowsOk.keeps (fun u hu => (k2 u hu).1) fun c o h _ => (kp c o h).2) (fun u hu => ?_) fun o h c => ?_
      · rcases hne with hne | hne
        · omega
        · exact hne _ (by rw [← k1]; exact List.mem_map.mpr ⟨u, hu, rfl⟩)
      · have h' : g.get? b = some o := h
        rw [hb] at h'
        cases h'
        exact absurd (Value.type.inj c) (by decide)
    · have hp := o2.perm
      have ho : ∀ u ∈ out, u ∈ us := fun u hu => hp.mem_iff.mp hu
      have es : out.map (TS.intsOf s.heap) = sortR rs := by
        refine srt_one (List.pairwise_map.mpr o1) (sortR_srt rs) ?_
        refine (hp.map _).trans ?_
        rw [k1]
        exact (sortR_perm rs).symm
      have ed : out.map (fun u => rowD (TS.intsOf s.heap u)) = (sortR rs).map rowD := by
        rw [← es, List.map_map]
        rfl
      have zo : (out.map backV).length ≤ sizeLine := by rw [List.length_map, hp.length_eq]; exact zu
      obtain ⟨n, hn⟩ := sortedAll_at s.heap us out.toArray
      refine ⟨.ref (s.heap.objs.size + 1), upd H (s.heap.objs.size + 1) (.lst (out.map backV)), I.laid (t' := s.toks) (fun b o h => sortedAll_old h) (Nat.le_succ _) ⟨zo, out, n, vals_back (fun u hu => (k2 u (ho u hu)).2.1), hn⟩, rfl, ?_⟩
      refine new_lst gh (I.hok.fresh (Nat.le_succ _)) zo ?_ q
      rw [← ed]
      exact reps_map fun u hu => (k2 u (ho u hu)).2.2
  · cases e2
theorem c_sortR : CallD X cl (.builtin "sorted") gSortR := by
  intro pins s σ H xs us Q I r h
  obtain ⟨G, ds, r', gh, h1, h2, q⟩ := h
  unfold gSortR at h2
  split at h2
  · cases h1 with | cons t n =>
    cases n
    cases t with | list k l rr =>
    rw [Vals.ref1 r]
    obtain ⟨its, rv, ⟨o, n, hl, hc, _, hd⟩, hz⟩ := I.list (SqL.of k)
    exact srt_call I gh (.inl rfl) rv ⟨o, n, hl, hc, hd⟩ hz rr h2 q
  · cases h1 with | cons t n =>
    cases n
    cases t with | tup k l rr =>
    rw [Vals.ref1 r]
    obtain ⟨its, rv, ⟨o, hl, hc, n, hd⟩, hz⟩ := I.tuple (sameT gh k)
    exact srt_call I gh (.inr rfl) rv ⟨o, n, hl, hc, hd⟩ hz rr h2 q
  · cases h2
/-- the one or the other -/
def gElse (g h : List D → Option D) (ds : List D) : Option D := match g ds with
  | some r => some r
  | none => h ds
theorem c_else {f : Value} {g h : List D → Option D} (a : CallD X cl f g) (b : CallD X cl f h) : CallD X cl f (gElse g h) := by
  intro pins s σ H xs us Q I r k
  obtain ⟨G, ds, r', gh, h1, h2, q⟩ := k
  unfold gElse at h2
  split at h2
  · rename_i z hz
    cases h2
    exact a pins s σ H xs us Q I r ⟨G, ds, _, gh, h1, hz, q⟩
  · exact b pins s σ H xs us Q I r ⟨G, ds, _, gh, h1, h2, q⟩
end
end DL

/-! E13: own classes: fields read and stored, objects made, methods -/
namespace DL
open PySem L2
section
variable {K : PySem.W.Frag} {cl : String → Option Addr} {G G' : Kn}
theorem RepF.look {f : Str} {d : D} : ∀ {fs : List (Str × V)} {gs : List (Str × D)}, RepF K cl G fs gs → gs.lookup f = some d → ∃ v, fs.lookup f = some v ∧ Rep K cl G v d
  | _, _, .nil, h => by simp at h
  | _, _, .cons (k := k) (v := v) (d := d') (vs := vs) (ds := ds) h r, e => by
    by_cases c : f = k
    · subst c
      simp only [List.lookup_cons, beq_self_eq_true] at e ⊢
      cases e
      exact ⟨v, rfl, h⟩
    · have c' : (f == k) = false := by simpa using c
      simp only [List.lookup_cons, c'] at e ⊢
      exact r.look e
theorem RepF.len : ∀ {fs : List (Str × V)} {gs : List (Str × D)}, RepF K cl G fs gs → fs.length = gs.length
  | _, _, .nil => rfl
  | _, _, .cons _ r => by simp [r.len]
/-- a field's new value -/
def putG (f : Str) (d : D) : List (Str × D) → List (Str × D)
  | [] => [(f, d)]
  | (g, e) :: gs => if g = f then (g, d) :: gs else (g, e) :: putG f d gs
end
section
variable {X : Cx} {cl : String → Option Addr} {e o value : Expr} {es : List Expr} {me mo mv : Ex} {mx : Ax} {pos pos' p apos : Pos} {f m x : Str} {c : String} {cs : List String} {cx : CXT} {k j n nio : Nat} {fn : Fn}
/-- what is asked of the classes cs and a field's name -/
def ClsF (K : PySem.W.Frag) (cl : String → Option Addr) (cs : List String) (f : Str) : Prop := ∀ c ∈ cs, ∀ C, cl c = some C → Cls K C ∧ NoAttr K C f
def fldD (cs : List String) (f : Str) : D → Option D
  | .inst c gs => if c ∈ cs then gs.lookup f else none
  | _ => none
def eFld (cs : List String) (f : Str) (m : Ex) : Ex := eUn (fldD cs f) m
theorem d_fld (hc : ClsF X.K cl cs f) (he : PD X cl e me) (hb : attributeBase e f X.env (eval e X.env) = eval e X.env := by rfl) : PD X cl (.Attribute e f pos) (eFld cs f me) := by
  refine pe_imp (pe_fld he hb) fun σ H Q h => ?_
  obtain ⟨F, T, G, ρ, r1, ρ', E, e, q⟩ := h
  simp only [eFld, eUn, Option.bind_eq_some_iff, Option.map_eq_some_iff, Prod.mk.injEq] at e
  obtain ⟨⟨ra, ρ1⟩, e1, d, e3, r', e5, rfl, rfl⟩ := e
  refine ⟨F, T, G, ρ, ra, ρ1, E, e1, fun v G1 H1 g1 E1 R1 => ?_⟩
  have t := E1.top R1 e3
  unfold fldD at e5
  split at e5
  · split at e5
    · rename_i hm
      cases t with
      | inst ha hcl rf =>
      obtain ⟨u, l, ru⟩ := rf.look e5
      obtain ⟨k1, k2⟩ := hc _ hm _ hcl
      exact ⟨_, _, _, _, u, rfl, ha, k1, k2, l, q u G1 H1 g1 E1 ru⟩
    · cases e5
  · cases e5
/-- o.f = value -/
def setFD (cs : List String) (f : Str) (v : D) : D → Option D
  | .inst c gs => if c ∈ cs ∧ gs.length < 1000 then some (.inst c (putG f v gs)) else none
  | _ => none
def sFldSet (cs : List String) (f : Str) (mo mv : Ex) : Sx := fun ρ => (mv ρ).bind fun p => (esc p.2 p.1).bind fun q => (mo q.2).bind fun r => (plc r.1).bind fun l => (r.2.obj l).bind fun d => (setFD cs f q.1 d).map fun d' => .nx (r.2.upd l d')
theorem RepF.put {K : PySem.W.Frag} {G : Kn} {v : V} {d : D} (h : Rep K cl G v d) : ∀ {fs : List (Str × V)} {gs : List (Str × D)}, RepF K cl G fs gs → RepF K cl G (putF f v fs) (putG f d gs)
  | _, _, .nil => .cons h .nil
  | _, _, .cons (k := g) h1 r => by
    unfold putF putG
    by_cases c : g = f
    · rw [if_pos c, if_pos c]
      exact .cons h r
    · rw [if_neg c, if_neg c]
      exact .cons h1 (RepF.put h r)
theorem st_fld (hc : ClsF X.K cl cs f) (ho : PD X cl o mo) (hv : PD X cl value mv) (hs : swapsWith value (some (.Attribute o f pos')) pos.line X.env = pure false := by rfl) : PDS X cl (.Assign [.Attribute o f pos'] value pos) (sFldSet cs f mo mv) := by
  refine ps_imp (ps_fld ho hv hs) fun D σ H h => ?_
  obtain ⟨F, T, G, ρ, fl, E, e, q⟩ := h
  simp only [sFldSet, Option.bind_eq_some_iff, Option.map_eq_some_iff] at e
  obtain ⟨⟨rv, ρ1⟩, e1, ⟨dv, ρ2⟩, e2, ⟨ro, ρ3⟩, e3, i, e5, d, e5', d', e7, rfl⟩ := e
  have e2' : DL.esc ρ1 rv = some (dv, ρ2) := e2
  have e7' : setFD cs f dv d = some d' := e7
  refine ⟨F, T, G, ρ, rv, ρ1, E, e1, fun y G1 H1 g1 E1 R1 => ?_⟩
  obtain ⟨G2, g2, E2, R2⟩ := E1.esc R1 e2'
  refine ⟨F, T, G2, ρ2, _, ρ3, E2, e3, fun xo G3 H3 g3 E3 R3 => ?_⟩
  obtain ⟨a, rfl, f2, f5, f6⟩ := E3.obj R3 e5 e5'
  unfold setFD at e7'
  split at e7'
  · split at e7'
    · rename_i hm
      cases e7'
      cases f5.2 with | inst ha hcl rf =>
      obtain ⟨k1, k2⟩ := hc _ hm.1 _ hcl
      exact ⟨a, _, _, _, rfl, ha, k1, k2, by rw [rf.len]; exact hm.2, q σ G3 _ (g1.trans (g2.trans g3)) (f6 _ _ ⟨rfl, .inst upd_same hcl (RepF.put (R2.mono g3) rf)⟩)⟩
    · cases e7'
  · cases e7'
/-! C(..) -/
def eMake (c : String) (fn : Fn) (m : Ax) : Ex := fun ρ => (m ρ).bind fun p => (escs p.2 p.1).bind fun q => if pureOk q.2.st q.1 = true then (fn (.inst c [] :: q.1)).bind fun z => match z with
  | (.ok .non, [d]) => some (.val d, q.2)
  | _ => none
  else none
/-- an own class that is called, its __init__ known by its promise -/
structure Mkr (P : Program) (w : World) (K : PySem.W.Frag) (mg : Str → Option Value) (base : Heap) (k : Nat) (x : Str) (C : Addr) (ps : List Str) (sp : Sp) : Prop where
  ex : ∃ (f : Addr) (fd : FuncData), Mk K C f ∧ FnOk P w K mg base CX0 k f fd ps sp ∧ mg x = some (.ref C) ∧ Binds K fd ps []
theorem d_make {C : Addr} {ps : List Str} (M : Mkr X.prog X.w X.K X.mg X.base k x C ps (spD X.K cl (n + 1) 1 fn)) (hcl : cl c = some C) (hr : Room (k + 1) X.A) (hn : ∀ ρ rs ρ', mx ρ = some (rs, ρ') → rs.length = n) (ha : PDA X cl (e :: es) mx) (hg : Gl X x := by rfl)
    (hdb : (x == ("__debug__" : Str)) = false := by decide) (he : starEach (e :: es) X.env = (false, eval e X.env) :: starEach es X.env := by rfl) (hpl : (backTo pos (starEach es X.env)).any (·.1) = false := by rfl) :
    PD X cl (.Call (.Name x p) (e :: es) [] pos) (eMake c fn mx) := by
  obtain ⟨f, fd, m1, m2, m3, m4⟩ := M.ex
  refine pe_imp (pe_make m1 m2 hr hg m3 m4 .nil pass0 ha hdb he hpl) fun σ H Q h => ?_
  obtain ⟨F, T, G, ρ, r, ρ', E, e, q⟩ := h
  simp only [eMake, Option.bind_eq_some_iff] at e
  obtain ⟨⟨rs, ρ1⟩, e1, ⟨ds, ρ2⟩, e2, e3⟩ := e
  split at e3
  case isFalse => cases e3
  rename_i hpu
  simp only [Option.bind_eq_some_iff] at e3
  obtain ⟨z, e3, e4⟩ := e3
  have e2' : DL.escs ρ1 rs = some (ds, ρ2) := e2
  refine ⟨F, T, G, ρ, rs, ρ1, E, e1, fun vs G1 H1 g1 E1 R1 x dx hx hdx hne => ?_⟩
  obtain ⟨G2, g2, E2, R2⟩ := E1.escs R1 e2'
  have R2' := (pure_both (as := []) (ios := []) E2 (by exact hpu) .nil R2).2
  split at e4
  · rename_i d
    cases e4
    have hx2 : G2.h x = none := E2.gh.free hx
    have nx : (upd H1 dx (.own x)) x = none := by rw [upd_ne (Ne.symm hne)]; exact hx
    have up : Same H1 (upd (upd H1 dx (.own x)) x (.ins C dx [])) := (upd_same' hdx).trans (upd_same' nx)
    have e3' : fn ([D.inst c []] ++ ds) = some (.ok .non, [d]) := e3
    refine ⟨by simp [R1.length, hn _ _ _ e1], G2.h, [x], [.inst c []], vs, ds, .non, [d], by simp, rfl, by simp, .cons ⟨rfl, .inst upd_same hcl .nil⟩ .nil, fun a ha => by rcases List.mem_singleton.mp ha with rfl; exact hx2, R2', E2.gh.trans up, e3', fun v G3 H3 k1 k2 k3 k4 k5 k6 => ?_⟩
    cases k6
    refine ⟨rfl, ?_⟩
    cases k5 with | cons ow _ =>
    obtain ⟨ob, hob⟩ := ow.there
    have gg : Same G3 (upd G3 x ob) := fun b u hb => by
      by_cases hb' : b = x
      · subst hb'
        have := k2 _ _ hb
        rw [hob] at this
        cases this
        rw [upd_same]
      · rw [upd_ne hb']; exact hb
    have gr : Grow G2 H1 ⟨upd G3 x ob, G2.A⟩ H3 := ⟨.of (k1.trans gg) rfl, fun b u hb => ?_, fun b u hb => ?_, fun b hb => ?_, rfl⟩
    · exact q _ _ _ (g1.trans (g2.trans gr.gg)) (E2.grow gr) (ow.rep ⟨gg, G2.A, rfl⟩ hob upd_same)
    · have nb : b ≠ x := fun z => by rw [z, hx] at hb; cases hb
      exact k4 b u (by simp [nb]) (up _ _ hb)
    · replace hb : upd G3 x ob b = some u := hb
      by_cases hb' : b = x
      · subst hb'; rw [upd_same] at hb; cases hb; exact hob
      · rw [upd_ne hb'] at hb; exact k2 b u hb
    · replace hb : upd G3 x ob b ≠ none := hb
      by_cases hb' : b = x
      · subst hb'; exact .inr hx
      · rw [upd_ne hb'] at hb
        rcases k3 b hb with z | z
        · exact .inl z
        · exact .inr (up.free z)
  · cases e4
/-! o.m(..) -/
/-- the objects are lent, the others go out, the def runs -/
def runF (nio : Nat) (fn : Fn) (rs : List RV) (ρ : En) : Option (RV × En) := (escs ρ (rs.drop nio)).bind fun q => if (places (rs.take nio)).Nodup ∧ (rs.take nio).length = nio then (lent q.2 (rs.take nio)).bind fun ios =>
  if pureOk q.2.st (ios ++ q.1) = true then (fn (ios ++ q.1)).bind fun z => match z.1 with
    | .ok d => (giveBack q.2 (rs.take nio) z.2).map fun ρ' => (.val d, ρ')
    | .er _ _ => none
    else none
  else none
theorem run_sp {K : PySem.W.Frag} {F : Fm} {T : Th} {G1 : Kn} {H1 : Hp} {σ : L2.St} {ρ1 ρ' : En} {vs : List V} {rs : List RV} {r : RV} {Q : VK} {E0 : XK} (E1 : EOk K cl F T G1 H1 σ ρ1) (R1 : RvOks K cl G1 σ vs rs) (hn : rs.length = n) (e : runF nio fn rs ρ1 = some (r, ρ'))
    (q : ∀ v G' H', Le G1 G' → EOk K cl F T G' H' σ ρ' → RvOk K cl G' σ v r → Q v H') : spD K cl n nio fn vs H1 Q E0 := by
  simp only [runF, Option.bind_eq_some_iff] at e
  obtain ⟨⟨ds, ρ2⟩, e2, e3⟩ := e
  have e2' : DL.escs ρ1 (rs.drop nio) = some (ds, ρ2) := e2
  split at e3
  · rename_i c
    obtain ⟨c1, c2⟩ := c
    simp only [Option.bind_eq_some_iff] at e3
    obtain ⟨ios, e3, e4⟩ := e3
    split at e4
    case isFalse => cases e4
    rename_i hpu
    simp only [Option.bind_eq_some_iff] at e4
    obtain ⟨⟨z, outs⟩, e4, e5⟩ := e4
    obtain ⟨G2, g2, E2, R2⟩ := E1.escs (R1.drop nio) e2'
    obtain ⟨as, ea, l⟩ := lent_of E2 ((R1.take nio).mono g2) e3
    obtain ⟨ow, gn, tn⟩ := l.owns E2
    have e4' : fn (ios ++ ds) = some (z, outs) := e4
    cases z with
    | er c fs => cases e5
    | ok d =>
      simp only [Option.map_eq_some_iff, Prod.mk.injEq] at e5
      obtain ⟨ρ3, e5, rfl, rfl⟩ := e5
      obtain ⟨p1, p2⟩ := pure_both E2 (by exact hpu) ow R2
      refine ⟨by rw [R1.length]; exact hn, G2.h, as, ios, vs.drop nio, ds, d, outs, ?_, ?_, l.nodup E2 c1, p1, fun a ha => (gn a ha).1, p2, E2.gh, e4', fun v G3 H3 k1 k2 k3 k4 k5 k6 => ?_⟩
      · rw [← ea, List.take_append_drop]
      · rw [l.len]; exact c2
      · have kl : Le G2 ⟨G3, G2.A⟩ := .of k1 rfl
        have kd : Le (.of G3) ⟨G3, G2.A⟩ := ⟨Same.refl _, G2.A, rfl⟩
        exact q v ⟨G3, G2.A⟩ H3 (g2.trans kl) (E2.back l c1 kl rfl k2 k3 k4 (paired_at k5 fun a b _ h => h.at kd rfl) e5) (k6.mono kd)
  · cases e3
def hasM (c : String) (m : Str) : D → Bool
  | .inst c' gs => decide (c' = c) && (gs.lookup m).isNone
  | _ => false
def eMeth (c : String) (m : Str) (nio : Nat) (fn : Fn) (mo : Ex) (mx : Ax) : Ex := fun ρ => (mo ρ).bind fun p => (peek p.2 p.1).bind fun d => if hasM c m d = true then (mx p.2).bind fun q => runF nio fn (p.1 :: q.1) q.2 else none
theorem RepF.none {K : PySem.W.Frag} {G : Kn} {f : Str} : ∀ {fs : List (Str × V)} {gs : List (Str × D)}, RepF K cl G fs gs → gs.lookup f = none → fs.lookup f = none
  | _, _, .nil, _ => rfl
  | _, _, .cons (k := k) h r, e => by
    by_cases c : f = k
    · subst c
      simp at e
    · have c' : (f == k) = false := by simpa using c
      simp only [List.lookup_cons, c'] at e ⊢
      exact RepF.none r e
theorem meth_run {C : Addr} {σ : L2.St} {H : Hp} {Q : VK} (hcl : cl c = some C) (hn : ∀ ρ rs ρ', mx ρ = some (rs, ρ') → rs.length + 1 = n) (h : tD X.K cl (eMeth c m nio fn mo mx) σ H Q) : tMeth C m (spD X.K cl n nio fn) [] (fun _ _ _ => False) (tD X.K cl mo) (tDA X.K cl mx) σ H Q := by
  obtain ⟨F, T, G, ρ, r, ρ', E, e, q⟩ := h
  simp only [eMeth, Option.bind_eq_some_iff] at e
  obtain ⟨⟨ro, ρ1⟩, e1, d, e2, e3⟩ := e
  split at e3
  · rename_i hm
    simp only [Option.bind_eq_some_iff] at e3
    obtain ⟨⟨rs, ρ2⟩, e4, e5⟩ := e3
    refine ⟨F, T, G, ρ, ro, ρ1, E, e1, fun x G1 H1 g1 E1 R1 => ?_⟩
    have t := E1.top R1 e2
    unfold hasM at hm
    split at hm
    · simp only [Bool.and_eq_true, decide_eq_true_eq, Option.isNone_iff_eq_none] at hm
      obtain ⟨rfl, hm⟩ := hm
      cases t with
      | inst ha hc' rf =>
      rw [hcl] at hc'
      cases hc'
      refine ⟨_, _, _, rfl, ha, RepF.none rf hm, F, T, G1, ρ1, rs, ρ2, E1, e4, fun vs G2 H2 g2 E2 R2 => ?_⟩
      dsimp only
      rw [List.append_nil]
      exact run_sp E2 (.cons (R1.mono g2) R2) (by rw [List.length_cons]; exact hn _ _ _ e4) e5 fun v G3 H3 g3 E3 R3 => q v G3 H3 (g1.trans (g2.trans g3)) E3 R3
    · cases hm
  · cases e3
/-- a method known by its promise -/
abbrev MetD (P : Program) (w : World) (K : PySem.W.Frag) (mg : Str → Option Value) (base : Heap) (k : Nat) (C : Addr) (m : Str) (sp : Sp) : Prop := C8.Met P w K mg base k C m sp []
theorem d_meth {C : Addr} {pl : Sem Bool} (M : MetD X.prog X.w X.K X.mg X.base k C m (spD X.K cl n nio fn)) (hcl : cl c = some C) (hr : Room j X.A) (hk : k ≤ j) (hn : ∀ ρ rs ρ', mx ρ = some (rs, ρ') → rs.length + 1 = n) (ho : PD X cl o mo) (ha : PDA X cl (e :: es) mx)
    (hst : starEach (e :: es) X.env = (false, eval e X.env) :: starEach es X.env := by rfl) (hpl : (backTo pos (starEach es X.env)).any (·.1) = false := by rfl)
    (ht : eval (.Call (.Attribute o m apos) (e :: es) [] pos) X.env = (do
      let ov ← eval o X.env
      standAt apos.atName
      let (f, first) ← holding [ov] (getMethod ov m pl)
      callWith pos f first (backTo pos (starEach (e :: es) X.env)) (backToKw pos (keywordEach [] X.env))) := by rfl) : PD X cl (.Call (.Attribute o m apos) (e :: es) [] pos) (eMeth c m nio fn mo mx) :=
  pe_imp (C8.pe_mt (pl := pl) M hr hk ho ha hst hpl ht) fun σ H Q h => meth_run hcl hn h
theorem d_meth0 {C : Addr} {pl : Sem Bool} (M : MetD X.prog X.w X.K X.mg X.base k C m (spD X.K cl n nio fn)) (hcl : cl c = some C) (hr : Room j X.A) (hk : k ≤ j) (hn : 1 = n) (ho : PD X cl o mo)
    (ht : eval (.Call (.Attribute o m apos) [] [] pos) X.env = (do
      let ov ← eval o X.env
      standAt apos.atName
      let (f, first) ← holding [ov] (getMethod ov m pl)
      callWith pos f first (backTo pos (starEach [] X.env)) (backToKw pos (keywordEach [] X.env))) := by rfl) : PD X cl (.Call (.Attribute o m apos) [] [] pos) (eMeth c m nio fn mo aNil) :=
  pe_imp (C8.pe_mt0 (pl := pl) M hr hk ho ht) fun σ H Q h => by
    have h' := meth_run (nio := nio) (n := n) hcl (fun ρ rs ρ' z => by cases z; exact hn) h
    obtain ⟨F, T, G, ρ, r, ρ', E, e1, q⟩ := h'
    refine ⟨F, T, G, ρ, r, ρ', E, e1, fun x G1 H1 g1 E1 R1 => ?_⟩
    obtain ⟨a, dx, fs, k1, k2, k3, F', T', G', ρ'', rs, ρ3, E', z, q'⟩ := q x G1 H1 g1 E1 R1
    cases z
    exact ⟨a, dx, fs, k1, k2, k3, q' [] G' H1 (Le.refl _) E' .nil⟩
end
end DL

/-! E14: dict displays -/
namespace DL
open PySem L2
section
variable {K : PySem.W.Frag} {cl : String → Option Addr} {F : Fm} {T : Th} {G G2 : Kn} {H H2 : Hp} {σ : L2.St} {ρ ρ2 : En} {p : Addr} {o o' : HO}
/-- an object of nobody's, kept as it is meanwhile -/
def Th.keep (T : Th) (p : Addr) (o : HO) : Th := ⟨upd T.h p o, fun i => if T.l i = some p then none else T.l i⟩
theorem EOk.reserve (E : EOk K cl F T G H σ ρ) (hp : H p = none) : EOk K cl F (T.keep p o) G (upd H p o) σ ρ := by
  have ne : ∀ {a : Addr} {u : HO}, H a = some u → a ≠ p := fun {a u} h z => by rw [z, hp] at h; cases h
  refine ⟨E.len, E.val, fun i w d h => ?_, fun i w d h => ?_, E.sep, E.g0, fun b hb => ?_, fun b u hb => ?_, fun b u hb => ?_, fun b hb => ?_, (E.cs.off (E.cs.fresh hp)).held fun b hb => ?_⟩
  · obtain ⟨a, k1, k2, k3, k4, k5⟩ := E.own i w d h
    obtain ⟨u, hu⟩ := k5.there
    exact ⟨a, k1, k2, (upd_ne (ne hu)).trans k3, k4, k5.at (Le.refl _) (upd_ne (ne hu))⟩
  · obtain ⟨a, u', k1, k2, ⟨k3, k3'⟩, k4, k5⟩ := E.lck i w d h
    obtain ⟨u, hu⟩ := k5.there
    refine ⟨a, u', k1, k2, ⟨?_, (upd_ne (ne hu)).trans k3'⟩, k4, k5.at (Le.refl _) (upd_ne (ne hu))⟩
    show (if T.l i = some p then none else T.l i) = some a
    rw [k3, if_neg fun z => ne hu (Option.some.inj z)]
  · rcases E.gt b hb with z | z
    · exact .inl z
    · refine .inr ((upd_ne fun q => ?_).trans z)
      subst q
      exact hb (E.gh.free hp)
  · rw [upd_ne (ne (E.gh _ _ hb))]
    exact E.gh _ _ hb
  · by_cases c : b = p
    · subst c
      have hb' : upd T.h b o b = some u := hb
      rw [upd_same] at hb' ⊢
      exact hb'
    · have hb' : upd T.h p o b = some u := hb
      rw [upd_ne c] at hb' ⊢
      exact E.th _ _ hb'
  · by_cases c : b = p
    · subst c; rw [upd_same]; simp
    · rw [upd_ne c]; exact E.wh b hb
  · exact (upd_ne (fun z => E.cs.fresh hp (by rw [← z]; exact hb))).trans (E.cs.th b hb)
theorem keep_at : (T.keep p o).h p = some o := upd_same
/-- it is ours to fill -/
theorem EOk.filled (E : EOk K cl F T G H σ ρ) (hp : H p = none) (E2 : EOk K cl F (T.keep p o) G2 H2 σ ρ2) :
    (G2.h p = none ∧ p ∉ G2.A) ∧ T.h p = none ∧ p ∉ F.W ∧ EOk K cl F T G2 (upd H2 p o') σ ρ2 ∧ ∀ (j : Nat) (y : Sl), ρ2.sl[j]? = some y → y.obj ≠ none → σ[j]? ≠ some (some (.ref p)) := by
  have n2 : p ∉ G2.A := fun z => by have := E2.cs.th p z; rw [keep_at] at this; cases this
  have g2 : G2.h p = none := by
    cases q : G2.h p with
    | none => rfl
    | some u =>
      rcases E2.gt p (by rw [q]; simp) with z | z
      · have := E.g0.s.free (E.gh.free hp)
        exact absurd this z
      · rw [keep_at] at z; cases z
  have t0 : T.h p = none := E.th.free hp
  have tne : ∀ {a : Addr}, (T.keep p o).h a = none → a ≠ p := fun {a} h z => by rw [z, keep_at] at h; cases h
  have lne : ∀ {i : Nat} {a : Addr}, (T.keep p o).l i = some a → a ≠ p ∧ T.l i = some a := fun {i a} h => by
    have h' : (if T.l i = some p then none else T.l i) = some a := h
    split at h'
    · cases h'
    · rename_i c
      exact ⟨fun z => c (by rw [h', z]), h'⟩
  refine ⟨⟨g2, n2⟩, t0, fun z => E.wh p z hp, ⟨E2.len, E2.val, fun i w d h => ?_, fun i w d h => ?_, E2.sep, E2.g0, fun b hb => ?_, fun b u hb => ?_, fun b u hb => ?_, fun b hb => ?_, (E2.cs.off n2).held fun b hb => ?_⟩, fun j y h1 h2 h3 => ?_⟩
  · obtain ⟨a, k1, k2, k3, k4, k5⟩ := E2.own i w d h
    have na := tne k3
    have k3' : upd T.h p o a = none := k3
    rw [upd_ne na] at k3'
    exact ⟨a, k1, k2, k3', k4, k5.at (Le.refl _) (upd_ne na)⟩
  · obtain ⟨a, u', k1, k2, ⟨k3, k3'⟩, k4, k5⟩ := E2.lck i w d h
    obtain ⟨na, l⟩ := lne k3
    have k3'' : upd T.h p o a = some u' := k3'
    rw [upd_ne na] at k3''
    exact ⟨a, u', k1, k2, ⟨l, k3''⟩, k4, k5.at (Le.refl _) (upd_ne na)⟩
  · rcases E2.gt b hb with z | z
    · exact .inl z
    · have z' : upd T.h p o b = none := z
      rw [upd_ne (tne z)] at z'
      exact .inr z'
  · rw [upd_ne (fun z => by rw [z, g2] at hb; cases hb)]
    exact E2.gh _ _ hb
  · have nb : b ≠ p := fun z => by rw [z, t0] at hb; cases hb
    rw [upd_ne nb]
    exact E2.th b u ((upd_ne nb).trans hb)
  · by_cases c : b = p
    · subst c; rw [upd_same]; simp
    · rw [upd_ne c]; exact E2.wh b hb
  · have k : upd T.h p o b = none := E2.cs.th b hb
    rw [upd_ne (fun z => n2 (by rw [← z]; exact hb))] at k; exact k
  · cases y with
    | emp => exact h2 rfl
    | val d => exact h2 rfl
    | own w d =>
      obtain ⟨a, k1, _, k3, _, _⟩ := E2.own j w d h1
      rw [k1] at h3; cases h3
      exact tne k3 rfl
    | lck w d =>
      obtain ⟨a, u', k1, _, ⟨k3, _⟩, _, _⟩ := E2.lck j w d h1
      rw [k1] at h3; cases h3
      exact (lne k3).1 rfl
/-- it is made known -/
theorem EOk.known (E : EOk K cl F T G H σ ρ) (hp : H p = some o) (gn : G.h p = none ∧ p ∉ G.A) (tn : T.h p = none) (ap : ∀ (j : Nat) (y : Sl), ρ.sl[j]? = some y → y.obj ≠ none → σ[j]? ≠ some (some (.ref p))) : EOk K cl F T (G.up p o) H σ ρ := by
  have gg : Le G (G.up p o) := .up gn.1
  have un : ∀ {b : Addr}, b ≠ p → (G.up p o).h b = G.h b := fun hb => upd_ne hb
  have us : (G.up p o).h p = some o := upd_same
  refine ⟨E.len, fun i d h => ?_, fun i w d h => ?_, fun i w d h => ?_, E.sep, E.g0.trans gg, fun b hb => ?_, fun b u hb => ?_, E.th, E.wh, E.cs.know gn.1 gn.2⟩
  · obtain ⟨v, h1, h2⟩ := E.val i d h
    exact ⟨v, h1, h2.mono gg⟩
  · obtain ⟨a, k1, k2, k3, k4, k5⟩ := E.own i w d h
    have na : a ≠ p := fun z => ap i _ h (by simp [Sl.obj]) (by rw [k1, z])
    exact ⟨a, k1, ⟨(un na).trans k2.1, k2.2⟩, k3, k4, k5.at gg rfl⟩
  · obtain ⟨a, u', k1, k2, k3, k4, k5⟩ := E.lck i w d h
    have na : a ≠ p := fun z => ap i _ h (by simp [Sl.obj]) (by rw [k1, z])
    exact ⟨a, u', k1, ⟨(un na).trans k2.1, k2.2⟩, k3, k4, k5.at gg rfl⟩
  · by_cases c : b = p
    · subst c; exact .inr tn
    · rw [un c] at hb; exact E.gt b hb
  · by_cases c : b = p
    · subst c; rw [us] at hb; cases hb; exact hp
    · rw [un c] at hb; exact E.gh b u hb
end
/-! {k: v, ..} -/
abbrev Px := En → Option (List (RV × RV) × En)
def pNil : Px := fun ρ => some ([], ρ)
def pCons (mk mv : Ex) (m : Px) : Px := fun ρ => (mk ρ).bind fun p => (mv p.2).bind fun q => (m q.2).map fun z => ((p.1, q.1) :: z.1, z.2)
inductive RvPs (K : PySem.W.Frag) (cl : String → Option Addr) (G : Kn) (σ : L2.St) : List (V × V) → List (RV × RV) → Prop
  | nil : RvPs K cl G σ [] []
  | cons {x y : V} {r s : RV} {ps : List (V × V)} {rs : List (RV × RV)} : RvOk K cl G σ x r → RvOk K cl G σ y s → RvPs K cl G σ ps rs → RvPs K cl G σ ((x, y) :: ps) ((r, s) :: rs)
theorem RvPs.mono {K : PySem.W.Frag} {cl : String → Option Addr} {G G' : Kn} {σ : L2.St} (e : Le G G') : ∀ {ps : List (V × V)} {rs : List (RV × RV)}, RvPs K cl G σ ps rs → RvPs K cl G' σ ps rs
  | _, _, .nil => .nil
  | _, _, .cons h1 h2 r => .cons (h1.mono e) (h2.mono e) (r.mono e)
/-- the pairs' promise by data -/
def tDP (K : PySem.W.Frag) (cl : String → Option Addr) (m : Px) (σ : L2.St) (H : Hp) (Q : List (V × V) → Hp → Prop) : Prop := ∃ F T G ρ rs ρ', EOk K cl F T G H σ ρ ∧ m ρ = some (rs, ρ') ∧ ∀ ps G' H', Le G G' → EOk K cl F T G' H' σ ρ' → RvPs K cl G' σ ps rs → Q ps H'
section
variable {X : Cx} {cl : String → Option Addr} {pos : Pos}
def PDP (X : Cx) (cl : String → Option Addr) (pos : Pos) (keys : List (Option Expr)) (values : List Expr) (m : Px) : Prop := ∃ trs, PPs X pos keys values trs ∧ ∀ σ H Q, tDP X.K cl m σ H Q → tPairs trs σ H Q
theorem p_nil : PDP X cl pos [] [] pNil := ⟨[], pps_nil, fun σ H Q h => by
  obtain ⟨F, T, G, ρ, rs, ρ', E, e, q⟩ := h
  cases e
  exact q [] G H (Le.refl _) E .nil⟩
theorem p_cons {k v : Expr} {ks : List (Option Expr)} {vs : List Expr} {mk mv : Ex} {m : Px} (hk : PD X cl k mk) (hv : PD X cl v mv) (h : PDP X cl pos ks vs m) : PDP X cl pos (some k :: ks) (v :: vs) (pCons mk mv m) := by
  obtain ⟨trs, h1, h2⟩ := h
  refine ⟨_, pps_cons hk hv h1, fun σ H Q h => ?_⟩
  obtain ⟨F, T, G, ρ, rs, ρ', E, e, q⟩ := h
  simp only [pCons, Option.bind_eq_some_iff, Option.map_eq_some_iff, Prod.mk.injEq] at e
  obtain ⟨⟨rk, ρ1⟩, e1, ⟨rv, ρ2⟩, e2, ⟨zs, ρ3⟩, e3, rfl, rfl⟩ := e
  refine ⟨F, T, G, ρ, rk, ρ1, E, e1, fun x G1 H1 g1 E1 R1 => ⟨F, T, G1, ρ1, rv, ρ2, E1, e2, fun y G2 H2 g2 E2 R2 => h2 _ _ _ ⟨F, T, G2, ρ2, zs, ρ3, E2, e3, fun ps G3 H3 g3 E3 R3 => ?_⟩⟩⟩
  exact q _ G3 H3 (g1.trans (g2.trans g3)) E3 (.cons (R1.mono (g2.trans g3)) (R2.mono g3) R3)
/-- the keys of a display -/
def keyRV : RV → Option Key
  | .val d => keyOf d
  | _ => none
def dispD : List (RV × RV) → En → Option (List (Key × D) × En)
  | [], ρ => some ([], ρ)
  | p :: ps, ρ => (keyRV p.1).bind fun k => (esc ρ p.2).bind fun q => (dispD ps q.2).map fun z => ((k, q.1) :: z.1, z.2)
def mergeD (ks more : List (Key × D)) : List (Key × D) := more.foldl (fun acc kv => putD acc kv.1 kv.2) ks
theorem RepK.merge {K : PySem.W.Frag} {G : Kn} : ∀ {more : List (Key × V)} {ms : List (Key × D)} {kvs : List (Key × V)} {ks : List (Key × D)}, RepK K cl G more ms → RepK K cl G kvs ks → RepK K cl G (mergeK kvs more) (mergeD ks ms)
  | _, _, _, _, .nil, r => r
  | _, _, kvs, ks, .cons (k := k) (v := v) (d := d) (vs := vs) (ds := ds) h t, r => by
    have z := RepK.merge (kvs := putK kvs k v) (ks := putD ks k d) t (r.put h)
    exact z
theorem disp_ok {K : PySem.W.Frag} {F : Fm} {T : Th} {H : Hp} {σ : L2.St} : ∀ {rs : List (RV × RV)} {ps : List (V × V)} {G : Kn} {ρ ρ' : En} {zs : List (Key × D)}, EOk K cl F T G H σ ρ → RvPs K cl G σ ps rs → dispD rs ρ = some (zs, ρ') →
    ∃ G' kvs, Le G G' ∧ EOk K cl F T G' H σ ρ' ∧ ps = kvs.map (fun kv => (kV kv.1, kv.2)) ∧ RepK K cl G' kvs zs ∧ kvs.length = rs.length
  | [], _, G, ρ, ρ', zs, E, R, e => by
    cases R
    simp only [dispD, Option.some.injEq, Prod.mk.injEq] at e
    obtain ⟨rfl, rfl⟩ := e
    exact ⟨G, [], Le.refl _, E, rfl, .nil, rfl⟩
  | r :: rs, _, G, ρ, ρ', zs, E, R, e => by
    cases R with | cons h1 h2 h3 =>
    simp only [dispD, Option.bind_eq_some_iff, Option.map_eq_some_iff, Prod.mk.injEq] at e
    obtain ⟨k, e1, ⟨d, ρ1⟩, e2, ⟨z, ρ2⟩, e3, rfl, rfl⟩ := e
    obtain ⟨G1, g1, E1, R1⟩ := E.esc h2 e2
    obtain ⟨G2, kvs, g2, E2, ep, rk, hl⟩ := disp_ok E1 (h3.mono g1) e3
    rename_i x y r1 s1 ps
    cases r1 with
    | ref i => cases e1
    | val dk =>
      have ek : x = kV k := key_top (Rep.top E.gh h1) e1
      exact ⟨G2, (k, y) :: kvs, g1.trans g2, E2, by rw [ep, ek]; rfl, .cons (R1.mono g2) rk, by simp [hl]⟩
theorem merge_len : ∀ (more kvs : List (Key × V)), (mergeK kvs more).length ≤ kvs.length + more.length := length_mergeK
def eDict (m : Px) : Ex := fun ρ => (m ρ).bind fun p => (dispD p.1 p.2).bind fun q => if p.1.length ≤ 15 then some (.val (.dict (mergeD [] q.1)), q.2) else none
def sNewD (i : Nat) (m : Px) : Sx := fun ρ => (m ρ).bind fun p => (dispD p.1 p.2).bind fun q => if p.1.length ≤ 15 then some (.nx (q.2.set i (.own none (.dict (mergeD [] q.1))))) else none
/-- what a display asks -/
theorem disp_run {keys : List (Option Expr)} {values : List Expr} {m : Px} {σ : L2.St} {H : Hp} {Q : VK} {trs : List (TE × TE)} (hm : ∀ σ H Q, tDP X.K cl m σ H Q → tPairs trs σ H Q) {F : Fm} {T : Th} {G : Kn} {ρ ρ1 ρ2 : En} {rs : List (RV × RV)} {zs : List (Key × D)}
    (E : EOk X.K cl F T G H σ ρ) (e1 : m ρ = some (rs, ρ1)) (e2 : dispD rs ρ1 = some (zs, ρ2)) (e3 : rs.length ≤ 15)
    (q : ∀ p G2 H2, Le G G2 → (G2.h p = none ∧ p ∉ G2.A) → T.h p = none → p ∉ F.W → EOk X.K cl F T G2 H2 σ ρ2 → OwnAt X.K cl G2 H2 p (.dict (mergeD [] zs)) → (∀ (j : Nat) (y : Sl), ρ2.sl[j]? = some y → y.obj ≠ none → σ[j]? ≠ some (some (.ref p))) → Q (.ref p) H2) : tDisp trs σ H Q := by
  intro p hp
  refine hm _ _ _ ⟨F, T.keep p (.dK []), G, ρ, rs, ρ1, E.reserve hp, e1, fun ps G1 H1 g1 E1 R1 => ?_⟩
  obtain ⟨G2, kvs, g2, E2, ep, rk, hl⟩ := disp_ok E1 R1 e2
  have hp2 : H1 p = some (.dK []) := E1.th _ _ keep_at
  obtain ⟨a1, a2, a3, a4, a5⟩ := E.filled (o' := .dK (mergeK [] kvs)) hp E2
  have hz : (mergeK [] kvs).length ≤ sizeLine := by
    have := merge_len kvs []
    have h15 : 15 ≤ sizeLine := by decide
    rw [List.length_nil] at this
    omega
  exact ⟨hp2, kvs, ep, by omega, q p G2 _ (g1.trans g2) a1 a2 a3 a4 ⟨rfl, .dict upd_same hz (RepK.merge rk .nil)⟩ a5⟩
theorem d_disp {keys : List (Option Expr)} {values : List Expr} {m : Px} (h : PDP X cl pos keys values m) (hall : keys.all (·.isSome) = true := by rfl) (hl : keys.length = values.length := by rfl) (h0 : keys ≠ [] := by intro z; cases z) (h15 : keys.length ≤ 15 := by decide) : PD X cl (.Dict keys values pos) (eDict m) := by
  obtain ⟨trs, h1, h2⟩ := h
  refine pe_imp (pe_disp h1 hall hl h0 h15) fun σ H Q h => ?_
  obtain ⟨F, T, G, ρ, r, ρ', E, e, q⟩ := h
  simp only [eDict, Option.bind_eq_some_iff] at e
  obtain ⟨⟨rs, ρ1⟩, e1, ⟨zs, ρ2⟩, e2, e3⟩ := e
  split at e3
  · rename_i hz
    cases e3
    refine disp_run (keys := keys) (values := values) h2 E e1 e2 hz fun p G2 H2 g a1 a2 a3 a4 a5 a6 => ?_
    obtain ⟨ob, hob⟩ := a5.there
    exact q _ (G2.up p ob) H2 (g.trans (.up a1.1)) (a4.known hob a1 a2 a6) (a5.rep (.up a1.1) hob upd_same)
  · cases e3
theorem st_newD {keys : List (Option Expr)} {values : List Expr} {m : Px} {p2 pos' : Pos} {x : Str} (i : Nat) (hN : X.N.Nodup) (h : PDP X cl p2 keys values m) (hi : X.N[i]? = some x := by rfl) (hx : Loc X.env.scope x := by first | exact Or.inl rfl | exact Or.inr rfl)
    (hs : swapsWith (.Dict keys values p2) (some (.Name x pos')) pos.line X.env = pure false := by rfl) (hf : X.fn x = true ∨ X.env.scope.names.lookup x = some .local := by first | exact Or.inl rfl | exact Or.inr rfl)
    (hall : keys.all (·.isSome) = true := by rfl) (hl : keys.length = values.length := by rfl) (h0 : keys ≠ [] := by intro z; cases z) (h15 : keys.length ≤ 15 := by decide) :
    PDS X cl (.Assign [.Name x pos'] (.Dict keys values p2) pos) (sNewD i m) := by
  obtain ⟨trs, h1, h2⟩ := h
  refine ps_imp (ps_set hN hi hx (pe_disp h1 hall hl h0 h15) hs hf) fun D σ H h => ?_
  obtain ⟨F, T, G, ρ, fl, E, e, q⟩ := h
  simp only [sNewD, Option.bind_eq_some_iff] at e
  obtain ⟨⟨rs, ρ1⟩, e1, ⟨zs, ρ2⟩, e2, e3⟩ := e
  split at e3
  · rename_i hz
    cases e3
    refine disp_run (keys := keys) (values := values) h2 E e1 e2 hz fun p G2 H2 g a1 a2 a3 a4 a5 a6 => ?_
    exact q _ G2 H2 g (a4.setOwn a1 a2 a3 a5 a6)
  · cases e3
end
end DL

/-! E15: the program's own exceptions: class X(..): def __init__(self, f): super().__init__(MESSAGE); self.f = f, any number of classes above it up to ValueError -/
namespace PySem.ErrX
open PySem PySem.W PySem.Calls PyProof.Rows PySem.HandSPX
/-- __init__'s parameters, its body, its scope -/
def prm (f : Str) (p1 p2 : Pos) : Arguments := { posonlyargs := [], args := [{ arg := "self", annotation := none, pos := p1 }, { arg := f, annotation := none, pos := p2 }], vararg := none, kwonlyargs := [], kw_defaults := [], kwarg := none, defaults := [] }
def bdy (f : Str) (msg : Expr) (p0 p1 p2 p3 p4 q1 q2 q3 q4 : Pos) : List Stmt := [.Expr (.Call (.Attribute (.Call (.Name "super" p0) [] [] p1) "__init__" p2) [msg] [] p3) p4, .Assign [.Attribute (.Name "self" q1) f q2] (.Name f q3) q4]
/-- the message's value: nothing but tokens is touched -/
def Says (prog : Program) (w : World) (f : Str) (v : Value) (msg : Expr) : Prop := ∀ (A : Around) (E : Value → Shared → Prop) (s : Shared) (env : Env) (m : Str → Option Value) (Q : Value → Shared → Prop), s.heap.Ns env.locals m → m f = some v → env.scope.kind = .function → env.kindOf f = some .local →
  (∀ u tk, Q u { s with toks := tk }) → wpAny (model prog w) A (eval msg env) Q E s
section
variable {prog : Program} {w : World} {f : Str} {x y : Str} {t : Tok} {k : Nat} {pos p q : Pos}
theorem says_after (hd : (f == ("__debug__" : Str)) = false) (hz : x.length + y.length ≤ sizeLine) : Says prog w f (.str y t) (.BinOp (.Constant (.str x) k p) .Add (.Name f q) pos) := fun A E s env m Q hn hv h1 h2 h =>
  wpAny_BinOp (wpAny_Constant_str (wpAny_Name (wpAny_loadName_local h1 h2 hn hv (add_str (fun t' tk => h _ _) hz)) hd))
theorem says_before (hd : (f == ("__debug__" : Str)) = false) (hz : y.length + x.length ≤ sizeLine) : Says prog w f (.str y t) (.BinOp (.Name f q) .Add (.Constant (.str x) k p) pos) := fun A E s env m Q hn hv h1 h2 h =>
  wpAny_BinOp (wpAny_Name (wpAny_loadName_local h1 h2 hn hv (wpAny_Constant_str (add_str (fun t' tk => h _ _) hz))) hd)
end
abbrev scp (nms : List (Str × NameKind)) (mr : List (Str × Const)) : Scope := { kind := .function, names := nms, isGenerator := false, isCoroutine := false, more := mr }
/-- what the written part says of the class at C and of its __init__ at fI -/
structure ErrTxt (prog : Program) (K : Frag) (mg : Str → Option Value) (x f : Str) (C fI : Addr) (msg : Expr) : Prop where
  gC : mg x = some (.ref C)
  cls : ∃ nm q N bs bm sn sub ab col dd k0 k1 k2 k3 k5, K.lookup C = some (excClassObj nm q C N bs bm true sn sub ab col dd k0 k1 k2 k3 k5 "ValueError.__new__") ∧ refsVE bm = true
  sa : findIn K (.ref C) "__setattr__" = some (some (.builtin "object.__setattr__"))
  ga : findIn K (.ref C) "__getattribute__" = some (some (.builtin "BaseException.__getattribute__"))
  gg : findIn K (.ref C) "__getattr__" = some none
  noF : findIn K (.ref C) f = some none
  iC : findIn K (.ref C) "__init__" = some (some (.ref fI))
  tC : typeIn K (.ref fI) = some (.type "function")
  kC : keepIn K (.ref C) = true
  exC : subIn K (.ref C) (.type "BaseException") = some true
  veC : subIn K (.ref C) (.type "ValueError") = some true
  tyC : typeIn K (.ref C) = some (.type "type")
  hdC : hasDictIn K C = true
  opq : nsIn K cStatics "thirdparty.any" = some none
  sup : ks_superIn K C C "__init__" = some (some (.builtin "ValueError.__init__"))
  sb : mroIn K C (.ref C) = some true
  nos : mg "super" = none
  htop : (prog.main.scope.names.lookup ("super" : Str)).isSome = false
  sw : ∀ (env : Env) (p0 r1 r2 r3 r4 : Pos), swapsWith (.Call (.Attribute (.Call (.Name "super" p0) [] [] r1) "__init__" r2) [msg] [] r3) none r4.line env = pure false
  st : ∀ env : Env, starEach [msg] env = (false, eval msg env) :: starEach [] env
  fn : ∃ (oc : Value) (od an : Option Addr) (qual : Str) (doc pm ct : Value) (osl : Array (Option Value)) (nms : List (Str × NameKind)) (mr : List (Str × Const)) (cc cda : Addr) (p1 p2 p0 r1 r2 r3 r4 q1 q2 q3 q4 : Pos),
    K.lookup fI = some ⟨oc, od, .func (ksFn "__init__" qual (prm f p1 p2) (bdy f msg p0 r1 r2 r3 r4 q1 q2 q3 q4) (scp nms mr) .none .none doc pm an (.ref cda) ct cc), osl⟩ ∧ codeIn K (.ref cda) qual = true ∧
    (∃ cl cld csl, K.lookup cc = some ⟨cl, cld, .cell (some (.ref C)), csl⟩) ∧
    (∃ ccl cdd vs ccs file tf, K.lookup cda = some ⟨ccl, cdd, .fields vs, ccs⟩ ∧ vs[2]? = some (.str file tf) ∧ ((prog.main.file : Str) == file) = true) ∧
    (∀ x ∈ nms, x.2 ≠ .cell) ∧ nms.lookup ("self" : Str) = some .local ∧ nms.lookup f = some .local ∧ nms.lookup ("super" : Str) = some .globalImplicit ∧ nms.lookup ("__class__" : Str) = some .free ∧
    (∀ a b : Value, bindArgs (ksFn "__init__" qual (prm f p1 p2) (bdy f msg p0 r1 r2 r3 r4 q1 q2 q3 q4) (scp nms mr) .none .none doc pm an (.ref cda) ct cc) ⟨[a, b], []⟩ = pure [(("self" : Str), a), (f, b)]) ∧
    (∀ env : Env, ∃ pl : Sem Bool, eval (.Call (.Attribute (.Call (.Name "super" p0) [] [] r1) "__init__" r2) [msg] [] r3) env = (do
      let ov ← attributeBase (.Call (.Name "super" p0) [] [] r1) "__init__" env (eval (.Call (.Name "super" p0) [] [] r1) env)
      standAt r2.atName
      let (g, first) ← holding [ov] (getMethod ov "__init__" pl)
      callWith r3 g first (backTo r3 (starEach [msg] env)) []))
/-- what __init__ leaves of a fresh exception at x -/
structure Left (h h' : Heap) (f : Str) (x C dx : Addr) (v : Value) : Prop where
  keep : ∀ b o, b ≠ x → h.get? b = some o → h'.get? b = some o
  obj : ∃ t1, h'.get? x = some { cls := .ref C, dict := some dx, data := .fields #[.ref t1, .none, .none, .none, .bool false, .none] }
  dbig : h.objs.size ≤ dx
  dne : dx ≠ x
  ns : h'.Ns1 dx (fun y => if y = f then some v else none)
theorem one_size (v : Value) : [v].length ≤ sizeLine := by
  rw [sizeLine_eq]
  exact (by decide : 1 ≤ 16777216)
theorem kept_but {K : Frag} {h h' : Heap} {x : Addr} (X : K.In h) (hx : K.lookup x = none) (k : ∀ b o, b ≠ x → h.get? b = some o → h'.get? b = some o) : K.In h' := fun a o e =>
  k a o (fun z => by rw [z, hx] at e; cases e) (X a o e)
section
variable {prog : Program} {w : World} {A : Around} {E : Value → Shared → Prop} {R : Result → Shared → Prop} {s : Shared} {K : Frag} {mg mb : Str → Option Value} {n f : Str} {C fI : Addr} {msg : Expr}
/-- ValueError.__init__ bound to the fresh one, called -/
theorem call_mw {h : Heap} {g : Array GenState} {d : Drawn} {t : Nat} {os : OsState} {u e t0 : Addr} {rest : List Value} {Q : Value → Shared → Prop} {nm q : Str} {N : Addr} {bs bm : List Value} {hdct : Bool} {sn : List Str} {sub : List Value} {ab : Bool} {col : Option Bool} {dd : Option Addr} {k0 k1 k2 k3 k5 : Option Value}
    (hC : h.get? C = some (excClassObj nm q C N bs bm hdct sn sub ab col dd k0 k1 k2 k3 k5 "ValueError.__new__")) (he : h.get? e = some (excO C t0)) (hu : h.get? u = some (kxs_mw "ValueError.__init__" e)) (hz : rest.length ≤ sizeLine)
    (hq : ∀ h' t1, (∀ b o, b ≠ e → h.get? b = some o → h'.get? b = some o) → h'.get? e = some (excO C t1) → Q .none ⟨h', g, d, t, os⟩) :
    wpAny (model prog w) A (call (.ref u) rest) Q E ⟨h, g, d, t, os⟩ := by
  have FB := F.excBase_ValueError
  refine wpAny_call (codeAny_of_tree ?_)
  show wpAny _ A.in1 (callAny (.ref u) ⟨rest, []⟩) _ _ _
  simp only [callAny]
  refine wpAny_bind (wpAny_load hu ?_)
  have c1 : (Value.type "method-wrapper" == Value.type "method" || Value.type "method-wrapper" == Value.type "builtin_function_or_method" || Value.type "method-wrapper" == Value.type "method-wrapper") = true := by decide
  simp only [kxs_mw, c1, if_true]
  refine KFB.if_so (by decide) (wpAny_bind (check_bound_init FB.toExcCallFacts hC he rfl (wpAny_bind (wpAny_pure (wpAny_pure ⟨plainId_quiet FB.init.plain _, codeAny_builtin FB.initEntry ?_⟩)))))
  exact exc_init_tree (cls := .ref C) (t0 := t0) (dv := none) (c2 := .none) (c3 := .none) (b4 := .bool false) he hz fun h' k e' _ => hq h' _ k e'
theorem err_init (T : ErrTxt prog K mg n f C fI msg) {x t0 : Addr} {v : Value} (hs : Says prog w f v msg) (hf1 : (f == ("self" : Str)) = false) (hf2 : (f == ("__debug__" : Str)) = false) (X : K.In s.heap) (hlim : s.heap.NoLimit) (glob : s.heap.Ns mainGlobals mg) (blt : s.heap.Ns builtinsNs mb) (hmb : mb "super" = some (.type "super"))
    (hx : s.heap.get? x = some (excO C t0)) (hnx : K.lookup x = none) (hroom : A.depth < recursionLimit) (hq : ∀ h' tk dx, Left s.heap h' f x C dx v → R (.ok (.ret .none)) { s with heap := h', toks := tk }) :
    codeAny (model prog w) A (.call (.ref fI) ⟨[.ref x, v], []⟩) R s := by
  obtain ⟨oc, od, an, qual, doc, pm, ct, osl, nms, mr, cc, cda, p1, p2, p0, r1, r2, r3, r4, q1, q2, q3, q4, ho, hcd, ⟨cl, cld, csl, hcell⟩, ⟨ccl, cdd, vs, ccs, file, tf, hcode, hvs, hfile⟩, k4, n1, n2, n3, n4, hbd, hev⟩ := T.fn
  obtain ⟨nm, q, N, bs, bm, sn, sub, ab, col, dd, c0, c1, c2, c3, c5, hC, hbm⟩ := T.cls
  have hcl : clsIn K C = some { name := nm, bases := bs, mro := .ref C :: bm, ns := N, qualname := q, hasDict := true, slotNames := sn, subclasses := sub, abstract := ab, collection := col, hasDel := false } := by unfold clsIn; rw [hC] <;> rfl
  have hxC : x ≠ C := fun z => by rw [z, hC] at hnx; cases hnx
  refine ks_codeAny_call_defAt (fd := ksFn "__init__" qual (prm f p1 p2) (bdy f msg p0 r1 r2 r3 r4 q1 q2 q3 q4) (scp nms mr) .none .none doc pm an (.ref cda) ct cc) (body := bdy f msg p0 r1 r2 r3 r4 q1 q2 q3 q4) (binds := [(("self" : Str), .ref x), (f, v)])
    hroom (X _ _ ho) rfl hlim (codeRec_of X hcd) rfl (BindsTo.of_eq ?bnd) k4 ?loc (fun h₀ hns hk => ?body) rfl rfl rfl
  case loc =>
    intro y hy
    simp only [List.mem_cons, List.not_mem_nil, or_false] at hy
    rcases hy with rfl | rfl
    · exact n1
    · exact n2
  case bnd => exact hbd _ _
  case body =>
    have X₀ : K.In h₀ := X.keeps hk
    have hx₀ := hk _ _ hx
    have hC₀ := hk _ _ (X _ _ hC)
    have hv : (fun y => List.lookup y (List.reverse [(("self" : Str), Value.ref x), (f, v)])) f = some v := by
      show List.lookup f [(f, v), (("self" : Str), Value.ref x)] = some v
      rw [List.lookup_cons, beq_self_eq_true]
    have hself : (fun y => List.lookup y (List.reverse [(("self" : Str), Value.ref x), (f, v)])) "self" = some (.ref x) := by
      have e : (("self" : Str) == f) = false := by rw [beq_eq_false_iff_ne]; exact fun z => by rw [← z] at hf1; simp at hf1
      show List.lookup ("self" : Str) [(f, v), (("self" : Str), Value.ref x)] = some (.ref x)
      rw [List.lookup_cons, e, List.lookup_cons, beq_self_eq_true]
    refine ks_wpAt_execs_cons (ks_wpAt_Expr_any (ks_wpAt_MethodCall (ks_wpAt_super_base n3 n4 (by decide) rfl (X₀ _ _ ho) rfl rfl rfl (X₀ _ _ hcode) rfl hvs hfile T.htop ?_) (hev _).choose_spec) rfl ?sw)
    case sw => exact T.sw _ _ _ _ _ _
    refine ks_loadName_global rfl n3 (loadGlobal_builtin (glob.keeps hk) T.nos (blt.keeps hk) hmb ⟨rfl, ?_⟩)
    refine wpAny_loadName_free rfl n4 rfl ⟨_, X₀ _ _ hcell, rfl⟩ ?_
    refine wpAny_loadName_local rfl n1 hns hself ?_
    refine ks_wpAny_isType_cls hC₀ rfl ⟨rfl, ?_⟩
    refine ks_wpAny_call_super hC₀ rfl hx₀ rfl (fun c e => by cases e) (looks_mroIn X₀ T.sb) (fun h1 hso k' => ?_)
    have X₁ : K.In h1 := X₀.keeps k'
    have hx₁ := k' _ _ hx₀
    have hC₁ := k' _ _ hC₀
    have I₁ : InstAt h1 x (excO C t0) C none := ⟨hx₁, rfl, rfl, trivial⟩
    have hin : Looks (model prog w) h1 (isInstance (.ref x) (.type "ValueError")) true := I₁.type.andThen (looks_subIn X₁ T.veC)
    have hsu := T.sup
    unfold ks_superIn at hsu
    rw [hcl, Option.bind_some] at hsu
    refine kxs_getMethod kxs_ValueError hso (looks_opaque X₁ T.opq) (l₀ := .ref C :: bm) (fun A Q E s k q => wpAny_bind ((looks_clsIn X₁ hcl) A _ E s k (wpAny_pure q))) rfl X₁ hsu hin hxC (by decide) ?_
    rw [T.st]
    have kp : ∀ b o, h1.get? b = some o → (h1.push (kxs_mw "ValueError.__init__" x)).get? b = some o := fun b o e => Heap.get?_push_of_some _ e
    have hmw : (h1.push (kxs_mw "ValueError.__init__" x)).get? h1.objs.size = some (kxs_mw "ValueError.__init__" x) := Heap.get?_push_at rfl rfl
    refine kxs_callWith (i := "ValueError.__init__") (x := x) rfl (evalArgs_plain (spliced_cons (hs _ _ _ _ _ _ ((hns.keeps k').keeps kp) hv rfl n2 fun u tk => spliced_nil ⟨hmw, ?_⟩)))
    refine call_mw (kp _ _ hC₁) (kp _ _ hx₁) hmw (one_size u) (fun h2 t1 kk hx₂ => ?_)
    -- self.f = f
    have kall : ∀ b o, b ≠ x → h₀.get? b = some o → h2.get? b = some o := fun b o hb e => kk b o hb (kp b o (k' b o e))
    have X₂ : K.In h2 := kept_but X₀ hnx kall
    have hLx : s.heap.objs.size ≠ x := Nat.ne_of_gt (Heap.lt_size hx)
    have hns2 : h2.Ns s.heap.objs.size (fun y => List.lookup y (List.reverse [(("self" : Str), Value.ref x), (f, v)])) := by
      obtain ⟨o, es, ep, ho2, hr⟩ := hns
      exact ⟨o, es, ep, kall _ _ hLx ho2, hr⟩
    refine ks_wpAt_execs_cons (ks_wpAt_Assign_Attr (wpAt_of_wpAny (wpAny_Name (wpAny_loadName_local rfl n2 hns2 hv (wpAny_Name (wpAny_loadName_local rfl n1 hns2 hself ?_) (by decide))) hf2)) rfl)
    refine set_plain X₂ (ox := excO C t1) (od := none) ⟨hx₂, rfl, rfl, trivial⟩ T.sa ?_
    refine exc_osa X₂ hx₂ hcl (show refsVE (.ref C :: bm) = true from hbm) rfl T.noF (fun h3 tk3 dx k3 dn dne hx3 hn3 => ?_)
    refine wpAt_of_wpAny (wpAny_execs_nil (hq h3 _ dx ⟨fun b o hb e => k3 b o hb (kall b o hb (hk b o e)), ⟨_, hx3⟩, ?_, dne, hn3⟩))
    obtain ⟨o, es, ep, ho2, hr⟩ := hns2
    exact Nat.le_of_lt (Nat.lt_of_lt_of_le (Heap.lt_size ho2) dn)
/-- a made one -/
structure Made (h h' : Heap) (f : Str) (e C d : Addr) (v : Value) : Prop where
  keep : ∀ b o, h.get? b = some o → h'.get? b = some o
  new : h.objs.size ≤ e
  obj : ∃ oe vs, h'.get? e = some oe ∧ oe.cls = .ref C ∧ oe.dict = some d ∧ oe.data = .fields vs ∧ vs[1]? = some .none
  dbig : h.objs.size ≤ d
  dne : d ≠ e
  ns : h'.Ns1 d (fun y => if y = f then some v else none)
theorem err_made (T : ErrTxt prog K mg n f C fI msg) {v : Value} (hs : Says prog w f v msg) (hf1 : (f == ("self" : Str)) = false) (hf2 : (f == ("__debug__" : Str)) = false) (X : K.In s.heap) (hlim : s.heap.NoLimit) (glob : s.heap.Ns mainGlobals mg) (blt : s.heap.Ns builtinsNs mb) (hmb : mb "super" = some (.type "super"))
    (hroom : A.depth + 1 < recursionLimit) (hq : ∀ h' tk e d, Made s.heap h' f e C d v → R (.ok (.ret (.ref e))) { s with heap := h', toks := tk }) : codeAny (model prog w) A (.call (.ref C) ⟨[v], []⟩) R s := by
  obtain ⟨nm, q, N, bs, bm, sn, sub, ab, col, dd, k0, k1, k2, k3, k5, hC, hbm⟩ := T.cls
  obtain ⟨hp, g, dr, tk, os⟩ := s
  have k : ∀ b o, hp.get? b = some o → ((hp.push (kdv_tup [v])).push (excO C hp.objs.size)).get? b = some o := fun b o e => Heap.get?_push_of_some _ (Heap.get?_push_of_some _ e)
  have hget : ((hp.push (kdv_tup [v])).push (excO C hp.objs.size)).get? (hp.objs.size + 1) = some (excO C hp.objs.size) := by heap_get
  have hnx : K.lookup (hp.objs.size + 1) = none := by
    cases e : K.lookup (hp.objs.size + 1) with
    | none => rfl
    | some o => exact absurd (Nat.lt_of_succ_lt (Heap.lt_size (show hp.get? (hp.objs.size + 1) = some o from X _ _ e))) (Nat.lt_irrefl _)
  refine call_own F.excBase_ValueError (fun X => refsVE_contains X bm hbm) (X _ _ hC) (looks_findIn X T.iC) (fun self => bind_fn X self T.tC) (one_size v) ?_
  refine err_init (s := ⟨(hp.push (kdv_tup [v])).push (excO C hp.objs.size), g, dr, tk, os⟩) T hs hf1 hf2 (X.keeps k) (hlim.keeps k) (glob.keeps k) (blt.keeps k) hmb hget hnx ?_ fun h' tk' dx L => ?_
  · show A.depth + 1 < recursionLimit
    exact hroom
  · have z : hp.objs.size + 1 + 1 ≤ dx := by
      have q := L.dbig
      first | exact q | (rw [Heap.size_push, Heap.size_push] at q; exact q) | simpa only [Heap.size_push] using q
    obtain ⟨t1, hx⟩ := L.obj
    exact ⟨rfl, hq h' tk' (hp.objs.size + 1) dx ⟨fun b o e => L.keep b o (Nat.ne_of_lt (Nat.lt_succ_of_lt (Heap.lt_size e))) (k b o e), Nat.le_succ _, ⟨_, _, hx, rfl, rfl, rfl, rfl⟩, Nat.le_trans (Nat.le_trans (Nat.le_succ _) (Nat.le_succ _)) z, L.dne, L.ns⟩⟩
end
end PySem.ErrX

/-! E16: statements that may raise -/
namespace DL
open PySem L2
/-! ### raise X(e): the exception made -/
section
variable {X : Cx} {C fI : Addr} {n f : Str} {msg : Expr}
def tMkE (C : Addr) (f : Str) (ta : TA) : L2.St → Hp → XK → Prop := fun σ H Q => ta σ H fun vs H1 => ∃ y : Str, vs = [.str y] ∧ y.length ≤ 1000000 ∧ ∀ d, H1 d = none → Q (.ref C) (some d) (upd H1 d (.xd [(f, V.str y)]))
theorem relO_one {v : V} {v' : Value} (r : RelV v v') (f g : Str) : RelO (List.lookup g [(f, v)]) (if g = f then some v' else none) := by
  by_cases hw : g = f
  · subst hw
    rw [if_pos rfl, List.lookup_cons, beq_self_eq_true]
    exact r
  · rw [if_neg hw]
    have qw : (g == f) = false := by simpa using hw
    rw [List.lookup_cons, qw]
    trivial
theorem pmk_err {a : Expr} {ta : TA} {p pos : Pos} {k : Nat} (T : PySem.ErrX.ErrTxt X.prog X.K X.mg n f C fI msg) (hs : ∀ (y : Str) (t : Tok), y.length ≤ 1000000 → PySem.ErrX.Says X.prog X.w f (.str y t) msg) (hf1 : (f == ("self" : Str)) = false) (hf2 : (f == ("__debug__" : Str)) = false)
    (hr : Room k X.A) (ha : PA X [a] ta) (hg : Gl X n) (hn : (n == ("__debug__" : Str)) = false)
    (he : starEach (a :: []) X.env = (false, eval a X.env) :: starEach [] X.env := by rfl) (hpl : (backTo pos (starEach [] X.env)).any (·.1) = false := by rfl) : PMk X (.Call (.Name n p) [a] [] pos) (tMkE C f ta) := by
  intro pins s σ H Q I h
  refine wpAny_Call_Name_kw (ld_glob I hg T.gC ?_ hn)
  refine PySem.W.callWith_K (h₀ := X.base) I.ok.mod.kin T.kC (thn (ha.run pos pins s σ H _ I h) fun us s1 hh => ?_) he hpl
  obtain ⟨vs, H1, I1, r1, y, ev, hy, q1⟩ := hh
  subst ev
  refine ⟨I1.kIn, ?_⟩
  obtain ⟨u, rfl, ru⟩ := vals1 r1
  obtain ⟨tk0, rfl⟩ : ∃ t, u = Value.str y t := ru
  obtain ⟨mb, hmb, hall⟩ := I1.mod.blt
  show wpAny _ _ (call (.ref C) [Value.str y tk0]) _ _ _
  have hlim := I1.nolimit
  obtain ⟨hp, g, dr, tk, os⟩ := s1
  refine wpAny_call (PySem.ErrX.err_made T (hs y tk0 hy) hf1 hf2 I1.kIn hlim (I1.mod.glob.keeps I1.bk) (hmb.keeps I1.bk) ((hall _ (by decide)).trans (by first | rfl | kernel_rfl)) (by have := hr.dp; omega) fun h' tk' e d M => ?_)
  show MkP X pins σ Q (.ref e) ⟨h', g, dr, tk', os⟩
  obtain ⟨oe, fv, hoe, hc, hd, hdat, h1⟩ := M.obj
  obtain ⟨G', g1, g2⟩ := restrict h' fun b => decide (b ≠ e)
  have gk : ∀ b, b ≠ e → G'.get? b = h'.get? b := fun b hb => g1 b (decide_eq_true hb)
  have ge : G'.get? e = none := g2 e (by simp)
  have old : ∀ b o, hp.get? b = some o → G'.get? b = some o := fun b o q => (gk b (Nat.ne_of_lt (Nat.lt_of_lt_of_le (Heap.lt_size q) M.new))).trans (M.keep b o q)
  have ob : ObjOk X.prog X.w (upd H1 d (.xd [(f, V.str y)])) G' d (.xd [(f, V.str y)]) := ⟨_, M.ns.at (fun o q => (gk d M.dne).trans q), fun g => relO_one (show RelV (V.str y) (Value.str y tk0) from ⟨_, rfl⟩) f g⟩
  have J : Inv X pins σ (upd H1 d (.xd [(f, V.str y)])) ⟨G', g, dr, tk', os⟩ := I1.laid (t' := tk') old M.dbig ob
  refine ⟨e, oe, fv, ⟨G', g, dr, tk', os⟩, _, .ref C, some d, rfl, J, fun b o q => ?_, ge, hoe, ⟨hc, hd⟩, hdat, h1, ?_, rfl, I1.bare, raises_own T.exC T.tyC, q1 d (I1.hok.fresh M.dbig)⟩
  · by_cases hb : b = e
    · have q' : G'.get? b = some o := q
      rw [hb, ge] at q'; cases q'
    · exact (gk b hb).symm.trans q
  · rw [upd_ne (Ne.symm M.dne)]
    exact I1.hok.fresh M.new
end
/-! ### what may raise -/
/-- an exception as data: its class, its fields -/
abbrev Er := String × List (Str × D)
abbrev Xs := En → Option (Fl ⊕ (Er × En))
abbrev Xe := En → Option ((RV × En) ⊕ (Er × En))
section
variable (K : PySem.W.Frag) (cl : String → Option Addr) (W : WX)
/-- the exception is in the air: its fields stand at dd -/
def ErOk (F : Fm) (T : Th) (G : Kn) (e : Er) (ρ : En) : Prop := ∀ C dd fvs σ' G' H', Le G G' → EOk K cl F T G' H' σ' ρ → cl e.1 = some C → G'.h dd = some (.xd fvs) → RepF K cl G' fvs e.2 → W (.ref C) (some dd) σ' H'
def SxOk (F : Fm) (T : Th) (G : Kn) (D : Ends) : Fl ⊕ (Er × En) → Prop
  | .inl fl => FlOk K cl F T G D fl
  | .inr p => ErOk K cl W F T G p.1 p.2
def ExOk (F : Fm) (T : Th) (G : Kn) (σ : L2.St) (Q : VK) : (RV × En) ⊕ (Er × En) → Prop
  | .inl p => ∀ v G' H', Le G G' → EOk K cl F T G' H' σ p.2 → RvOk K cl G' σ v p.1 → Q v H'
  | .inr p => ErOk K cl W F T G p.1 p.2
def tDXS (m : Xs) : TS := fun D σ H => ∃ F T G ρ o, EOk K cl F T G H σ ρ ∧ m ρ = some o ∧ SxOk K cl W F T G D o
def tDXE (m : Xe) : TE := fun σ H Q => ∃ F T G ρ o, EOk K cl F T G H σ ρ ∧ m ρ = some o ∧ ExOk K cl W F T G σ Q o
end
section
variable {K : PySem.W.Frag} {cl : String → Option Addr} {W : WX} {F : Fm} {T : Th} {G G' : Kn} {H : Hp} {σ : L2.St} {ρ : En} {e : Er}
theorem ErOk.mono (g : Le G G') (h : ErOk K cl W F T G e ρ) : ErOk K cl W F T G' e ρ := fun C dd fvs σ' G2 H' k => h C dd fvs σ' G2 H' (g.trans k)
theorem SxOk.mono {D : Ends} {o : Fl ⊕ (Er × En)} (g : Le G G') (h : SxOk K cl W F T G D o) : SxOk K cl W F T G' D o := by
  cases o with
  | inl fl => exact FlOk.mono g h
  | inr p => exact ErOk.mono g h
end
section
variable {X : Cx} {cl : String → Option Addr} {W : WX} {st : Stmt} {rest a b : List Stmt} {m n : Xs} {e : Expr} {me : Xe} {pos pos' : Pos} {c : Expr} {tc : Tx}
abbrev PXS (X : Cx) (cl : String → Option Addr) (W : WX) (st : Stmt) (m : Xs) : Prop := PS X st (tDXS X.K cl W m)
abbrev PXB (X : Cx) (cl : String → Option Addr) (W : WX) (st : List Stmt) (m : Xs) : Prop := PSs X st (tDXS X.K cl W m)
abbrev PXE (X : Cx) (cl : String → Option Addr) (W : WX) (e : Expr) (m : Xe) : Prop := PE X e (tDXE X.K cl W m)
def xOf (m : Sx) : Xs := fun ρ => (m ρ).map .inl
def xeOf (m : Ex) : Xe := fun ρ => (m ρ).map .inl
theorem x_of {m : Sx} (h : PDS X cl st m) : PXS X cl W st (xOf m) := ps_imp h fun D σ H q => by
  obtain ⟨F, T, G, ρ, o, E, e, q⟩ := q
  simp only [xOf, Option.map_eq_some_iff] at e
  obtain ⟨fl, e, rfl⟩ := e
  exact ⟨F, T, G, ρ, fl, E, e, q⟩
theorem xe_of {m : Ex} (h : PD X cl e m) : PXE X cl W e (xeOf m) := pe_imp h fun σ H Q q => by
  obtain ⟨F, T, G, ρ, o, E, e, q⟩ := q
  simp only [xeOf, Option.map_eq_some_iff] at e
  obtain ⟨⟨r, ρ'⟩, e, rfl⟩ := e
  exact ⟨F, T, G, ρ, r, ρ', E, e, q⟩
def xSkip : Xs := fun ρ => some (.inl (.nx ρ))
def xSeq (m n : Xs) : Xs := fun ρ => (m ρ).bind fun o => match o with
  | .inl (.nx ρ') => n ρ'
  | .inl (.bk ρ') => some (.inl (.bk ρ'))
  | .inl (.ct ρ') => some (.inl (.ct ρ'))
  | .inl (.rt d ρ') => some (.inl (.rt d ρ'))
  | .inl (.ro d ρ') => some (.inl (.ro d ρ'))
  | .inr p => some (.inr p)
theorem x_nil : PXB X cl W [] xSkip := by
  refine pss_imp pss_nil fun D σ H h => ?_
  obtain ⟨F, T, G, ρ, fl, E, e, q⟩ := h
  cases e
  exact q σ G H (Le.refl _) E
theorem x_one (h : PXS X cl W st m) : PXB X cl W [st] m := pss_one h
theorem x_cons (h : PXS X cl W st m) (k : PXB X cl W rest n) : PXB X cl W (st :: rest) (xSeq m n) := by
  refine pss_imp (pss_cons h k) fun D σ H h => ?_
  obtain ⟨F, T, G, ρ, o, E, e, q⟩ := h
  simp only [xSeq, Option.bind_eq_some_iff] at e
  obtain ⟨o1, e1, e2⟩ := e
  refine ⟨F, T, G, ρ, o1, E, e1, ?_⟩
  rcases o1 with (ρ1 | ρ1 | ρ1 | ⟨d, ρ1⟩ | ⟨d, ρ1⟩) | p
  · exact fun σ' G' H' g E' => ⟨F, T, G', ρ1, o, E', e2, q.mono g⟩
  all_goals (cases e2; exact q)
def xIf (t : Tx) (m n : Xs) : Xs := fun ρ => (t ρ).bind fun p => if p.1 = true then m p.2 else n p.2
theorem x_if (hc : PDT X cl c tc) (ha : PXB X cl W a m) (hb : PXB X cl W b n) : PXS X cl W (.If c a b pos) (xIf tc m n) := by
  refine ps_imp (ps_if hc ha hb) fun D σ H h => ?_
  obtain ⟨F, T, G, ρ, o, E, e, q⟩ := h
  simp only [xIf, Option.bind_eq_some_iff] at e
  obtain ⟨⟨c, ρ1⟩, e1, e2⟩ := e
  refine ⟨F, T, G, ρ, c, ρ1, E, e1, fun G1 H1 g1 E1 => ?_⟩
  cases c with
  | true => exact ⟨F, T, G1, ρ1, o, E1, by simpa using e2, q.mono g1⟩
  | false => exact ⟨F, T, G1, ρ1, o, E1, by simpa using e2, q.mono g1⟩
/-! an expression that may raise, as a statement -/
def xDrop (m : Xe) : Xs := fun ρ => (m ρ).map fun o => match o with
  | .inl p => .inl (.nx p.2)
  | .inr p => .inr p
theorem x_expr (h : PXE X cl W e me) (hs : swapsWith e none pos.line X.env = pure false := by rfl) : PXS X cl W (.Expr e pos) (xDrop me) := by
  refine ps_imp (ps_expr h hs) fun D σ H h => ?_
  obtain ⟨F, T, G, ρ, o, E, e, q⟩ := h
  simp only [xDrop, Option.map_eq_some_iff] at e
  obtain ⟨o1, e1, rfl⟩ := e
  refine ⟨F, T, G, ρ, o1, E, e1, ?_⟩
  cases o1 with
  | inl p => exact fun v G' H' g E' _ => q σ G' H' g E'
  | inr p => exact q
def xRet (m : Xe) : Xs := fun ρ => (m ρ).bind fun o => match o with
  | .inl p => (esc p.2 p.1).map fun q => .inl (.rt q.1 q.2)
  | .inr p => some (.inr p)
theorem x_ret (h : PXE X cl W e me) : PXS X cl W (.Return (some e) pos) (xRet me) := by
  refine ps_imp (ps_ret h) fun D σ H h => ?_
  obtain ⟨F, T, G, ρ, o, E, e, q⟩ := h
  simp only [xRet, Option.bind_eq_some_iff] at e
  obtain ⟨o1, e1, e2⟩ := e
  refine ⟨F, T, G, ρ, o1, E, e1, ?_⟩
  rcases o1 with ⟨r, ρ1⟩ | p
  · simp only [Option.map_eq_some_iff] at e2
    obtain ⟨⟨d, ρ2⟩, e2, rfl⟩ := e2
    refine fun v G' H' g E' R => ?_
    obtain ⟨G2, g2, E2, R2⟩ := E'.esc R e2
    exact q v σ G2 H' (g.trans g2) E2 R2
  · cases e2; exact q
def xSet (i : Nat) (m : Xe) : Xs := fun ρ => (m ρ).bind fun o => match o with
  | .inl p => (esc p.2 p.1).map fun q => .inl (.nx (q.2.set i (.val q.1)))
  | .inr p => some (.inr p)
theorem x_set {x : Str} (i : Nat) (hN : X.N.Nodup) (h : PXE X cl W e me) (hi : X.N[i]? = some x := by rfl) (hx : Loc X.env.scope x := by first | exact Or.inl rfl | exact Or.inr rfl) (hs : swapsWith e (some (.Name x pos')) pos.line X.env = pure false := by rfl) (hf : X.fn x = true ∨ X.env.scope.names.lookup x = some .local := by first | exact Or.inl rfl | exact Or.inr rfl) :
    PXS X cl W (.Assign [.Name x pos'] e pos) (xSet i me) := by
  refine ps_imp (ps_set hN hi hx h hs hf) fun D σ H h => ?_
  obtain ⟨F, T, G, ρ, o, E, e, q⟩ := h
  simp only [xSet, Option.bind_eq_some_iff] at e
  obtain ⟨o1, e1, e2⟩ := e
  refine ⟨F, T, G, ρ, o1, E, e1, ?_⟩
  rcases o1 with ⟨r, ρ1⟩ | p
  · simp only [Option.map_eq_some_iff] at e2
    obtain ⟨⟨d, ρ2⟩, e2, rfl⟩ := e2
    refine fun v G' H' g E' R => ?_
    obtain ⟨G2, g2, E2, R2⟩ := E'.esc R e2
    exact q _ G2 H' (g.trans g2) (E2.set R2)
  · cases e2; exact q
/-- a field of what may raise -/
def xFld (cs : List String) (f : Str) (m : Xe) : Xe := fun ρ => (m ρ).bind fun o => match o with
  | .inl p => (peek p.2 p.1).bind fun d => (fldD cs f d).map fun r => .inl (.val r, p.2)
  | .inr p => some (.inr p)
theorem xe_fld {cs : List String} {f : Str} (hc : ClsF X.K cl cs f) (he : PXE X cl W e me) (hb : attributeBase e f X.env (eval e X.env) = eval e X.env := by rfl) : PXE X cl W (.Attribute e f pos) (xFld cs f me) := by
  refine pe_imp (pe_fld he hb) fun σ H Q h => ?_
  obtain ⟨F, T, G, ρ, o, E, e, q⟩ := h
  simp only [xFld, Option.bind_eq_some_iff] at e
  obtain ⟨o1, e1, e2⟩ := e
  refine ⟨F, T, G, ρ, o1, E, e1, ?_⟩
  rcases o1 with ⟨r, ρ1⟩ | p
  · simp only [Option.bind_eq_some_iff, Option.map_eq_some_iff] at e2
    obtain ⟨d, e3, r', e5, rfl⟩ := e2
    refine fun v G1 H1 g1 E1 R1 => ?_
    have t := E1.top R1 e3
    unfold fldD at e5
    split at e5
    · split at e5
      · rename_i hm
        cases t with
        | inst ha hcl rf =>
        obtain ⟨u, l, ru⟩ := rf.look e5
        obtain ⟨k1, k2⟩ := hc _ hm _ hcl
        exact ⟨_, _, _, _, u, rfl, ha, k1, k2, l, q u G1 H1 g1 E1 ru⟩
      · cases e5
    · cases e5
  · cases e2; exact q
/-! raise X(e), e a text -/
def xRaise (c : String) (f : Str) (m : Ex) : Xs := fun ρ => (m ρ).bind fun p => match p.1 with
  | .val (.str y) => if y.length ≤ 1000000 then some (.inr ((c, [(f, .str y)]), p.2)) else none
  | _ => none
theorem x_raise {C fI : Addr} {nm f : Str} {cn : String} {msg ea : Expr} {ma : Ex} {p : Pos} {k : Nat} (hcm : X.calm = true) (tk : Takes X W) (T : PySem.ErrX.ErrTxt X.prog X.K X.mg nm f C fI msg) (hs : ∀ (y : Str) (t : Tok), y.length ≤ 1000000 → PySem.ErrX.Says X.prog X.w f (.str y t) msg) (hcl : cl cn = some C)
    (hf1 : (f == ("self" : Str)) = false) (hf2 : (f == ("__debug__" : Str)) = false) (hr : Room k X.A) (ha : PD X cl ea ma) (hg : Gl X nm) (hn : (nm == ("__debug__" : Str)) = false)
    (he : starEach (ea :: []) X.env = (false, eval ea X.env) :: starEach [] X.env := by rfl) (hpl : (backTo pos (starEach [] X.env)).any (·.1) = false := by rfl) : PXS X cl W (.Raise (some (.Call (.Name nm p) [ea] [] pos)) none pos') (xRaise cn f ma) := by
  refine ps_imp (ps_raise hcm tk (pmk_err T hs hf1 hf2 hr (pa_cons ha pa_nil (hs := he)) hg hn he hpl)) fun D σ H h => ?_
  obtain ⟨F, T', G, ρ, o, E, e, q⟩ := h
  simp only [xRaise, Option.bind_eq_some_iff] at e
  obtain ⟨⟨r, ρ1⟩, e1, e2⟩ := e
  refine ⟨F, T', G, ρ, r, ρ1, E, e1, fun v G1 H1 g1 E1 R1 => ?_⟩
  split at e2
  · rename_i y hy
    have hy' : r = .val (.str y) := hy
    subst hy'
    split at e2
    · rename_i hz
      cases e2
      cases R1
      refine ⟨y, rfl, hz, fun d hd => ?_⟩
      have gr := Grow.new_at (o := .xd [(f, V.str y)]) E1.gh hd
      exact q C d [(f, V.str y)] σ _ _ (g1.trans gr.gg) (E1.grow gr) hcl upd_same (.cons (.str y (Nat.le_trans hz (by decide))) .nil)
    · cases e2
  · cases e2
end
/-! ### defs that may raise -/
def spX (K : PySem.W.Frag) (cl : String → Option Addr) (n nio : Nat) (fn : Fn) : Sp := fun vs H Q E => vs.length = n ∧ ∃ (G : Hp) (as : List Addr) (ios : List D) (xs : List V) (ds : List D) (z : Rs) (outs : List D),
  vs = as.map V.ref ++ xs ∧ as.length = nio ∧ as.Nodup ∧ Paired (OwnAt K cl (.of G) H) as ios ∧ (∀ a ∈ as, G a = none) ∧ Reps K cl (.of G) xs ds ∧ Same G H ∧ fn (ios ++ ds) = some (z, outs) ∧
  ∀ G' H', Same G G' → Same G' H' → (∀ b, G' b ≠ none → G b ≠ none ∨ H b = none) → (∀ b o, b ∉ as → H b = some o → H' b = some o) → Paired (OwnAt K cl (.of G') H') as outs → match z with
    | .ok d => ∀ v, Rep K cl (.of G') v d → Q v H'
    | .er c fs => ∀ C dd fvs, cl c = some C → G' dd = some (.xd fvs) → RepF K cl (.of G') fvs fs → E (.ref C) (some dd) H'
theorem spX_of {K : PySem.W.Frag} {cl : String → Option Addr} {n nio : Nat} {fn : Fn} (vs : List V) (H : Hp) (Q : VK) (E : XK) (h : spD K cl n nio fn vs H Q E) : spX K cl n nio fn vs H Q E := by
  obtain ⟨hl, G, as, ios, xs, ds, d, outs, h1, h2, h3, h4, h5, h6, h7, h8, q⟩ := h
  exact ⟨hl, G, as, ios, xs, ds, .ok d, outs, h1, h2, h3, h4, h5, h6, h7, h8, fun G' H' k1 k2 k3 k4 k5 v r => q v G' H' k1 k2 k3 k4 k5 r⟩
theorem Cal.noX {P : Program} {w : World} {K : PySem.W.Frag} {mg : Str → Option Value} {base : Heap} {cx : CXT} {cl : String → Option Addr} {k n nio : Nat} {x : Str} {ps : List Str} {fn : Fn} (C : Cal P w K mg base cx k x ps (spX K cl n nio fn)) : Cal P w K mg base cx k x ps (spD K cl n nio fn) := by
  obtain ⟨f, fd, h1, h2, h3, h4⟩ := C.ex
  exact ⟨f, fd, h1, h2, h3, h4.imp fun vs H Q E h => spX_of vs H Q E h⟩
def pureX (st : List (Option D)) (os : List D) (fs : List (Str × D)) : Bool := st.isEmpty || (pureL os && pureF fs)
def fnX (N nio : Nat) (body : Xs) : Fn := fun args => (body (entE N nio args)).bind fun o => match o with
  | .inl (.rt d ρ) => (gave ρ 0 nio).bind fun os => if pureOk ρ.st (d :: os) = true then some (.ok d, os) else none
  | .inl (.nx ρ) => (gave ρ 0 nio).bind fun os => if pureOk ρ.st os = true then some (.ok .non, os) else none
  | .inr p => (gave p.2 0 nio).bind fun os => if pureX p.2.st os p.1.2 = true then some (.er p.1.1 p.1.2, os) else none
  | _ => none
theorem pureX_l {st : List (Option D)} {os : List D} {fs : List (Str × D)} (h : pureX st os fs = true) : pureOk st os = true := by
  unfold pureX at h
  unfold pureOk
  rw [Bool.or_eq_true] at h ⊢
  rcases h with h | h
  · exact .inl h
  · rw [Bool.and_eq_true] at h; exact .inr h.1
theorem pureX_r {K : PySem.W.Frag} {cl : String → Option Addr} {F : Fm} {T : Th} {G : Kn} {H : Hp} {σ : L2.St} {ρ : En} {os : List D} {fs : List (Str × D)} {fvs : List (Str × V)} (E : EOk K cl F T G H σ ρ) (h : pureX ρ.st os fs = true) (r : RepF K cl G fvs fs) : RepF K cl (.of G.h) fvs fs := by
  unfold pureX at h
  rw [Bool.or_eq_true] at h
  rcases h with h | h
  · have e := nil_of (st := ρ.st) E h
    rw [← e]; exact r
  · rw [Bool.and_eq_true] at h; exact r.of h.2
theorem fn_okX {P : Program} {w : World} {K : PySem.W.Frag} {mg : Str → Option Value} {base : Heap} {cl : String → Option Addr} {x qual : Str} {st : Stmt} {f : Addr} {fd : FuncData} {N ps : List Str} {k nio : Nat} {body : Xs} (Fu : Fun K x qual st f fd) (S : FnScope N ps (defScope st)) (hps : ps.length ≤ N.length)
    (hbody : ∀ (cdv : Value) (A : Around) (outer : List PySem.Env) (s : Shared) (H : Hp) (E : XK), Room k (A.deeper (PyProof.Rows.envOfC qual (defScope st) s.heap.objs.size f cdv)) → PXB (cxOf (L2.CX P w) P w K mg base N qual (defScope st) f cdv A outer s H E) cl (fun cls d _ H => E cls d H) (defBody st) body) :
    FnOk P w K mg base (L2.CX P w) (k + 1) f fd ps (spX K cl ps.length nio (fnX N.length nio body)) := by
  refine Fu.okX S (fun vs H Q E h => h.1) fun cdv A outer s H vs Q E hr h => ⟨_, hbody cdv A outer s H E hr, ?_⟩
  obtain ⟨hl, G, as, ios, xs, ds, z, outs, rfl, hn, nd, ow, gn, R, gh, e, q⟩ := h
  have l1 : as.length = ios.length := paired_len ow
  have l2 : xs.length = ds.length := R.length
  rw [List.length_append, List.length_map] at hl
  simp only [fnX, Option.bind_eq_some_iff] at e
  obtain ⟨o, e1, e2⟩ := e
  have E0 := entry_ok (N := N) (by omega) nd ow gn R gh
  rw [hn] at E0
  refine ⟨⟨.of G, as⟩, entryT H as, .of G, _, o, E0, e1, ?_⟩
  rcases o with (ρ | ρ | ρ | ⟨d', ρ⟩ | ⟨d', ρ⟩) | ⟨⟨c, fs⟩, ρ⟩
  · simp only [Option.bind_eq_some_iff] at e2
    obtain ⟨os, e2, e3⟩ := e2
    split at e3
    case isFalse => cases e3
    rename_i hpu
    cases e3
    intro σ' G' H' g E'
    obtain ⟨x1, x2, x3⟩ := exit_ok E' rfl hn e2 hpu
    exact q G'.h H' g.s E'.gh x1 x2 x3 .non .non
  · cases e2
  · cases e2
  · simp only [Option.bind_eq_some_iff] at e2
    obtain ⟨os, e2, e3⟩ := e2
    split at e3
    case isFalse => cases e3
    rename_i hpu
    cases e3
    intro v σ' G' H' g E' R'
    obtain ⟨x1, x2, x3⟩ := exit_ok E' rfl hn e2 (pure_tl hpu)
    exact q G'.h H' g.s E'.gh x1 x2 x3 v (pure_one E' hpu R')
  · cases e2
  · simp only [Option.bind_eq_some_iff] at e2
    obtain ⟨os, e2, e3⟩ := e2
    split at e3
    case isFalse => cases e3
    rename_i hpu
    cases e3
    intro C dd fvs σ' G' H' g E' hc hd rf
    obtain ⟨x1, x2, x3⟩ := exit_ok E' rfl hn e2 (pureX_l hpu)
    exact q G'.h H' g.s E'.gh x1 x2 x3 C dd fvs hc hd (pureX_r E' hpu rf)
theorem fn_noneX {P : Program} {w : World} {K : PySem.W.Frag} {mg : Str → Option Value} {base : Heap} {cx : CXT} {cl : String → Option Addr} {f : Addr} {fd : FuncData} {ps : List Str} {n nio k : Nat} : FnOk P w K mg base cx k f fd ps (spX K cl n nio fun _ => none) := by
  have no : ∀ vs H Q E, ¬ spX K cl n nio (fun _ => none) vs H Q E := fun vs H Q E h => by
    obtain ⟨_, G, as, ios, xs, ds, d, outs, _, _, _, _, _, _, _, e, _⟩ := h
    cases e
  exact ⟨fun vs H Q E h => absurd h (no vs H Q E), fun A outer s H args us vs Q E _ _ _ _ h => absurd h (no vs H Q E)⟩
/-! a call that may raise -/
def runX (nio : Nat) (fn : Fn) (rs : List RV) (ρ : En) : Option ((RV × En) ⊕ (Er × En)) := (escs ρ (rs.drop nio)).bind fun q => if (places (rs.take nio)).Nodup ∧ (rs.take nio).length = nio then (lent q.2 (rs.take nio)).bind fun ios =>
  if pureOk q.2.st (ios ++ q.1) = true then (fn (ios ++ q.1)).bind fun z => match z.1 with
    | .ok d => (giveBack q.2 (rs.take nio) z.2).map fun ρ' => .inl (.val d, ρ')
    | .er c fs => (giveBack q.2 (rs.take nio) z.2).map fun ρ' => .inr ((c, fs), ρ')
    else none
  else none
def xCall (nio : Nat) (fn : Fn) (m : Ax) : Xe := fun ρ => (m ρ).bind fun p => runX nio fn p.1 p.2
section
variable {X : Cx} {cl : String → Option Addr} {W : WX} {x : Str} {ps : List Str} {k n nio : Nat} {fn : Fn} {e : Expr} {es : List Expr} {mx : Ax} {p pos : Pos}
theorem xcall_run {σ : L2.St} {H : Hp} {Q : VK} (hn : ∀ ρ rs ρ', mx ρ = some (rs, ρ') → rs.length = n) (h : tDXE X.K cl W (xCall nio fn mx) σ H Q) : tCallS (spX X.K cl n nio fn) (WE W) (tDA X.K cl mx) σ H Q := by
  obtain ⟨F, T, G, ρ, o, E, e, q⟩ := h
  simp only [xCall, runX, Option.bind_eq_some_iff] at e
  obtain ⟨⟨rs, ρ1⟩, e1, ⟨ds, ρ2⟩, e2, e3⟩ := e
  refine ⟨F, T, G, ρ, rs, ρ1, E, e1, fun vs G1 H1 g1 E1 R1 => ?_⟩
  have e2' : DL.escs ρ1 (rs.drop nio) = some (ds, ρ2) := e2
  split at e3
  · rename_i c
    obtain ⟨c1, c2⟩ := c
    simp only [Option.bind_eq_some_iff] at e3
    obtain ⟨ios, e3, e4⟩ := e3
    split at e4
    case isFalse => cases e4
    rename_i hpu
    simp only [Option.bind_eq_some_iff] at e4
    obtain ⟨⟨z, outs⟩, e4, e5⟩ := e4
    obtain ⟨G2, g2, E2, R2⟩ := E1.escs (R1.drop nio) e2'
    obtain ⟨as, ea, l⟩ := lent_of E2 ((R1.take nio).mono g2) e3
    obtain ⟨ow, gn, tn⟩ := l.owns E2
    have e4' : fn (ios ++ ds) = some (z, outs) := e4
    obtain ⟨p1, p2⟩ := pure_both E2 (by exact hpu) ow R2
    refine ⟨by rw [R1.length]; exact hn _ _ _ e1, G2.h, as, ios, vs.drop nio, ds, z, outs, by rw [← ea, List.take_append_drop], by rw [l.len]; exact c2, l.nodup E2 c1, p1, fun a ha => (gn a ha).1, p2, E2.gh, e4', fun G3 H3 k1 k2 k3 k4 k5 => ?_⟩
    have kl : Le G2 ⟨G3, G2.A⟩ := .of k1 rfl
    have kd : Le (.of G3) ⟨G3, G2.A⟩ := ⟨Same.refl _, G2.A, rfl⟩
    have k5' := paired_at k5 fun a b _ h => h.at kd rfl
    cases z with
    | er c fs =>
      simp only [Option.map_eq_some_iff] at e5
      obtain ⟨ρ3, e5, rfl⟩ := e5
      intro C dd fvs hc hd rf
      exact q C dd fvs σ ⟨G3, G2.A⟩ H3 (g1.trans (g2.trans kl)) (E2.back l c1 kl rfl k2 k3 k4 k5' e5) hc hd (rf.mono kd)
    | ok d =>
      simp only [Option.map_eq_some_iff] at e5
      obtain ⟨ρ3, e5, rfl⟩ := e5
      intro v r
      exact q v ⟨G3, G2.A⟩ H3 (g1.trans (g2.trans kl)) (E2.back l c1 kl rfl k2 k3 k4 k5' e5) (r.mono kd)
  · cases e3
theorem xe_call (C : Cal X.prog X.w X.K X.mg X.base (L2.CX X.prog X.w) k x ps (spX X.K cl n nio fn)) (hr : Room k X.A) (tk : Takes X W) (hn : ∀ ρ rs ρ', mx ρ = some (rs, ρ') → rs.length = n) (ha : PDA X cl (e :: es) mx) (hg : Gl X x := by rfl)
    (hdb : (x == ("__debug__" : Str)) = false := by decide) (he : starEach (e :: es) X.env = (false, eval e X.env) :: starEach es X.env := by rfl) (hpl : (backTo pos (starEach es X.env)).any (·.1) = false := by rfl) :
    PXE X cl W (.Call (.Name x p) (e :: es) [] pos) (xCall nio fn mx) := by
  obtain ⟨f, fd, h1, h2, h3, h4⟩ := C.ex
  exact pe_imp (pe_callS h4 hr hg h1 h2 h3 (fun σ => passAt tk σ) ha hdb he hpl) fun σ H Q h => xcall_run hn h
end
end DL

/-! E17: try: .. except X as n: return .. -/
namespace DL
open PySem L2
section
variable {K : PySem.W.Frag} {cl : String → Option Addr} {F : Fm} {T : Th} {G : Kn} {H : Hp} {σ : L2.St} {ρ : En}
/-- a place is nobody's -/
theorem EOk.wipe1 (E : EOk K cl F T G H σ ρ) (i : Nat) (x : Option V) : EOk K cl F T G H (σ.set i x) (ρ.set i .emp) := by
  refine E.forget (by simp) rfl (by simp) fun j y h => ?_
  by_cases c : i = j
  · subst c
    by_cases hi : i < ρ.sl.length
    · rw [List.getElem?_set_self hi] at h; cases h; exact .inl rfl
    · rw [List.getElem?_eq_none (by rw [List.length_set]; omega)] at h; cases h
  · rw [List.getElem?_set_ne c] at h
    exact .inr ⟨h, List.getElem?_set_ne c⟩
end
/-! ### the suite's expressions -/
/-- where the caught exception stands: its object a (slot i), its class, its fields' address -/
structure At (K : PySem.W.Frag) (cl : String → Option Addr) (G : Kn) (σ : L2.St) (i : Nat) (a : Addr) (cls : Value) (d : Option Addr) (cn : String) (fs : List (Str × D)) : Prop where
  it : ∃ C dd fvs, cls = .ref C ∧ d = some dd ∧ cl cn = some C ∧ G.h dd = some (.xd fvs) ∧ RepF K cl G fvs fs
  sl : σ[i]? = some (some (.ref a))
theorem At.mono {K : PySem.W.Frag} {cl : String → Option Addr} {G G' : Kn} {σ : L2.St} {i : Nat} {a : Addr} {cls : Value} {d : Option Addr} {cn : String} {fs : List (Str × D)} (g : Le G G') (h : At K cl G σ i a cls d cn fs) : At K cl G' σ i a cls d cn fs := by
  obtain ⟨C, dd, fvs, h1, h2, h3, h4, h5⟩ := h.it
  exact ⟨⟨C, dd, fvs, h1, h2, h3, g.s _ _ h4, h5.mono g⟩, h.sl⟩
section
variable (K : PySem.W.Frag) (cl : String → Option Addr) (i : Nat) (a : Addr) (cls : Value) (d : Option Addr) (cn : String) (fs : List (Str × D))
def tDU (m : Ex) : TE := fun σ H Q => ∃ F T G ρ r ρ', EOk K cl F T G H σ ρ ∧ At K cl G σ i a cls d cn fs ∧ m ρ = some (r, ρ') ∧ ∀ v G' H', Le G G' → EOk K cl F T G' H' σ ρ' → RvOk K cl G' σ v r → Q v H'
def tDUA (m : Ax) : TA := fun σ H Q => ∃ F T G ρ rs ρ', EOk K cl F T G H σ ρ ∧ At K cl G σ i a cls d cn fs ∧ m ρ = some (rs, ρ') ∧ ∀ vs G' H', Le G G' → EOk K cl F T G' H' σ ρ' → RvOks K cl G' σ vs rs → Q vs H'
def tDUS (m : Sx) : TS := fun D σ H => ∃ F T G ρ fl, EOk K cl F T G H σ ρ ∧ At K cl G σ i a cls d cn fs ∧ m ρ = some fl ∧ FlOk K cl F T G D fl
end
section
variable {X : Cx} {cl : String → Option Addr} {i : Nat} {a : Addr} {cls : Value} {d : Option Addr} {cn : String} {fs : List (Str × D)} {oe : Obj} {pn : List (Addr × Obj)} {e : Expr} {es : List Expr} {m : Ex} {mx : Ax} {pos p : Pos}
abbrev PUE (X : Cx) (cl : String → Option Addr) (i : Nat) (a : Addr) (cls : Value) (d : Option Addr) (cn : String) (fs : List (Str × D)) (e : Expr) (m : Ex) : Prop := PE X e (tDU X.K cl i a cls d cn fs m)
abbrev PUA (X : Cx) (cl : String → Option Addr) (i : Nat) (a : Addr) (cls : Value) (d : Option Addr) (cn : String) (fs : List (Str × D)) (es : List Expr) (m : Ax) : Prop := PA X es (tDUA X.K cl i a cls d cn fs m)
theorem u_of (h : PD X cl e m) : PUE X cl i a cls d cn fs e m := pe_imp h fun σ H Q q => by
  obtain ⟨F, T, G, ρ, r, ρ', E, _, e1, k⟩ := q
  exact ⟨F, T, G, ρ, r, ρ', E, e1, k⟩
theorem ua_nil : PUA X cl i a cls d cn fs [] aNil := by
  have h : PDA X cl [] aNil := a_nil
  refine ⟨fun pos pins s σ H Q I q => h.run pos pins s σ H Q I ?_⟩
  obtain ⟨F, T, G, ρ, r, ρ', E, _, e1, k⟩ := q
  exact ⟨F, T, G, ρ, r, ρ', E, e1, k⟩
theorem ua_cons (he : PUE X cl i a cls d cn fs e m) (h : PUA X cl i a cls d cn fs es mx) (hs : starEach (e :: es) X.env = (false, eval e X.env) :: starEach es X.env := by rfl) : PUA X cl i a cls d cn fs (e :: es) (aCons m mx) := by
  have k := pa_cons he h (hs := hs)
  refine ⟨fun pos pins s σ H Q I q => k.run pos pins s σ H Q I ?_⟩
  obtain ⟨F, T, G, ρ, r, ρ', E, A, e1, q⟩ := q
  simp only [aCons, Option.bind_eq_some_iff, Option.map_eq_some_iff, Prod.mk.injEq] at e1
  obtain ⟨⟨r1, ρ1⟩, e1, ⟨rs, ρ2⟩, e2, rfl, rfl⟩ := e1
  refine ⟨F, T, G, ρ, r1, ρ1, E, A, e1, fun v G1 H1 g1 E1 R1 => ⟨F, T, G1, ρ1, rs, ρ2, E1, A.mono g1, e2, fun vs G2 H2 g2 E2 R2 => q _ G2 H2 (g1.trans g2) E2 (.cons (R1.mono g2) R2)⟩⟩
/-- n.f of the caught exception n -/
def eExc (fs : List (Str × D)) (f : Str) : Ex := fun ρ => (fs.lookup f).map fun d => (.val d, ρ)
theorem u_fld {C fI : Addr} {nm f n : Str} {msg : Expr} {q : Pos} (T : PySem.ErrX.ErrTxt X.prog X.K X.mg nm f C fI msg) (hcl : cl cn = some C) (hz : Zc cls d oe) (hf : ∃ vs, oe.data = .fields vs) (hN : X.N[i]? = some n := by rfl) (hv : Vis X.env.scope n := by first | exact Or.inl rfl | exact Or.inr (Or.inl rfl) | exact Or.inr (Or.inr rfl)) (hd : (n == ("__debug__" : Str)) = false := by decide)
    (hcd : (n == ("__classdict__" : Str)) = false := by decide) (hb : attributeBase (.Name n q) f X.env (eval (.Name n q) X.env) = eval (.Name n q) X.env := by rfl) :
    PUE (X.suite a ((a, oe) :: pn)) cl i a cls d cn fs (.Attribute (.Name n q) f pos) (eExc fs f) := by
  refine ⟨fun pins s σ H Q I h => ?_⟩
  obtain ⟨F, T', G, ρ, r, ρ', E, A, e1, k⟩ := h
  obtain ⟨C', dd, fvs, rfl, rfl, h3, h4, h5⟩ := A.it
  rw [hcl] at h3
  cases h3
  simp only [eExc, Option.map_eq_some_iff, Prod.mk.injEq] at e1
  obtain ⟨dv, e1, rfl, rfl⟩ := e1
  obtain ⟨v, l, rv⟩ := RepF.look h5 e1
  refine attr_of hb (thn ((pe_var (X := X.suite a ((a, oe) :: pn)) hN hv hd hcd).run pins s σ H (fun x H1 => x = .ref a ∧ H1 = H) I ⟨_, A.sl, rfl, rfl⟩) fun u s1 hh => ?_)
  obtain ⟨x, H1, I1, rx, ex, eh⟩ := hh
  subst ex
  subst eh
  obtain rfl : u = Value.ref a := rx
  obtain ⟨ha, _⟩ := I1.pin (a, oe) (List.mem_append_left _ List.mem_cons_self)
  obtain ⟨vs, hdt⟩ := hf
  have hx : ObjOk X.prog X.w H1 s1.heap dd (.xd fvs) := I1.hok dd _ (E.gh _ _ h4)
  obtain ⟨mA, hns, hr⟩ := hx
  obtain ⟨od, ho, hl⟩ := lookIn_ns hns
  obtain ⟨u, hu, ru⟩ := RelO.some_of (v := v) (o := mA f) (by rw [← l]; exact hr f)
  have J : PySem.W.InstAt s1.heap a oe C (some od) := ⟨ha, hz.1, by unfold PySem.W.notCls; rw [hdt] <;> rfl, by rw [hz.2]; exact ho⟩
  exact HandSPX.exc_get I1.kIn J T.ga T.gg T.exC (PySem.W.findObj_own T.hdC T.noF rfl (by rw [hl, hu])) (handed_of ru) ⟨v, H1, I1.tok _, ru, k v G H1 (Le.refl _) E rv⟩
theorem u_call {cx : CXT} {k n nio : Nat} {x : Str} {ps : List Str} {fn : Fn} (C : Cal X.prog X.w X.K X.mg X.base cx k x ps (spD X.K cl n nio fn)) (hr : Room k X.A) (hx : Passes cx X (fun _ _ _ => False)) (hn : ∀ ρ rs ρ', mx ρ = some (rs, ρ') → rs.length = n) (ha : PUA X cl i a cls d cn fs (e :: es) mx) (hg : Gl X x := by rfl)
    (hdb : (x == ("__debug__" : Str)) = false := by decide) (he : starEach (e :: es) X.env = (false, eval e X.env) :: starEach es X.env := by rfl) (hpl : (backTo pos (starEach es X.env)).any (·.1) = false := by rfl) :
    PUE X cl i a cls d cn fs (.Call (.Name x p) (e :: es) [] pos) (eCall nio fn mx) := by
  obtain ⟨f, fd, h1, h2, h3, h4⟩ := C.ex
  refine pe_imp (pe_call h4 hr hg h1 h2 h3 .nil hx ha hdb he hpl) fun σ H Q h => ?_
  obtain ⟨F, T, G, ρ, r, ρ', E, A, e1, q⟩ := h
  have e2 : ((mx ρ).bind fun p => runF nio fn p.1 p.2) = some (r, ρ') := e1
  simp only [Option.bind_eq_some_iff] at e2
  obtain ⟨⟨rs, ρ1⟩, e2, e3⟩ := e2
  refine ⟨F, T, G, ρ, rs, ρ1, E, A, e2, fun vs G1 H1 g1 E1 R1 => ?_⟩
  have z := run_sp (n := n) (E0 := fun _ _ _ => False) E1 R1 (hn _ _ _ e2) e3 fun v G3 H3 g3 E3 R3 => q v G3 H3 (g1.trans g3) E3 R3
  dsimp only
  rw [List.append_nil]
  exact z
theorem u_ret (h : PUE X cl i a cls d cn fs e m) : PS X (.Return (some e) pos) (tDUS X.K cl i a cls d cn fs (sRet m)) := by
  refine ps_imp (ps_ret h) fun D σ H h => ?_
  obtain ⟨F, T, G, ρ, fl, E, A, e1, q⟩ := h
  simp only [sRet, Option.bind_eq_some_iff, Option.map_eq_some_iff] at e1
  obtain ⟨⟨r, ρ1⟩, e1, ⟨dv, ρ2⟩, e2, rfl⟩ := e1
  refine ⟨F, T, G, ρ, r, ρ1, E, A, e1, fun v G' H' g E' R => ?_⟩
  obtain ⟨G2, g2, E2, R2⟩ := E'.esc R e2
  exact q v σ G2 H' (g.trans g2) E2 R2
/-! ### try -/
def sTry (i : Nat) (cn : String) (mb : Xs) (ms : List (Str × D) → Sx) : Sx := fun ρ => (mb ρ).bind fun o => match o with
  | .inl fl => some fl
  | .inr p => if p.1.1 = cn ∧ i < p.2.sl.length then (ms p.1.2 (p.2.set i .emp)).bind fun fl => match fl with
    | .rt d ρ2 => some (.rt d ρ2)
    | _ => none
    else none
theorem st_try {C : Addr} {x n : Str} {body suite : List Stmt} {b₀ : Stmt} {np pos' : Pos} {mb : Xs} {ms : List (Str × D) → Sx} (i : Nat) (hs : X.stack = X.env :: X.outer) (hf : X.env.frame = some X.env.locals) (hN : X.N.Nodup) (hi : X.N[i]? = some n) (hln : X.env.kindOf n = some .local) (hc : Names X x (.ref C)) (hcl : cl cn = some C) (te : PySem.W.exmOne X.K (.ref C) (.ref C) = some true)
    (hb : ∀ (W : WX) (pn : List (Addr × Obj)) (xe : Value → Shared → Prop), Takes (X.tr pn xe) W → PassesOwn (model X.prog X.w) X.A X.env xe → PXB (X.tr pn xe) cl W body mb)
    (hsu : ∀ (a : Addr) (oe : Obj) (cls : Value) (d : Option Addr) (pn : List (Addr × Obj)) (fs : List (Str × D)), Zc cls d oe → (∃ vs, oe.data = .fields vs) → PSs (X.suite a ((a, oe) :: pn)) (b₀ :: suite) (tDUS X.K cl i a cls d cn fs (ms fs))) :
    PDS X cl (.Try body [.ExceptHandler (some (.Name x np)) (some n) (b₀ :: suite) pos'] [] [] pos) (sTry i cn mb ms) := by
  refine ps_imp (ps_try_as (i := i) (tb := fun W => tDXS X.K cl W mb) (ts := fun a cls d => fun D σ H => ∃ fs, tDUS X.K cl i a cls d cn fs (ms fs) D σ H) hs hf hN hi hln hc takes0 hb (fun a oe cls d pn h1 h2 => ⟨fun pins s σ H D I ⟨fs, h⟩ => (hsu a oe cls d pn fs h1 h2).run pins s σ H D I h⟩)) fun D σ H h => ?_
  obtain ⟨F, T, G, ρ, fl, E, e1, q⟩ := h
  simp only [sTry, Option.bind_eq_some_iff] at e1
  obtain ⟨o, e1, e2⟩ := e1
  refine ⟨F, T, G, ρ, o, E, e1, ?_⟩
  cases o with
  | inl fl' => cases e2; exact q
  | inr p =>
    obtain ⟨⟨c, fs⟩, ρ'⟩ := p
    dsimp only at e2
    split at e2
    · rename_i hc2
      obtain ⟨rfl, hlen⟩ := hc2
      simp only [Option.bind_eq_some_iff] at e2
      obtain ⟨fl2, e3, e4⟩ := e2
      cases fl2 with
      | rt dv ρ2 =>
        cases e4
        intro C' dd fvs σ' G' H' g E' hc' hd rf
        have : C' = C := by
          have z : cl c = some C' := hc'
          rw [hcl] at z; cases z; rfl
        subst this
        refine ⟨true, te, fun _ a' ha' => ⟨fs, F, T, G', ρ'.set i .emp, _, E'.wipe1 i _, ⟨⟨C', dd, fvs, rfl, rfl, hcl, hd, rf⟩, ?_⟩, e3, fun v σ2 G2 H2 g2 E2 R2 => q v σ2 G2 H2 (g.trans g2) E2 R2⟩, fun z => nomatch z⟩
        exact List.getElem?_set_self (by rw [E'.len]; exact hlen)
      | _ => cases e4
    · cases e2
end
end DL

/-! E18: lists of our own from a comprehension, from two lists -/
namespace DL
open PySem L2
/-- no place holds the object at p -/
def Apt (σ : L2.St) (ρ : En) (p : Addr) : Prop := ∀ (j : Nat) (y : Sl), ρ.sl[j]? = some y → y.obj ≠ none → σ[j]? ≠ some (some (.ref p))
theorem Apt.rest {σ : L2.St} {ρ0 ρ : En} {vs : List Nat} {p : Addr} (h : Apt (L2.wipe σ vs) ρ p) (hp : plainE ρ0 vs = true) : Apt σ (restE ρ0 ρ vs) p := fun j y h1 h2 h3 => by
  rcases restE_at h1 with ⟨z1, z2⟩ | ⟨z1, z2⟩
  · have := List.all_eq_true.mp hp j z1
    rw [List.getD_eq_getElem?_getD] at z2
    cases q : ρ0.sl[j]? with
    | none => rw [q] at z2; subst z2; exact h2 rfl
    | some x =>
      rw [q] at this z2
      have z2 : y = x := z2
      rw [z2] at h2
      cases x with
      | emp => exact h2 rfl
      | val d => exact h2 rfl
      | own w d => cases this
      | lck w d => cases this
  · exact h j y z1 h2 ((wipe_at z2).trans h3)
theorem Apt.unlk {σ : L2.St} {ρ ρ' : En} {lk : Option Lk} {p : Addr} (h : Apt σ ρ p) (u : DL.unlk lk ρ = some ρ') : Apt σ ρ' p := by
  rcases lk with _ | i | n
  · cases u; exact h
  · simp only [DL.unlk] at u
    split at u
    · rename_i w d q
      cases u
      intro j y h1 h2 h3
      by_cases c : i = j
      · subst c
        exact h i _ q (by simp [Sl.obj]) h3
      · rw [List.getElem?_set_ne c] at h1
        exact h j y h1 h2 h3
    · cases u
  · cases u; exact h
section
variable {X : Cx} {cl : String → Option Addr}
theorem lc_runO {K : PySem.W.Frag} {σ : L2.St} {H : Hp} {Q : VK} {src : Src} {t : Tgt} {tt : Tx} {te : Ex} {vs : List Nat} {g : TG} (tok : TgOk K cl g t vs)
    (h : ∃ F T G ρ r ρ', EOk K cl F T G H σ ρ ∧ eLc src t tt te vs ρ = some (r, ρ') ∧ ∀ p G' H', Le G G' → EOk K cl F T G' H' σ ρ' → (G'.h p = none ∧ p ∉ G'.A) → T.h p = none → p ∉ F.W → (∃ ds, r = .val (.list ds) ∧ OwnAt K cl G' H' p (.list ds)) → Apt σ ρ' p → Q (.ref p) H') :
    tLc (tDI K cl src) g (tDT K cl tt) (tD K cl te) vs σ H Q := by
  obtain ⟨F, T, G, ρ, r, ρ', E, e, q⟩ := h
  simp only [eLc, Option.bind_eq_some_iff] at e
  obtain ⟨⟨ds, lk, ρ1⟩, e1, e2⟩ := e
  split at e2
  · rename_i c
    obtain ⟨hz, hp⟩ := c
    replace hz : ds.length ≤ sizeLine := hz
    simp only [Option.bind_eq_some_iff, Option.map_eq_some_iff, Prod.mk.injEq] at e2
    obtain ⟨⟨accF, ρ2⟩, e2, ρ3, e3, rfl, rfl⟩ := e2
    refine ⟨F, T, G, ρ, ds, lk, ρ1, E, e1, fun J T' G1 H1 g1 lkk E1 ck1 it => ?_⟩
    intro Dd hD
    have h0 : F.G0.h Dd = none := E1.g0.s.free (E1.gh.free hD)
    have ht : T'.h Dd = none := E1.th.free hD
    refine ⟨fun i m H => m = ds.length - i ∧ i ≤ ds.length ∧ ∃ G ρ acc accV, EOk K cl F (T'.add Dd (.lst accV)) G H (wipe σ vs) (wipeE ρ vs) ∧ Le G1 G ∧ Reps K cl G accV acc ∧ accV.length ≤ i ∧ lcLoop (ckOf lk ds) t tt te vs (ds.drop i) acc ρ = some (accF, ρ2),
      ⟨ds.length, by simp, Nat.zero_le _, G1, ρ1, [], [], (E1.wipe vs).hold hD, Le.refl _, .nil, Nat.le_refl _, by simpa using e2⟩, ?_⟩
    rintro i m H ⟨rfl, hi, G2, ρa, acc, accV, Ea, ga, Ra, la, run⟩
    have same : Same T'.h (T'.add Dd (.lst accV)).h := upd_same' ht
    by_cases hlt : i < ds.length
    · rw [List.drop_eq_getElem_cons hlt] at run
      unfold lcLoop at run
      split at run
      case isFalse => cases run
      rename_i hck
      have hck' : ckOf lk ds (wipeE ρa vs) := ckOf_st (wipeE_st ρa vs) hck
      refine .inr ⟨it.go _ _ _ _ _ i Ea ga same hck' hlt, fun H' => ∃ m', m' < ds.length - i ∧ m' = ds.length - (i + 1) ∧ i + 1 ≤ ds.length ∧ ∃ G ρ acc accV, EOk K cl F (T'.add Dd (.lst accV)) G H' (wipe σ vs) (wipeE ρ vs) ∧ Le G1 G ∧ Reps K cl G accV acc ∧ accV.length ≤ i + 1 ∧ lcLoop (ckOf lk ds) t tt te vs (ds.drop (i + 1)) acc ρ = some (accF, ρ2),
        fun H' ⟨m', k1, k2, k3, k4⟩ => ⟨m', k1, k2, k3, k4⟩, fun x H2 y => ?_⟩
      have hd : ds[i]? = some ds[i] := by simp [hlt]
      obtain ⟨G3, gr, R3⟩ := it.yld _ _ _ _ _ i _ x H2 Ea ga same hck' hd y
      have E3 := Ea.grow gr
      simp only [Option.bind_eq_some_iff] at run
      obtain ⟨ρb, k1, ⟨b, ρc⟩, k2, k3⟩ := run
      obtain ⟨σ2, q1, E4, w⟩ := tok _ _ _ _ _ _ _ _ _ E3 R3 k1
      refine q1 _ ⟨by rw [w, wipe_wipe], ?_⟩
      refine ⟨F, _, G3, ρb, b, ρc, E4, k2, fun G5 H5 g5 E5 => ?_⟩
      have w' : wipe σ2 vs = wipe σ vs := by rw [w, wipe_wipe]
      cases b with
      | true =>
        refine iteT ?_
        simp only [if_true, Option.bind_eq_some_iff] at k3
        obtain ⟨⟨rr, ρd⟩, k3, ⟨dd, ρe⟩, k4, k5⟩ := k3
        refine ⟨F, _, G5, ρc, rr, ρd, E5, k3, fun yv G6 H6 g6 E6 R6 => ?_⟩
        obtain ⟨G7, g7, E7, R7⟩ := E6.esc R6 k4
        have hacc : H6 Dd = some (.lst accV) := E6.th _ _ upd_same
        refine ⟨accV, hacc, by omega, _, by omega, rfl, hlt, G7, ρe, acc ++ [dd], accV ++ [yv], ?_, ?_, ?_, ?_, k5⟩
        · have E8 := (E7.hold_set (o' := .lst (accV ++ [yv])) h0).wipe vs
          rw [w'] at E8
          exact E8
        · exact ga.trans (gr.gg.trans (g5.trans (g6.trans g7)))
        · exact ((Ra.mono (gr.gg.trans (g5.trans (g6.trans g7)))).append (.cons R7 .nil))
        · rw [List.length_append]; simpa using la
      | false =>
        refine iteF ?_
        simp only [Bool.false_eq_true, if_false] at k3
        refine ⟨_, by omega, rfl, hlt, G5, ρc, acc, accV, ?_, ?_, ?_, ?_, k3⟩
        · have E8 := E5.wipe vs
          rw [w'] at E8
          exact E8
        · exact ga.trans (gr.gg.trans g5)
        · exact Ra.mono (gr.gg.trans g5)
        · omega
    · have hie : i = ds.length := by omega
      subst hie
      rw [List.drop_length] at run
      unfold lcLoop at run
      split at run
      case isFalse => cases run
      rename_i hck
      cases run
      refine .inl ⟨it.stop _ _ _ _ _ _ Ea ga same (ckOf_st (wipeE_st _ vs) hck) (Nat.le_refl _), ?_⟩
      obtain ⟨f1, f2, f3, f4, f5⟩ := (E1.wipe vs).filled (o := .lst accV) (o' := .lst accV) hD Ea
      have hH : upd H Dd (.lst accV) = H := by
        funext b
        by_cases c : b = Dd
        · subst c; rw [upd_same]; exact (Ea.th _ _ upd_same).symm
        · rw [upd_ne c]
      rw [hH] at f4
      have Ec := f4.rest E1 ga hp
      have Ed := Ec.unlk lkk e3
      have hDd : H Dd = some (.lst accV) := Ea.th _ _ upd_same
      exact q _ _ H (g1.trans ga) Ed f1 (lkk.le.free f2) f3 ⟨_, rfl, rfl, .list hDd (by omega) Ra⟩ ((Apt.rest f5 hp).unlk e3)
  · cases e2
def sNewLc (i : Nat) (m : Ex) : Sx := fun ρ => (m ρ).bind fun p => match p.1 with
  | .val (.list ds) => some (.nx (p.2.set i (.own none (.list ds))))
  | _ => none
theorem st_newLc {y : Str} {py : Pos} {elt tg iter : Expr} {ifs : List Expr} {scope : Scope} {own : List (Str × Nat)} {pos spos : Pos} {src : Src} {g : TG} {t : Tgt} {tt : Tx} {te : Ex} (i : Nat) (hc : X.calm = true) (hN : X.N.Nodup) (hi : PDI X cl tg iter src) (ok : BlkOk X.N X.env.scope scope own) (tok : TgOk X.K cl g t (own.map (·.2)))
    (hg : ∀ (s : Shared) (H : Hp) (C : Addr) (c : List (Str × Addr)) (fp : List Addr), PG (X.blk s H scope (compEnvC scope c C X.env) fp) tg g)
    (ht : ∀ (s : Shared) (H : Hp) (C : Addr) (c : List (Str × Addr)) (fp : List Addr), PTs (X.blk s H scope (compEnvC scope c C X.env) fp) ifs (tDT X.K cl tt))
    (he : ∀ (s : Shared) (H : Hp) (C : Addr) (c : List (Str × Addr)) (fp : List Addr), PE (X.blk s H scope (compEnvC scope c C X.env) fp) elt (tD X.K cl te)) (hy : X.N[i]? = some y := by rfl) (hyl : X.env.scope.names.lookup y = some .local := by rfl)
    (hsw : swapsWith (.ListComp elt [⟨tg, iter, ifs, 0⟩] scope pos) (some (.Name y py)) spos.line X.env = pure true := by exact sw_true rfl rfl rfl (by decide +kernel)) (hs : ∀ x, foldedSetIterable iter X.env x = pure x := by intro _; rfl) :
    PDS X cl (.Assign [.Name y py] (.ListComp elt [⟨tg, iter, ifs, 0⟩] scope pos) spos) (sNewLc i (eLc src t tt te (own.map (·.2)))) := by
  refine ps_imp (ps_setLc hc hN hy hyl hsw hi ok hg ht he hs) fun D σ H h => ?_
  obtain ⟨F, T, G, ρ, fl, E, e, q⟩ := h
  simp only [sNewLc, Option.bind_eq_some_iff] at e
  obtain ⟨⟨r, ρ1⟩, e1, e2⟩ := e
  refine lc_runO tok ⟨F, T, G, ρ, r, ρ1, E, e1, fun p G' H' g' E' a1 a2 a3 a4 a5 => ?_⟩
  obtain ⟨ds, rfl, ow⟩ := a4
  cases e2
  exact q _ G' H' g' (E'.setOwn a1 a2 a3 ow a5)
/-- x = a + b, two lists -/
def sNewAdd (i : Nat) (ma mb : Ex) : Sx := fun ρ => (ma ρ).bind fun p => (mb p.2).bind fun q => (peek q.2 p.1).bind fun d => (peek q.2 q.1).bind fun e => match d, e with
  | .list xs, .list ys => if xs.length + ys.length ≤ sizeLine then some (.nx (q.2.set i (.own none (.list (xs ++ ys))))) else none
  | _, _ => none
theorem st_newAdd {x : Str} {a b : Expr} {ma mb : Ex} {pos pos' p2 : Pos} (i : Nat) (hN : X.N.Nodup) (ha : PD X cl a ma) (hb : PD X cl b mb) (hi : X.N[i]? = some x := by rfl) (hx : Loc X.env.scope x := by first | exact Or.inl rfl | exact Or.inr rfl)
    (hs : swapsWith (.BinOp a .Add b p2) (some (.Name x pos')) pos.line X.env = pure false := by rfl) (hf : X.fn x = true ∨ X.env.scope.names.lookup x = some .local := by first | exact Or.inl rfl | exact Or.inr rfl) :
    PDS X cl (.Assign [.Name x pos'] (.BinOp a .Add b p2) pos) (sNewAdd i ma mb) := by
  refine ps_imp (ps_set hN hi hx (pe_op op_cat ha hb) hs hf) fun D σ H h => ?_
  obtain ⟨F, T, G, ρ, fl, E, e, q⟩ := h
  simp only [sNewAdd, Option.bind_eq_some_iff] at e
  obtain ⟨⟨ra, ρ1⟩, e1, ⟨rb, ρ2⟩, e2, d, e3, d', e4, e5⟩ := e
  refine ⟨F, T, G, ρ, ra, ρ1, E, e1, fun va G1 H1 g1 E1 R1 => ⟨F, T, G1, ρ1, rb, ρ2, E1, e2, fun vb G2 H2 g2 E2 R2 => ?_⟩⟩
  split at e5
  · rename_i xs ys
    split at e5
    · rename_i hz
      cases e5
      cases E2.top (R1.mono g2) e3 with | list hx' lx rx =>
      cases E2.top R2 e4 with | list hy' ly ry =>
      rw [← rx.length, ← ry.length] at hz
      refine ⟨_, _, _, _, rfl, rfl, hx', hy', hz, fun p hp => ?_⟩
      obtain ⟨k1, k2, k3, k4⟩ := new_own (o := .lst _) E2 hp
      exact q _ G2 _ (g1.trans g2) (k4.setOwn k1 k2 k3 ⟨rfl, .list upd_same (by rw [List.length_append]; exact hz) (rx.append ry)⟩ (E2.apart hp))
    · cases e5
  · cases e5
end
end DL

/-! E19: module constants, several except clauses with as -/
namespace DL
open PySem L2 PyProof.Rows
section
variable {X : Cx} {cl : String → Option Addr} {o e : Expr} {mo me : Ex} {x : Str} {pos cpos apos : Pos}
/-- a constant of the module -/
theorem d_gl {v : V} {d : D} (h : ∃ u, X.mg x = some u ∧ RelV v u) (r : ∀ G, Rep X.K cl G v d) (hg : Gl X x := by rfl) (hd : (x == ("__debug__" : Str)) = false := by decide) : PD X cl (.Name x pos) (eC d) := d_c (C8.pe_gc hg h hd) r
end
/-! ### several clauses, each with as -/
def endA (D : Ends) (i : Nat) : Ends := { nx := fun τ J => D.nx (τ.set i none) J, rt := D.rt, bk := fun τ J => D.bk (τ.set i none) J, ct := fun τ J => D.ct (τ.set i none) J }
abbrev HdT := Value × Nat × (Addr → Value → Option Addr → TS)
def wManyA (K : PySem.W.Frag) (Wo : WX) (D : Ends) : List HdT → WX
  | [] => Wo
  | t :: r => fun cls d σ H => ∃ b, PySem.W.exmOne K cls t.1 = some b ∧ (b = true → ∀ a, H a = none → t.2.2 a cls d (endA D t.2.1) (σ.set t.2.1 (some (.ref a))) H) ∧ (b = false → wManyA K Wo D r cls d σ H)
/-- a clause's suite is read -/
def SuiteOk (X : Cx) (ss : List Stmt) (ts : Addr → Value → Option Addr → TS) : Prop := ∀ (a : Addr) (oe : Obj) (cls : Value) (d : Option Addr) (pn : List (Addr × Obj)), Zc cls d oe → (∃ vs, oe.data = .fields vs) → PSs (X.suite a ((a, oe) :: pn)) ss (ts a cls d)
inductive HdA (X : Cx) : List ExceptHandler → List HdT → Prop
  | nil : HdA X [] []
  | cons {x n : Str} {c : Value} {i : Nat} {ts : Addr → Value → Option Addr → TS} {b₀ : Stmt} {ss : List Stmt} {np pq : Pos} {hds : List ExceptHandler} {l : List HdT} (hc : Names X x c) (hi : X.N[i]? = some n) (hl : X.env.kindOf n = some .local) (hs : SuiteOk X (b₀ :: ss) ts) (r : HdA X hds l) :
      HdA X (.ExceptHandler (some (.Name x np)) (some n) (b₀ :: ss) pq :: hds) ((c, i, ts) :: l)
section
variable {X : Cx} {pins : List (Addr × Obj)} {σ' : L2.St} {H' : Hp} {sI s' : Shared} {B h3 : Heap} {a : Addr} {cls : Value} {d : Option Addr} {D : Ends} {Wo : WX}
/-- the exception lands at a and the clauses are tried, one behind the other -/
theorem tried (ok : X.Ok) (hst : X.stack = X.env :: X.outer) (hf : X.env.frame = some X.env.locals) (hN : X.N.Nodup) (tk : Takes X Wo) (J : Inv X pins σ' H' sI) (nb : ∀ b o, sI.heap.get? b = some o → b ∉ frs X.stack → B.get? b = some o) (up3 : sI.heap.UpToSlots h3) (os : s'.os = sI.os) (ag : AllBare s'.gens) (na : H' a = none)
    (fl3 : HandSPX.FlyingZ B (X.env :: X.outer) a (Zc cls d) h3) (nL : a ≠ X.env.locals) (nF : a ∉ X.fs) : ∀ {hds : List ExceptHandler} {l : List HdT}, HdA X hds l → wManyA X.K Wo D l cls d σ' H' →
    wpAny (model X.prog X.w) X.A (handleBy (.ref a) X.env hds) (SP X pins D) X.xe { s' with heap := h3 }
  | _, _, .nil, w => by
    refine wpAny_handleBy_nil ?_
    obtain ⟨_, _, _, oe, vs, T, oT, _, he, _, hd, h1, _⟩ := id fl3
    have fin : wpAny (model X.prog X.w) X.A (setFlight (.ref a) X.env.frame) (fun _ s4 => wpAny (model X.prog X.w) X.A (throw (.ref a) : Sem Flow) (SP X pins D) X.xe s4) X.xe { s' with heap := h3 } := by
      rw [hf]
      refine HandSPX.setFlight_upZ fl3 fun h4 hh4 up4 => wpAny_throw (tk _ _ ?_)
      exact ⟨a, B, sI, pins, σ', H', cls, d, rfl, J, nb, up3.trans up4, .inr (.inr (by rw [hst]; exact hh4)), na, os, ag, w⟩
    unfold PySem.passOn
    refine wpAny_bind (wpAny_field he hd h1 ?_)
    rw [if_neg (by simp : ¬ ((Value.ref T == Value.none) = true))]
    first
      | exact wpAny_bind (wpAny_pure (wpAny_bind fin))
      | exact wpAny_bind fin
  | _, _, .cons (x := x) (n := n) (c := c) (i := i) (ts := ts) (np := np) (pq := pq) hc hi hl hs r, ⟨b, hb1, hyes, hno⟩ => by
    have J3 : Inv X pins σ' H' { s' with heap := h3 } := J.landed nb fl3.1 up3 os ag
    obtain ⟨oe3, vs3, he3, hz3, hd3⟩ := fl3.there
    have S3 := J3.suite he3 hd3 na nL nF
    refine wpAny_handleBy_cons (codeAny_handlers_test ?_) (by intro q; cases q)
    have LT : PySem.W.Looks (model X.prog X.w) h3 (typeOf (.ref a)) cls := fun A Q E s k q => wpAny_typeOf_ref (k _ _ he3) (by rw [hz3.1]; exact q)
    have LM := PySem.W.exm_one (M := model X.prog X.w) (J3.kIn) LT hb1
    have test : ∀ {Q : Value → Shared → Prop} {E : Value → Shared → Prop}, Q c { s' with heap := h3 } → wpAny (model X.prog X.w) (X.A.mark (some (.ref a))) (eval (.Name x np) X.env) Q E { s' with heap := h3 } := fun {Q E} q => by
      rcases hc with ⟨g1, g2, g3 | ⟨g3, g4, g5⟩⟩
      · exact ld_glob (X := X.suite a ((a, oe3) :: (X.pn ++ pins))) S3 g1 g3 q g2
      · exact ld_blt (X := X.suite a ((a, oe3) :: (X.pn ++ pins))) S3 g1 g3 g4 q g5 g2
    refine test (LM.here ?_)
    cases b with
    | false => exact tried ok hst hf hN tk J nb up3 os ag na fl3 nL nF r (hno rfl)
    | true =>
      refine codeAny_handlers_suite_as (HandSPX.lands_againZ fl3 fun h4 fl4 up4 => ?_)
      have J4 : Inv X pins σ' H' { s' with heap := h4 } := J.landed nb fl4.1 (up3.trans up4) os ag
      obtain ⟨oe4, vs4, he4, hz4, hd4⟩ := fl4.there
      have S4 := J4.suite he4 hd4 na nL nF
      refine store_ok (X := X.suite a ((a, oe4) :: (X.pn ++ pins))) (v := .ref a) S4 hN hi (.inl hl) rfl (fun s5 S5 => ?_) (.inr hl)
      refine wpAny_mono ((hs a oe4 cls d (X.pn ++ pins) hz4 ⟨_, hd4⟩).run [] s5 _ H' _ S5 (hyes rfl a na)) (fun fw s6 hsp => ?_) (fun _ _ z => False.elim z)
      have gone : ∀ {τ : L2.St} {J6 : Hp} {Q : Shared → Prop}, Inv (X.suite a ((a, oe4) :: (X.pn ++ pins))) [] τ J6 s6 → (∀ s7, Inv X pins (τ.set i none) J6 s7 → Q s7) →
          wpAny (model X.prog X.w) X.A (bindName X.env n .none >>= fun _ => unbindBehindTheSuite X.env n pq) (fun _ s7 => Q s7) X.xe s6 := fun S6 hq => gone_ok (S6.unsuite ok) hN hi hl hq
      cases fw with
      | ret u =>
        obtain ⟨v6, τ, J6, S6, r6, q6⟩ := hsp
        exact gone S6 fun s7 J7 => ⟨_, _, _, J7, r6, q6⟩
      | next => obtain ⟨τ, J6, S6, q6⟩ := hsp; exact gone S6 fun s7 J7 => ⟨_, _, J7, q6⟩
      | brk => obtain ⟨τ, J6, S6, q6⟩ := hsp; exact gone S6 fun s7 J7 => ⟨_, _, J7, q6⟩
      | cont => obtain ⟨τ, J6, S6, q6⟩ := hsp; exact gone S6 fun s7 J7 => ⟨_, _, J7, q6⟩
theorem ps_try_manyA {body : List Stmt} {h₀ : ExceptHandler} {hds : List ExceptHandler} {l : List HdT} {pos : Pos} {tb : WX → TS} (hst : X.stack = X.env :: X.outer) (hf : X.env.frame = some X.env.locals) (hN : X.N.Nodup) (tk : Takes X Wo)
    (hb : ∀ (W : WX) (pn : List (Addr × Obj)) (xe : Value → Shared → Prop), Takes (X.tr pn xe) W → PassesOwn (model X.prog X.w) X.A X.env xe → PSs (X.tr pn xe) body (tb W)) (hh : HdA X (h₀ :: hds) l) :
    PS X (.Try body (h₀ :: hds) [] [] pos) (fun D σ H => tb (wManyA X.K Wo D l) D σ H) := by
  refine ⟨fun pins s σ H D I h => ?_⟩
  have ok := I.ok
  have hfr : X.A.frames = some (X.env :: X.outer) := by rw [ok.frames, hst]
  refine wpAny_Try_except (wpAny_mono ((hb (wManyA X.K Wo D l) (X.pn ++ pins) (fun e s₁ => wpAny (model X.prog X.w) X.A (noteFrame e X.env) (fun _ s₂ => wpAny (model X.prog X.w) X.A (setFlight e none) (fun _ s₃ =>
    wpAny (model X.prog X.w) X.A (handleBy e X.env (h₀ :: hds)) (SP X pins D) X.xe s₃) X.xe s₂) X.xe s₁) (fun u s' xx => ?caught) PassesOwn.looking).run [] s σ H D (I.toTry _) h) (fun fw s1 hsp => ?done) (fun e s1 he => he))
  case caught =>
    obtain ⟨a, B, sI, _, σ', H', cls, d, rfl, J', nb, up, sky, na, os, ag, w⟩ := xx
    have J : Inv X pins σ' H' sI := J'.ofTry ok
    show wpAny (model X.prog X.w) X.A (noteFrame (.ref a) X.env) _ _ _
    refine Sky.land Zc.steady hfr hf (show Sky B (X.env :: X.outer) a (Zc cls d) X.env.locals s'.heap by rw [← hst]; exact sky) fun h3 fl3 up3 => ?_
    obtain ⟨oe3, vs3, he3, hz3, hd3⟩ := fl3.there
    have nfr : a ∉ frs (X.env :: X.outer) := fun hm => by
      obtain ⟨_, o', e', hnf⟩ := fl3.2.2.1.mem hm
      rw [he3] at e'; cases e'
      exact hnf _ hd3
    refine tried ok hst hf hN tk J nb (up.trans up3) os ag na fl3 (fun z => nfr (List.mem_filterMap.mpr ⟨X.env, List.mem_cons_self, by rw [hf, z]⟩)) (fun hm => ?_) hh w
    obtain ⟨e, he, q⟩ := List.mem_filterMap.mp hm
    exact nfr (List.mem_filterMap.mpr ⟨e, List.mem_cons_of_mem _ he, q⟩)
  case done =>
    cases fw with
    | next => obtain ⟨τ, J6, J', q⟩ := hsp; exact wpAny_execs_nil ⟨τ, J6, J'.ofTry ok, q⟩
    | ret u => obtain ⟨v, τ, J6, J', r, q⟩ := hsp; exact ⟨v, τ, J6, J'.ofTry ok, r, q⟩
    | brk => obtain ⟨τ, J6, J', q⟩ := hsp; exact ⟨τ, J6, J'.ofTry ok, q⟩
    | cont => obtain ⟨τ, J6, J', q⟩ := hsp; exact ⟨τ, J6, J'.ofTry ok, q⟩
end
/-! ### the same by data -/
abbrev Hm := (String → Option Bool) × Nat × (String → List (Str × D) → Sx)
def onlyRt : Fl → Option Fl
  | .rt d ρ => some (.rt d ρ)
  | _ => none
def runH : List Hm → Er × En → Option Fl
  | [], _ => none
  | t :: r, p => (t.1 p.1.1).bind fun b => if b = true then (if t.2.1 < p.2.sl.length then (t.2.2 p.1.1 p.1.2 (p.2.set t.2.1 .emp)).bind onlyRt else none) else runH r p
def sTryM (mb : Xs) (hs : List Hm) : Sx := fun ρ => (mb ρ).bind fun o => match o with
  | .inl fl => some fl
  | .inr p => runH hs p
/-- what a clause wishes, by data -/
def tsD (K : PySem.W.Frag) (cl : String → Option Addr) (t : Hm) : Addr → Value → Option Addr → TS := fun a cls d D σ H => ∃ c fs, t.1 c = some true ∧ tDUS K cl t.2.1 a cls d c fs (t.2.2 c fs) D σ H
inductive HdD (X : Cx) (cl : String → Option Addr) : List ExceptHandler → List Hm → List HdT → Prop
  | nil : HdD X cl [] [] []
  | cons {x n : Str} {C : Addr} {t : Hm} {b₀ : Stmt} {ss : List Stmt} {np pq : Pos} {hds : List ExceptHandler} {ts : List Hm} {l : List HdT} (hc : Names X x (.ref C)) (hi : X.N[t.2.1]? = some n) (hl : X.env.kindOf n = some .local) (hit : ∀ c b, t.1 c = some b → ∀ A, cl c = some A → PySem.W.exmOne X.K (.ref A) (.ref C) = some b)
      (hs : ∀ (a : Addr) (oe : Obj) (cls : Value) (d : Option Addr) (pn : List (Addr × Obj)) (c : String) (fs : List (Str × D)), t.1 c = some true → Zc cls d oe → (∃ vs, oe.data = .fields vs) → PSs (X.suite a ((a, oe) :: pn)) (b₀ :: ss) (tDUS X.K cl t.2.1 a cls d c fs (t.2.2 c fs)))
      (r : HdD X cl hds ts l) : HdD X cl (.ExceptHandler (some (.Name x np)) (some n) (b₀ :: ss) pq :: hds) (t :: ts) ((.ref C, t.2.1, tsD X.K cl t) :: l)
theorem HdD.a {X : Cx} {cl : String → Option Addr} {hds : List ExceptHandler} {ts : List Hm} {l : List HdT} (h : HdD X cl hds ts l) : HdA X hds l := by
  induction h with
  | nil => exact .nil
  | cons hc hi hl hit hs r ih => exact .cons hc hi hl (fun a oe cls d pn h1 h2 => ⟨fun pins s σ H D I ⟨c, fs, k, z⟩ => (hs a oe cls d pn c fs k h1 h2).run pins s σ H D I z⟩) ih
theorem HdD.er {X : Cx} {cl : String → Option Addr} {hds : List ExceptHandler} {ts : List Hm} {l : List HdT} (h : HdD X cl hds ts l) {Wo : WX} {D : Ends} {F : Fm} {T : Th} {G : Kn} {p : Er × En} {fl : Fl} : runH ts p = some fl → FlOk X.K cl F T G D fl → ErOk X.K cl (wManyA X.K Wo D l) F T G p.1 p.2 := by
  induction h with
  | nil => intro e; cases e
  | @cons x n C t b₀ ss np pq hds ts l hc hi hl hit hs r ih =>
    intro e q C' dd fvs σ' G' H' g E' hc' hd rf
    simp only [runH, Option.bind_eq_some_iff] at e
    obtain ⟨b, e1, e2⟩ := e
    refine ⟨b, hit _ _ e1 _ hc', fun hb a ha => ?_, fun hb => ?_⟩
    · subst hb
      simp only [if_true] at e2
      split at e2
      · rename_i hlen
        simp only [Option.bind_eq_some_iff] at e2
        obtain ⟨fl2, e3, e4⟩ := e2
        cases fl2 with
        | rt dv ρ2 =>
          cases e4
          refine ⟨p.1.1, p.1.2, e1, F, T, G', p.2.set t.2.1 .emp, _, E'.wipe1 _ _, ⟨⟨C', dd, fvs, rfl, rfl, hc', hd, rf⟩, ?_⟩, e3, fun v σ2 G2 H2 g2 E2 R2 => q v σ2 G2 H2 (g.trans g2) E2 R2⟩
          exact List.getElem?_set_self (by rw [E'.len]; exact hlen)
        | _ => cases e4
      · cases e2
    · subst hb
      simp only [Bool.false_eq_true, if_false] at e2
      exact ih e2 q C' dd fvs σ' G' H' g E' hc' hd rf
theorem st_tryM {X : Cx} {cl : String → Option Addr} {body : List Stmt} {h₀ : ExceptHandler} {hds : List ExceptHandler} {ts : List Hm} {l : List HdT} {mb : Xs} {pos : Pos} (hst : X.stack = X.env :: X.outer) (hf : X.env.frame = some X.env.locals) (hN : X.N.Nodup) (hh : HdD X cl (h₀ :: hds) ts l)
    (hb : ∀ (W : WX) (pn : List (Addr × Obj)) (xe : Value → Shared → Prop), Takes (X.tr pn xe) W → PassesOwn (model X.prog X.w) X.A X.env xe → PXB (X.tr pn xe) cl W body mb) : PDS X cl (.Try body (h₀ :: hds) [] [] pos) (sTryM mb ts) := by
  refine ps_imp (ps_try_manyA (tb := fun W => tDXS X.K cl W mb) hst hf hN takes0 hb hh.a) fun D σ H h => ?_
  obtain ⟨F, T, G, ρ, fl, E, e1, q⟩ := h
  simp only [sTryM, Option.bind_eq_some_iff] at e1
  obtain ⟨o, e1, e2⟩ := e1
  refine ⟨F, T, G, ρ, o, E, e1, ?_⟩
  cases o with
  | inl fl' => cases e2; exact q
  | inr p => exact hh.er e2 q
end DL

/-! E20: 'c' + x.replace('y', 'z'); sorted of texts -/
namespace DL
open PySem L2 PyProof.Rows
section
variable {X : Cx} {cl : String → Option Addr} {o : Expr} {mo : Ex} {c y z : Str} {j k k' : Nat} {c0 c1 c2 apos pos pos' : Pos}
def catR (c y z : Str) : D → Option D
  | .str x => if x.length + (x.length + 1) * z.length ≤ 16777216 ∧ c.length + (Txt.replace x y z).length ≤ sizeLine then some (.str (c ++ Txt.replace x y z)) else none
  | _ => none
def eCatR (c y z : Str) (mo : Ex) : Ex := eUn (catR c y z) mo
theorem d_catR (ho : PD X cl o mo) (hyz : (y == z) = false := by decide)
    (hst : starEach [.Constant (.str y) j c0, .Constant (.str z) k c1] X.env = [(false, eval (.Constant (.str y) j c0) X.env), (false, eval (.Constant (.str z) k c1) X.env)] := by rfl)
    (hbase : attributeBase o "replace" X.env (eval o X.env) = eval o X.env := by rfl) (hline : (apos.endLine == pos.line) = true := by rfl) :
    PD X cl (.BinOp (.Constant (.str c) k' c2) .Add (.Call (.Attribute o "replace" apos) [.Constant (.str y) j c0, .Constant (.str z) k c1] [] pos) pos') (eCatR c y z mo) := by
  refine ⟨fun pins s σ H Q I h => ?_⟩
  obtain ⟨F, T, G, ρ, r, ρ', E, e0, q⟩ := h
  simp only [eCatR, eUn, Option.bind_eq_some_iff, Option.map_eq_some_iff, Prod.mk.injEq] at e0
  obtain ⟨⟨ra, ρ1⟩, e1, d, e3, r', e5, rfl, rfl⟩ := e0
  refine wpAny_BinOp (Calls.Constant_str ?_)
  refine thn (CwR.pet_replC ho hyz hst hbase hline pins { s with toks := s.toks + 1 } σ H (fun v H1 => ∃ x, v = .str (Txt.replace x y z) ∧ c.length + (Txt.replace x y z).length ≤ sizeLine ∧ Q (.str (c ++ Txt.replace x y z)) H1) (Nat.le_add_left 1 _) (I.tok _) ?_) fun u s2 ⟨v, H2, I2, r2, x, ev, hz, q2⟩ => ?_
  · refine ⟨F, T, G, ρ, ra, ρ1, E, e1, fun v G1 H1 g1 E1 R1 => ?_⟩
    have t := E1.top R1 e3
    unfold catR at e5
    split at e5
    · rename_i x
      split at e5
      · rename_i hc
        cases e5
        cases t
        exact ⟨x, rfl, hc.1, x, rfl, hc.2, q _ G1 H1 g1 E1 (.str _ (by rw [len_app]; exact hc.2))⟩
      · cases e5
    · cases e5
  · subst ev
    exact op_add_str pins s2 σ H2 (.str c) _ _ u Q I2 ⟨_, rfl⟩ r2 ⟨c, _, rfl, rfl, hz, q2⟩
end
end DL

/-! E21: sorted of texts; isinstance of the caught error -/
namespace DL
open PySem L2 PyProof.Rows
/-! ### sorted of texts -/
def txtLt (x y : Str) : Bool := PySem.Spec.ltCps x.cps.toList y.cps.toList
theorem txtLt_iff (x y : Str) : txtLt x y = false ↔ y.cps.toList ≤ x.cps.toList := by
  unfold txtLt
  rw [ltCps_eq, decide_eq_false_iff_not]
  exact Iff.rfl
theorem txtLt_asym {x y : Str} (h : txtLt x y = true) : txtLt y x = false := by
  unfold txtLt at h ⊢
  rw [ltCps_eq, decide_eq_true_eq] at h
  rw [ltCps_eq, decide_eq_false_iff_not]
  exact List.lt_asymm h
theorem txtLt_tr {x y z : Str} (h1 : txtLt y x = false) (h2 : txtLt z y = false) : txtLt z x = false := by
  rw [txtLt_iff] at h1 h2 ⊢
  exact List.le_trans h1 h2
theorem str_ext {x y : Str} (h : x.cps.toList = y.cps.toList) : x = y := by
  cases x
  cases y
  exact congrArg Str.mk (Array.toList_inj.mp h)
theorem txtLt_tot {x y : Str} (h1 : txtLt x y = false) (h2 : txtLt y x = false) : x = y := by
  rw [txtLt_iff] at h1 h2
  exact str_ext (List.le_antisymm h2 h1)
def insS (x : Str) : List Str → List Str
  | [] => [x]
  | y :: ys => if txtLt y x = true then y :: insS x ys else x :: y :: ys
def sortS : List Str → List Str
  | [] => []
  | x :: xs => insS x (sortS xs)
theorem insS_perm (x : Str) : ∀ ys, (insS x ys).Perm (x :: ys)
  | [] => .refl _
  | y :: ys => by
    unfold insS
    split
    · exact ((insS_perm x ys).cons y).trans (.swap x y ys)
    · exact .refl _
abbrev TSrt (l : List Str) : Prop := l.Pairwise fun x y => txtLt y x = false
theorem insS_srt (x : Str) : ∀ ys, TSrt ys → TSrt (insS x ys)
  | [], _ => by simp [insS]
  | y :: ys, h => by
    have hp := List.pairwise_cons.mp h
    unfold insS
    split
    · rename_i c
      refine List.pairwise_cons.mpr ⟨fun z hz => ?_, insS_srt x ys hp.2⟩
      rcases List.mem_cons.mp ((insS_perm x ys).mem_iff.mp hz) with rfl | hz
      · exact txtLt_asym c
      · exact hp.1 z hz
    · rename_i c
      refine List.pairwise_cons.mpr ⟨fun z hz => ?_, h⟩
      have c : txtLt y x = false := by simpa using c
      rcases List.mem_cons.mp hz with rfl | hz
      · exact c
      · exact txtLt_tr c (hp.1 z hz)
theorem sortS_perm : ∀ xs, (sortS xs).Perm xs
  | [] => .refl _
  | x :: xs => (insS_perm x _).trans ((sortS_perm xs).cons x)
theorem sortS_srt : ∀ xs, TSrt (sortS xs)
  | [] => .nil
  | x :: xs => insS_srt x _ (sortS_srt xs)
theorem sortS_one {l m : List Str} (h1 : TSrt l) (h2 : TSrt m) (p : l.Perm m) : l = m :=
  p.eq_of_pairwise (fun a b _ _ u v => txtLt_tot v u) h1 h2
theorem rising_srt : ∀ (p : Str) (l : List Str), risingS p l = true → TSrt (p :: l)
  | p, [], _ => List.pairwise_cons.mpr ⟨fun z hz => absurd hz (by simp), .nil⟩
  | p, x :: r, h => by
    have h' : (!PySem.Spec.ltCps x.cps.toList p.cps.toList && risingS x r) = true := h
    rw [Bool.and_eq_true, Bool.not_eq_true'] at h'
    have k := rising_srt x r h'.2
    refine List.pairwise_cons.mpr ⟨fun z hz => ?_, k⟩
    rcases List.mem_cons.mp hz with rfl | hz
    · exact h'.1
    · exact txtLt_tr h'.1 ((List.pairwise_cons.mp k).1 z hz)
theorem sortedS_srt : ∀ l : List Str, sortedS l = true → TSrt l
  | [], _ => .nil
  | x :: r, h => rising_srt x r h
def strs? : List D → Option (List Str)
  | [] => some []
  | .str x :: ds => (strs? ds).map fun xs => x :: xs
  | _ => none
theorem strs?_map : ∀ xs : List Str, strs? (xs.map D.str) = some xs
  | [] => rfl
  | x :: xs => by rw [List.map_cons, strs?, strs?_map xs]; rfl
theorem Reps.strs? {K : PySem.W.Frag} {cl : String → Option Addr} {G : Kn} : ∀ {ds : List D} {xs : List V} {ys : List Str}, Reps K cl G xs ds → DL.strs? ds = some ys → xs = ys.map V.str ∧ ∀ y ∈ ys, y.length ≤ sizeLine
  | [], _, _, r, h => by cases r; cases h; exact ⟨rfl, fun y hy => absurd hy (by simp)⟩
  | .str i :: ds, _, _, r, h => by
    simp only [DL.strs?, Option.map_eq_some_iff] at h
    obtain ⟨ns, h, rfl⟩ := h
    cases r with | cons a b =>
    cases a with | str _ hl =>
    obtain ⟨e, k⟩ := Reps.strs? b h
    subst e
    refine ⟨rfl, fun y hy => ?_⟩
    rcases List.mem_cons.mp hy with rfl | hy
    · exact hl
    · exact k y hy
  | .non :: _, _, _, _, h | .bl _ :: _, _, _, _, h | .int _ :: _, _, _, _, h | .scr _ :: _, _, _, _, h | .list _ :: _, _, _, _, h | .tup _ :: _, _, _, _, h | .dict _ :: _, _, _, _, h | .inst _ _ :: _, _, _, _, h => by cases h
def gSortS : List D → Option D
  | [.list ds] => (strs? ds).bind fun xs => if xs.length < 64 then some (.list ((sortS xs).map D.str)) else none
  | _ => none
section
variable {X : Cx} {cl : String → Option Addr}
theorem c_sortS : CallD X cl (.builtin "sorted") gSortS := by
  intro pins s σ H xs us Q I r h
  obtain ⟨G, ds, r', gh, h1, h2, q⟩ := h
  unfold gSortS at h2
  split at h2
  · cases h1 with | cons t n =>
    cases n
    cases t with | list k l rr =>
    simp only [Option.bind_eq_some_iff] at h2
    obtain ⟨ys, e1, e2⟩ := h2
    split at e2
    · rename_i h64
      cases e2
      obtain ⟨ev, hl⟩ := Reps.strs? rr e1
      subst ev
      refine cr_sortedS pins s σ H _ us Q I r ⟨_, ys, rfl, SqL.of k, h64, fun zs p hp hs hn => ?_⟩
      obtain rfl : zs = sortS ys := sortS_one (sortedS_srt zs hs) (sortS_srt ys) (hp.trans (sortS_perm ys).symm)
      have zl : ((sortS ys).map V.str).length ≤ sizeLine := by rw [List.length_map, (sortS_perm ys).length_eq]; exact small64 h64
      exact new_lst gh hn zl (Reps.strs _ fun x hx => hl x ((sortS_perm ys).mem_iff.mp hx)) q
    · cases e2
  · cases h2
end
/-! ### isinstance of the caught error -/
def rIsX (K : PySem.W.Frag) (D a dd : Addr) : List V → Hp → VK → Prop := fun xs H Q => ∃ (c : Addr) (b : Bool) (fvs : List (Str × V)), xs = [.ref a, .ref c] ∧ H dd = some (.xd fvs) ∧ PySem.W.kitOne K (.ref D) (.ref c) = some b ∧ Q (.bl b) H
theorem call_isX {X : Cx} {a D dd : Addr} {oe : Obj} {pn : List (Addr × Obj)} (C : L2.ExcC X.K D) (hz : Zc (.ref D) (some dd) oe) (hf : ∃ vs, oe.data = .fields vs) : CallR (X.suite a ((a, oe) :: pn)) (.builtin "isinstance") (rIsX X.K D a dd) := by
  intro pins s σ H xs us Q I r h
  obtain ⟨c, b, fvs, rfl, hd, e, q⟩ := h
  cases r with | cons rx rr =>
  cases rr with | cons rt rr =>
  cases rr
  cases rx
  cases rt
  obtain ⟨ho, _⟩ := I.pin (a, oe) (List.mem_append_left _ List.mem_cons_self)
  obtain ⟨vs, hv⟩ := hf
  have hx : ObjOk X.prog X.w H s.heap dd (.xd fvs) := I.hok dd _ hd
  obtain ⟨mA, hns, _⟩ := hx
  obtain ⟨od, hod, _⟩ := lookIn_ns hns
  have J : PySem.W.InstAt s.heap a oe D (some od) := ⟨ho, hz.1, by unfold PySem.W.notCls; rw [hv] <;> rfl, by rw [hz.2]; exact hod⟩
  have hc : (PySem.W.clsIn X.K D).isSome = true := by
    obtain ⟨cd, h, _⟩ := PySem.W.any_some C.hd
    rw [h]; rfl
  exact PySem.W.kia_one (PySem.W.kitx_exc hc C.hg C.hk C.hs C.ha C.hn C.ht C.hm) I.kIn J e (fun z => nomatch z) fun tk => ⟨.bl b, H, I.kept (t' := tk) fun _ _ z => z, rfl, q⟩
section
variable {X : Cx} {cl : String → Option Addr} {i : Nat} {a : Addr} {cls : Value} {d : Option Addr} {cn : String} {fs : List (Str × D)} {oe : Obj} {pn : List (Addr × Obj)} {pos p p1 p2 : Pos} {n c : Str}
def eBl (b : Bool) : Ex := fun ρ => some (.val (.bl b), ρ)
theorem u_is {C C2 : Addr} {b : Bool} (EC : L2.ExcC X.K C) (hcl : cl cn = some C) (hk : PySem.W.kitOne X.K (.ref C) (.ref C2) = some b) (hc : X.mg c = some (.ref C2)) (hmi : X.mg "isinstance" = none) (hz : Zc cls d oe) (hf : ∃ vs, oe.data = .fields vs) (hN : X.N[i]? = some n := by rfl) (hv : Vis X.env.scope n := by first | exact Or.inl rfl | exact Or.inr (Or.inl rfl) | exact Or.inr (Or.inr rfl)) (hd : (n == ("__debug__" : Str)) = false := by decide)
    (hcd : (n == ("__classdict__" : Str)) = false := by decide) (hg : Gl X "isinstance" := by rfl) (hgc : Gl X c := by rfl) (hdc : (c == ("__debug__" : Str)) = false := by decide)
    (h1 : starEach [Expr.Name n p1, Expr.Name c p2] X.env = (false, eval (Expr.Name n p1) X.env) :: starEach [Expr.Name c p2] X.env := by rfl) (h2 : starEach [Expr.Name c p2] X.env = (false, eval (Expr.Name c p2) X.env) :: starEach [] X.env := by rfl)
    (hpl : (backTo pos (starEach [Expr.Name c p2] X.env)).any (·.1) = false := by rfl) :
    PUE (X.suite a ((a, oe) :: pn)) cl i a cls d cn fs (.Call (.Name "isinstance" p) [.Name n p1, .Name c p2] [] pos) (eBl b) := by
  refine ⟨fun pins s σ H Q I h => ?_⟩
  obtain ⟨F, T', G, ρ, r, ρ', E, A, e1, k⟩ := h
  obtain ⟨C', dd, fvs, rfl, rfl, h3, h4, h5⟩ := A.it
  rw [hcl] at h3
  cases h3
  cases e1
  have en : PE (X.suite a ((a, oe) :: pn)) (.Name n p1) _ := pe_var (X := X.suite a ((a, oe) :: pn)) hN hv hd hcd
  have ec : PE (X.suite a ((a, oe) :: pn)) (.Name c p2) (tC (.ref C2)) := pe_glob (X := X.suite a ((a, oe) :: pn)) hgc hc rfl hdc
  refine (pe_callB (X := X.suite a ((a, oe) :: pn)) (call_isX EC hz hf) hg hmi PyProof.Rows.boot_isinstance (pa_cons en (pa_cons ec pa_nil h2) h1) (by decide) (by decide) h1 hpl).run pins s σ H Q I ?_
  exact ⟨_, A.sl, C2, b, fvs, rfl, E.gh _ _ h4, hk, k (.bl b) G H (Le.refl _) E (Rep.bl b)⟩
theorem u_tup {es : List Expr} {mx : Ax} {ctx} (h : PUA X cl i a cls d cn fs es mx) : PUE X cl i a cls d cn fs (.Tuple es ctx pos) (eTup mx) := by
  refine pe_imp (pe_tup h) fun σ H Q h => ?_
  obtain ⟨F, T, G, ρ, r, ρ', E, A, e, q⟩ := h
  simp only [eTup, Option.bind_eq_some_iff] at e
  obtain ⟨⟨rs, ρ1⟩, e1, ⟨ds, ρ2⟩, e2, e3⟩ := e
  split at e3
  · rename_i hl
    cases e3
    refine ⟨F, T, G, ρ, rs, ρ1, E, A, e1, fun vs G1 H1 g1 E1 R1 => ?_⟩
    obtain ⟨G2, g2, E2, R2⟩ := E1.escs R1 e2
    have hlen : vs.length ≤ sizeLine := by rw [R2.length]; exact hl
    refine ⟨hlen, fun p hp => ?_⟩
    have gr := Grow.new_at (o := .tup vs) E2.gh hp
    exact q _ _ _ (g1.trans (g2.trans gr.gg)) (E2.grow gr) (Rep.tup (SqT.of upd_same) hlen (R2.mono gr.gg))
  · cases e3
theorem u_not {e : Expr} {m : Ex} (h : PUE X cl i a cls d cn fs e m) : PUE X cl i a cls d cn fs (.UnaryOp .Not e pos) (eNot m) := by
  refine pe_imp (pe_not h) fun σ H Q h => ?_
  obtain ⟨F, T, G, ρ, x, ρ', E, A, e, q⟩ := h
  simp only [eNot, Option.bind_eq_some_iff, Option.map_eq_some_iff, Prod.mk.injEq] at e
  obtain ⟨⟨r, ρ1⟩, e1, c, e2, rfl, rfl⟩ := e
  refine ⟨F, T, G, ρ, r, ρ1, E, A, e1, fun v G1 H1 g1 E1 R1 => ?_⟩
  have hr : r = _ := asB_eq e2
  subst hr
  cases R1
  exact ⟨c, rfl, q _ G1 H1 g1 E1 (Rep.bl _)⟩
theorem u_and {e b : Expr} {rest : List Expr} {m mb : Ex} (h : PUE X cl i a cls d cn fs e m) (k : PUE X cl i a cls d cn fs (.BoolOp .And (b :: rest) pos) mb) : PUE X cl i a cls d cn fs (.BoolOp .And (e :: b :: rest) pos) (eAnd m mb) := by
  refine pe_imp (pe_and h k) fun σ H Q h => ?_
  obtain ⟨F, T, G, ρ, x, ρ', E, A, e, q⟩ := h
  simp only [eAnd, Option.bind_eq_some_iff] at e
  obtain ⟨⟨r, ρ1⟩, e1, c, e2, e3⟩ := e
  refine ⟨F, T, G, ρ, r, ρ1, E, A, e1, fun v G1 H1 g1 E1 R1 => ?_⟩
  have hr : r = _ := asB_eq e2
  subst hr
  cases R1
  refine ⟨c, rfl, ?_⟩
  cases c with
  | true => exact ⟨F, T, G1, ρ1, x, ρ', E1, A.mono g1, by simpa using e3, fun v G2 H2 g2 E2 R2 => q v G2 H2 (g1.trans g2) E2 R2⟩
  | false =>
    simp at e3
    obtain ⟨rfl, rfl⟩ := e3
    exact q _ G1 H1 g1 E1 (Rep.bl false)
theorem u_and1 {e : Expr} {m : Ex} (h : PUE X cl i a cls d cn fs e m) : PUE X cl i a cls d cn fs (.BoolOp .And [e] pos) m := pe_one h
end
/-! ### a call whose first argument may raise -/
section
variable (K : PySem.W.Frag) (cl : String → Option Addr) (W : WX)
abbrev Xa := En → Option ((List RV × En) ⊕ (Er × En))
def AxOk (F : Fm) (T : Th) (G : Kn) (σ : L2.St) (Q : List V → Hp → Prop) : (List RV × En) ⊕ (Er × En) → Prop
  | .inl p => ∀ vs G' H', Le G G' → EOk K cl F T G' H' σ p.2 → RvOks K cl G' σ vs p.1 → Q vs H'
  | .inr p => ErOk K cl W F T G p.1 p.2
def tDXA (m : Xa) : TA := fun σ H Q => ∃ F T G ρ o, EOk K cl F T G H σ ρ ∧ m ρ = some o ∧ AxOk K cl W F T G σ Q o
end
section
variable {X : Cx} {cl : String → Option Addr} {W : WX} {e : Expr} {es : List Expr} {me : Xe} {mx : Ax} {pos p : Pos} {x : Str} {ps : List Str} {k n nio : Nat} {fn : Fn}
def xaCons (me : Xe) (mx : Ax) : Xa := fun ρ => (me ρ).bind fun o => match o with
  | .inl p => (mx p.2).map fun q => .inl (p.1 :: q.1, q.2)
  | .inr p => some (.inr p)
theorem xa_cons (he : PXE X cl W e me) (ha : PDA X cl es mx) (hs : starEach (e :: es) X.env = (false, eval e X.env) :: starEach es X.env := by rfl) : PA X (e :: es) (tDXA X.K cl W (xaCons me mx)) := by
  refine pa_imp (pa_cons he ha hs) fun σ H Q h => ?_
  obtain ⟨F, T, G, ρ, o, E, e, q⟩ := h
  simp only [xaCons, Option.bind_eq_some_iff] at e
  obtain ⟨o1, e1, e2⟩ := e
  refine ⟨F, T, G, ρ, o1, E, e1, ?_⟩
  rcases o1 with ⟨r, ρ1⟩ | p
  · simp only [Option.map_eq_some_iff] at e2
    obtain ⟨⟨rs, ρ2⟩, e2, rfl⟩ := e2
    exact fun v G1 H1 g1 E1 R1 => ⟨F, T, G1, ρ1, rs, ρ2, E1, e2, fun vs G2 H2 g2 E2 R2 => q (v :: vs) G2 H2 (g1.trans g2) E2 (.cons (R1.mono g2) R2)⟩
  · cases e2; exact q
/-- a def that gives, seen as one that may raise -/
def fnOk (fn : Fn) : Fn := fun as => (fn as).bind fun z => match z.1 with
  | .ok d => some (.ok d, z.2)
  | _ => none
theorem spD_of {K : PySem.W.Frag} (vs : List V) (H : Hp) (Q : VK) (E : XK) (h : spX K cl n nio (fnOk fn) vs H Q E) : spD K cl n nio fn vs H Q E := by
  obtain ⟨hl, G, as, ios, xs, ds, z, outs, h1, h2, h3, h4, h5, h6, h7, h8, q⟩ := h
  simp only [fnOk, Option.bind_eq_some_iff] at h8
  obtain ⟨⟨z1, o1⟩, h8, h9⟩ := h8
  cases z1 with
  | ok d => cases h9; exact ⟨hl, G, as, ios, xs, ds, d, o1, h1, h2, h3, h4, h5, h6, h7, h8, fun v G' H' k1 k2 k3 k4 k5 r => q G' H' k1 k2 k3 k4 k5 v r⟩
  | er c fs => cases h9
def xCallD (nio : Nat) (fn : Fn) (ma : Xa) : Xe := fun ρ => (ma ρ).bind fun o => match o with
  | .inl p => (runF nio fn p.1 p.2).map .inl
  | .inr p => some (.inr p)
theorem xaCons_len {n : Nat} (h : ∀ ρ rs ρ', mx ρ = some (rs, ρ') → rs.length = n) : ∀ ρ rs ρ', xaCons me mx ρ = some (.inl (rs, ρ')) → rs.length = n + 1 := fun ρ rs ρ' e => by
  simp only [xaCons, Option.bind_eq_some_iff] at e
  obtain ⟨o, e1, e2⟩ := e
  rcases o with ⟨r, ρ1⟩ | p
  · simp only [Option.map_eq_some_iff, Sum.inl.injEq, Prod.mk.injEq] at e2
    obtain ⟨⟨rs', ρ2⟩, e2, rfl, rfl⟩ := e2
    simp [h _ _ _ e2]
  · cases e2
theorem xe_callD {cx : CXT} {ma : Xa} (C : Cal X.prog X.w X.K X.mg X.base cx k x ps (spD X.K cl n nio fn)) (hr : Room k X.A) (hx : Passes cx X (fun _ _ _ => False)) (hn : ∀ ρ rs ρ', ma ρ = some (.inl (rs, ρ')) → rs.length = n) (ha : PA X (e :: es) (tDXA X.K cl W ma)) (hg : Gl X x := by rfl)
    (hdb : (x == ("__debug__" : Str)) = false := by decide) (he : starEach (e :: es) X.env = (false, eval e X.env) :: starEach es X.env := by rfl) (hpl : (backTo pos (starEach es X.env)).any (·.1) = false := by rfl) :
    PXE X cl W (.Call (.Name x p) (e :: es) [] pos) (xCallD nio fn ma) := by
  obtain ⟨f, fd, h1, h2, h3, h4⟩ := C.ex
  refine pe_imp (pe_call h4 hr hg h1 h2 h3 .nil hx ha hdb he hpl) fun σ H Q h => ?_
  obtain ⟨F, T, G, ρ, o, E, e1, q⟩ := h
  simp only [xCallD, Option.bind_eq_some_iff] at e1
  obtain ⟨o1, e1, e2⟩ := e1
  refine ⟨F, T, G, ρ, o1, E, e1, ?_⟩
  rcases o1 with ⟨rs, ρ1⟩ | p
  · simp only [Option.map_eq_some_iff] at e2
    obtain ⟨⟨r, ρ2⟩, e2, rfl⟩ := e2
    intro vs G1 H1 g1 E1 R1
    have z := run_sp (n := n) (E0 := fun _ _ _ => False) E1 R1 (hn _ _ _ e1) e2 fun v G3 H3 g3 E3 R3 => q v G3 H3 (g1.trans g3) E3 R3
    rw [List.append_nil]
    exact z
  · cases e2
    exact q
end
end DL

/-! E22: what the end theorem shows of own error classes -/
namespace DL
open PySem L2
/-- an own error class with its text; prog: the linked program -/
def ErrAt (prog : Program) (K : PySem.W.Frag) (mg : Str → Option Value) (x f : Str) : Prop := ∃ C fI msg, PySem.ErrX.ErrTxt prog K mg x f C fI msg ∧ (∀ (w : World) (y : Str) (t : Tok), y.length ≤ 1000000 → PySem.ErrX.Says prog w f (.str y t) msg) ∧ L2.ExcC K C
section
open PySem.W PySem.ErrX HandSPX
theorem errAt_mk {prog : Program} {K : PySem.W.Frag} {h : Heap} {mg : Str → Option Value} {x f nm q qual : Str} {C N fI cc cda : Addr} {msg : Expr} {bs bm sub : List Value} {sn : List Str} {ab : Bool} {col : Option Bool} {dd od cld cdd an : Option Addr} {k0 k1 k2 k3 k5 : Option Value} {oc doc pm ct ccl cl : Value}
    {osl csl ccs : Array (Option Value)} {va : Array Value} {nms : List (Str × NameKind)} {mr : List (Str × Const)} {p1 p2 p0 r1 r2 r3 r4 q1 q2 q3 q4 : Pos} {file : Str} {tf : Tok} (X : K.In h) (Gn : h.Ns mainGlobals mg) (a : nsIn K mainGlobals x = some (some (.ref C)))
    (lk : K.lookup C = some (excClassObj nm q C N bs bm true sn sub ab col dd k0 k1 k2 k3 k5 "ValueError.__new__")) (iC : findIn K (.ref C) "__init__" = some (some (.ref fI)))
    (fl : K.lookup fI = some ⟨oc, od, .func (ksFn "__init__" qual (prm f p1 p2) (bdy f msg p0 r1 r2 r3 r4 q1 q2 q3 q4) (scp nms mr) .none .none doc pm an (.ref cda) ct cc), osl⟩)
    (cel : K.lookup cc = some ⟨cl, cld, .cell (some (.ref C)), csl⟩) (cod : K.lookup cda = some ⟨ccl, cdd, .fields va, ccs⟩) (rv : refsVE bm = true)
    (sa : findIn K (.ref C) "__setattr__" = some (some (.builtin "object.__setattr__"))) (ga : findIn K (.ref C) "__getattribute__" = some (some (.builtin "BaseException.__getattribute__"))) (gg : findIn K (.ref C) "__getattr__" = some none) (noF : findIn K (.ref C) f = some none)
    (tC : typeIn K (.ref fI) = some (.type "function")) (kC : keepIn K (.ref C) = true) (exC : subIn K (.ref C) (.type "BaseException") = some true) (veC : subIn K (.ref C) (.type "ValueError") = some true) (tyC : typeIn K (.ref C) = some (.type "type")) (hdC : hasDictIn K C = true)
    (opq : nsIn K cStatics "thirdparty.any" = some none) (sup : ks_superIn K C C "__init__" = some (some (.builtin "ValueError.__init__"))) (sb : mroIn K C (.ref C) = some true) (nos : nsIn K mainGlobals "super" = some none) (cin : codeIn K (.ref cda) qual = true)
    (cla : findIn K (.ref C) "__class__" = some (some (.builtin "object.__class__"))) (cln : specialIn K (.builtin "object.__class__") "__get__" = some (some (.builtin "getset_descriptor.__get__"))) (clt : takesIn K (.builtin "object.__class__") = some true) (clm : mroIn K C (.type "object") = some true)
    (htop : (prog.main.scope.names.lookup ("super" : Str)).isSome = false)
    (ev : ∀ env : Env, ∃ pl : Sem Bool, eval (.Call (.Attribute (.Call (.Name "super" p0) [] [] r1) "__init__" r2) [msg] [] r3) env = (do
      let ov ← attributeBase (.Call (.Name "super" p0) [] [] r1) "__init__" env (eval (.Call (.Name "super" p0) [] [] r1) env)
      standAt r2.atName
      let (g, first) ← holding [ov] (getMethod ov "__init__" pl)
      callWith r3 g first (backTo r3 (starEach [msg] env)) []))
    (sw : ∀ (env : Env) (p0 r1 r2 r3 r4 : Pos), swapsWith (.Call (.Attribute (.Call (.Name "super" p0) [] [] r1) "__init__" r2) [msg] [] r3) none r4.line env = pure false) (st : ∀ env : Env, starEach [msg] env = (false, eval msg env) :: starEach [] env)
    (v2 : va[2]? = some (.str file tf)) (fe : ((prog.main.file : Str) == file) = true)
    (n1 : ∀ x ∈ nms, x.2 ≠ .cell) (n2 : nms.lookup ("self" : Str) = some .local) (n3 : nms.lookup f = some .local) (n4 : nms.lookup ("super" : Str) = some .globalImplicit) (n5 : nms.lookup ("__class__" : Str) = some .free)
    (bd : ∀ a b : Value, bindArgs (ksFn "__init__" qual (prm f p1 p2) (bdy f msg p0 r1 r2 r3 r4 q1 q2 q3 q4) (scp nms mr) .none .none doc pm an (.ref cda) ct cc) ⟨[a, b], []⟩ = pure [(("self" : Str), a), (f, b)])
    (sy : ∀ (w : World) (y : Str) (t : Tok), y.length ≤ 1000000 → Says prog w f (.str y t) msg) : ErrAt prog K mg x f :=
  ⟨C, fI, msg, ⟨PySem.W.mg_of X Gn a, ⟨_, _, _, _, _, _, _, _, _, _, _, _, _, _, _, lk, rv⟩, sa, ga, gg, noF, iC, tC, kC, exC, veC, tyC, hdC, opq, sup, sb, PySem.W.mg_none_of X Gn nos, htop, sw, st,
    ⟨_, _, _, _, _, _, _, _, _, _, _, _, _, _, _, _, _, _, _, _, _, _, _, fl, cin, ⟨_, _, _, cel⟩, ⟨_, _, _, _, _, _, cod, v2, fe⟩, n1, n2, n3, n4, n5, bd, ev⟩⟩, sy, ⟨ga, gg, exC, hdC, cla, cln, clt, clm⟩⟩
end
end DL

/-! E23: what the end theorem shows of own classes; the table of classes -/
namespace DL
open PySem L2
/-- the classes by name -/
def clOf (mg : Str → Option Value) (c : String) : Option Addr := match mg (Str.ofString c) with
  | some (.ref C) => some C
  | _ => none
/-- an own class and the names that no class of it has -/
def ClsAt (K : PySem.W.Frag) (mg : Str → Option Value) (x : String) (fs : List Str) : Prop := ∃ C, mg (Str.ofString x) = some (.ref C) ∧ Cls K C ∧ ∀ f ∈ fs, NoAttr K C f
theorem clOf_at {mg : Str → Option Value} {x : String} {C : Addr} (h : mg (Str.ofString x) = some (.ref C)) : clOf mg x = some C := by
  unfold clOf
  rw [h]
theorem ClsAt.f {K : PySem.W.Frag} {mg : Str → Option Value} {x : String} {fs : List Str} {f : Str} (h : ClsAt K mg x fs) (hf : f ∈ fs) : ∀ C, clOf mg x = some C → Cls K C ∧ NoAttr K C f := fun C e => by
  obtain ⟨C', h1, h2, h3⟩ := h
  rw [clOf_at h1] at e
  cases e
  exact ⟨h2, h3 f hf⟩
theorem clsF_nil {K : PySem.W.Frag} {cl : String → Option Addr} {f : Str} : ClsF K cl [] f := fun c h => nomatch h
theorem clsF_cons {K : PySem.W.Frag} {mg : Str → Option Value} {x : String} {xs : List String} {fs : List Str} {f : Str} (h : ClsAt K mg x fs) (hf : f ∈ fs) (r : ClsF K (clOf mg) xs f) : ClsF K (clOf mg) (x :: xs) f := fun c hc C e => by
  rcases List.mem_cons.mp hc with rfl | hc
  · exact h.f hf C e
  · exact r c hc C e
/-- the law's promise, no table of classes in sight -/
def spLaw (K : PySem.W.Frag) : Sp := fun vs H Q _ => ∃ (a : Addr) (ns : List Int), vs = [V.ref a] ∧ ns.length ≤ 63 ∧ SqL K H a (ns.map V.int) ∧ ∀ H', Q (.bl true) H'
end DL

/-! E24: clauses by tables -/
namespace DL
open PySem L2
/-- the classes of the errors that may come, and whether the clause takes them -/
abbrev ETab := List (String × Bool)
def tabB (t : ETab) (c : String) : Option Bool := t.lookup c
theorem tabB_mem {c : String} {b : Bool} : ∀ {t : ETab}, tabB t c = some b → (c, b) ∈ t
  | [], h => by cases h
  | (d, x) :: t, h => by
    unfold tabB at h
    rw [List.lookup_cons] at h
    by_cases q : c = d
    · subst q
      rw [beq_self_eq_true] at h
      cases h
      exact List.mem_cons_self
    · have q' : (c == d) = false := by simpa using q
      rw [q'] at h
      exact List.mem_cons_of_mem _ (tabB_mem h)
/-- is the one class met by a clause for the other? -/
def MeetAt (K : PySem.W.Frag) (mg : Str → Option Value) (c d : String) (b : Bool) : Prop := ∃ A C, mg (Str.ofString c) = some (.ref A) ∧ mg (Str.ofString d) = some (.ref C) ∧ PySem.W.exmOne K (.ref A) (.ref C) = some b
theorem MeetAt.ex {K : PySem.W.Frag} {mg : Str → Option Value} {c d : String} {b : Bool} {C : Addr} (h : MeetAt K mg c d b) (hd : mg (Str.ofString d) = some (.ref C)) : ∀ A, clOf mg c = some A → PySem.W.exmOne K (.ref A) (.ref C) = some b := fun A e => by
  obtain ⟨A', C', h1, h2, h3⟩ := h
  rw [clOf_at h1] at e
  cases e
  rw [hd] at h2
  cases h2
  exact h3
/-- is an instance of the one class one of the other? -/
def IsAt (K : PySem.W.Frag) (mg : Str → Option Value) (c d : String) (b : Bool) : Prop := ∃ A C, mg (Str.ofString c) = some (.ref A) ∧ mg (Str.ofString d) = some (.ref C) ∧ PySem.W.kitOne K (.ref A) (.ref C) = some b
section
variable {X : Cx} {mg : Str → Option Value} {cl : String → Option Addr}
theorem hd_cons {x : String} {n : Str} {C : Addr} {tb : ETab} {i : Nat} {m : String → List (Str × D) → Sx} {b₀ : Stmt} {ss : List Stmt} {np pq : Pos} {hds : List ExceptHandler} {ts : List Hm} {l : List HdT} (hcl : cl = clOf mg) (hmg : X.mg = mg) (hx : mg (Str.ofString x) = some (.ref C)) (hg : Gl X (Str.ofString x)) (hdb : (Str.ofString x == ("__debug__" : Str)) = false) (hi : X.N[i]? = some n) (hl : X.env.kindOf n = some .local)
    (ht : ∀ p ∈ tb, MeetAt X.K mg p.1 x p.2)
    (hs : ∀ p ∈ tb, p.2 = true → ∀ (a : Addr) (oe : Obj) (cls : Value) (d : Option Addr) (pn : List (Addr × Obj)) (fs : List (Str × D)), Zc cls d oe → (∃ vs, oe.data = .fields vs) → PSs (X.suite a ((a, oe) :: pn)) (b₀ :: ss) (tDUS X.K cl i a cls d p.1 fs (m p.1 fs)))
    (r : HdD X cl hds ts l) : HdD X cl (.ExceptHandler (some (.Name (Str.ofString x) np)) (some n) (b₀ :: ss) pq :: hds) ((tabB tb, i, m) :: ts) ((.ref C, i, tsD X.K cl (tabB tb, i, m)) :: l) := by
  subst hcl
  subst hmg
  exact HdD.cons (t := (tabB tb, i, m)) ⟨hg, hdb, .inl hx⟩ hi hl (fun c b e => (ht _ (tabB_mem e)).ex hx) (fun a oe cls d pn c fs e h1 h2 => hs _ (tabB_mem e) rfl a oe cls d pn fs h1 h2) r
end
end DL

/-! E25: small things that the printed texts lean on -/
namespace DL
open PySem L2
/-- a def that may raise, called where it does not -/
theorem passX {P : Program} {w : World} {X : Cx} : Passes (L2.CX P w) X (fun _ _ _ => False) := fun _ _ _ _ _ _ _ h => by
  obtain ⟨_, _, _, _, _, _, _, _, _, _, _, _, k⟩ := h; cases k

theorem passX0 {P : Program} {w : World} {X : Cx} : Passes (L2.CX P w) X E0 := fun _ _ _ _ _ _ _ h => by
  obtain ⟨_, _, _, _, _, _, _, _, _, _, _, _, k⟩ := h; cases k

section
variable {X : Cx} {mg : Str → Option Value} {cl : String → Option Addr} {i : Nat} {a : Addr} {cls : Value} {d : Option Addr} {fs : List (Str × D)} {oe : Obj} {pn : List (Addr × Obj)} {pos p p1 p2 : Pos} {n : Str} {cn dn : String}
theorem u_isT {C : Addr} {b : Bool} (EC : L2.ExcC X.K C) (h0 : mg (Str.ofString cn) = some (.ref C)) (hI : IsAt X.K mg cn dn b) (hmg : X.mg = mg) (hcl : cl = clOf mg) (hmi : X.mg "isinstance" = none) (hz : Zc cls d oe) (hf : ∃ vs, oe.data = .fields vs) (hN : X.N[i]? = some n := by rfl) (hv : Vis X.env.scope n := by first | exact Or.inl rfl | exact Or.inr (Or.inl rfl) | exact Or.inr (Or.inr rfl)) (hd : (n == ("__debug__" : Str)) = false := by decide)
    (hcd : (n == ("__classdict__" : Str)) = false := by decide) (hg : Gl X "isinstance" := by rfl) (hgc : Gl X (Str.ofString dn) := by rfl) (hdc : (Str.ofString dn == ("__debug__" : Str)) = false := by decide)
    (h1 : starEach [Expr.Name n p1, Expr.Name (Str.ofString dn) p2] X.env = (false, eval (Expr.Name n p1) X.env) :: starEach [Expr.Name (Str.ofString dn) p2] X.env := by rfl) (h2 : starEach [Expr.Name (Str.ofString dn) p2] X.env = (false, eval (Expr.Name (Str.ofString dn) p2) X.env) :: starEach [] X.env := by rfl)
    (hpl : (backTo pos (starEach [Expr.Name (Str.ofString dn) p2] X.env)).any (·.1) = false := by rfl) :
    PUE (X.suite a ((a, oe) :: pn)) cl i a cls d cn fs (.Call (.Name "isinstance" p) [.Name n p1, .Name (Str.ofString dn) p2] [] pos) (eBl b) := by
  obtain ⟨A', C', e1, e2, e3⟩ := hI
  rw [h0] at e1
  cases e1
  exact u_is EC (by rw [hcl]; exact clOf_at h0) e3 (by rw [hmg]; exact e2) hmi hz hf hN hv hd hcd hg hgc hdc h1 h2 hpl
end
/-- all of a list -/
theorem ls_nil {α : Type} {P : α → Prop} : ∀ p ∈ ([] : List α), P p := fun _ h => nomatch h
theorem ls_cons {α : Type} {P : α → Prop} {x : α} {l : List α} (h : P x) (r : ∀ p ∈ l, P p) : ∀ p ∈ x :: l, P p := List.forall_mem_cons.mpr ⟨h, r⟩
end DL

/-! E26: cells: objects shared, defs that work on them -/
namespace DL
open PySem L2
section
variable {K : PySem.W.Frag} {cl : String → Option Addr} {F : Fm} {T : Th} {G G' : Kn} {H H' : Hp} {σ : L2.St} {ρ ρ' : En} {v : V} {d : D} {r : RV} {a : Addr}
theorem nodup_snoc {l : List Addr} (n : l.Nodup) (h : a ∉ l) : (l ++ [a]).Nodup := by
  rw [List.nodup_append]
  exact ⟨n, by simp, fun x hx y hy e => h (by rw [List.mem_singleton] at hy; rw [← hy, ← e]; exact hx)⟩
/-- an object that only we hold becomes a cell -/
theorem EOk.addCell (E : EOk K cl F T G H σ ρ) (gn : G.h a = none) (na : a ∉ G.A) (tn : T.h a = none) (wn : a ∉ F.W) (ow : OwnAt K cl G H a d) (ap : ∀ (j : Nat) (y : Sl), ρ.sl[j]? = some y → y.obj ≠ none → σ[j]? ≠ some (some (.ref a))) : EOk K cl F T (G.cell a) H σ (ρ.new d) := by
  have g : Le G (G.cell a) := .cell G a
  have out : ∀ {j : Nat} {y : Sl} {b : Addr}, ρ.sl[j]? = some y → y.obj ≠ none → σ[j]? = some (some (.ref b)) → b ∉ G.A → b ∉ (G.cell a).A := fun {j y b} h1 h2 h3 h4 z => by
    rcases List.mem_append.mp z with z | z
    · exact h4 z
    · rw [List.mem_singleton] at z; subst z; exact ap j y h1 h2 h3
  refine ⟨E.len, fun i d h => ?_, fun i w d h => ?_, fun i w d h => ?_, E.sep, E.g0.trans g, E.gt, E.gh, E.th, E.wh, ⟨?_, nodup_snoc E.cs.nd na, fun b hb => ?_, fun b hb => ?_, fun b hb => ?_, fun n c h => ?_⟩⟩
  · obtain ⟨u, h1, h2⟩ := E.val i d h
    exact ⟨u, h1, h2.mono g⟩
  · obtain ⟨b, k1, k2, k3, k4, k5⟩ := E.own i w d h
    exact ⟨b, k1, ⟨k2.1, out h (by simp [Sl.obj]) k1 k2.2⟩, k3, k4, k5.at g rfl⟩
  · obtain ⟨b, u, k1, k2, k3, k4, k5⟩ := E.lck i w d h
    exact ⟨b, u, k1, ⟨k2.1, out h (by simp [Sl.obj]) k1 k2.2⟩, k3, k4, k5.at g rfl⟩
  · show (G.A ++ [a]).length = (ρ.st ++ [some d]).length
    rw [List.length_append, List.length_append, E.cs.len]; rfl
  · rcases List.mem_append.mp hb with z | z
    · exact E.cs.th b z
    · rw [List.mem_singleton] at z; subst z; exact tn
  · rcases List.mem_append.mp hb with z | z
    · exact E.cs.fw b z
    · rw [List.mem_singleton] at z; subst z; exact wn
  · rcases List.mem_append.mp hb with z | z
    · exact E.cs.hh b z
    · rw [List.mem_singleton] at z; subst z; obtain ⟨o, ho⟩ := ow.there; rw [ho]; simp
  · replace h : (ρ.st ++ [some d])[n]? = some (some c) := h
    by_cases z : n < ρ.st.length
    · rw [List.getElem?_append_left z] at h
      obtain ⟨b, k1, k2, k3⟩ := E.cs.got n c h
      exact ⟨b, g.nth k1, k2, k3.at g rfl⟩
    · rw [List.getElem?_append_right (by omega)] at h
      have : n - ρ.st.length = 0 := by
        rcases hn : n - ρ.st.length with _ | m
        · rfl
        · rw [hn] at h; simp at h
      rw [this] at h
      cases h
      have hn : n = G.A.length := by have := E.cs.len; omega
      refine ⟨a, ?_, gn, ow.at g rfl⟩
      show (G.A ++ [a])[n]? = some a
      rw [hn, List.getElem?_append_right (Nat.le_refl _)]; simp
theorem EOk.newC {p : Addr} {o : HO} (E : EOk K cl F T G H σ ρ) (hp : H p = none) (ow : OwnAt K cl G (upd H p o) p d) : EOk K cl F T (G.cell p) (upd H p o) σ (ρ.new d) ∧ Rep K cl (G.cell p) (.ref p) (.cel ρ.st.length) := by
  obtain ⟨k1, k2, k3, k4⟩ := new_own (o := o) E hp
  refine ⟨k4.addCell k1.1 k1.2 k2 k3 ow (E.apart hp), .cel ?_⟩
  show (G.A ++ [p])[ρ.st.length]? = some p
  rw [← E.cs.len, List.getElem?_append_right (Nat.le_refl _)]; simp
/-- a value goes out; an object of our own may still be changed, by all who hold it -/
def shr (ρ : En) : RV → Option (D × En)
  | .val d => some (d, ρ)
  | .ref i => match ρ.sl[i]? with
    | some (.own none d) => some (.cel ρ.st.length, ⟨ρ.sl.set i (.val (.cel ρ.st.length)), ρ.st ++ [some d]⟩)
    | some (.val d) => some (d, ρ)
    | _ => none
def shrs (ρ : En) : List RV → Option (List D × En)
  | [] => some ([], ρ)
  | r :: rs => (shr ρ r).bind fun p => (shrs p.2 rs).map fun q => (p.1 :: q.1, q.2)
theorem EOk.shr (E : EOk K cl F T G H σ ρ) (h : RvOk K cl G σ v r) (p : DL.shr ρ r = some (d, ρ')) : ∃ G', Le G G' ∧ EOk K cl F T G' H σ ρ' ∧ Rep K cl G' v d := by
  cases r with
  | val e =>
    simp only [DL.shr, Option.some.injEq, Prod.mk.injEq] at p
    obtain ⟨rfl, rfl⟩ := p
    exact ⟨G, Le.refl _, E, h⟩
  | ref i =>
    have hv : σ[i]? = some (some v) := h
    simp only [DL.shr] at p
    split at p
    · rename_i e q
      simp only [Option.some.injEq, Prod.mk.injEq] at p
      obtain ⟨rfl, rfl⟩ := p
      obtain ⟨a, h1, ⟨h2, h2'⟩, h3, h4, h5⟩ := E.own i none e q
      rw [h1] at hv; cases hv
      have hi : i < ρ.sl.length := (List.getElem?_eq_some_iff.mp q).1
      have hs : i < σ.length := by rw [E.len]; exact hi
      have es : σ.set i (some (.ref a)) = σ := by
        refine List.ext_getElem? fun j => ?_
        by_cases c : i = j
        · subst c; rw [List.getElem?_set_self hs, h1]
        · rw [List.getElem?_set_ne c]
      have E1 := E.wipe1 i (some (.ref a))
      rw [es] at E1
      have ap : ∀ (j : Nat) (y : Sl), (ρ.set i .emp).sl[j]? = some y → y.obj ≠ none → σ[j]? ≠ some (some (.ref a)) := fun j y k1 k2 k3 => by
        by_cases c : i = j
        · subst c; rw [List.getElem?_set_self hi] at k1; cases k1; exact k2 rfl
        · rw [List.getElem?_set_ne c] at k1
          exact c (E.sep i j a _ y q k1 (by simp [Sl.obj]) k2 h1 k3)
      have E2 := E1.addCell h2 h2' h3 h4 h5 ap
      have rp : Rep K cl (G.cell a) (.ref a) (.cel ρ.st.length) := .cel (by
        show (G.A ++ [a])[ρ.st.length]? = some a
        rw [← E.cs.len, List.getElem?_append_right (Nat.le_refl _)]; simp)
      have E3 := E2.set (i := i) rp
      rw [es] at E3
      refine ⟨G.cell a, .cell G a, ?_, rp⟩
      have e : ((ρ.set i .emp).new e).set i (.val (.cel ρ.st.length)) = ⟨ρ.sl.set i (.val (.cel ρ.st.length)), ρ.st ++ [some e]⟩ := by
        show En.mk _ _ = En.mk _ _
        rw [List.set_set]
      rw [e] at E3
      exact E3
    · rename_i e q
      simp only [Option.some.injEq, Prod.mk.injEq] at p
      obtain ⟨rfl, rfl⟩ := p
      obtain ⟨u, h1, h2⟩ := E.val i e q
      rw [h1] at hv; cases hv
      exact ⟨G, Le.refl _, E, h2⟩
    · cases p
theorem EOk.shrs : ∀ {rs : List RV} {G : Kn} {ρ ρ' : En} {vs : List V} {ds : List D}, EOk K cl F T G H σ ρ → RvOks K cl G σ vs rs → DL.shrs ρ rs = some (ds, ρ') → ∃ G', Le G G' ∧ EOk K cl F T G' H σ ρ' ∧ Reps K cl G' vs ds
  | [], G, ρ, ρ', vs, ds, E, h, p => by
    simp only [DL.shrs, Option.some.injEq, Prod.mk.injEq] at p
    obtain ⟨rfl, rfl⟩ := p
    cases h
    exact ⟨G, Le.refl _, E, .nil⟩
  | r :: rs, G, ρ, ρ', vs, ds, E, h, p => by
    simp only [DL.shrs, Option.bind_eq_some_iff, Option.map_eq_some_iff, Prod.mk.injEq] at p
    obtain ⟨⟨d, ρ1⟩, h1, ⟨ds', ρ2⟩, h2, rfl, rfl⟩ := p
    cases h with
    | cons k1 k2 =>
      obtain ⟨G1, g1, E1, R1⟩ := E.shr k1 h1
      obtain ⟨G2, g2, E2, R2⟩ := EOk.shrs E1 (k2.mono g1) h2
      exact ⟨G2, g1.trans g2, E2, .cons (R1.mono g2) R2⟩
end
/-! ### defs that work on cells -/
abbrev St := List (Option D)
abbrev Fn2 := List D → DL.St → Option (Rs × DL.St)
def Cel (K : PySem.W.Frag) (cl : String → Option Addr) (G : Kn) (H : Hp) (st : DL.St) : Prop := Cells K cl [] (fun _ => none) G H st
def sp2 (K : PySem.W.Frag) (cl : String → Option Addr) (n : Nat) (fn : Fn2) : Sp := fun vs H Q _ => vs.length = n ∧ ∃ (G : Kn) (st : DL.St) (ds : List D) (d : D) (st' : DL.St),
  Reps K cl G vs ds ∧ Same G.h H ∧ Cel K cl G H st ∧ fn ds st = some (.ok d, st') ∧
  ∀ v G' H', Le G G' → Same G'.h H' → (∀ b, G'.h b ≠ none → G.h b ≠ none ∨ H b = none ∨ b ∈ G.A) → (∀ b ∈ G'.A, b ∈ G.A ∨ H b = none) → (∀ b o, b ∉ G.A → H b = some o → H' b = some o) → Cel K cl G' H' st' → Rep K cl G' v d → Q v H'
section
variable {K : PySem.W.Frag} {cl : String → Option Addr} {F : Fm} {T : Th} {G G' : Kn} {H H' : Hp} {σ : L2.St} {ρ ρ' : En} {v : V} {d : D} {r : RV} {st' : DL.St}
/-- behind such a call -/
theorem EOk.back2 (E : EOk K cl F T G H σ ρ) (g : Le G G') (gh : Same G'.h H') (new : ∀ b, G'.h b ≠ none → G.h b ≠ none ∨ H b = none ∨ b ∈ G.A) (ca : ∀ b ∈ G'.A, b ∈ G.A ∨ H b = none) (off : ∀ b o, b ∉ G.A → H b = some o → H' b = some o) (c : Cel K cl G' H' st') : EOk K cl F T G' H' σ ⟨ρ.sl, st'⟩ := by
  have keep : ∀ {b : Addr} {e : D}, G.h b = none ∧ b ∉ G.A → OwnAt K cl G H b e → (G'.h b = none ∧ b ∉ G'.A) ∧ OwnAt K cl G' H' b e := fun {b e} h1 h2 => by
    obtain ⟨o, ho⟩ := h2.there
    refine ⟨⟨?_, fun z => ?_⟩, h2.at g ((off b o h1.2 ho).trans ho.symm)⟩
    · cases q : G'.h b with
      | none => rfl
      | some u =>
        rcases new b (by rw [q]; simp) with z | z | z
        · exact absurd h1.1 z
        · rw [ho] at z; cases z
        · exact absurd z h1.2
    · rcases ca b z with z | z
      · exact h1.2 z
      · rw [ho] at z; cases z
  refine ⟨E.len, fun i d h => ?_, fun i w d h => ?_, fun i w d h => ?_, E.sep, E.g0.trans g, fun b hb => ?_, gh, fun b o hb => ?_, fun b hb => ?_, ⟨c.len, c.nd, fun b hb => ?_, fun b hb z => ?_, c.hh, c.got⟩⟩
  · obtain ⟨u, h1, h2⟩ := E.val i d h
    exact ⟨u, h1, h2.mono g⟩
  · obtain ⟨b, k1, k2, k3, k4, k5⟩ := E.own i w d h
    obtain ⟨x1, x2⟩ := keep k2 k5
    exact ⟨b, k1, x1, k3, k4, x2⟩
  · obtain ⟨b, u, k1, k2, k3, k4, k5⟩ := E.lck i w d h
    obtain ⟨x1, x2⟩ := keep k2 k5
    exact ⟨b, u, k1, x1, k3, k4, x2⟩
  · rcases new b hb with z | z | z
    · exact E.gt b z
    · exact .inr (E.th.free z)
    · exact .inr (E.cs.th b z)
  · refine off b o (fun z => ?_) (E.th b o hb)
    rw [E.cs.th b z] at hb; cases hb
  · have k := E.wh b hb
    cases q : H b with
    | none => exact absurd q k
    | some o => rw [off b o (fun z => E.cs.fw b z hb) q]; simp
  · rcases ca b hb with z | z
    · exact E.cs.th b z
    · exact E.th.free z
  · rcases ca b hb with k | k
    · exact E.cs.fw b k z
    · exact E.wh b z k
def run2 (fn : Fn2) (rs : List RV) (ρ : En) : Option (RV × En) := (shrs ρ rs).bind fun q => (fn q.1 q.2.st).bind fun z => match z.1 with
  | .ok d => some (.val d, ⟨q.2.sl, z.2⟩)
  | .er _ _ => none
theorem run2_sp {n : Nat} {fn : Fn2} {vs : List V} {rs : List RV} {Q : VK} {E0 : XK} (E : EOk K cl F T G H σ ρ) (R : RvOks K cl G σ vs rs) (hn : rs.length = n) (e : run2 fn rs ρ = some (r, ρ'))
    (q : ∀ v G' H', Le G G' → EOk K cl F T G' H' σ ρ' → RvOk K cl G' σ v r → Q v H') : sp2 K cl n fn vs H Q E0 := by
  simp only [run2, Option.bind_eq_some_iff] at e
  obtain ⟨⟨ds, ρ1⟩, e1, ⟨z, st'⟩, e2, e3⟩ := e
  obtain ⟨G1, g1, E1, R1⟩ := E.shrs R e1
  cases z with
  | er c fs => cases e3
  | ok d =>
    cases e3
    refine ⟨by rw [R.length]; exact hn, G1, ρ1.st, ds, d, st', R1, E1.gh, ⟨E1.cs.len, E1.cs.nd, fun _ _ => rfl, fun _ _ z => (nomatch z), E1.cs.hh, E1.cs.got⟩, e2, fun v G' H' k1 k2 k3 k4 k5 k6 k7 => ?_⟩
    exact q v G' H' (g1.trans k1) (E1.back2 k1 k2 k3 k4 k5 k6) k7
/-- the frame at the entry -/
def entE2 (N : Nat) (args : List D) (st : DL.St) : En := ⟨args.map .val ++ List.replicate (N - args.length) .emp, st⟩
def entryT2 (H : Hp) (A : List Addr) : Th := ⟨fun b => if b ∈ A then none else H b, fun _ => none⟩
theorem entry_ok2 {N : List Str} {vs : List V} {ds : List D} {st : DL.St} (hN : vs.length ≤ N.length) (R : Reps K cl G vs ds) (gh : Same G.h H) (c : Cel K cl G H st) : EOk K cl ⟨G, []⟩ (entryT2 H G.A) G H (L2.start N vs) (entE2 N.length ds st) := by
  have l : vs.length = ds.length := R.length
  have at_ : ∀ {i : Nat} {x : Sl}, (entE2 N.length ds st).sl[i]? = some x → x = .emp ∨ ∃ d, ds[i]? = some d ∧ x = .val d := fun {i x} h => by
    replace h : (ds.map Sl.val ++ List.replicate (N.length - ds.length) .emp)[i]? = some x := h
    by_cases hi : i < ds.length
    · rw [List.getElem?_append_left (by rw [List.length_map]; exact hi), List.getElem?_map] at h
      cases q : ds[i]? with
      | none => rw [q] at h; cases h
      | some d => rw [q] at h; cases h; exact .inr ⟨d, rfl, rfl⟩
    · rw [List.getElem?_append_right (by rw [List.length_map]; omega)] at h
      have := List.mem_of_getElem? h
      rw [List.mem_replicate] at this
      exact .inl this.2
  have no : ∀ {i : Nat} {x : Sl}, (entE2 N.length ds st).sl[i]? = some x → x.obj = none := fun {i x} h => by
    rcases at_ h with rfl | ⟨d, _, rfl⟩
    · rfl
    · rfl
  refine ⟨?_, fun i d h => ?_, fun i w d h => ?_, fun i w d h => ?_, fun i j a x y e1 e2 e3 _ _ _ => absurd (no e1) e3, Le.refl _, fun b hb => .inl hb, gh, fun b u hb => ?_, (fun b hb => nomatch hb), ⟨c.len, c.nd, fun a ha => ?_, fun a _ z => (nomatch z), c.hh, c.got⟩⟩
  · unfold L2.start entE2
    simp only [List.length_append, List.length_map, List.length_replicate]
    omega
  · rcases at_ h with z | ⟨e, h1, z⟩
    · cases z
    · cases z
      obtain ⟨v, k1, k2⟩ := R.get h1
      refine ⟨v, ?_, k2⟩
      unfold L2.start
      have hi := (List.getElem?_eq_some_iff.mp k1).1
      rw [List.getElem?_append_left (by rw [List.length_map]; exact hi), List.getElem?_map, k1]; rfl
  · have := no h; simp [Sl.obj] at this
  · have := no h; simp [Sl.obj] at this
  · replace hb : (if b ∈ G.A then none else H b) = some u := hb
    split at hb
    · cases hb
    · exact hb
  · show (if a ∈ G.A then none else H a) = none
    rw [if_pos ha]
theorem exit_ok2 {F : Fm} {G0 : Kn} {H0 : Hp} (E : EOk K cl F (entryT2 H0 G0.A) G H σ ρ) (hF : F.G0 = G0) : (∀ b, G.h b ≠ none → G0.h b ≠ none ∨ H0 b = none ∨ b ∈ G0.A) ∧ (∀ b ∈ G.A, b ∈ G0.A ∨ H0 b = none) ∧ (∀ b o, b ∉ G0.A → H0 b = some o → H b = some o) ∧ Cel K cl G H ρ.st := by
  have tn : ∀ {b : Addr}, (entryT2 H0 G0.A).h b = none → b ∈ G0.A ∨ H0 b = none := fun {b} h => by
    replace h : (if b ∈ G0.A then none else H0 b) = none := h
    split at h
    · rename_i z; exact .inl z
    · exact .inr h
  refine ⟨fun b hb => ?_, fun b hb => tn (E.cs.th b hb), fun b o h1 h2 => E.th b o ?_, ⟨E.cs.len, E.cs.nd, fun _ _ => rfl, fun _ _ z => (nomatch z), E.cs.hh, E.cs.got⟩⟩
  · rcases E.gt b hb with z | z
    · rw [hF] at z; exact .inl z
    · rcases tn z with z | z
      · exact .inr (.inr z)
      · exact .inr (.inl z)
  · show (if b ∈ G0.A then none else H0 b) = some o
    rw [if_neg h1]; exact h2
end
def fnBody2 (N : Nat) (body : Sx) : Fn2 := fun args st => (body (entE2 N args st)).bind fun fl => match fl with
  | .rt d ρ => some (.ok d, ρ.st)
  | .nx ρ => some (.ok .non, ρ.st)
  | _ => none
/-- THE RULE: the body of a def that works on cells -/
theorem fn_ok2 {P : Program} {w : World} {K : PySem.W.Frag} {mg : Str → Option Value} {base : Heap} {cl : String → Option Addr} {x qual : Str} {st : Stmt} {f : Addr} {fd : FuncData} {N ps : List Str} {k : Nat} {body : Sx} (Fu : Fun K x qual st f fd) (S : FnScope N ps (defScope st)) (hps : ps.length ≤ N.length)
    (hbody : ∀ (cdv : Value) (A : Around) (outer : List PySem.Env) (s : Shared) (H : Hp) (E : XK), Room k (A.deeper (PyProof.Rows.envOfC qual (defScope st) s.heap.objs.size f cdv)) → PDB (cxOf CX0 P w K mg base N qual (defScope st) f cdv A outer s H E).nox cl (defBody st) body) :
    FnOk P w K mg base CX0 (k + 1) f fd ps (sp2 K cl ps.length (fnBody2 N.length body)) := by
  refine Fu.ok S (fun vs H Q E h => h.1) fun cdv A outer s H vs Q E hr h => ⟨_, hbody cdv A outer s H E hr, ?_⟩
  obtain ⟨hl, G, st0, ds, d, st', R, gh, c, e, q⟩ := h
  simp only [fnBody2, Option.bind_eq_some_iff] at e
  obtain ⟨fl, e1, e2⟩ := e
  have E0 := entry_ok2 (N := N) (by omega) R gh c
  refine ⟨⟨G, []⟩, entryT2 H G.A, G, _, fl, E0, e1, ?_⟩
  cases fl with
  | rt d' ρ =>
    cases e2
    intro v σ' G' H' g E' R'
    obtain ⟨x1, x2, x3, x4⟩ := exit_ok2 E' rfl
    exact q v G' H' g E'.gh x1 x2 x3 x4 R'
  | nx ρ =>
    cases e2
    intro σ' G' H' g E'
    obtain ⟨x1, x2, x3, x4⟩ := exit_ok2 E' rfl
    exact q .non G' H' g E'.gh x1 x2 x3 x4 .non
  | bk ρ => cases e2
  | ct ρ => cases e2
  | ro d' ρ => cases e2
theorem fn_none2 {P : Program} {w : World} {K : PySem.W.Frag} {mg : Str → Option Value} {base : Heap} {cx : CXT} {cl : String → Option Addr} {f : Addr} {fd : FuncData} {ps : List Str} {n k : Nat} : FnOk P w K mg base cx k f fd ps (sp2 K cl n fun _ _ => none) := by
  have no : ∀ vs H Q E, ¬ sp2 K cl n (fun _ _ => none) vs H Q E := fun vs H Q E h => by
    obtain ⟨_, G, as, ios, xs, ds, _, _, _, e, _⟩ := h
    cases e
  exact ⟨fun vs H Q E h => absurd h (no vs H Q E), fun A outer s H args us vs Q E _ _ _ _ h => absurd h (no vs H Q E)⟩
/-! ### their calls -/
section
variable {X : Cx} {cl : String → Option Addr} {cx : CXT} {k j n : Nat} {x m : Str} {c : String} {ps : List Str} {fn : Fn2} {e o : Expr} {es : List Expr} {mo : Ex} {mx : Ax} {p pos apos : Pos}
def eCall2 (fn : Fn2) (m : Ax) : Ex := fun ρ => (m ρ).bind fun p => run2 fn p.1 p.2
theorem d_call2 (C : Cal X.prog X.w X.K X.mg X.base cx k x ps (sp2 X.K cl n fn)) (hr : Room k X.A) (hx : Passes cx X E0) (hn : ∀ ρ rs ρ', mx ρ = some (rs, ρ') → rs.length = n) (ha : PDA X cl (e :: es) mx) (hg : Gl X x := by rfl)
    (hdb : (x == ("__debug__" : Str)) = false := by decide) (he : starEach (e :: es) X.env = (false, eval e X.env) :: starEach es X.env := by rfl) (hpl : (backTo pos (starEach es X.env)).any (·.1) = false := by rfl) :
    PD X cl (.Call (.Name x p) (e :: es) [] pos) (eCall2 fn mx) := by
  obtain ⟨f, fd, h1, h2, h3, h4⟩ := C.ex
  refine pe_imp (pe_call h4 hr hg h1 h2 h3 .nil hx ha hdb he hpl) fun σ H Q h => ?_
  obtain ⟨F, T, G, ρ, r, ρ', E, e1, q⟩ := h
  simp only [eCall2, Option.bind_eq_some_iff] at e1
  obtain ⟨⟨rs, ρ1⟩, e1, e2⟩ := e1
  refine ⟨F, T, G, ρ, rs, ρ1, E, e1, fun vs G1 H1 g1 E1 R1 => ?_⟩
  dsimp only
  rw [List.append_nil]
  exact run2_sp E1 R1 (hn _ _ _ e1) e2 fun v G' H' g' E' R' => q v G' H' (g1.trans g') E' R'
/-! o.m(..) -/
def eMeth2 (c : String) (m : Str) (fn : Fn2) (mo : Ex) (mx : Ax) : Ex := fun ρ => (mo ρ).bind fun p => (peek p.2 p.1).bind fun d => if hasM c m d = true then (mx p.2).bind fun q => run2 fn (p.1 :: q.1) q.2 else none
theorem meth_run2 {C : Addr} {σ : L2.St} {H : Hp} {Q : VK} (hcl : cl c = some C) (hn : ∀ ρ rs ρ', mx ρ = some (rs, ρ') → rs.length + 1 = n) (h : tD X.K cl (eMeth2 c m fn mo mx) σ H Q) : tMeth C m (sp2 X.K cl n fn) [] (fun _ _ _ => False) (tD X.K cl mo) (tDA X.K cl mx) σ H Q := by
  obtain ⟨F, T, G, ρ, r, ρ', E, e, q⟩ := h
  simp only [eMeth2, Option.bind_eq_some_iff] at e
  obtain ⟨⟨ro, ρ1⟩, e1, d, e2, e3⟩ := e
  split at e3
  · rename_i hm
    simp only [Option.bind_eq_some_iff] at e3
    obtain ⟨⟨rs, ρ2⟩, e4, e5⟩ := e3
    refine ⟨F, T, G, ρ, ro, ρ1, E, e1, fun x G1 H1 g1 E1 R1 => ?_⟩
    have t := E1.top R1 e2
    unfold hasM at hm
    split at hm
    · simp only [Bool.and_eq_true, decide_eq_true_eq, Option.isNone_iff_eq_none] at hm
      obtain ⟨rfl, hm⟩ := hm
      cases t with
      | inst ha hc' rf =>
      rw [hcl] at hc'
      cases hc'
      refine ⟨_, _, _, rfl, ha, RepF.none rf hm, F, T, G1, ρ1, rs, ρ2, E1, e4, fun vs G2 H2 g2 E2 R2 => ?_⟩
      dsimp only
      rw [List.append_nil]
      exact run2_sp E2 (.cons (R1.mono g2) R2) (by rw [List.length_cons]; exact hn _ _ _ e4) e5 fun v G3 H3 g3 E3 R3 => q v G3 H3 (g1.trans (g2.trans g3)) E3 R3
    · cases hm
  · cases e3
theorem d_meth2 {C : Addr} {pl : Sem Bool} (M : MetD X.prog X.w X.K X.mg X.base k C m (sp2 X.K cl n fn)) (hcl : cl c = some C) (hr : Room j X.A) (hk : k ≤ j) (hn : ∀ ρ rs ρ', mx ρ = some (rs, ρ') → rs.length + 1 = n) (ho : PD X cl o mo) (ha : PDA X cl (e :: es) mx)
    (hst : starEach (e :: es) X.env = (false, eval e X.env) :: starEach es X.env := by rfl) (hpl : (backTo pos (starEach es X.env)).any (·.1) = false := by rfl)
    (ht : eval (.Call (.Attribute o m apos) (e :: es) [] pos) X.env = (do
      let ov ← eval o X.env
      standAt apos.atName
      let (f, first) ← holding [ov] (getMethod ov m pl)
      callWith pos f first (backTo pos (starEach (e :: es) X.env)) (backToKw pos (keywordEach [] X.env))) := by rfl) : PD X cl (.Call (.Attribute o m apos) (e :: es) [] pos) (eMeth2 c m fn mo mx) :=
  pe_imp (C8.pe_mt (pl := pl) M hr hk ho ha hst hpl ht) fun σ H Q h => meth_run2 hcl hn h
theorem d_meth20 {C : Addr} {pl : Sem Bool} (M : MetD X.prog X.w X.K X.mg X.base k C m (sp2 X.K cl n fn)) (hcl : cl c = some C) (hr : Room j X.A) (hk : k ≤ j) (hn : 1 = n) (ho : PD X cl o mo)
    (ht : eval (.Call (.Attribute o m apos) [] [] pos) X.env = (do
      let ov ← eval o X.env
      standAt apos.atName
      let (f, first) ← holding [ov] (getMethod ov m pl)
      callWith pos f first (backTo pos (starEach [] X.env)) (backToKw pos (keywordEach [] X.env))) := by rfl) : PD X cl (.Call (.Attribute o m apos) [] [] pos) (eMeth2 c m fn mo aNil) :=
  pe_imp (C8.pe_mt0 (pl := pl) M hr hk ho ht) fun σ H Q h => by
    have h' := meth_run2 (n := n) hcl (fun ρ rs ρ' z => by cases z; exact hn) h
    obtain ⟨F, T, G, ρ, r, ρ', E, e1, q⟩ := h'
    refine ⟨F, T, G, ρ, r, ρ', E, e1, fun x G1 H1 g1 E1 R1 => ?_⟩
    obtain ⟨a, dx, fs, k1, k2, k3, F', T', G', ρ'', rs, ρ3, E', z, q'⟩ := q x G1 H1 g1 E1 R1
    cases z
    exact ⟨a, dx, fs, k1, k2, k3, q' [] G' H1 (Le.refl _) E' .nil⟩
/-! C(..): a cell -/
def eMake2 (c : String) (fn : Fn2) (m : Ax) : Ex := fun ρ => (m ρ).bind fun p => (shrs p.2 p.1).bind fun q => (fn (.cel q.2.st.length :: q.1) (q.2.st ++ [some (.inst c [])])).bind fun z => match z.1 with
  | .ok .non => some (.val (.cel q.2.st.length), ⟨q.2.sl, z.2⟩)
  | _ => none
theorem d_make2 {C : Addr} {ps : List Str} (M : Mkr X.prog X.w X.K X.mg X.base k x C ps (sp2 X.K cl (n + 1) fn)) (hcl : cl c = some C) (hr : Room (k + 1) X.A) (hn : ∀ ρ rs ρ', mx ρ = some (rs, ρ') → rs.length = n) (ha : PDA X cl (e :: es) mx) (hg : Gl X x := by rfl)
    (hdb : (x == ("__debug__" : Str)) = false := by decide) (he : starEach (e :: es) X.env = (false, eval e X.env) :: starEach es X.env := by rfl) (hpl : (backTo pos (starEach es X.env)).any (·.1) = false := by rfl) :
    PD X cl (.Call (.Name x p) (e :: es) [] pos) (eMake2 c fn mx) := by
  obtain ⟨f, fd, m1, m2, m3, m4⟩ := M.ex
  refine pe_imp (pe_make m1 m2 hr hg m3 m4 .nil pass0 ha hdb he hpl) fun σ H Q h => ?_
  obtain ⟨F, T, G, ρ, r, ρ', E, e, q⟩ := h
  simp only [eMake2, Option.bind_eq_some_iff] at e
  obtain ⟨⟨rs, ρ1⟩, e1, ⟨ds, ρ2⟩, e2, ⟨z, st'⟩, e3, e4⟩ := e
  refine ⟨F, T, G, ρ, rs, ρ1, E, e1, fun vs G1 H1 g1 E1 R1 x dx hx hdx hne => ?_⟩
  obtain ⟨G2, g2, E2, R2⟩ := E1.shrs R1 e2
  have ez : z = .ok .non ∧ r = .val (.cel ρ2.st.length) ∧ ρ' = ⟨ρ2.sl, st'⟩ := by
    cases z with
    | er _ _ => cases e4
    | ok d => cases d <;> cases e4 <;> exact ⟨rfl, rfl, rfl⟩
  obtain ⟨rfl, rfl, rfl⟩ := ez
  have nx : (upd H1 dx (.own x)) x = none := by rw [upd_ne (Ne.symm hne)]; exact hx
  obtain ⟨_, _, _, E3⟩ := new_own (o := .own x) E2 hdx
  obtain ⟨E4, R4⟩ := E3.newC (o := .ins C dx []) (d := .inst c []) nx ⟨rfl, .inst upd_same hcl .nil⟩
  have gc : Le G2 (G2.cell x) := .cell G2 x
  refine ⟨by simp [R1.length, hn _ _ _ e1], G2.cell x, (ρ2.new (.inst c [])).st, .cel ρ2.st.length :: ds, .non, st', ?_, E4.gh, ⟨E4.cs.len, E4.cs.nd, fun _ _ => rfl, fun _ _ z => (nomatch z), E4.cs.hh, E4.cs.got⟩, e3, fun v G' H' k1 k2 k3 k4 k5 k6 k7 => ?_⟩
  · rw [List.append_nil]
    exact .cons R4 (R2.mono gc)
  · cases k7
    exact ⟨rfl, q _ G' H' (g1.trans (g2.trans (gc.trans k1))) (E4.back2 k1 k2 k3 k4 k5 k6) (R4.mono k1)⟩
end
end DL

/-! E27: what the printed texts say -/
namespace DL
open PySem L2
/-- where a def of the module stands -/
def FnAt (K : PySem.W.Frag) (mg : Str → Option Value) (x : Str) (st : Stmt) (ps : List Str) : Prop := ∃ (f : Addr) (fd : FuncData), mg x = some (.ref f) ∧ Fun K x x st f fd ∧ Binds K fd ps []
/-- a method, an __init__ -/
def MetAt (K : PySem.W.Frag) (mg : Str → Option Value) (c : String) (m qual : Str) (st : Stmt) (ps : List Str) : Prop := ∃ (C f : Addr) (fd : FuncData), mg (Str.ofString c) = some (.ref C) ∧ Cls K C ∧ Meth K C m f ∧ Fun K m qual st f fd ∧ Binds K fd ps []
def IniAt (K : PySem.W.Frag) (mg : Str → Option Value) (c : String) (qual : Str) (st : Stmt) (ps : List Str) : Prop := ∃ (C f : Addr) (fd : FuncData), mg (Str.ofString c) = some (.ref C) ∧ Mk K C f ∧ Fun K "__init__" qual st f fd ∧ Binds K fd ps []
section
variable {K : PySem.W.Frag} {mg : Str → Option Value} {h : Heap} {x m qual : Str} {c : String} {st : Stmt} {ps : List Str} {C f : Addr} {oc : Value} {od an : Option Addr} {sl : Array (Option Value)} {kV dc pm cd ct : Value}
theorem fnAt_mk (X : K.In h) (Gn : h.Ns mainGlobals mg)
    (a : PySem.W.nsIn K mainGlobals x = some (some (.ref f))) (l : K.lookup f = some ⟨oc, od, .func (PySem.W.fnOf x x (defArgs st) (defBody st) (defScope st) .none kV dc pm an cd ct), sl⟩) (c : PySem.W.codeIn K cd x = true) (kp : PySem.W.keepIn K (.ref f) = true)
    (hb : ∀ (kV doc pm : Value) (an : Option Addr) (cdv ct : Value) (us : List Value), us.length = ps.length → bindArgs (PySem.W.fnOf x x (defArgs st) (defBody st) (defScope st) .none kV doc pm an cdv ct) ⟨us, []⟩ = pure (ps.zip us)) : FnAt K mg x st ps := by
  have F := fun_mk (st := st) l c kp
  exact ⟨f, _, PySem.W.mg_of X Gn a, F, F.binds hb⟩
theorem metAt_mk (X : K.In h) (Gn : h.Ns mainGlobals mg) (aC : PySem.W.nsIn K mainGlobals (Str.ofString c) = some (some (.ref C)))
    (pg : PySem.W.plainGet K C Str.empty = true) (hd : PySem.W.hasDictIn K C = true) (po : PySem.W.plainOver K C = true) (sa : PySem.W.findIn K (.ref C) "__setattr__" = some (some (.builtin "object.__setattr__")))
    (a : PySem.W.findIn K (.ref C) m = some (some (.ref f))) (i : PySem.W.isFn K (.ref f) = true) (l : K.lookup f = some ⟨oc, od, .func (PySem.W.fnOf m qual (defArgs st) (defBody st) (defScope st) .none kV dc pm an cd ct), sl⟩) (cc : PySem.W.codeIn K cd qual = true) (kp : PySem.W.keepIn K (.ref f) = true)
    (hb : ∀ (kV doc pm : Value) (an : Option Addr) (cdv ct : Value) (us : List Value), us.length = ps.length → bindArgs (PySem.W.fnOf m qual (defArgs st) (defBody st) (defScope st) .none kV doc pm an cdv ct) ⟨us, []⟩ = pure (ps.zip us)) : MetAt K mg c m qual st ps := by
  have F := fun_mk (st := st) l cc kp
  exact ⟨C, f, _, PySem.W.mg_of X Gn aC, ⟨pg, hd, po, sa⟩, ⟨a, i, kp⟩, F, F.binds hb⟩
theorem iniAt_mk (X : K.In h) (Gn : h.Ns mainGlobals mg) (aC : PySem.W.nsIn K mainGlobals (Str.ofString c) = some (some (.ref C))) (mk : PySem.W.makesIn K C = true) (kc : PySem.W.keepIn K (.ref C) = true)
    (a : PySem.W.findIn K (.ref C) "__init__" = some (some (.ref f))) (i : PySem.W.isFn K (.ref f) = true) (l : K.lookup f = some ⟨oc, od, .func (PySem.W.fnOf "__init__" qual (defArgs st) (defBody st) (defScope st) .none kV dc pm an cd ct), sl⟩) (cc : PySem.W.codeIn K cd qual = true) (kp : PySem.W.keepIn K (.ref f) = true)
    (hb : ∀ (kV doc pm : Value) (an : Option Addr) (cdv ct : Value) (us : List Value), us.length = ps.length → bindArgs (PySem.W.fnOf "__init__" qual (defArgs st) (defBody st) (defScope st) .none kV doc pm an cdv ct) ⟨us, []⟩ = pure (ps.zip us)) : IniAt K mg c qual st ps := by
  have F := fun_mk (st := st) l cc kp
  exact ⟨C, f, _, PySem.W.mg_of X Gn aC, ⟨mk, a, i, kc⟩, F, F.binds hb⟩
theorem clsAt_mk {fs : List Str} (X : K.In h) (Gn : h.Ns mainGlobals mg) (aC : PySem.W.nsIn K mainGlobals (Str.ofString c) = some (some (.ref C)))
    (pg : PySem.W.plainGet K C Str.empty = true) (hd : PySem.W.hasDictIn K C = true) (po : PySem.W.plainOver K C = true) (sa : PySem.W.findIn K (.ref C) "__setattr__" = some (some (.builtin "object.__setattr__"))) (hf : ∀ f ∈ fs, NoAttr K C f) : ClsAt K mg c fs :=
  ⟨C, PySem.W.mg_of X Gn aC, ⟨pg, hd, po, sa⟩, hf⟩
theorem meetAt_mk {d : String} {A : Addr} {b : Bool} (X : K.In h) (Gn : h.Ns mainGlobals mg) (a1 : PySem.W.nsIn K mainGlobals (Str.ofString c) = some (some (.ref A))) (a2 : PySem.W.nsIn K mainGlobals (Str.ofString d) = some (some (.ref C)))
    (h1 : PySem.W.subIn K (.ref C) (.type "BaseException") = some true) (hd : PySem.W.hasDictIn K C = true) (ht : PySem.W.typeIn K (.ref C) = some (.type "type")) (h4 : PySem.W.subIn K (.ref A) (.ref C) = some b) : MeetAt K mg c d b :=
  ⟨A, C, PySem.W.mg_of X Gn a1, PySem.W.mg_of X Gn a2, PySem.W.exm_ref h1 hd ht h4⟩
theorem kit_ref {A C : Addr} {b : Bool} (hd : PySem.W.hasDictIn K C = true) (ht : PySem.W.typeIn K (.ref C) = some (.type "type")) (h4 : PySem.W.subIn K (.ref A) (.ref C) = some b) (hb : A = C → b = true) : PySem.W.kitOne K (.ref A) (.ref C) = some b := by
  obtain ⟨cd, hc, _⟩ := PySem.W.any_some hd
  have e2 : ((PySem.W.clsIn K C).isSome && PySem.W.typeIn K (.ref C) == some (.type "type")) = true := by rw [hc, ht] <;> rfl
  unfold PySem.W.kitOne
  split
  · rename_i q
    have e : A = C := Value.ref.inj (beq_iff_eq.mp q)
    rw [hb e]
  · show (if ((PySem.W.clsIn K C).isSome && PySem.W.typeIn K (.ref C) == some (.type "type")) = true then PySem.W.subIn K (.ref A) (.ref C) else none) = some b
    rw [if_pos e2]
    exact h4
theorem isAt_mk {d : String} {A : Addr} {b : Bool} (X : K.In h) (Gn : h.Ns mainGlobals mg) (a1 : PySem.W.nsIn K mainGlobals (Str.ofString c) = some (some (.ref A))) (a2 : PySem.W.nsIn K mainGlobals (Str.ofString d) = some (some (.ref C)))
    (hd : PySem.W.hasDictIn K C = true) (ht : PySem.W.typeIn K (.ref C) = some (.type "type")) (h4 : PySem.W.subIn K (.ref A) (.ref C) = some b) (hb : A = C → b = true) : IsAt K mg c d b :=
  ⟨A, C, PySem.W.mg_of X Gn a1, PySem.W.mg_of X Gn a2, kit_ref hd ht h4 hb⟩
theorem con_mk {v : V} {u : Value} (X : K.In h) (Gn : h.Ns mainGlobals mg) (a : PySem.W.nsIn K mainGlobals x = some (some u)) (r : RelV v u) : ∃ u, mg x = some u ∧ RelV v u := ⟨u, PySem.W.mg_of X Gn a, r⟩
end
/-! methods and makers known by their promises -/
structure MCal (P : Program) (w : World) (K : PySem.W.Frag) (mg : Str → Option Value) (base : Heap) (k : Nat) (c : String) (m : Str) (sp : Sp) : Prop where
  ex : ∃ C, mg (Str.ofString c) = some (.ref C) ∧ MetD P w K mg base k C m sp
structure KCal (P : Program) (w : World) (K : PySem.W.Frag) (mg : Str → Option Value) (base : Heap) (k : Nat) (c : String) (ps : List Str) (sp : Sp) : Prop where
  ex : ∃ C, mg (Str.ofString c) = some (.ref C) ∧ Mkr P w K mg base k (Str.ofString c) C ps sp
section
variable {X : Cx} {cl : String → Option Addr} {e o : Expr} {es : List Expr} {me mo : Ex} {mx : Ax} {pos pos' p apos : Pos} {f m : Str} {c : String} {k j n nio : Nat} {fn : Fn} {fn2 : Fn2} {ps : List Str} {W : WX}
theorem d_mk (M : KCal X.prog X.w X.K X.mg X.base k c ps (spD X.K cl (n + 1) 1 fn)) (hcl : cl = clOf X.mg) (hr : Room (k + 1) X.A) (hn : ∀ ρ rs ρ', mx ρ = some (rs, ρ') → rs.length = n) (ha : PDA X cl (e :: es) mx) (hg : Gl X (Str.ofString c) := by rfl)
    (hdb : ((Str.ofString c) == ("__debug__" : Str)) = false := by decide) (he : starEach (e :: es) X.env = (false, eval e X.env) :: starEach es X.env := by rfl) (hpl : (backTo pos (starEach es X.env)).any (·.1) = false := by rfl) :
    PD X cl (.Call (.Name (Str.ofString c) p) (e :: es) [] pos) (eMake c fn mx) := by
  obtain ⟨C, h1, h2⟩ := M.ex
  exact d_make h2 (by rw [hcl]; exact clOf_at h1) hr hn ha hg hdb he hpl
theorem d_mk2 (M : KCal X.prog X.w X.K X.mg X.base k c ps (sp2 X.K cl (n + 1) fn2)) (hcl : cl = clOf X.mg) (hr : Room (k + 1) X.A) (hn : ∀ ρ rs ρ', mx ρ = some (rs, ρ') → rs.length = n) (ha : PDA X cl (e :: es) mx) (hg : Gl X (Str.ofString c) := by rfl)
    (hdb : ((Str.ofString c) == ("__debug__" : Str)) = false := by decide) (he : starEach (e :: es) X.env = (false, eval e X.env) :: starEach es X.env := by rfl) (hpl : (backTo pos (starEach es X.env)).any (·.1) = false := by rfl) :
    PD X cl (.Call (.Name (Str.ofString c) p) (e :: es) [] pos) (eMake2 c fn2 mx) := by
  obtain ⟨C, h1, h2⟩ := M.ex
  exact d_make2 h2 (by rw [hcl]; exact clOf_at h1) hr hn ha hg hdb he hpl
theorem d_mt {pl : Sem Bool} (M : MCal X.prog X.w X.K X.mg X.base k c m (spD X.K cl n nio fn)) (hcl : cl = clOf X.mg) (hr : Room j X.A) (hk : k ≤ j) (hn : ∀ ρ rs ρ', mx ρ = some (rs, ρ') → rs.length + 1 = n) (ho : PD X cl o mo) (ha : PDA X cl (e :: es) mx)
    (hst : starEach (e :: es) X.env = (false, eval e X.env) :: starEach es X.env := by rfl) (hpl : (backTo pos (starEach es X.env)).any (·.1) = false := by rfl)
    (ht : eval (.Call (.Attribute o m apos) (e :: es) [] pos) X.env = (do
      let ov ← eval o X.env
      standAt apos.atName
      let (f, first) ← holding [ov] (getMethod ov m pl)
      callWith pos f first (backTo pos (starEach (e :: es) X.env)) (backToKw pos (keywordEach [] X.env))) := by rfl) : PD X cl (.Call (.Attribute o m apos) (e :: es) [] pos) (eMeth c m nio fn mo mx) := by
  obtain ⟨C, h1, h2⟩ := M.ex
  exact d_meth (pl := pl) h2 (by rw [hcl]; exact clOf_at h1) hr hk hn ho ha hst hpl ht
theorem d_mt0 {pl : Sem Bool} (M : MCal X.prog X.w X.K X.mg X.base k c m (spD X.K cl n nio fn)) (hcl : cl = clOf X.mg) (hr : Room j X.A) (hk : k ≤ j) (hn : 1 = n) (ho : PD X cl o mo)
    (ht : eval (.Call (.Attribute o m apos) [] [] pos) X.env = (do
      let ov ← eval o X.env
      standAt apos.atName
      let (f, first) ← holding [ov] (getMethod ov m pl)
      callWith pos f first (backTo pos (starEach [] X.env)) (backToKw pos (keywordEach [] X.env))) := by rfl) : PD X cl (.Call (.Attribute o m apos) [] [] pos) (eMeth c m nio fn mo aNil) := by
  obtain ⟨C, h1, h2⟩ := M.ex
  exact d_meth0 (pl := pl) h2 (by rw [hcl]; exact clOf_at h1) hr hk hn ho ht
theorem d_mt2 {pl : Sem Bool} (M : MCal X.prog X.w X.K X.mg X.base k c m (sp2 X.K cl n fn2)) (hcl : cl = clOf X.mg) (hr : Room j X.A) (hk : k ≤ j) (hn : ∀ ρ rs ρ', mx ρ = some (rs, ρ') → rs.length + 1 = n) (ho : PD X cl o mo) (ha : PDA X cl (e :: es) mx)
    (hst : starEach (e :: es) X.env = (false, eval e X.env) :: starEach es X.env := by rfl) (hpl : (backTo pos (starEach es X.env)).any (·.1) = false := by rfl)
    (ht : eval (.Call (.Attribute o m apos) (e :: es) [] pos) X.env = (do
      let ov ← eval o X.env
      standAt apos.atName
      let (f, first) ← holding [ov] (getMethod ov m pl)
      callWith pos f first (backTo pos (starEach (e :: es) X.env)) (backToKw pos (keywordEach [] X.env))) := by rfl) : PD X cl (.Call (.Attribute o m apos) (e :: es) [] pos) (eMeth2 c m fn2 mo mx) := by
  obtain ⟨C, h1, h2⟩ := M.ex
  exact d_meth2 (pl := pl) h2 (by rw [hcl]; exact clOf_at h1) hr hk hn ho ha hst hpl ht
theorem d_mt20 {pl : Sem Bool} (M : MCal X.prog X.w X.K X.mg X.base k c m (sp2 X.K cl n fn2)) (hcl : cl = clOf X.mg) (hr : Room j X.A) (hk : k ≤ j) (hn : 1 = n) (ho : PD X cl o mo)
    (ht : eval (.Call (.Attribute o m apos) [] [] pos) X.env = (do
      let ov ← eval o X.env
      standAt apos.atName
      let (f, first) ← holding [ov] (getMethod ov m pl)
      callWith pos f first (backTo pos (starEach [] X.env)) (backToKw pos (keywordEach [] X.env))) := by rfl) : PD X cl (.Call (.Attribute o m apos) [] [] pos) (eMeth2 c m fn2 mo aNil) := by
  obtain ⟨C, h1, h2⟩ := M.ex
  exact d_meth20 (pl := pl) h2 (by rw [hcl]; exact clOf_at h1) hr hk hn ho ht
/-! own errors -/
theorem x_raiseE {ea : Expr} {ma : Ex} (Er : ErrAt X.prog X.K X.mg (Str.ofString c) f) (hcl : cl = clOf X.mg) (hcm : X.calm = true) (tk : Takes X W) (hr : Room k X.A) (ha : PD X cl ea ma) (hf1 : (f == ("self" : Str)) = false := by decide) (hf2 : (f == ("__debug__" : Str)) = false := by decide) (hg : Gl X (Str.ofString c) := by rfl) (hn : ((Str.ofString c) == ("__debug__" : Str)) = false := by decide)
    (he : starEach (ea :: []) X.env = (false, eval ea X.env) :: starEach [] X.env := by rfl) (hpl : (backTo pos (starEach [] X.env)).any (·.1) = false := by rfl) : PXS X cl W (.Raise (some (.Call (.Name (Str.ofString c) p) [ea] [] pos)) none pos') (xRaise c f ma) := by
  obtain ⟨C, fI, msg, T, hs, _⟩ := Er
  exact x_raise hcm tk T (hs X.w) (by rw [hcl]; exact clOf_at T.gC) hf1 hf2 hr ha hg hn he hpl
variable {i : Nat} {a : Addr} {cls : Value} {d : Option Addr} {fs : List (Str × D)} {oe : Obj} {pn : List (Addr × Obj)} {n1 : Str} {p1 p2 : Pos} {dn : String}
theorem u_fldE {q : Pos} (Er : ErrAt X.prog X.K X.mg (Str.ofString c) f) (hcl : cl = clOf X.mg) (hz : Zc cls d oe) (hf : ∃ vs, oe.data = .fields vs) (hN : X.N[i]? = some n1 := by rfl) (hv : Vis X.env.scope n1 := by first | exact Or.inl rfl | exact Or.inr (Or.inl rfl) | exact Or.inr (Or.inr rfl)) (hd : (n1 == ("__debug__" : Str)) = false := by decide)
    (hcd : (n1 == ("__classdict__" : Str)) = false := by decide) (hb : attributeBase (.Name n1 q) f X.env (eval (.Name n1 q) X.env) = eval (.Name n1 q) X.env := by rfl) :
    PUE (X.suite a ((a, oe) :: pn)) cl i a cls d c fs (.Attribute (.Name n1 q) f pos) (eExc fs f) := by
  obtain ⟨C, fI, msg, T, _, _⟩ := Er
  exact u_fld T (by rw [hcl]; exact clOf_at T.gC) hz hf hN hv hd hcd hb
/-- is b told of the caught error's class? -/
def isB (t : List (String × Bool)) (c : String) : Bool := (t.lookup c).getD false
theorem u_isE {b : Bool} {fld : Str} (Er : ErrAt X.prog X.K X.mg (Str.ofString c) fld) (hcl : cl = clOf X.mg) (hI : IsAt X.K X.mg c dn b) (hmi : X.mg "isinstance" = none) (hz : Zc cls d oe) (hf : ∃ vs, oe.data = .fields vs) (hN : X.N[i]? = some n1 := by rfl) (hv : Vis X.env.scope n1 := by first | exact Or.inl rfl | exact Or.inr (Or.inl rfl) | exact Or.inr (Or.inr rfl)) (hd : (n1 == ("__debug__" : Str)) = false := by decide)
    (hcd : (n1 == ("__classdict__" : Str)) = false := by decide) (hg : Gl X "isinstance" := by rfl) (hgc : Gl X (Str.ofString dn) := by rfl) (hdc : (Str.ofString dn == ("__debug__" : Str)) = false := by decide)
    (h1 : starEach [Expr.Name n1 p1, Expr.Name (Str.ofString dn) p2] X.env = (false, eval (Expr.Name n1 p1) X.env) :: starEach [Expr.Name (Str.ofString dn) p2] X.env := by rfl) (h2 : starEach [Expr.Name (Str.ofString dn) p2] X.env = (false, eval (Expr.Name (Str.ofString dn) p2) X.env) :: starEach [] X.env := by rfl)
    (hpl : (backTo pos (starEach [Expr.Name (Str.ofString dn) p2] X.env)).any (·.1) = false := by rfl) :
    PUE (X.suite a ((a, oe) :: pn)) cl i a cls d c fs (.Call (.Name "isinstance" p) [.Name n1 p1, .Name (Str.ofString dn) p2] [] pos) (eBl b) := by
  obtain ⟨C, fI, msg, T, _, EC⟩ := Er
  exact u_isT EC T.gC hI rfl hcl hmi hz hf hN hv hd hcd hg hgc hdc h1 h2 hpl
theorem hd_consE {fld : Str} {tb : ETab} {m : String → List (Str × D) → Sx} {b₀ : Stmt} {ss : List Stmt} {np pq : Pos} {hds : List ExceptHandler} {ts : List Hm} {l : List HdT} (Er : ErrAt X.prog X.K X.mg (Str.ofString c) fld) (hcl : cl = clOf X.mg) (ht : ∀ p ∈ tb, MeetAt X.K X.mg p.1 c p.2)
    (hs : ∀ p ∈ tb, p.2 = true → ∀ (a : Addr) (oe : Obj) (cls : Value) (d : Option Addr) (pn : List (Addr × Obj)) (fs : List (Str × D)), Zc cls d oe → (∃ vs, oe.data = .fields vs) → PSs (X.suite a ((a, oe) :: pn)) (b₀ :: ss) (tDUS X.K cl i a cls d p.1 fs (m p.1 fs)))
    (r : HdD X cl hds ts l) (hg : Gl X (Str.ofString c) := by rfl) (hdb : (Str.ofString c == ("__debug__" : Str)) = false := by decide) (hi : X.N[i]? = some n1 := by rfl) (hl : X.env.kindOf n1 = some .local := by rfl) : ∃ l', HdD X cl (.ExceptHandler (some (.Name (Str.ofString c) np)) (some n1) (b₀ :: ss) pq :: hds) ((tabB tb, i, m) :: ts) l' := by
  obtain ⟨C, fI, msg, T, _, _⟩ := Er
  exact ⟨_, hd_cons hcl rfl T.gC hg hdb hi hl ht hs r⟩
def HdE (X : Cx) (cl : String → Option Addr) (hds : List ExceptHandler) (ts : List Hm) : Prop := ∃ l, HdD X cl hds ts l
theorem hde_nil : HdE X cl [] [] := ⟨_, .nil⟩
theorem hde_cons {fld : Str} {tb : ETab} {m : String → List (Str × D) → Sx} {b₀ : Stmt} {ss : List Stmt} {np pq : Pos} {hds : List ExceptHandler} {ts : List Hm} (Er : ErrAt X.prog X.K X.mg (Str.ofString c) fld) (hcl : cl = clOf X.mg) (ht : ∀ p ∈ tb, MeetAt X.K X.mg p.1 c p.2)
    (hs : ∀ p ∈ tb, p.2 = true → ∀ (a : Addr) (oe : Obj) (cls : Value) (d : Option Addr) (pn : List (Addr × Obj)) (fs : List (Str × D)), Zc cls d oe → (∃ vs, oe.data = .fields vs) → PSs (X.suite a ((a, oe) :: pn)) (b₀ :: ss) (tDUS X.K cl i a cls d p.1 fs (m p.1 fs)))
    (r : HdE X cl hds ts) (hg : Gl X (Str.ofString c) := by rfl) (hdb : (Str.ofString c == ("__debug__" : Str)) = false := by decide) (hi : X.N[i]? = some n1 := by rfl) (hl : X.env.kindOf n1 = some .local := by rfl) : HdE X cl (.ExceptHandler (some (.Name (Str.ofString c) np)) (some n1) (b₀ :: ss) pq :: hds) ((tabB tb, i, m) :: ts) := by
  obtain ⟨l, r⟩ := r
  exact hd_consE Er hcl ht hs r hg hdb hi hl
theorem st_tryE {body : List Stmt} {h₀ : ExceptHandler} {hds : List ExceptHandler} {ts : List Hm} {mb : Xs} (hst : X.stack = X.env :: X.outer) (hf : X.env.frame = some X.env.locals) (hN : X.N.Nodup) (hh : HdE X cl (h₀ :: hds) ts)
    (hb : ∀ (W : WX) (pn : List (Addr × Obj)) (xe : Value → Shared → Prop), Takes (X.tr pn xe) W → PassesOwn (model X.prog X.w) X.A X.env xe → PXB (X.tr pn xe) cl W body mb) : PDS X cl (.Try body (h₀ :: hds) [] [] pos) (sTryM mb ts) := by
  obtain ⟨l, h⟩ := hh
  exact st_tryM hst hf hN h hb
/-- a suite of one statement -/
theorem us_one {st : Stmt} {X' : Cx} {t : TS} (h : PS X' st t) : PSs X' [st] t := pss_one h
theorem tab_nil {Q : String × Bool → Prop} : ∀ p ∈ ([] : ETab), Q p := fun _ h => nomatch h
theorem tab_f {x : String} {t : ETab} {Q : String × Bool → Prop} (r : ∀ p ∈ t, p.2 = true → Q p) : ∀ p ∈ (x, false) :: t, p.2 = true → Q p := fun p h e => by
  rcases List.mem_cons.mp h with rfl | h
  · cases e
  · exact r p h e
theorem tab_t {x : String} {t : ETab} {Q : String × Bool → Prop} (q : Q (x, true)) (r : ∀ p ∈ t, p.2 = true → Q p) : ∀ p ∈ (x, true) :: t, p.2 = true → Q p := fun p h e => by
  rcases List.mem_cons.mp h with rfl | h
  · exact q
  · exact r p h e
end
/-- the law's promise, no table of classes in sight -/
theorem law_of {P : Program} {w : World} {K : PySem.W.Frag} {mg : Str → Option Value} {base : Heap} {cl : String → Option Addr} {k : Nat} {f : Addr} {fd : FuncData} {fn : Fn} (h : FnOk P w K mg base CX0 k f fd ["script"] (spD K cl 1 0 fn)) (hl : ∀ ns : List Int, ns.length ≤ 63 → fn [.scr ns] = some (.ok (.bl true), [])) : FnOk P w K mg base CX0 k f fd ["script"] (spLaw K) :=
  h.imp fun vs H Q E q => by
    obtain ⟨a, ns, rfl, h63, hS, q⟩ := q
    refine ⟨rfl, H, [], [], [.ref a], [.scr ns], .bl true, [], rfl, rfl, List.nodup_nil, .nil, by simp, .cons (.scr hS (Nat.le_trans h63 (by decide))) .nil, Same.refl _, hl ns h63, fun v G' H' _ _ _ _ _ R => ?_⟩
    cases R
    exact q H'
end DL

/-! E28: more words: cells made, fields counted on, dicts asked -/
namespace DL
open PySem L2
theorem tab_none {Q : String × Bool → Prop} : ∀ p ∈ ([] : ETab), p.2 = true → Q p := fun _ h => nomatch h
theorem len1 {mx : Ax} {n : Nat} (h : ∀ ρ rs ρ', mx ρ = some (rs, ρ') → rs.length = n) : ∀ ρ rs ρ', mx ρ = some (rs, ρ') → rs.length + 1 = n + 1 := fun ρ rs ρ' e => by rw [h _ _ _ e]
end DL

/-! E29: equations of the later words -/
namespace DL
open PySem L2
/-! texts -/
theorem ofs_inj {a b : String} (h : Str.ofString a = Str.ofString b) : a = b := by
  rw [Str.ofString_eq_toList, Str.ofString_eq_toList] at h
  have h' : (a.toList.map Char.toNat).toArray = (b.toList.map Char.toNat).toArray := by injection h
  have h2 : a.toList.map Char.toNat = b.toList.map Char.toNat := Array.toList_inj.mpr h' 
  have h3 : a.toList = b.toList := (List.map_inj_right (f := Char.toNat) fun x y e => Char.toNat_inj.mp e).mp h2
  exact String.toList_inj.mp h3
theorem ofs_eq {a b : String} : (Str.ofString a = Str.ofString b) = (a = b) := propext ⟨ofs_inj, fun h => by rw [h]⟩
/-! dicts by what they hold -/
section
variable {ks ms : List (Key × D)} {k q : Key} {v d e : D} {Q : D → Prop}
theorem valD_nil : valD [] q = none := rfl
theorem valD_cons : valD ((k, v) :: ks) q = if k = q then some v else valD ks q := by
  unfold valD
  rw [List.find?_cons]
  by_cases c : k = q
  · simp [c]
  · simp [c]
theorem valD_map : ∀ {ks : List (Key × D)}, valD (ks.map fun kv => if kv.1 = k then (kv.1, v) else kv) q = if k = q then (valD ks k).map (fun _ => v) else valD ks q
  | [] => by simp [valD_nil]
  | (k', u) :: ks => by
    have ih := valD_map (ks := ks)
    rw [List.map_cons, valD_cons]
    by_cases c : k' = k
    · subst c
      rw [if_pos rfl, valD_cons, ih, if_pos rfl]
      by_cases c2 : k' = q
      · rw [if_pos c2, if_pos c2]; rfl
      · rw [if_neg c2, if_neg c2, if_neg c2, valD_cons, if_neg c2]
    · rw [if_neg c, valD_cons, ih, valD_cons, if_neg c]
      by_cases c2 : k = q
      · subst c2
        rw [if_neg c, if_pos rfl, if_pos rfl]
      · rw [if_neg c2, if_neg c2]
theorem any_valD : ∀ {ks : List (Key × D)}, (ks.any fun kv => decide (kv.1 = k)) = (valD ks k).isSome
  | [] => rfl
  | (k', u) :: ks => by
    rw [List.any_cons, valD_cons, any_valD (ks := ks)]
    by_cases c : k' = k <;> simp [c]
theorem valD_snoc : ∀ {ks : List (Key × D)}, valD (ks ++ [(k, v)]) q = if (valD ks q).isSome = true then valD ks q else if k = q then some v else none
  | [] => by simp [valD_nil, valD_cons]
  | (k', u) :: ks => by
    rw [List.cons_append, valD_cons, valD_cons, valD_snoc (ks := ks)]
    by_cases c : k' = q <;> simp [c]
theorem valD_put : valD (putD ks k v) q = if k = q then some v else valD ks q := by
  unfold putD
  rw [any_valD]
  split
  · rename_i h
    rw [valD_map]
    by_cases c : k = q
    · rw [if_pos c, if_pos c]
      cases z : valD ks k with
      | none => rw [z] at h; cases h
      | some u => rfl
    · rw [if_neg c, if_neg c]
  · rename_i h
    rw [valD_snoc]
    by_cases c : k = q
    · subst c
      rw [if_neg h, if_pos rfl, if_pos rfl]
    · rw [if_neg c, if_neg c]
      split
      · rfl
      · rename_i z
        cases y : valD ks q with
        | none => rfl
        | some u => rw [y] at z; exact absurd rfl z
theorem putD_len : (putD ks k v).length ≤ ks.length + 1 := by
  unfold putD
  split
  · rw [List.length_map]; omega
  · rw [List.length_append]; simp
theorem merge_nil : mergeD ks [] = ks := rfl
theorem merge_cons : mergeD ks ((k, v) :: ms) = mergeD (putD ks k v) ms := rfl
theorem key_str {x : Str} : keyOf (.str x) = some (.inr x) := rfl
theorem key_int {i : Int} : keyOf (.int i) = some (.inl i) := rfl
theorem at_dict : wq (dAt (.dict ks) e) Q = wq (keyOf e) fun k => wq (valD ks k) Q := by
  show wq ((keyOf e).bind fun k => valD ks k) Q = _
  rw [wp_bind]
theorem store_dict : wq (storeD (.dict ks) e v) Q = wq (keyOf e) fun k => ks.length < sizeLine ∧ Q (.dict (putD ks k v)) := by
  show wq ((keyOf e).bind fun k => if ks.length < sizeLine then some (.dict (putD ks k v)) else none) Q = _
  rw [wp_bind]
  congr 1
  funext k
  rw [wp_guard']
end
section
variable {ρ : En} {Q : RV × En → Prop} {S : Fl → Prop} {m : Px} {mk mv mo : Ex} {mx : Ax} {i nio : Nat} {c : String} {f : Str} {cs : List String} {gs : List (Str × D)} {v d : D} {fn : Fn}
def pxK (P : List (RV × RV) × En → Prop) : List (RV × RV) × En → Prop := P
theorem wp_pNil {P : List (RV × RV) × En → Prop} : wq (pNil ρ) P = P ([], ρ) := wp_some
theorem wp_pCons {P : List (RV × RV) × En → Prop} : wq (pCons mk mv m ρ) P = wq (mk ρ) fun p => wq (mv p.2) fun q => wq (m q.2) fun z => P ((p.1, q.1) :: z.1, z.2) := by simp only [pCons, wp_bind, wp_map]
theorem wp_dispNil {P : List (Key × D) × En → Prop} : wq (dispD [] ρ) P = P ([], ρ) := wp_some
theorem wp_dispCons {r s : RV} {ps : List (RV × RV)} {P : List (Key × D) × En → Prop} : wq (dispD ((r, s) :: ps) ρ) P = wq (keyRV r) fun k => wq (esc ρ s) fun q => wq (dispD ps q.2) fun z => P ((k, q.1) :: z.1, z.2) := by simp only [dispD, wp_bind, wp_map]
theorem keyRV_val : keyRV (.val d) = keyOf d := rfl
theorem wp_eDict : wq (eDict m ρ) Q = wq (m ρ) fun p => wq (dispD p.1 p.2) fun q => p.1.length ≤ 15 ∧ Q (.val (.dict (mergeD [] q.1)), q.2) := by simp only [eDict, wp_bind, wp_guard']
theorem wp_sNewD : wq (sNewD i m ρ) S = wq (m ρ) fun p => wq (dispD p.1 p.2) fun q => p.1.length ≤ 15 ∧ S (.nx (q.2.set i (.own none (.dict (mergeD [] q.1))))) := by simp only [sNewD, wp_bind, wp_guard']
def lstV : RV → Option (List D)
  | .val (.list ds) => some ds
  | _ => none
theorem lstV_list {ds : List D} : lstV (.val (.list ds)) = some ds := rfl
theorem wp_sNewLc : wq (sNewLc i mo ρ) S = wq (mo ρ) fun p => wq (lstV p.1) fun ds => S (.nx (p.2.set i (.own none (.list ds)))) := by
  unfold sNewLc
  rw [wp_bind]
  congr 1
  funext p
  obtain ⟨r, ρ1⟩ := p
  cases r with
  | ref j => simp [lstV, wp_none]
  | val d => cases d <;> simp [lstV, wp_none, wp_some]
def addL : D → D → Option (List D)
  | .list xs, .list ys => if xs.length + ys.length ≤ sizeLine then some (xs ++ ys) else none
  | _, _ => none
theorem addL_list {xs ys : List D} {P : List D → Prop} : wq (addL (.list xs) (.list ys)) P = (xs.length + ys.length ≤ sizeLine ∧ P (xs ++ ys)) := by
  show wq (if xs.length + ys.length ≤ sizeLine then some (xs ++ ys) else none) P = _
  rw [wp_guard']
theorem wp_sNewAdd {ma mb : Ex} : wq (sNewAdd i ma mb ρ) S = wq (ma ρ) fun p => wq (mb p.2) fun q => wq (peek q.2 p.1) fun d => wq (peek q.2 q.1) fun e => wq (addL d e) fun ds => S (.nx (q.2.set i (.own none (.list ds)))) := by
  unfold sNewAdd
  simp only [wp_bind]
  congr 1; funext p
  congr 1; funext q
  congr 1; funext d
  congr 1; funext e
  cases d <;> (try cases e) <;> simp [addL, wp_none, wp_guard']
theorem look_nil : List.lookup f ([] : List (Str × D)) = none := rfl
theorem look_cons {g : Str} : List.lookup f ((g, d) :: gs) = if f = g then some d else List.lookup f gs := by
  rw [List.lookup_cons]
  by_cases c : f = g
  · subst c; simp
  · have : (f == g) = false := by simpa using c
    rw [this, if_neg c]
theorem wp_eFld : wq (eFld cs f mo ρ) Q = wq (mo ρ) fun p => wq (peek p.2 p.1) fun d => wq (fldD cs f d) fun r => Q (.val r, p.2) := by simp only [eFld, wp_eUn]
theorem fld_inst {P : D → Prop} : wq (fldD cs f (.inst c gs)) P = (c ∈ cs ∧ wq (gs.lookup f) P) := by
  show wq (if c ∈ cs then gs.lookup f else none) P = _
  rw [wp_guard]
theorem set_inst {P : D → Prop} : wq (setFD cs f v (.inst c gs)) P = ((c ∈ cs ∧ gs.length < 1000) ∧ P (.inst c (putG f v gs))) := by
  show wq (if c ∈ cs ∧ gs.length < 1000 then some (D.inst c (putG f v gs)) else none) P = _
  rw [wp_guard']
theorem putG_nil : putG f v [] = [(f, v)] := rfl
theorem putG_cons {g : Str} : putG f v ((g, d) :: gs) = if g = f then (g, v) :: gs else (g, d) :: putG f v gs := rfl
theorem wp_sFldSet : wq (sFldSet cs f mo mv ρ) S = wq (mv ρ) fun p => wq (esc p.2 p.1) fun q => wq (mo q.2) fun r => wq (plc r.1) fun l => wq (r.2.obj l) fun d => wq (setFD cs f q.1 d) fun d' => S (.nx (r.2.upd l d')) := by simp only [sFldSet, wp_bind, wp_map]
def mkK (Q : D → Prop) : Rs × List D → Prop
  | (.ok .non, [d]) => Q d
  | _ => False
theorem mkK_ok {P : D → Prop} : mkK P (.ok .non, [d]) = P d := rfl
theorem wp_eMake : wq (eMake c fn mx ρ) Q = wq (mx ρ) fun p => wq (escs p.2 p.1) fun q => pureOk q.2.st q.1 = true ∧ wq (fn (.inst c [] :: q.1)) (mkK fun d => Q (.val d, q.2)) := by
  simp only [eMake, wp_bind, wp_guard]
  congr 1; funext p
  congr 1; funext q
  congr 2; funext z
  rcases z with ⟨_ | _, _ | ⟨d, _ | _⟩⟩
  case ok.cons.nil e => cases e <;> simp [mkK, wp_some, wp_none]
  all_goals (try (rename_i e; cases e)) <;> simp [mkK, wp_some, wp_none]
theorem wp_catR {y z : Str} : wq (eCatR f y z mo ρ) Q = wq (mo ρ) fun p => wq (peek p.2 p.1) fun d => wq (catR f y z d) fun r => Q (.val r, p.2) := by simp only [eCatR, wp_eUn]
theorem catR_str {x y z : Str} {P : D → Prop} : wq (catR f y z (.str x)) P = ((x.length + (x.length + 1) * z.length ≤ 16777216 ∧ f.length + (Txt.replace x y z).length ≤ sizeLine) ∧ P (.str (f ++ Txt.replace x y z))) := by
  show wq (if x.length + (x.length + 1) * z.length ≤ 16777216 ∧ f.length + (Txt.replace x y z).length ≤ sizeLine then some (D.str (f ++ Txt.replace x y z)) else none) P = _
  rw [wp_guard']
/-! a method -/
theorem hasM_inst {m : Str} : (hasM c m (.inst c gs) = true) = (gs.lookup m = none) := by
  show ((decide (c = c) && (gs.lookup m).isNone) = true) = _
  simp
theorem wp_eMeth {m : Str} {c' : String} : wq (eMeth c' m nio fn mo mx ρ) Q = wq (mo ρ) fun p => wq (peek p.2 p.1) fun d => hasM c' m d = true ∧ wq (mx p.2) fun q => wq (runF nio fn (p.1 :: q.1) q.2) Q := by simp only [eMeth, wp_bind, wp_guard]
theorem wp_runF {rs : List RV} : wq (runF nio fn rs ρ) Q = wq (escs ρ (rs.drop nio)) fun q => ((places (rs.take nio)).Nodup ∧ (rs.take nio).length = nio) ∧ wq (lent q.2 (rs.take nio)) fun ios => pureOk q.2.st (ios ++ q.1) = true ∧ wq (fn (ios ++ q.1)) (callK q.2 (rs.take nio) Q) := by
  simp only [runF, wp_bind, wp_guard]
  congr 1; funext q
  congr 2; funext ios
  congr 2; funext z
  obtain ⟨r, os⟩ := z
  cases r <;> simp [callK, wp_map, wp_none]
end
/-! ### what may raise -/
section
variable {ρ : En} {Q : RV × En → Prop} {S : Fl → Prop} {X : Fl ⊕ (Er × En) → Prop} {Y : (RV × En) ⊕ (Er × En) → Prop} {m n : Xs} {me : Xe} {mo : Ex} {ms : Sx} {mx : Ax} {t : Tx} {i nio : Nat} {fn : Fn} {d : D} {e : Er} {c : String} {f : Str} {cs : List String} {os : List D} {fs : List (Str × D)}
def xseqK (n : Xs) (X : Fl ⊕ (Er × En) → Prop) : Fl ⊕ (Er × En) → Prop
  | .inl (.nx ρ) => wq (n ρ) X
  | .inl (.bk ρ) => X (.inl (.bk ρ))
  | .inl (.ct ρ) => X (.inl (.ct ρ))
  | .inl (.rt d ρ) => X (.inl (.rt d ρ))
  | .inl (.ro d ρ) => X (.inl (.ro d ρ))
  | .inr p => X (.inr p)
theorem wp_xSeq : wq (xSeq m n ρ) X = wq (m ρ) (xseqK n X) := by
  rw [xSeq, wp_bind]
  congr 1
  funext o
  rcases o with (ρ1 | ρ1 | ρ1 | ⟨d, ρ1⟩ | ⟨d, ρ1⟩) | p <;> simp [xseqK, wp_some]
theorem xseqK_nx : xseqK n X (.inl (.nx ρ)) = wq (n ρ) X := rfl
theorem xseqK_rt : xseqK n X (.inl (.rt d ρ)) = X (.inl (.rt d ρ)) := rfl
theorem xseqK_er {p : Er × En} : xseqK n X (.inr p) = X (.inr p) := rfl
theorem wp_xSkip : wq (xSkip ρ) X = X (.inl (.nx ρ)) := wp_some
theorem wp_xOf : wq (xOf ms ρ) X = wq (ms ρ) fun fl => X (.inl fl) := by simp only [xOf, wp_map]
theorem wp_xeOf : wq (xeOf mo ρ) Y = wq (mo ρ) fun p => Y (.inl p) := by simp only [xeOf, wp_map]
theorem wp_xIf : wq (xIf t m n ρ) X = wq (t ρ) fun p => iteP p.1 (wq (m p.2) X) (wq (n p.2) X) := by simp only [xIf, wp_bind, wp_if]
def xdropK (X : Fl ⊕ (Er × En) → Prop) : (RV × En) ⊕ (Er × En) → Prop
  | .inl p => X (.inl (.nx p.2))
  | .inr p => X (.inr p)
theorem wp_xDrop : wq (xDrop me ρ) X = wq (me ρ) (xdropK X) := by
  rw [xDrop, wp_map]
  congr 1
  funext o
  cases o <;> rfl
theorem xdropK_ok {p : RV × En} : xdropK X (.inl p) = X (.inl (.nx p.2)) := rfl
theorem xdropK_er {p : Er × En} : xdropK X (.inr p) = X (.inr p) := rfl
def xretK (X : Fl ⊕ (Er × En) → Prop) : (RV × En) ⊕ (Er × En) → Prop
  | .inl p => wq (esc p.2 p.1) fun q => X (.inl (.rt q.1 q.2))
  | .inr p => X (.inr p)
theorem wp_xRet : wq (xRet me ρ) X = wq (me ρ) (xretK X) := by
  rw [xRet, wp_bind]
  congr 1
  funext o
  cases o <;> simp [xretK, wp_map, wp_some]
theorem xretK_ok {p : RV × En} : xretK X (.inl p) = wq (esc p.2 p.1) fun q => X (.inl (.rt q.1 q.2)) := rfl
theorem xretK_er {p : Er × En} : xretK X (.inr p) = X (.inr p) := rfl
def xsetK (i : Nat) (X : Fl ⊕ (Er × En) → Prop) : (RV × En) ⊕ (Er × En) → Prop
  | .inl p => wq (esc p.2 p.1) fun q => X (.inl (.nx (q.2.set i (.val q.1))))
  | .inr p => X (.inr p)
theorem wp_xSet : wq (xSet i me ρ) X = wq (me ρ) (xsetK i X) := by
  rw [xSet, wp_bind]
  congr 1
  funext o
  cases o <;> simp [xsetK, wp_map, wp_some]
theorem xsetK_ok {p : RV × En} : xsetK i X (.inl p) = wq (esc p.2 p.1) fun q => X (.inl (.nx (q.2.set i (.val q.1)))) := rfl
theorem xsetK_er {p : Er × En} : xsetK i X (.inr p) = X (.inr p) := rfl
def xfldK (cs : List String) (f : Str) (Y : (RV × En) ⊕ (Er × En) → Prop) : (RV × En) ⊕ (Er × En) → Prop
  | .inl p => wq (peek p.2 p.1) fun d => wq (fldD cs f d) fun r => Y (.inl (.val r, p.2))
  | .inr p => Y (.inr p)
theorem wp_xFld : wq (xFld cs f me ρ) Y = wq (me ρ) (xfldK cs f Y) := by
  rw [xFld, wp_bind]
  congr 1
  funext o
  cases o <;> simp [xfldK, wp_map, wp_bind, wp_some]
theorem xfldK_ok {p : RV × En} : xfldK cs f Y (.inl p) = wq (peek p.2 p.1) fun d => wq (fldD cs f d) fun r => Y (.inl (.val r, p.2)) := rfl
theorem xfldK_er {p : Er × En} : xfldK cs f Y (.inr p) = Y (.inr p) := rfl
def strV : RV → Option Str
  | .val (.str y) => some y
  | _ => none
theorem strV_str {y : Str} : strV (.val (.str y)) = some y := rfl
theorem wp_xRaise : wq (xRaise c f mo ρ) X = wq (mo ρ) fun p => wq (strV p.1) fun y => y.length ≤ 1000000 ∧ X (.inr ((c, [(f, .str y)]), p.2)) := by
  unfold xRaise
  rw [wp_bind]
  congr 1
  funext p
  obtain ⟨r, ρ1⟩ := p
  cases r with
  | ref j => simp [strV, wp_none]
  | val d => cases d <;> simp [strV, wp_none, wp_some, wp_guard']
/-- what a call that may raise hands back -/
def xcallK (ρ : En) (rs : List RV) (Y : (RV × En) ⊕ (Er × En) → Prop) : Rs × List D → Prop
  | (.ok d, os) => wq (giveBack ρ rs os) fun ρ' => Y (.inl (.val d, ρ'))
  | (.er c fs, os) => wq (giveBack ρ rs os) fun ρ' => Y (.inr ((c, fs), ρ'))
theorem wp_xCall : wq (xCall nio fn mx ρ) Y = wq (mx ρ) fun p => wq (escs p.2 (p.1.drop nio)) fun q => ((places (p.1.take nio)).Nodup ∧ (p.1.take nio).length = nio) ∧ wq (lent q.2 (p.1.take nio)) fun ios => pureOk q.2.st (ios ++ q.1) = true ∧ wq (fn (ios ++ q.1)) (xcallK q.2 (p.1.take nio) Y) := by
  simp only [xCall, runX, wp_bind, wp_guard]
  congr 1; funext p
  congr 1; funext q
  congr 2; funext ios
  congr 2; funext z
  obtain ⟨r, os⟩ := z
  cases r <;> simp [xcallK, wp_map]
theorem xcallK_ok {rs : List RV} : xcallK ρ rs Y (.ok d, os) = wq (giveBack ρ rs os) fun ρ' => Y (.inl (.val d, ρ')) := rfl
theorem xcallK_er {rs : List RV} : xcallK ρ rs Y (.er c fs, os) = wq (giveBack ρ rs os) fun ρ' => Y (.inr ((c, fs), ρ')) := rfl
def endX (nio : Nat) (R : Rs × List D → Prop) : Fl ⊕ (Er × En) → Prop
  | .inl (.rt d ρ) => wq (gave ρ 0 nio) fun os => pureOk ρ.st (d :: os) = true ∧ R (.ok d, os)
  | .inl (.nx ρ) => wq (gave ρ 0 nio) fun os => pureOk ρ.st os = true ∧ R (.ok .non, os)
  | .inr p => wq (gave p.2 0 nio) fun os => pureX p.2.st os p.1.2 = true ∧ R (.er p.1.1 p.1.2, os)
  | _ => False
theorem wp_fnX {N : Nat} {body : Xs} {args : List D} {R : Rs × List D → Prop} : wq (fnX N nio body args) R = wq (body (entE N nio args)) (endX nio R) := by
  rw [fnX, wp_bind]
  congr 1
  funext o
  rcases o with (ρ1 | ρ1 | ρ1 | ⟨d, ρ1⟩ | ⟨d, ρ1⟩) | p <;> simp [endX, wp_bind, wp_guard', wp_none]
theorem endX_rt {R : Rs × List D → Prop} : endX nio R (.inl (.rt d ρ)) = wq (gave ρ 0 nio) fun os => pureOk ρ.st (d :: os) = true ∧ R (.ok d, os) := rfl
theorem endX_nx {R : Rs × List D → Prop} : endX nio R (.inl (.nx ρ)) = wq (gave ρ 0 nio) fun os => pureOk ρ.st os = true ∧ R (.ok .non, os) := rfl
theorem endX_er {R : Rs × List D → Prop} {p : Er × En} : endX nio R (.inr p) = wq (gave p.2 0 nio) fun os => pureX p.2.st os p.1.2 = true ∧ R (.er p.1.1 p.1.2, os) := rfl
theorem pureX_nil : pureX [] os fs = true := rfl
/-- try -/
def tryK (hs : List Hm) (S : Fl → Prop) : Fl ⊕ (Er × En) → Prop
  | .inl fl => S fl
  | .inr p => wq (runH hs p) S
theorem wp_sTryM {hs : List Hm} : wq (sTryM m hs ρ) S = wq (m ρ) (tryK hs S) := by
  rw [sTryM, wp_bind]
  congr 1
  funext o
  cases o <;> simp [tryK, wp_some]
theorem tryK_fl {hs : List Hm} {fl : Fl} : tryK hs S (.inl fl) = S fl := rfl
theorem tryK_er {hs : List Hm} {p : Er × En} : tryK hs S (.inr p) = wq (runH hs p) S := rfl
def rtK (S : Fl → Prop) : Fl → Prop
  | .rt d ρ => S (.rt d ρ)
  | _ => False
theorem rtK_rt : rtK S (.rt d ρ) = S (.rt d ρ) := rfl
theorem wp_runH {tb : ETab} {j : Nat} {mm : String → List (Str × D) → Sx} {r : List Hm} {p : Er × En} : wq (runH ((tabB tb, j, mm) :: r) p) S = wq (tb.lookup p.1.1) fun b => iteP b (j < p.2.sl.length ∧ wq (mm p.1.1 p.1.2 (p.2.set j .emp)) (rtK S)) (wq (runH r p) S) := by
  have e1 : ∀ o : Option Fl, wq (o.bind onlyRt) S = wq o (rtK S) := fun o => by
    rw [wp_bind]
    congr 1
    funext fl
    cases fl <;> simp [onlyRt, rtK, wp_some, wp_none]
  simp only [runH, tabB, wp_bind, wp_if, wp_guard]
  congr 1
  funext b
  congr 2
  rw [← wp_bind, e1]
theorem elook_nil {x : String} : List.lookup x ([] : ETab) = none := rfl
theorem elook_cons {x y : String} {b : Bool} {tb : ETab} : List.lookup x ((y, b) :: tb) = if x = y then some b else List.lookup x tb := by
  rw [List.lookup_cons]
  by_cases c : x = y
  · subst c; simp
  · have : (x == y) = false := by simpa using c
    rw [this, if_neg c]
theorem wp_eExc : wq (eExc fs f ρ) Q = wq (fs.lookup f) fun d => Q (.val d, ρ) := by simp only [eExc, wp_map]
theorem wp_eBl {b : Bool} : wq (eBl b ρ) Q = Q (.val (.bl b), ρ) := wp_some
theorem isB_eq {tb : List (String × Bool)} {x : String} : isB tb x = (tb.lookup x).getD false := rfl
end
theorem sorted_strs {xs : List Str} (h : xs.length < 64) (h0 : xs ≠ []) : gElse gSorted (gElse gSortR gSortS) [.list (xs.map D.str)] = some (.list ((sortS xs).map D.str)) := by
  have e1 : gSorted [.list (xs.map D.str)] = none := by
    cases xs with
    | nil => exact absurd rfl h0
    | cons x xs => rfl
  have e2 : gSortR [.list (xs.map D.str)] = none := by
    cases xs with
    | nil => exact absurd rfl h0
    | cons x xs => rfl
  unfold gElse
  rw [e1]
  show (match gSortR [.list (xs.map D.str)] with | some r => some r | none => gSortS [.list (xs.map D.str)]) = _
  rw [e2]
  show (strs? _).bind _ = _
  rw [strs?_map, Option.bind_some, if_pos h]
end DL

namespace G
open PySem L2 DL
noncomputable section
def topS (i : Nat) : Stmt := PySem.Challenge.pw_cutanywhere_k01_carried_of.main.body.getD i (.Pass ⟨0, 0, 0, 0⟩)
def memS (i j : Nat) : Stmt := match topS i with
  | .ClassDef _ _ _ body _ _ _ _ _ _ _ => body.getD j (.Pass ⟨0, 0, 0, 0⟩)
  | s => s
abbrev s_proc_named : Stmt := topS 5
abbrev s_Loop_init : Stmt := memS 8 0
abbrev s_without_pauses : Stmt := topS 9
abbrev s_with_item : Stmt := topS 10
abbrev s_is_sum : Stmt := topS 11
abbrev s_is_test : Stmt := topS 12
abbrev s_is_straight : Stmt := topS 13
abbrev s_index_of : Stmt := topS 14
abbrev s_parts_of : Stmt := topS 15
abbrev s_check_name : Stmt := topS 16
abbrev s_loop_of : Stmt := topS 17
abbrev s_carried_of : Stmt := topS 18
abbrev s_f_law_start : Stmt := topS 20
abbrev s_f_law_draw : Stmt := topS 21
abbrev s_f_law_one_of : Stmt := topS 22
abbrev s_f_law_shuffled : Stmt := topS 23
abbrev s_f_law_words : Stmt := topS 24
abbrev s_f_law_is_int : Stmt := topS 25
abbrev s_f_law_same : Stmt := topS 26
abbrev s_f_law_loop_words : Stmt := topS 27
abbrev s_f_law_sum_of : Stmt := topS 28
abbrev s_f_law_item_sum : Stmt := topS 29
abbrev s_f_law_one_test : Stmt := topS 30
abbrev s_f_law_loop_test : Stmt := topS 31
abbrev s_f_law_loop_sets : Stmt := topS 32
abbrev s_f_law_loop_block : Stmt := topS 33
abbrev s_f_law_loop_with : Stmt := topS 34
abbrev s_f_law_loop_proc : Stmt := topS 35
abbrev s_f_law_refused : Stmt := topS 36
abbrev s_law : Stmt := topS 37
abbrev fs_Loop : List Str := ["block", "carried", "gives", "head", "hints", "name", "results", "starts"]
structure Tab where
  proc_named : Fn
  Loop_init : Fn
  without_pauses : Fn
  with_item : Fn
  is_sum : Fn
  is_test : Fn
  is_straight : Fn
  index_of : Fn
  parts_of : Fn
  check_name : Fn
  loop_of : Fn
  carried_of : Fn
  f_law_start : Fn
  f_law_draw : Fn
  f_law_one_of : Fn
  f_law_shuffled : Fn
  f_law_words : Fn
  f_law_is_int : Fn
  f_law_same : Fn
  f_law_loop_words : Fn
  f_law_sum_of : Fn
  f_law_item_sum : Fn
  f_law_one_test : Fn
  f_law_loop_test : Fn
  f_law_loop_sets : Fn
  f_law_loop_block : Fn
  f_law_loop_with : Fn
  f_law_loop_proc : Fn
  f_law_refused : Fn
  law : Fn
def b_proc_named (T : Tab) : Sx := (sRet (eBin dAt (eLc (srcSeq (eVar 0)) (tNm 2) (bVal (eBin dEq (eBin dAt (eVar 2) (eC (.int 0))) (eVar 1))) (eVar 2) [2]) (eC (.int 0))))
def fn_proc_named (T : Tab) : Fn := fnBody 3 0 (b_proc_named T)
def b_Loop_init (T : Tab) : Sx := (sSeq (sFldSet ["Loop"] "name" (eVar 0) (eBin dAt (eVar 1) (eC (.int 0))))
  (sSeq (sFldSet ["Loop"] "starts" (eVar 0) (eCB gTuple (aCons (eLc (srcSeq (eBin dAt (eVar 1) (eC (.int 1)))) (tNm 6) (bVal (eBin dEq (eBin dAt (eVar 6) (eC (.int 0))) (eC (.str "int")))) (eBin dAt (eVar 6) (eC (.int 1))) [6]) aNil)))
  (sSeq (sFldSet ["Loop"] "carried" (eVar 0) (eBin dAdd (eFld ["Loop"] "starts" (eVar 0)) (eCB gTuple (aCons (eLc (srcSeq (eBin dAt (eVar 1) (eC (.int 3)))) (tNm 6) (bVal (eBin dNe (eBin dAt (eVar 6) (eC (.int 1))) (eVar 2))) (eBin dAt (eVar 6) (eC (.int 1))) [6]) aNil))))
  (sSeq (sFldSet ["Loop"] "results" (eVar 0) (eBin dAt (eVar 1) (eC (.int 2))))
  (sSeq (sFldSet ["Loop"] "hints" (eVar 0) (eBin dAt (eVar 1) (eC (.int 5))))
  (sSeq (sFldSet ["Loop"] "head" (eVar 0) (eVar 3))
  (sSeq (sFldSet ["Loop"] "block" (eVar 0) (eCall 0 T.with_item (aCons (eVar 4) aNil)))
  (sFldSet ["Loop"] "gives" (eVar 0) (eBin dAt (eVar 5) (eC (.int 1)))))))))))
def fn_Loop_init (T : Tab) : Fn := fnBody 7 1 (b_Loop_init T)
def b_without_pauses (T : Tab) : Sx := (sSeq (sNewL 1 aNil)
  (sSeq (sFor (srcSeq (eVar 0)) (tNm 2) (sIf (bVal (eBin dIn (eBin dAt (eVar 2) (eC (.int 0))) (eTup (aCons (eC (.str "if")) (aCons (eC (.str "while")) aNil))))) (sDrop (eMutL gApp (eVar 1) (aCons (eBin dAdd (eSl dSl (eVar 2) oNone (oSome (eC (.int 2)))) (eCB gTuple (aCons (eLc (srcSeq (eSl dSl (eVar 2) (oSome (eC (.int 2))) oNone)) (tNm 3) bYes (eCall 0 T.without_pauses (aCons (eVar 3) aNil)) [3]) aNil))) aNil))) (sIf (bVal (eBin dNe (eBin dAt (eVar 2) (eC (.int 0))) (eC (.str "pause")))) (sDrop (eMutL gApp (eVar 1) (aCons (eVar 2) aNil))) sSkip)))
  (sRet (eCB gTuple (aCons (eVar 1) aNil)))))
def fn_without_pauses (T : Tab) : Fn := fnBody 4 0 (b_without_pauses T)
def b_with_item (T : Tab) : Sx := (sSeq (sIf (bNot (bTru (eIsi .tuple (eVar 0)))) (sRet (eVar 0)) sSkip)
  (sSeq (sIf (bAnd (bVal (eBin dEq (eCB gLen (aCons (eVar 0) aNil)) (eC (.int 3)))) (bVal (eBin dEq (eBin dAt (eVar 0) (eC (.int 0))) (eC (.str "item"))))) (sRet (eTup (aCons (eC (.str "name")) (aCons (eC (.str "?")) aNil)))) sSkip)
  (sRet (eCB gTuple (aCons (eLc (srcSeq (eVar 0)) (tNm 1) bYes (eCall 0 T.with_item (aCons (eVar 1) aNil)) [1]) aNil)))))
def fn_with_item (T : Tab) : Fn := fnBody 2 0 (b_with_item T)
def b_is_sum (T : Tab) : Sx := (sSeq (sSet 3 (eBin dAt (eVar 0) (eC (.int 0))))
  (sSeq (sIf (bVal (eBin dEq (eVar 3) (eC (.str "number")))) (sRet (eC (.bl true))) sSkip)
  (sSeq (sIf (bVal (eBin dEq (eVar 3) (eC (.str "name")))) (sRet (eBin dIn (eBin dAt (eVar 0) (eC (.int 1))) (eVar 1))) sSkip)
  (sSeq (sIf (bVal (eBin dEq (eVar 3) (eC (.str "item")))) (sRet (eBin dEq (eVar 0) (eVar 2))) sSkip)
  (sSeq (sIf (bVal (eBin dEq (eVar 3) (eC (.str "scale")))) (sRet (eCall 0 T.is_sum (aCons (eBin dAt (eVar 0) (eC (.int 2))) (aCons (eVar 1) (aCons (eVar 2) aNil))))) sSkip)
  (sRet (eAnd (eBin dIn (eVar 3) (eTup (aCons (eC (.str "plus")) (aCons (eC (.str "minus")) aNil)))) (eCB gAll (aCons (eLc (srcSeq (eSl dSl (eVar 0) (oSome (eC (.int 1))) oNone)) (tNm 4) bYes (eCall 0 T.is_sum (aCons (eVar 4) (aCons (eVar 1) (aCons (eVar 2) aNil)))) [4]) aNil)))))))))
def fn_is_sum (T : Tab) : Fn := fnBody 5 0 (b_is_sum T)
def b_is_test (T : Tab) : Sx := (sSeq (sIf (bVal (eBin dIn (eBin dAt (eVar 0) (eC (.int 0))) (eTup (aCons (eC (.str "less")) (aCons (eC (.str "same")) aNil))))) (sRet (eCB gAll (aCons (eLc (srcSeq (eSl dSl (eVar 0) (oSome (eC (.int 1))) oNone)) (tNm 3) bYes (eCall 0 T.is_sum (aCons (eVar 3) (aCons (eVar 1) (aCons (eVar 2) aNil)))) [3]) aNil))) sSkip)
  (sRet (eCB gAll (aCons (eLc (srcSeq (eSl dSl (eVar 0) (oSome (eC (.int 1))) oNone)) (tNm 3) bYes (eCall 0 T.is_test (aCons (eVar 3) (aCons (eVar 1) (aCons (eVar 2) aNil)))) [3]) aNil))))
def fn_is_test (T : Tab) : Fn := fnBody 4 0 (b_is_test T)
def b_is_straight (T : Tab) : Sx := (sSeq (sFor (srcSeq (eVar 0)) (tNm 3) (sIf (bVal (eBin dEq (eBin dAt (eVar 3) (eC (.int 0))) (eC (.str "set")))) (sIf (bNot (bTru (eCB gAll (aCons (eLc (srcSeq (eBin dAt (eVar 3) (eC (.int 1)))) (tTp 2 (tsCons (tNm 4) (tsCons (tNm 5) tsNil))) bYes (eAnd (eBin dIn (eVar 4) (eVar 1)) (eCall 0 T.is_sum (aCons (eVar 5) (aCons (eVar 1) (aCons (eVar 2) aNil))))) [4, 5]) aNil)))) (sRet (eC (.bl false))) sSkip) (sIf (bOr (bVal (eBin dNe (eBin dAt (eVar 3) (eC (.int 0))) (eC (.str "if")))) (bNot (bTru (eCall 0 T.is_test (aCons (eBin dAt (eVar 3) (eC (.int 1))) (aCons (eVar 1) (aCons (eVar 2) aNil))))))) (sRet (eC (.bl false))) (sIf (bNot (bTru (eCB gAll (aCons (eLc (srcSeq (eSl dSl (eVar 3) (oSome (eC (.int 2))) oNone)) (tNm 6) bYes (eCall 0 T.is_straight (aCons (eVar 6) (aCons (eVar 1) (aCons (eVar 2) aNil)))) [6]) aNil)))) (sRet (eC (.bl false))) sSkip))))
  (sRet (eC (.bl true))))
def fn_is_straight (T : Tab) : Fn := fnBody 7 0 (b_is_straight T)
def b_index_of (T : Tab) : Sx := (sSeq (sSet 3 (eBin dAt (eVar 0) (eC (.int 1))))
  (sSeq (sIf (bOr (bVal (eBin dNe (eBin dAt (eVar 3) (eC (.int 0))) (eC (.str "less")))) (bOr (bVal (eBin dNe (eBin dAt (eBin dAt (eVar 3) (eC (.int 1))) (eC (.int 0))) (eC (.str "name")))) (bVal (eBin dNe (eBin dAt (eVar 3) (eC (.int 2))) (eTup (aCons (eC (.str "length")) (aCons (eVar 1) aNil))))))) (sRet (eC .non)) sSkip)
  (sSeq (sSet 4 (eBin dAt (eBin dAt (eVar 3) (eC (.int 1))) (eC (.int 1))))
  (sSeq (sSet 5 (eTup (aCons (eC (.str "set")) (aCons (eTup (aCons (eTup (aCons (eVar 4) (aCons (eTup (aCons (eC (.str "plus")) (aCons (eTup (aCons (eC (.str "name")) (aCons (eVar 4) aNil))) (aCons (eTup (aCons (eC (.str "number")) (aCons (eC (.int 1)) aNil))) aNil)))) aNil))) aNil)) aNil))))
  (sSeq (sIf (bOr (bVal (eBin dNotIn (eTup (aCons (eC (.str "int")) (aCons (eVar 4) aNil))) (eBin dAt (eVar 2) (eC (.int 3))))) (bVal (eBin dNe (eSl dSl (eBin dAt (eVar 0) (eC (.int 2))) (oSome (eUn dNeg (eC (.int 1)))) oNone) (eTup (aCons (eVar 5) aNil))))) (sRet (eC .non)) sSkip)
  (sRet (eVar 4)))))))
def fn_index_of (T : Tab) : Fn := fnBody 6 0 (b_index_of T)
def b_parts_of (T : Tab) : Sx := (sSeq (sSet 1 (eLc (srcSeq (eBin dAt (eVar 0) (eC (.int 1)))) (tNm 5) (bVal (eBin dEq (eBin dAt (eVar 5) (eC (.int 0))) (eC (.str "array")))) (eBin dAt (eVar 5) (eC (.int 1))) [5]))
  (sSeq (sSet 2 (eCall 0 T.without_pauses (aCons (eBin dAt (eVar 0) (eC (.int 8))) aNil)))
  (sSeq (sIf (bOr (bVal (eBin dNe (eCB gLen (aCons (eVar 1) aNil)) (eC (.int 1)))) (bOr (bTru (eCB gAny (aCons (eLc (srcSeq (eBin dAt (eVar 0) (eC (.int 3)))) (tNm 5) bYes (eBin dEq (eBin dAt (eVar 5) (eC (.int 0))) (eC (.str "array"))) [5]) aNil))) (bOr (bNot (bTru (eBin dAt (eVar 0) (eC (.int 2))))) (bVal (eBin dLt (eCB gLen (aCons (eVar 2) aNil)) (eC (.int 2))))))) (sRet (eC .non)) sSkip)
  (sSeq (sIf (bOr (bVal (eBin dNe (eBin dAt (eBin dAt (eVar 2) (eUn dNeg (eC (.int 1)))) (eC (.int 0))) (eC (.str "give")))) (bVal (eBin dNe (eBin dAt (eBin dAt (eVar 2) (eUn dNeg (eC (.int 2)))) (eC (.int 0))) (eC (.str "while"))))) (sRet (eC .non)) sSkip)
  (sSeq (sSet 3 (eCall 0 T.index_of (aCons (eBin dAt (eVar 2) (eUn dNeg (eC (.int 2)))) (aCons (eBin dAt (eVar 1) (eC (.int 0))) (aCons (eVar 0) aNil)))))
  (sSeq (sIf (bVal (eBin dIs (eVar 3) (eC .non))) (sRet (eC .non)) sSkip)
  (sSeq (sSet 4 (eLc (srcSeq (eBin dAdd (eBin dAt (eVar 0) (eC (.int 1))) (eBin dAt (eVar 0) (eC (.int 3))))) (tNm 5) (bAnd (bVal (eBin dEq (eBin dAt (eVar 5) (eC (.int 0))) (eC (.str "int")))) (bVal (eBin dNe (eBin dAt (eVar 5) (eC (.int 1))) (eVar 3)))) (eBin dAt (eVar 5) (eC (.int 1))) [5]))
  (sSeq (sSet 5 (eTup (aCons (eC (.str "item")) (aCons (eBin dAt (eVar 1) (eC (.int 0))) (aCons (eTup (aCons (eC (.str "name")) (aCons (eVar 3) aNil))) aNil)))))
  (sSeq (sSet 6 (eSl dSl (eBin dAt (eBin dAt (eVar 2) (eUn dNeg (eC (.int 2)))) (eC (.int 2))) oNone (oSome (eUn dNeg (eC (.int 1))))))
  (sSeq (sIf (bOr (bNot (bTru (eCall 0 T.is_straight (aCons (eVar 6) (aCons (eVar 4) (aCons (eVar 5) aNil)))))) (bNot (bTru (eCall 0 T.is_straight (aCons (eSl dSl (eVar 2) oNone (oSome (eUn dNeg (eC (.int 2))))) (aCons (eVar 4) (aCons (eC .non) aNil))))))) (sRet (eC .non)) sSkip)
  (sSeq (sIf (bTru (eCB gAny (aCons (eLc (srcSeq (eSl dSl (eVar 2) oNone (oSome (eUn dNeg (eC (.int 2)))))) (tNm 7) bYes (eBin dNe (eBin dAt (eVar 7) (eC (.int 0))) (eC (.str "set"))) [7]) aNil))) (sRet (eC .non)) sSkip)
  (sSeq (sIf (bNot (bTru (eCB gAll (aCons (eLc (srcSeq (eBin dAt (eBin dAt (eVar 2) (eUn dNeg (eC (.int 1)))) (eC (.int 1)))) (tNm 8) bYes (eCall 0 T.is_sum (aCons (eVar 8) (aCons (eVar 4) (aCons (eC .non) aNil)))) [8]) aNil)))) (sRet (eC .non)) sSkip)
  (sRet (eMake "Loop" T.Loop_init (aCons (eVar 0) (aCons (eVar 3) (aCons (eSl dSl (eVar 2) oNone (oSome (eUn dNeg (eC (.int 2))))) (aCons (eVar 6) (aCons (eBin dAt (eVar 2) (eUn dNeg (eC (.int 1)))) aNil)))))))))))))))))))
def fn_parts_of (T : Tab) : Fn := fnBody 9 0 (b_parts_of T)
def b_check_name (T : Tab) : Xs := (xIf (bVal (eBin dNotIn (eVar 1) (eLc (srcSeq (eVar 0)) (tNm 2) bYes (eBin dAt (eVar 2) (eC (.int 0))) [2]))) (xRaise "UnknownName" "name" (eVar 1)) xSkip)
def fn_check_name (T : Tab) : Fn := fnX 3 0 (b_check_name T)
def b_loop_of (T : Tab) : Xs := (xSeq (xDrop (xCall 0 T.check_name (aCons (eVar 0) (aCons (eVar 1) aNil))))
  (xSeq (xOf (sSet 2 (eCall 0 T.parts_of (aCons (eCall 0 T.proc_named (aCons (eVar 0) (aCons (eVar 1) aNil))) aNil))))
  (xSeq (xIf (bVal (eBin dIs (eVar 2) (eC .non))) (xRaise "BadLoop" "name" (eVar 1)) xSkip)
  (xOf (sRet (eVar 2))))))
def fn_loop_of (T : Tab) : Fn := fnX 3 0 (b_loop_of T)
def b_carried_of (T : Tab) : Xs := (xRet (xFld ["Loop"] "carried" (xCall 0 T.loop_of (aCons (eVar 0) (aCons (eVar 1) aNil)))))
def fn_carried_of (T : Tab) : Fn := fnX 2 0 (b_carried_of T)
def b_f_law_start (T : Tab) : Sx := (sRetL (aCons (eCB gList (aCons (eVar 0) aNil)) (aCons (eC (.int 0)) (aCons (eC (.int 0)) (aCons (eC (.int 0)) aNil)))))
def fn_f_law_start (T : Tab) : Fn := fnBodyO 1 0 (b_f_law_start T)
def b_f_law_draw (T : Tab) : Sx := (sSeq (sStore (eVar 0) (eC (.int 3)) (eBin dAdd (eBin dAt (eVar 0) (eC (.int 3))) (eC (.int 1))))
  (sSeq (sIf (bVal (eBin dGt (eBin dAt (eVar 0) (eC (.int 2))) (eC (.int 0)))) (sSeq (sSet 4 (eBin dMod (eCB gInt (aCons (eBin dAt (eVar 0) (eC (.int 2))) aNil)) (eVar 1)))
  (sSeq (sStore (eVar 0) (eC (.int 2)) (eBin dFdv (eBin dAt (eVar 0) (eC (.int 2))) (eVar 1)))
  (sRet (eVar 4)))) sSkip)
  (sSeq (sSet 2 (eC (.int 0)))
  (sSeq (sIf (bVal (eBin dGt (eCB gLen (aCons (eBin dAt (eVar 0) (eC (.int 0))) aNil)) (eC (.int 0)))) (sSet 2 (eCB gAbs (aCons (eBin dAt (eBin dAt (eVar 0) (eC (.int 0))) (eBin dMod (eCB gInt (aCons (eBin dAt (eVar 0) (eC (.int 1))) aNil)) (eCB gLen (aCons (eBin dAt (eVar 0) (eC (.int 0))) aNil)))) aNil))) sSkip)
  (sSeq (sStore (eVar 0) (eC (.int 1)) (eBin dAdd (eBin dAt (eVar 0) (eC (.int 1))) (eC (.int 1))))
  (sSeq (sIf (bVal (eBin dGe (eVar 2) (eBin dPow (eC (.int 10)) (eC (.int 18))))) (sSeq (sStore (eVar 0) (eC (.int 2)) (eBin dFdv (eVar 2) (eVar 1)))
  (sRet (eBin dMod (eCB gInt (aCons (eVar 2) aNil)) (eVar 1)))) sSkip)
  (sSeq (sSet 3 (eBin dMod (eCB gInt (aCons (eBin dAdd (eBin dMul (eBin dAdd (eVar 2) (eC (.int 1))) (eC (.int 48271))) (eBin dMul (eBin dAt (eVar 0) (eC (.int 3))) (eC (.int 69621)))) aNil)) (eC (.int 2147483647))))
  (sSeq (sSet 3 (eBin dMod (eCB gInt (aCons (eBin dAdd (eBin dAdd (eBin dMul (eVar 3) (eC (.int 16807))) (eBin dFdv (eVar 2) (eC (.int 97)))) (eBin dAt (eVar 0) (eC (.int 3)))) aNil)) (eC (.int 2147483629))))
  (sRet (eBin dMod (eBin dFdv (eVar 3) (eC (.int 11))) (eVar 1)))))))))))
def fn_f_law_draw (T : Tab) : Fn := fnBody 5 1 (b_f_law_draw T)
def b_f_law_one_of (T : Tab) : Sx := (sRet (eBin dAt (eVar 1) (eCall 1 T.f_law_draw (aCons (eVar 0) (aCons (eCB gLen (aCons (eVar 1) aNil)) aNil)))))
def fn_f_law_one_of (T : Tab) : Fn := fnBody 2 1 (b_f_law_one_of T)
def b_f_law_shuffled (T : Tab) : Sx := (sSeq (sNewL 2 aNil)
  (sSeq (sFor (srcSeq (eVar 1)) (tNm 3) (sDrop (eMutL gIns (eVar 2) (aCons (eCall 1 T.f_law_draw (aCons (eVar 0) (aCons (eBin dAdd (eCB gLen (aCons (eVar 2) aNil)) (eC (.int 1))) aNil))) (aCons (eVar 3) aNil)))))
  (sRet (eVar 2))))
def fn_f_law_shuffled (T : Tab) : Fn := fnBody 4 1 (b_f_law_shuffled T)
def b_f_law_words (T : Tab) : Sx := (sSeq (sSet 2 (eC (.str "abcdefghijklmnopqrstuvwxyz")))
  (sSeq (sSet 3 (eCall 1 T.f_law_draw (aCons (eVar 0) (aCons (eC (.int 26)) aNil))))
  (sSeq (sSet 4 (eBin dAdd (eC (.int 1)) (eBin dMul (eC (.int 2)) (eCall 1 T.f_law_draw (aCons (eVar 0) (aCons (eC (.int 6)) aNil))))))
  (sSeq (sSet 5 (eSl dSl (eC (.str "qxz")) oNone (oSome (eCall 1 T.f_law_draw (aCons (eVar 0) (aCons (eC (.int 4)) aNil))))))
  (sSeq (sIf (bVal (eBin dEq (eCall 1 T.f_law_draw (aCons (eVar 0) (aCons (eC (.int 2)) aNil))) (eC (.int 0)))) (sRet (eLc (srcRg srcR1 (aCons (eVar 1) aNil)) (tNm 6) bYes (eBin dAdd (eVar 5) (eBin dAt (eVar 2) (eBin dMod (eCB gInt (aCons (eBin dAdd (eVar 3) (eBin dMul (eVar 6) (eVar 4))) aNil)) (eC (.int 26))))) [6])) sSkip)
  (sRet (eLc (srcRg srcR1 (aCons (eVar 1) aNil)) (tNm 6) bYes (eBin dAdd (eBin dAt (eVar 2) (eBin dMod (eCB gInt (aCons (eBin dAdd (eVar 3) (eBin dMul (eVar 6) (eVar 4))) aNil)) (eC (.int 26)))) (eVar 5)) [6])))))))
def fn_f_law_words (T : Tab) : Fn := fnBody 7 1 (b_f_law_words T)
def b_f_law_is_int (T : Tab) : Sx := (sRet (eAnd (eIsi .int (eVar 0)) (eNot (eIsi .bool (eVar 0)))))
def fn_f_law_is_int (T : Tab) : Fn := fnBody 1 0 (b_f_law_is_int T)
def b_f_law_same (T : Tab) : Sx := (sSeq (sIf (bTru (eIsi .tuple (eVar 1))) (sSeq (sIf (bOr (bNot (bTru (eIsi .tuple (eVar 0)))) (bVal (eBin dNe (eCB gLen (aCons (eVar 0) aNil)) (eCB gLen (aCons (eVar 1) aNil))))) (sRet (eC (.bl false))) sSkip)
  (sRet (eCB gAll (aCons (eLc (srcRg srcR1 (aCons (eCB gLen (aCons (eVar 1) aNil)) aNil)) (tNm 2) bYes (eCall 0 T.f_law_same (aCons (eBin dAt (eVar 0) (eVar 2)) (aCons (eBin dAt (eVar 1) (eVar 2)) aNil))) [2]) aNil)))) sSkip)
  (sSeq (sIf (bTru (eIsi .str (eVar 1))) (sRet (eAnd (eIsi .str (eVar 0)) (eBin dEq (eVar 0) (eVar 1)))) sSkip)
  (sRet (eAnd (eCall 0 T.f_law_is_int (aCons (eVar 0) aNil)) (eBin dEq (eVar 0) (eVar 1))))))
def fn_f_law_same (T : Tab) : Fn := fnBody 3 0 (b_f_law_same T)
def b_f_law_loop_words (T : Tab) : Sx := (sSeq (sSet 3 (eCall 1 T.f_law_words (aCons (eVar 0) (aCons (eBin dAdd (eBin dAdd (eC (.int 2)) (eVar 1)) (eVar 2)) aNil))))
  (sSeq (sNewD 4 (pCons (eC (.str "a")) (eBin dAt (eVar 3) (eC (.int 0))) (pCons (eC (.str "i")) (eBin dAt (eVar 3) (eC (.int 1))) (pCons (eC (.str "starts")) (eSl dSl (eVar 3) (oSome (eC (.int 2))) (oSome (eBin dAdd (eC (.int 2)) (eVar 1)))) (pCons (eC (.str "places")) (eSl dSl (eVar 3) (oSome (eBin dAdd (eC (.int 2)) (eVar 1))) oNone) pNil)))))
  (sSeq (sIf (bAnd (bVal (eBin dGt (eVar 2) (eC (.int 1)))) (bVal (eBin dEq (eCall 1 T.f_law_draw (aCons (eVar 0) (aCons (eC (.int 3)) aNil))) (eC (.int 0))))) (sStore (eVar 4) (eC (.str "places")) (eBin dAdd (eLst (aCons (eBin dAt (eBin dAt (eVar 4) (eC (.str "places"))) (eC (.int 0))) aNil)) (eLc (srcSeq (eSl dSl (eBin dAt (eVar 4) (eC (.str "places"))) (oSome (eC (.int 1))) oNone)) (tNm 5) bYes (eBin dAdd (eC (.str "t_t.")) (eVar 5)) [5]))) sSkip)
  (sSeq (sStore (eVar 4) (eC (.str "carried")) (eBin dAdd (eBin dAt (eVar 4) (eC (.str "starts"))) (eBin dAt (eVar 4) (eC (.str "places")))))
  (sSeq (sStore (eVar 4) (eC (.str "item")) (eTup (aCons (eC (.str "item")) (aCons (eBin dAt (eVar 4) (eC (.str "a"))) (aCons (eTup (aCons (eC (.str "name")) (aCons (eBin dAt (eVar 4) (eC (.str "i"))) aNil))) aNil)))))
  (sRetO (eVar 4)))))))
def fn_f_law_loop_words (T : Tab) : Fn := fnBodyO 6 1 (b_f_law_loop_words T)
def b_f_law_sum_of (T : Tab) : Sx := (sSeq (sSet 4 (eCall 1 T.f_law_draw (aCons (eVar 0) (aCons (eC (.int 9)) aNil))))
  (sSeq (sIf (bAnd (bVal (eBin dLt (eVar 4) (eC (.int 3)))) (bVal (eBin dNe (eVar 2) (eLst aNil)))) (sRet (eTup (aCons (eC (.str "name")) (aCons (eCall 1 T.f_law_one_of (aCons (eVar 0) (aCons (eVar 2) aNil))) aNil)))) sSkip)
  (sSeq (sIf (bOr (bVal (eBin dEq (eVar 4) (eC (.int 3)))) (bVal (eBin dEq (eVar 3) (eC (.int 0))))) (sRet (eTup (aCons (eC (.str "number")) (aCons (eCall 1 T.f_law_draw (aCons (eVar 0) (aCons (eC (.int 5)) aNil))) aNil)))) sSkip)
  (sSeq (sIf (bAnd (bVal (eBin dEq (eVar 4) (eC (.int 4)))) (bTru (eBin dAt (eVar 1) (eC (.str "deep"))))) (sRet (eBin dAt (eVar 1) (eC (.str "item")))) sSkip)
  (sSeq (sIf (bVal (eBin dEq (eVar 4) (eC (.int 5)))) (sRet (eTup (aCons (eC (.str "scale")) (aCons (eBin dAt (eLst (aCons (eUn dNeg (eC (.int 1))) (aCons (eC (.int 2)) (aCons (eC (.int 3)) aNil)))) (eCall 1 T.f_law_draw (aCons (eVar 0) (aCons (eC (.int 3)) aNil)))) (aCons (eCall 2 T.f_law_sum_of (aCons (eVar 0) (aCons (eVar 1) (aCons (eVar 2) (aCons (eBin dSub (eVar 3) (eC (.int 1))) aNil))))) aNil))))) sSkip)
  (sSeq (sSet 5 (eCall 2 T.f_law_sum_of (aCons (eVar 0) (aCons (eVar 1) (aCons (eVar 2) (aCons (eBin dSub (eVar 3) (eC (.int 1))) aNil))))))
  (sRet (eTup (aCons (eBin dAt (eLst (aCons (eC (.str "plus")) (aCons (eC (.str "minus")) aNil))) (eCall 1 T.f_law_draw (aCons (eVar 0) (aCons (eC (.int 2)) aNil)))) (aCons (eVar 5) (aCons (eCall 2 T.f_law_sum_of (aCons (eVar 0) (aCons (eVar 1) (aCons (eVar 2) (aCons (eBin dSub (eVar 3) (eC (.int 1))) aNil))))) aNil)))))))))))
def fn_f_law_sum_of (T : Tab) : Fn := fnBody 6 2 (b_f_law_sum_of T)
def b_f_law_item_sum (T : Tab) : Sx := (sSeq (sSet 2 (eBin dAt (eVar 1) (eC (.str "item"))))
  (sSeq (sNewL 3 (aCons (eVar 2) (aCons (eVar 2) (aCons (eTup (aCons (eC (.str "scale")) (aCons (eBin dAt (eLst (aCons (eUn dNeg (eC (.int 1))) (aCons (eC (.int 2)) (aCons (eC (.int 3)) aNil)))) (eCall 1 T.f_law_draw (aCons (eVar 0) (aCons (eC (.int 3)) aNil)))) (aCons (eVar 2) aNil)))) (aCons (eTup (aCons (eC (.str "plus")) (aCons (eVar 2) (aCons (eTup (aCons (eC (.str "number")) (aCons (eCall 1 T.f_law_draw (aCons (eVar 0) (aCons (eC (.int 4)) aNil))) aNil))) aNil)))) aNil)))))
  (sSeq (sDrop (eMutL gApp (eVar 3) (aCons (eTup (aCons (eC (.str "scale")) (aCons (eUn dNeg (eC (.int 1))) (aCons (eTup (aCons (eC (.str "scale")) (aCons (eC (.int 2)) (aCons (eVar 2) aNil)))) aNil)))) aNil)))
  (sRet (eCall 1 T.f_law_one_of (aCons (eVar 0) (aCons (eBin dAdd (eVar 3) (eLst (aCons (eTup (aCons (eC (.str "minus")) (aCons (eTup (aCons (eC (.str "number")) (aCons (eCall 1 T.f_law_draw (aCons (eVar 0) (aCons (eC (.int 5)) aNil))) aNil))) (aCons (eVar 2) aNil)))) aNil))) aNil)))))))
def fn_f_law_item_sum (T : Tab) : Fn := fnBody 4 2 (b_f_law_item_sum T)
def b_f_law_one_test (T : Tab) : Sx := (sSeq (sSet 3 (eCall 2 T.f_law_item_sum (aCons (eVar 0) (aCons (eVar 1) aNil))))
  (sSeq (sSet 4 (eTup (aCons (eC (.str "number")) (aCons (eCall 1 T.f_law_draw (aCons (eVar 0) (aCons (eC (.int 9)) aNil))) aNil))))
  (sSeq (sIf (bAnd (bNot (bTru (eVar 2))) (bVal (eBin dEq (eCall 1 T.f_law_draw (aCons (eVar 0) (aCons (eC (.int 2)) aNil))) (eC (.int 0))))) (sSet 4 (eTup (aCons (eC (.str "name")) (aCons (eCall 1 T.f_law_one_of (aCons (eVar 0) (aCons (eBin dAt (eVar 1) (eC (.str "carried"))) aNil))) aNil)))) sSkip)
  (sSeq (sIf (bVal (eBin dEq (eCall 1 T.f_law_draw (aCons (eVar 0) (aCons (eC (.int 3)) aNil))) (eC (.int 0)))) (sPar 3 4 (aCons (eVar 4) (aCons (eVar 3) aNil))) sSkip)
  (sRet (eTup (aCons (eBin dAt (eLst (aCons (eC (.str "less")) (aCons (eC (.str "less")) (aCons (eC (.str "same")) aNil)))) (eCall 1 T.f_law_draw (aCons (eVar 0) (aCons (eC (.int 3)) aNil)))) (aCons (eVar 3) (aCons (eVar 4) aNil)))))))))
def fn_f_law_one_test (T : Tab) : Fn := fnBody 5 2 (b_f_law_one_test T)
def b_f_law_loop_test (T : Tab) : Sx := (sSeq (sSet 3 (eCall 2 T.f_law_one_test (aCons (eVar 0) (aCons (eVar 1) (aCons (eVar 2) aNil)))))
  (sSeq (sSet 4 (eCall 1 T.f_law_draw (aCons (eVar 0) (aCons (eC (.int 6)) aNil))))
  (sSeq (sIf (bVal (eBin dEq (eVar 4) (eC (.int 0)))) (sRet (eTup (aCons (eC (.str "not")) (aCons (eVar 3) aNil)))) sSkip)
  (sSeq (sIf (bVal (eBin dEq (eVar 4) (eC (.int 1)))) (sRet (eTup (aCons (eBin dAt (eLst (aCons (eC (.str "and")) (aCons (eC (.str "or")) aNil))) (eCall 1 T.f_law_draw (aCons (eVar 0) (aCons (eC (.int 2)) aNil)))) (aCons (eVar 3) (aCons (eCall 2 T.f_law_one_test (aCons (eVar 0) (aCons (eVar 1) (aCons (eVar 2) aNil)))) aNil))))) sSkip)
  (sRet (eVar 3))))))
def fn_f_law_loop_test (T : Tab) : Fn := fnBody 5 2 (b_f_law_loop_test T)
def b_f_law_loop_sets (T : Tab) : Sx := (sSeq (sNewL 3 aNil)
  (sSeq (sFor (srcRg srcR1 (aCons (eVar 2) aNil)) (tNm 4) (sSeq (sIf (bVal (eBin dEq (eCall 1 T.f_law_draw (aCons (eVar 0) (aCons (eC (.int 5)) aNil))) (eC (.int 0)))) (sDrop (eMutL gApp (eVar 3) (aCons (eTup (aCons (eC (.str "pause")) aNil)) aNil))) sSkip)
  (sSeq (sSet 5 (eCall 1 T.f_law_one_of (aCons (eVar 0) (aCons (eBin dAt (eVar 1) (eC (.str "carried"))) aNil))))
  (sDrop (eMutL gApp (eVar 3) (aCons (eTup (aCons (eC (.str "set")) (aCons (eTup (aCons (eTup (aCons (eVar 5) (aCons (eCall 2 T.f_law_sum_of (aCons (eVar 0) (aCons (eVar 1) (aCons (eBin dAt (eVar 1) (eC (.str "carried"))) (aCons (eC (.int 2)) aNil))))) aNil))) aNil)) aNil))) aNil))))))
  (sRet (eCB gTuple (aCons (eVar 3) aNil)))))
def fn_f_law_loop_sets (T : Tab) : Fn := fnBody 6 2 (b_f_law_loop_sets T)
def b_f_law_loop_block (T : Tab) : Sx := (sSeq (sStore (eVar 1) (eC (.str "deep")) (eC (.bl true)))
  (sSeq (sSet 3 (eCall 2 T.f_law_loop_sets (aCons (eVar 0) (aCons (eVar 1) (aCons (eCall 1 T.f_law_draw (aCons (eVar 0) (aCons (eC (.int 2)) aNil))) aNil)))))
  (sSeq (sFor (srcRg srcR1 (aCons (eBin dAdd (eC (.int 1)) (eCall 1 T.f_law_draw (aCons (eVar 0) (aCons (eC (.int 2)) aNil)))) aNil)) (tNm 4) (sSeq (sSet 5 (eCall 2 T.f_law_loop_test (aCons (eVar 0) (aCons (eVar 1) (aCons (eVar 2) aNil)))))
  (sSeq (sSet 6 (eCall 2 T.f_law_loop_sets (aCons (eVar 0) (aCons (eVar 1) (aCons (eBin dAdd (eC (.int 1)) (eCall 1 T.f_law_draw (aCons (eVar 0) (aCons (eC (.int 2)) aNil)))) aNil)))))
  (sSeq (sIf (bVal (eBin dEq (eCall 1 T.f_law_draw (aCons (eVar 0) (aCons (eC (.int 4)) aNil))) (eC (.int 0)))) (sSet 6 (eBin dAdd (eVar 6) (eTup (aCons (eTup (aCons (eC (.str "if")) (aCons (eCall 2 T.f_law_loop_test (aCons (eVar 0) (aCons (eVar 1) (aCons (eVar 2) aNil)))) (aCons (eCall 2 T.f_law_loop_sets (aCons (eVar 0) (aCons (eVar 1) (aCons (eC (.int 1)) aNil)))) (aCons (eTup aNil) aNil))))) aNil)))) sSkip)
  (sSet 3 (eBin dAdd (eVar 3) (eTup (aCons (eTup (aCons (eC (.str "if")) (aCons (eVar 5) (aCons (eVar 6) (aCons (eCall 2 T.f_law_loop_sets (aCons (eVar 0) (aCons (eVar 1) (aCons (eCall 1 T.f_law_draw (aCons (eVar 0) (aCons (eC (.int 2)) aNil))) aNil)))) aNil))))) aNil))))))))
  (sSeq (sIf (bVal (eBin dEq (eCall 1 T.f_law_draw (aCons (eVar 0) (aCons (eC (.int 2)) aNil))) (eC (.int 0)))) (sSet 3 (eBin dAdd (eVar 3) (eCall 2 T.f_law_loop_sets (aCons (eVar 0) (aCons (eVar 1) (aCons (eC (.int 1)) aNil)))))) sSkip)
  (sRet (eVar 3))))))
def fn_f_law_loop_block (T : Tab) : Fn := fnBody 7 2 (b_f_law_loop_block T)
def b_f_law_loop_with (T : Tab) : Sx := (sSeq (sCallO 6 1 T.f_law_loop_words (aCons (eVar 0) (aCons (eVar 4) (aCons (eVar 5) aNil))))
  (sSeq (sIf (bAnd (bVal (eBin dEq (eVar 3) (eC (.str "all")))) (bVal (eBin dGt (eVar 5) (eC (.int 1))))) (sSeq (sStore (eVar 6) (eC (.str "places")) (eLc (srcSeq (eBin dAt (eVar 6) (eC (.str "places")))) (tNm 17) bYes (eCatR "t_t." "t_t." "" (eVar 17)) [17]))
  (sStore (eVar 6) (eC (.str "carried")) (eBin dAdd (eBin dAt (eVar 6) (eC (.str "starts"))) (eBin dAt (eVar 6) (eC (.str "places")))))) sSkip)
  (sSeq (sStore (eVar 6) (eC (.str "deep")) (eC (.bl false)))
  (sSeq (sSet 7 (eCall 2 T.f_law_loop_sets (aCons (eVar 0) (aCons (eVar 6) (aCons (eCall 1 T.f_law_draw (aCons (eVar 0) (aCons (eC (.int 3)) aNil))) aNil)))))
  (sSeq (sSet 8 (eCall 2 T.f_law_loop_block (aCons (eVar 0) (aCons (eVar 6) (aCons (eVar 2) aNil)))))
  (sSeq (sStore (eVar 6) (eC (.str "deep")) (eC (.bl false)))
  (sSeq (sSet 9 (eTup (aCons (eC (.str "set")) (aCons (eTup (aCons (eTup (aCons (eBin dAt (eVar 6) (eC (.str "i"))) (aCons (eTup (aCons (eC (.str "plus")) (aCons (eTup (aCons (eC (.str "name")) (aCons (eBin dAt (eVar 6) (eC (.str "i"))) aNil))) (aCons (eTup (aCons (eC (.str "number")) (aCons (eC (.int 1)) aNil))) aNil)))) aNil))) aNil)) aNil))))
  (sSeq (sSet 10 (eSl dSl (eTup (aCons (eTup (aCons (eC (.str "pause")) aNil)) aNil)) oNone (oSome (eCall 1 T.f_law_draw (aCons (eVar 0) (aCons (eC (.int 2)) aNil))))))
  (sSeq (sSet 11 (eTup (aCons (eC (.str "while")) (aCons (eTup (aCons (eC (.str "less")) (aCons (eTup (aCons (eC (.str "name")) (aCons (eBin dAt (eVar 6) (eC (.str "i"))) aNil))) (aCons (eTup (aCons (eC (.str "length")) (aCons (eBin dAt (eVar 6) (eC (.str "a"))) aNil))) aNil)))) (aCons (eBin dAdd (eBin dAdd (eVar 8) (eTup (aCons (eVar 9) aNil))) (eVar 10)) aNil)))))
  (sSeq (sSet 12 (eCall 1 T.f_law_shuffled (aCons (eVar 0) (aCons (eBin dAdd (eLst (aCons (eTup (aCons (eC (.str "array")) (aCons (eBin dAt (eVar 6) (eC (.str "a"))) aNil))) aNil)) (eLc (srcSeq (eBin dAt (eVar 6) (eC (.str "starts")))) (tNm 17) bYes (eTup (aCons (eC (.str "int")) (aCons (eVar 17) aNil))) [17])) aNil))))
  (sSeq (sStore (eVar 6) (eC (.str "starts")) (eLc (srcSeq (eVar 12)) (tTp 2 (tsCons (tNm 18) (tsCons (tNm 17) tsNil))) (bVal (eBin dEq (eVar 18) (eC (.str "int")))) (eVar 17) [18, 17]))
  (sSeq (sStore (eVar 6) (eC (.str "carried")) (eBin dAdd (eBin dAt (eVar 6) (eC (.str "starts"))) (eBin dAt (eVar 6) (eC (.str "places")))))
  (sSeq (sSet 13 (eTup (aCons (eC (.str "result")) aNil)))
  (sSeq (sSet 14 (eTup (aCons (eC (.str "give")) (aCons (eTup (aCons (eCall 2 T.f_law_sum_of (aCons (eVar 0) (aCons (eVar 6) (aCons (eBin dAt (eVar 6) (eC (.str "carried"))) (aCons (eC (.int 2)) aNil))))) aNil)) aNil))))
  (sSeq (sIf (bAnd (bVal (eBin dEq (eVar 3) (eC (.str "all")))) (bVal (eBin dGt (eCB gLen (aCons (eBin dAt (eVar 6) (eC (.str "places"))) aNil)) (eC (.int 1))))) (sSeq (sSet 13 (eCB gTuple (aCons (eLc (srcSeq (eBin dAt (eVar 6) (eC (.str "places")))) (tNm 17) bYes (eBin dAdd (eC (.str "result.")) (eSl dSl (eVar 17) (oSome (eC (.int 4))) oNone)) [17]) aNil)))
  (sSet 14 (eTup (aCons (eC (.str "give")) (aCons (eCB gTuple (aCons (eLc (srcSeq (eBin dAt (eVar 6) (eC (.str "places")))) (tNm 17) bYes (eTup (aCons (eC (.str "name")) (aCons (eVar 17) aNil))) [17]) aNil)) aNil))))) sSkip)
  (sSeq (sSet 5 (eLc (srcSeq (eBin dAt (eVar 6) (eC (.str "places")))) (tNm 17) bYes (eTup (aCons (eC (.str "int")) (aCons (eVar 17) aNil))) [17]))
  (sSeq (sSet 15 (eBin dMul (eCB gLen (aCons (eVar 5) aNil)) (eCall 1 T.f_law_draw (aCons (eVar 0) (aCons (eC (.int 2)) aNil)))))
  (sSeq (sSet 5 (eBin dAdd (eBin dAdd (eSl dSl (eVar 5) oNone (oSome (eVar 15))) (eLst (aCons (eTup (aCons (eC (.str "int")) (aCons (eBin dAt (eVar 6) (eC (.str "i"))) aNil))) aNil))) (eSl dSl (eVar 5) (oSome (eVar 15)) oNone)))
  (sSeq (sStore (eVar 6) (eC (.str "head")) (eVar 7))
  (sSeq (sStore (eVar 6) (eC (.str "block")) (eVar 8))
  (sSeq (sStore (eVar 6) (eC (.str "give")) (eVar 14))
  (sSeq (sSet 16 (eBin dAdd (eBin dAdd (eBin dAdd (eVar 7) (eTup (aCons (eVar 11) aNil))) (eSl dSl (eTup (aCons (eTup (aCons (eC (.str "pause")) aNil)) aNil)) oNone (oSome (eCall 1 T.f_law_draw (aCons (eVar 0) (aCons (eC (.int 2)) aNil)))))) (eTup (aCons (eVar 14) aNil))))
  (sSeq (sStore (eVar 6) (eC (.str "proc")) (eTup (aCons (eVar 1) (aCons (eCB gTuple (aCons (eVar 12) aNil)) (aCons (eVar 13) (aCons (eCB gTuple (aCons (eVar 5) aNil)) (aCons (eTup aNil) (aCons (eTup aNil) (aCons (eTup aNil) (aCons (eTup aNil) (aCons (eVar 16) aNil)))))))))))
  (sRet (eVar 6)))))))))))))))))))))))))
def fn_f_law_loop_with (T : Tab) : Fn := fnBody 19 1 (b_f_law_loop_with T)
def b_f_law_loop_proc (T : Tab) : Sx := (sSeq (sSet 4 (eCall 1 T.f_law_draw (aCons (eVar 0) (aCons (eC (.int 3)) aNil))))
  (sRet (eCall 1 T.f_law_loop_with (aCons (eVar 0) (aCons (eVar 1) (aCons (eVar 2) (aCons (eVar 3) (aCons (eVar 4) (aCons (eBin dAdd (eC (.int 1)) (eCall 1 T.f_law_draw (aCons (eVar 0) (aCons (eC (.int 2)) aNil)))) aNil)))))))))
def fn_f_law_loop_proc (T : Tab) : Fn := fnBody 5 1 (b_f_law_loop_proc T)
def b_f_law_refused (T : Tab) : Sx := (sSeq (sTryM (xDrop (xCall 0 T.carried_of (aCons (eVar 0) (aCons (eVar 1) aNil)))) [(tabB [("BadLoop", true), ("UnknownName", false)], 2, fun cn fs => sRet (eTup (aCons (eC (.str "loop")) (aCons (eExc fs "name") (aCons (eAnd (eBl (isB [("BadLoop", true)] cn)) (eNot (eBl (isB [("BadLoop", false)] cn)))) aNil))))), (tabB [("UnknownName", true)], 2, fun cn fs => sRet (eTup (aCons (eC (.str "name")) (aCons (eExc fs "name") (aCons (eAnd (eBl (isB [("UnknownName", true)] cn)) (eNot (eBl (isB [("UnknownName", false)] cn)))) aNil)))))])
  (sRet (eTup (aCons (eC (.str "let")) (aCons (eC (.str "")) (aCons (eC (.bl false)) aNil))))))
def fn_f_law_refused (T : Tab) : Fn := fnBody 3 0 (b_f_law_refused T)
def b_law (T : Tab) : Sx := (sSeq (sCallO 1 0 T.f_law_start (aCons (eVar 0) aNil))
  (sSeq (sSet 2 (eCB (gElse gSorted (gElse gSortR gSortS)) (aCons (eCall 1 T.f_law_words (aCons (eVar 1) (aCons (eC (.int 3)) aNil))) aNil)))
  (sSeq (sNewL 3 aNil)
  (sSeq (sNewL 4 aNil)
  (sSeq (sFor (srcSeq (eVar 2)) (tNm 5) (sSeq (sSet 7 (eCall 1 T.f_law_loop_proc (aCons (eVar 1) (aCons (eVar 5) (aCons (eBin dEq (eCall 1 T.f_law_draw (aCons (eVar 1) (aCons (eC (.int 2)) aNil))) (eC (.int 0))) (aCons (eBin dAt (eLst (aCons (eC (.str "one")) (aCons (eC (.str "all")) aNil))) (eCall 1 T.f_law_draw (aCons (eVar 1) (aCons (eC (.int 2)) aNil)))) aNil))))))
  (sSeq (sSet 8 (eBin dAt (eVar 7) (eC (.str "proc"))))
  (sSeq (sIf (bVal (eBin dEq (eCall 1 T.f_law_draw (aCons (eVar 1) (aCons (eC (.int 4)) aNil))) (eC (.int 0)))) (sSeq (sSet 8 (eBin dAdd (eSl dSl (eVar 8) oNone (oSome (eC (.int 8)))) (eTup (aCons (eBin dAdd (eSl dSl (eBin dAt (eVar 8) (eC (.int 8))) oNone (oSome (eUn dNeg (eC (.int 1))))) (eTup (aCons (eTup (aCons (eC (.str "pause")) aNil)) (aCons (eTup (aCons (eC (.str "push")) (aCons (eTup (aCons (eC (.str "number")) (aCons (eC (.int 1)) aNil))) (aCons (eBin dAt (eVar 7) (eC (.str "a"))) aNil)))) aNil)))) aNil))))
  (sDrop (eMutL gApp (eVar 4) (aCons (eTup (aCons (eC (.str "loop")) (aCons (eVar 5) (aCons (eC (.bl true)) aNil)))) aNil)))) (sDrop (eMutL gApp (eVar 4) (aCons (eCB gTuple (aCons (eBin dAt (eVar 7) (eC (.str "carried"))) aNil)) aNil))))
  (sDrop (eMutL gApp (eVar 3) (aCons (eVar 8) aNil)))))))
  (sSeq (sSet 3 (eCB gTuple (aCons (eVar 3) aNil)))
  (sSeq (sFor (srcRg srcR1 (aCons (eC (.int 3)) aNil)) (tNm 6) (sIf (bAnd (bVal (eBin dEq (eSl dSl (eBin dAt (eVar 4) (eVar 6)) oNone (oSome (eC (.int 1)))) (eTup (aCons (eC (.str "loop")) aNil)))) (bAnd (bVal (eBin dEq (eCB gLen (aCons (eBin dAt (eVar 4) (eVar 6)) aNil)) (eC (.int 3)))) (bVal (eBin dIs (eBin dAt (eBin dAt (eVar 4) (eVar 6)) (eC (.int 2))) (eC (.bl true)))))) (sIf (bVal (eBin dNe (eCall 0 T.f_law_refused (aCons (eVar 3) (aCons (eBin dAt (eVar 2) (eVar 6)) aNil))) (eBin dAt (eVar 4) (eVar 6)))) (sRet (eC (.bl false))) sSkip) (sIf (bNot (bTru (eCall 0 T.f_law_same (aCons (eCall 0 T.carried_of (aCons (eVar 3) (aCons (eBin dAt (eVar 2) (eVar 6)) aNil))) (aCons (eBin dAt (eVar 4) (eVar 6)) aNil))))) (sRet (eC (.bl false))) sSkip)))
  (sSeq (sFor (srcSeq (eLst (aCons (eC (.str "")) (aCons (eBin dAdd (eBin dAt (eVar 2) (eC (.int 0))) (eC (.str "_"))) (aCons (eBin dAdd (eBin dAt (eVar 2) (eC (.int 2))) (eC (.str "0"))) aNil))))) (tNm 5) (sIf (bVal (eBin dNe (eCall 0 T.f_law_refused (aCons (eVar 3) (aCons (eVar 5) aNil))) (eTup (aCons (eC (.str "name")) (aCons (eVar 5) (aCons (eC (.bl true)) aNil)))))) (sRet (eC (.bl false))) sSkip))
  (sRet (eC (.bl true)))))))))))
def fn_law (T : Tab) : Fn := fnBody 9 0 (b_law T)
def mk (T : Tab) : Tab where
  proc_named := fn_proc_named T
  Loop_init := fn_Loop_init T
  without_pauses := fn_without_pauses T
  with_item := fn_with_item T
  is_sum := fn_is_sum T
  is_test := fn_is_test T
  is_straight := fn_is_straight T
  index_of := fn_index_of T
  parts_of := fn_parts_of T
  check_name := fn_check_name T
  loop_of := fn_loop_of T
  carried_of := fn_carried_of T
  f_law_start := fn_f_law_start T
  f_law_draw := fn_f_law_draw T
  f_law_one_of := fn_f_law_one_of T
  f_law_shuffled := fn_f_law_shuffled T
  f_law_words := fn_f_law_words T
  f_law_is_int := fn_f_law_is_int T
  f_law_same := fn_f_law_same T
  f_law_loop_words := fn_f_law_loop_words T
  f_law_sum_of := fn_f_law_sum_of T
  f_law_item_sum := fn_f_law_item_sum T
  f_law_one_test := fn_f_law_one_test T
  f_law_loop_test := fn_f_law_loop_test T
  f_law_loop_sets := fn_f_law_loop_sets T
  f_law_loop_block := fn_f_law_loop_block T
  f_law_loop_with := fn_f_law_loop_with T
  f_law_loop_proc := fn_f_law_loop_proc T
  f_law_refused := fn_f_law_refused T
  law := fn_law T
def tab : Nat → Tab
  | 0 => { proc_named := fun _ => none, Loop_init := fun _ => none, without_pauses := fun _ => none, with_item := fun _ => none, is_sum := fun _ => none, is_test := fun _ => none, is_straight := fun _ => none, index_of := fun _ => none, parts_of := fun _ => none, check_name := fun _ => none, loop_of := fun _ => none, carried_of := fun _ => none, f_law_start := fun _ => none, f_law_draw := fun _ => none, f_law_one_of := fun _ => none, f_law_shuffled := fun _ => none, f_law_words := fun _ => none, f_law_is_int := fun _ => none, f_law_same := fun _ => none, f_law_loop_words := fun _ => none, f_law_sum_of := fun _ => none, f_law_item_sum := fun _ => none, f_law_one_test := fun _ => none, f_law_loop_test := fun _ => none, f_law_loop_sets := fun _ => none, f_law_loop_block := fun _ => none, f_law_loop_with := fun _ => none, f_law_loop_proc := fun _ => none, f_law_refused := fun _ => none, law := fun _ => none }
  | n + 1 => mk (tab n)
/-- what the top leaves, of built-ins, constants, classes, errors -/
structure Fx (P : Program) (K : PySem.W.Frag) (mg : Str → Option Value) : Prop where
  z_abs : mg "abs" = none
  z_all : mg "all" = none
  z_any : mg "any" = none
  z_bool : mg "bool" = none
  z_int : mg "int" = none
  z_isinstance : mg "isinstance" = none
  z_len : mg "len" = none
  z_list : mg "list" = none
  z_range : mg "range" = none
  z_sorted : mg "sorted" = none
  z_str : mg "str" = none
  z_tuple : mg "tuple" = none
  k_ITEM : ∃ u, mg "ITEM" = some u ∧ RelV (V.str "?") u
  c_Loop : ClsAt K mg "Loop" fs_Loop
  e_BadLoop : ErrAt P K mg "BadLoop" "name"
  e_UnknownName : ErrAt P K mg "UnknownName" "name"
  m_BadLoop_BadLoop : MeetAt K mg "BadLoop" "BadLoop" true
  m_UnknownName_BadLoop : MeetAt K mg "UnknownName" "BadLoop" false
  m_UnknownName_UnknownName : MeetAt K mg "UnknownName" "UnknownName" true
  i_BadLoop_CutanywhereError : IsAt K mg "BadLoop" "CutanywhereError" true
  i_BadLoop_UnknownName : IsAt K mg "BadLoop" "UnknownName" false
  i_UnknownName_BadLoop : IsAt K mg "UnknownName" "BadLoop" false
  i_UnknownName_CutanywhereError : IsAt K mg "UnknownName" "CutanywhereError" true
structure All (P : Program) (w : World) (K : PySem.W.Frag) (mg : Str → Option Value) (base : Heap) (k : Nat) (T : Tab) : Prop where
  proc_named : Cal P w K mg base CX0 k "proc_named" ["core", "name"] (spD K (clOf mg) 2 0 T.proc_named)
  Loop_init : KCal P w K mg base k "Loop" ["self", "proc", "index", "head", "block", "give"] (spD K (clOf mg) 6 1 T.Loop_init)
  without_pauses : Cal P w K mg base CX0 k "without_pauses" ["body"] (spD K (clOf mg) 1 0 T.without_pauses)
  with_item : Cal P w K mg base CX0 k "with_item" ["part"] (spD K (clOf mg) 1 0 T.with_item)
  is_sum : Cal P w K mg base CX0 k "is_sum" ["expression", "names", "item"] (spD K (clOf mg) 3 0 T.is_sum)
  is_test : Cal P w K mg base CX0 k "is_test" ["condition", "names", "item"] (spD K (clOf mg) 3 0 T.is_test)
  is_straight : Cal P w K mg base CX0 k "is_straight" ["body", "names", "item"] (spD K (clOf mg) 3 0 T.is_straight)
  index_of : Cal P w K mg base CX0 k "index_of" ["loop", "row", "proc"] (spD K (clOf mg) 3 0 T.index_of)
  parts_of : Cal P w K mg base CX0 k "parts_of" ["proc"] (spD K (clOf mg) 1 0 T.parts_of)
  check_name : Cal P w K mg base (L2.CX P w) k "check_name" ["core", "name"] (spX K (clOf mg) 2 0 T.check_name)
  loop_of : Cal P w K mg base (L2.CX P w) k "loop_of" ["core", "name"] (spX K (clOf mg) 2 0 T.loop_of)
  carried_of : Cal P w K mg base (L2.CX P w) k "carried_of" ["core", "name"] (spX K (clOf mg) 2 0 T.carried_of)
  f_law_start : Cal P w K mg base CX0 k "_law_start" ["script"] (spO K (clOf mg) 1 0 T.f_law_start)
  f_law_draw : Cal P w K mg base CX0 k "_law_draw" ["state", "most"] (spD K (clOf mg) 2 1 T.f_law_draw)
  f_law_one_of : Cal P w K mg base CX0 k "_law_one_of" ["state", "items"] (spD K (clOf mg) 2 1 T.f_law_one_of)
  f_law_shuffled : Cal P w K mg base CX0 k "_law_shuffled" ["state", "items"] (spD K (clOf mg) 2 1 T.f_law_shuffled)
  f_law_words : Cal P w K mg base CX0 k "_law_words" ["state", "many"] (spD K (clOf mg) 2 1 T.f_law_words)
  f_law_is_int : Cal P w K mg base CX0 k "_law_is_int" ["x"] (spD K (clOf mg) 1 0 T.f_law_is_int)
  f_law_same : Cal P w K mg base CX0 k "_law_same" ["x", "y"] (spD K (clOf mg) 2 0 T.f_law_same)
  f_law_loop_words : Cal P w K mg base CX0 k "_law_loop_words" ["state", "starts", "places"] (spO K (clOf mg) 3 1 T.f_law_loop_words)
  f_law_sum_of : Cal P w K mg base CX0 k "_law_sum_of" ["state", "w", "names", "depth"] (spD K (clOf mg) 4 2 T.f_law_sum_of)
  f_law_item_sum : Cal P w K mg base CX0 k "_law_item_sum" ["state", "w"] (spD K (clOf mg) 2 2 T.f_law_item_sum)
  f_law_one_test : Cal P w K mg base CX0 k "_law_one_test" ["state", "w", "plain"] (spD K (clOf mg) 3 2 T.f_law_one_test)
  f_law_loop_test : Cal P w K mg base CX0 k "_law_loop_test" ["state", "w", "plain"] (spD K (clOf mg) 3 2 T.f_law_loop_test)
  f_law_loop_sets : Cal P w K mg base CX0 k "_law_loop_sets" ["state", "w", "many"] (spD K (clOf mg) 3 2 T.f_law_loop_sets)
  f_law_loop_block : Cal P w K mg base CX0 k "_law_loop_block" ["state", "w", "plain"] (spD K (clOf mg) 3 2 T.f_law_loop_block)
  f_law_loop_with : Cal P w K mg base CX0 k "_law_loop_with" ["state", "name", "plain", "gives", "starts", "places"] (spD K (clOf mg) 6 1 T.f_law_loop_with)
  f_law_loop_proc : Cal P w K mg base CX0 k "_law_loop_proc" ["state", "name", "plain", "gives"] (spD K (clOf mg) 4 1 T.f_law_loop_proc)
  f_law_refused : Cal P w K mg base CX0 k "_law_refused" ["core", "name"] (spD K (clOf mg) 2 0 T.f_law_refused)
  law : Cal P w K mg base CX0 k "law" ["script"] (spD K (clOf mg) 1 0 T.law)
section
variable {P : Program} {w : World} {K : PySem.W.Frag} {mg : Str → Option Value} {base : Heap} {k : Nat} {T : Tab} {f : Addr} {fd : FuncData}
theorem sc_proc_named : FnScope ["core", "name", "proc"] ["core", "name"] (defScope s_proc_named) := ⟨rfl, rfl, rfl, by decide +kernel, rfl, by decide +kernel, by decide +kernel⟩
theorem ok_proc_named (M : Fx P K mg) (A : All P w K mg base k T) (F : Fun K "proc_named" "proc_named" s_proc_named f fd) : FnOk P w K mg base CX0 (k + 2) f fd ["core", "name"] (spD K (clOf mg) 2 0 (fn_proc_named T)) :=
  fn_ok (k := k + 1) F sc_proc_named (by decide) fun cdv A' outer s H E hr => by
    have nd := sc_proc_named.nd
    have hk := hr.mono (Nat.le_succ k)
    exact (b_one (st_ret (d_at (hu64 hr) (d_lc rfl nd (i_seq (d_var 0)) (blkOk_by (own := [("proc", 2)]) (by kernel_rfl)) (g := (gName 2)) g_nm (fun _ _ _ _ _ => (pg_name (i := 2) nd rfl (by first | exact Or.inl rfl | exact Or.inr rfl))) (fun _ _ _ _ _ => (ts_one (t_cmp (o_eq (hu64 hr)) (d_at (hu64 hr) (d_var 2) d_int) (d_var 1) (nomark _)))) (fun _ _ _ _ _ => (d_var 2))) d_int)))
theorem sc_Loop_init : FnScope ["self", "proc", "index", "head", "block", "give", "item"] ["self", "proc", "index", "head", "block", "give"] (defScope s_Loop_init) := ⟨rfl, rfl, rfl, by decide +kernel, rfl, by decide +kernel, by decide +kernel⟩
theorem ok_Loop_init (M : Fx P K mg) (A : All P w K mg base k T) (F : Fun K "__init__" "Loop.__init__" s_Loop_init f fd) : FnOk P w K mg base CX0 (k + 2) f fd ["self", "proc", "index", "head", "block", "give"] (spD K (clOf mg) 6 1 (fn_Loop_init T)) :=
  fn_ok (k := k + 1) F sc_Loop_init (by decide) fun cdv A' outer s H E hr => by
    have nd := sc_Loop_init.nd
    have hk := hr.mono (Nat.le_succ k)
    exact (b_cons (st_fld (clsF_cons (fs := fs_Loop) M.c_Loop (by decide +kernel) clsF_nil) (d_var 0) (d_at (hu64 hr) (d_var 1) d_int))
    (b_cons (st_fld (clsF_cons (fs := fs_Loop) M.c_Loop (by decide +kernel) clsF_nil) (d_var 0) (d_callTy c_tuple M.z_tuple (a_cons (d_lc rfl nd (i_seq (d_at (hu64 hr) (d_var 1) d_int)) (blkOk_by (own := [("item", 6)]) (by kernel_rfl)) (g := (gName 6)) g_nm (fun _ _ _ _ _ => (pg_name (i := 6) nd rfl (by first | exact Or.inl rfl | exact Or.inr rfl))) (fun _ _ _ _ _ => (ts_one (t_cmp (o_eq (hu64 hr)) (d_at (hu64 hr) (d_var 6) d_int) d_str (nomark _)))) (fun _ _ _ _ _ => (d_at (hu64 hr) (d_var 6) d_int))) a_nil)))
    (b_cons (st_fld (clsF_cons (fs := fs_Loop) M.c_Loop (by decide +kernel) clsF_nil) (d_var 0) (d_bin o_add (d_fld (clsF_cons (fs := fs_Loop) M.c_Loop (by decide +kernel) clsF_nil) (d_var 0)) (d_callTy c_tuple M.z_tuple (a_cons (d_lc rfl nd (i_seq (d_at (hu64 hr) (d_var 1) d_int)) (blkOk_by (own := [("item", 6)]) (by kernel_rfl)) (g := (gName 6)) g_nm (fun _ _ _ _ _ => (pg_name (i := 6) nd rfl (by first | exact Or.inl rfl | exact Or.inr rfl))) (fun _ _ _ _ _ => (ts_one (t_cmp (o_ne (hu64 hr)) (d_at (hu64 hr) (d_var 6) d_int) (d_var 2) (nomark _)))) (fun _ _ _ _ _ => (d_at (hu64 hr) (d_var 6) d_int))) a_nil))))
    (b_cons (st_fld (clsF_cons (fs := fs_Loop) M.c_Loop (by decide +kernel) clsF_nil) (d_var 0) (d_at (hu64 hr) (d_var 1) d_int))
    (b_cons (st_fld (clsF_cons (fs := fs_Loop) M.c_Loop (by decide +kernel) clsF_nil) (d_var 0) (d_at (hu64 hr) (d_var 1) d_int))
    (b_cons (st_fld (clsF_cons (fs := fs_Loop) M.c_Loop (by decide +kernel) clsF_nil) (d_var 0) (d_var 3))
    (b_cons (st_fld (clsF_cons (fs := fs_Loop) M.c_Loop (by decide +kernel) clsF_nil) (d_var 0) (d_call A.with_item hk pass0 (aCons_len aNil_len) (a_cons (d_var 4) a_nil)))
    (b_one (st_fld (clsF_cons (fs := fs_Loop) M.c_Loop (by decide +kernel) clsF_nil) (d_var 0) (d_at (hu64 hr) (d_var 5) d_int))))))))))
theorem sc_without_pauses : FnScope ["body", "found", "statement", "block"] ["body"] (defScope s_without_pauses) := ⟨rfl, rfl, rfl, by decide +kernel, rfl, by decide +kernel, by decide +kernel⟩
theorem ok_without_pauses (M : Fx P K mg) (A : All P w K mg base k T) (F : Fun K "without_pauses" "without_pauses" s_without_pauses f fd) : FnOk P w K mg base CX0 (k + 2) f fd ["body"] (spD K (clOf mg) 1 0 (fn_without_pauses T)) :=
  fn_ok (k := k + 1) F sc_without_pauses (by decide) fun cdv A' outer s H E hr => by
    have nd := sc_without_pauses.nd
    have hk := hr.mono (Nat.le_succ k)
    exact (b_cons (st_newL 1 nd a_nil)
    (b_cons (st_for PassesOwn.never rfl (i_seq (d_var 0)) (g := (gName 2)) (vs := [2]) (pg_name (i := 2) nd rfl (by first | exact Or.inl rfl | exact Or.inr rfl)) g_nm (b_one (st_if (t_cmp (o_in (hu65 hr)) (d_at (hu64 hr) (d_var 2) d_int) (d_tup (a_cons d_str (a_cons d_str a_nil))) rfl) (b_one (st_expr (d_mutL PySem.F.slot_list_append PySem.F.type_list_append m_app (d_var 1) (a_cons (d_bin o_add (d_sl s_sl (d_var 2) o_none (o_some d_int)) (d_callTy c_tuple M.z_tuple (a_cons (d_lc rfl nd (i_seq (d_sl s_sl (d_var 2) (o_some d_int) o_none)) (blkOk_by (own := [("block", 3)]) (by kernel_rfl)) (g := (gName 3)) g_nm (fun _ _ _ _ _ => (pg_name (i := 3) nd rfl (by first | exact Or.inl rfl | exact Or.inr rfl))) (fun _ _ _ _ _ => ts_nil) (fun _ _ _ _ _ => (d_call A.without_pauses hk pass0 (aCons_len aNil_len) (a_cons (d_var 3) a_nil)))) a_nil))) a_nil)))) (b_one (st_if (t_cmp (o_ne (hu64 hr)) (d_at (hu64 hr) (d_var 2) d_int) d_str (nomark _)) (b_one (st_expr (d_mutL PySem.F.slot_list_append PySem.F.type_list_append m_app (d_var 1) (a_cons (d_var 2) a_nil)))) b_nil)))))
    (b_one (st_ret (d_callTy c_tuple M.z_tuple (a_cons (d_var 1) a_nil))))))
theorem sc_with_item : FnScope ["part", "one"] ["part"] (defScope s_with_item) := ⟨rfl, rfl, rfl, by decide +kernel, rfl, by decide +kernel, by decide +kernel⟩
theorem ok_with_item (M : Fx P K mg) (A : All P w K mg base k T) (F : Fun K "with_item" "with_item" s_with_item f fd) : FnOk P w K mg base CX0 (k + 2) f fd ["part"] (spD K (clOf mg) 1 0 (fn_with_item T)) :=
  fn_ok (k := k + 1) F sc_with_item (by decide) fun cdv A' outer s H E hr => by
    have nd := sc_with_item.nd
    have hk := hr.mono (Nat.le_succ k)
    exact (b_cons (st_if (t_not (t_tru (d_isi .tuple M.z_isinstance M.z_tuple (d_var 0)))) (b_one (st_ret (d_var 0))) b_nil)
    (b_cons (st_if (t_w (w_and (t_cmp (o_eq (hu64 hr)) (d_callB c_len M.z_len (a_cons (d_var 0) a_nil)) d_int (nomark _)) (w_and1 (t_cmp (o_eq (hu64 hr)) (d_at (hu64 hr) (d_var 0) d_int) d_str (nomark _))))) (b_one (st_ret (d_tup (a_cons d_str (a_cons (d_gl M.k_ITEM (fun _ => Rep.str _ (by decide +kernel))) a_nil))))) b_nil)
    (b_one (st_ret (d_callTy c_tuple M.z_tuple (a_cons (d_lc rfl nd (i_seq (d_var 0)) (blkOk_by (own := [("one", 1)]) (by kernel_rfl)) (g := (gName 1)) g_nm (fun _ _ _ _ _ => (pg_name (i := 1) nd rfl (by first | exact Or.inl rfl | exact Or.inr rfl))) (fun _ _ _ _ _ => ts_nil) (fun _ _ _ _ _ => (d_call A.with_item hk pass0 (aCons_len aNil_len) (a_cons (d_var 1) a_nil)))) a_nil))))))
theorem sc_is_sum : FnScope ["expression", "names", "item", "kind", "part"] ["expression", "names", "item"] (defScope s_is_sum) := ⟨rfl, rfl, rfl, by decide +kernel, rfl, by decide +kernel, by decide +kernel⟩
theorem ok_is_sum (M : Fx P K mg) (A : All P w K mg base k T) (F : Fun K "is_sum" "is_sum" s_is_sum f fd) : FnOk P w K mg base CX0 (k + 2) f fd ["expression", "names", "item"] (spD K (clOf mg) 3 0 (fn_is_sum T)) :=
  fn_ok (k := k + 1) F sc_is_sum (by decide) fun cdv A' outer s H E hr => by
    have nd := sc_is_sum.nd
    have hk := hr.mono (Nat.le_succ k)
    exact (b_cons (st_set 3 nd (d_at (hu64 hr) (d_var 0) d_int))
    (b_cons (st_if (t_cmp (o_eq (hu64 hr)) (d_var 3) d_str (nomark _)) (b_one (st_ret d_bl)) b_nil)
    (b_cons (st_if (t_cmp (o_eq (hu64 hr)) (d_var 3) d_str (nomark _)) (b_one (st_ret (d_cmp (o_in (hu65 hr)) (d_at (hu64 hr) (d_var 0) d_int) (d_var 1) rfl))) b_nil)
    (b_cons (st_if (t_cmp (o_eq (hu64 hr)) (d_var 3) d_str (nomark _)) (b_one (st_ret (d_cmp (o_eq (hu64 hr)) (d_var 0) (d_var 2) (nomark _)))) b_nil)
    (b_cons (st_if (t_cmp (o_eq (hu64 hr)) (d_var 3) d_str (nomark _)) (b_one (st_ret (d_call A.is_sum hk pass0 (aCons_len (aCons_len (aCons_len aNil_len))) (a_cons (d_at (hu64 hr) (d_var 0) d_int) (a_cons (d_var 1) (a_cons (d_var 2) a_nil)))))) b_nil)
    (b_one (st_ret (d_and (d_cmp (o_in (hu65 hr)) (d_var 3) (d_tup (a_cons d_str (a_cons d_str a_nil))) rfl) (d_one (d_callB (c_all rfl) M.z_all (a_cons (d_lc rfl nd (i_seq (d_sl s_sl (d_var 0) (o_some d_int) o_none)) (blkOk_by (own := [("part", 4)]) (by kernel_rfl)) (g := (gName 4)) g_nm (fun _ _ _ _ _ => (pg_name (i := 4) nd rfl (by first | exact Or.inl rfl | exact Or.inr rfl))) (fun _ _ _ _ _ => ts_nil) (fun _ _ _ _ _ => (d_call A.is_sum hk pass0 (aCons_len (aCons_len (aCons_len aNil_len))) (a_cons (d_var 4) (a_cons (d_var 1) (a_cons (d_var 2) a_nil)))))) a_nil)))))))))))
theorem sc_is_test : FnScope ["condition", "names", "item", "part"] ["condition", "names", "item"] (defScope s_is_test) := ⟨rfl, rfl, rfl, by decide +kernel, rfl, by decide +kernel, by decide +kernel⟩
theorem ok_is_test (M : Fx P K mg) (A : All P w K mg base k T) (F : Fun K "is_test" "is_test" s_is_test f fd) : FnOk P w K mg base CX0 (k + 2) f fd ["condition", "names", "item"] (spD K (clOf mg) 3 0 (fn_is_test T)) :=
  fn_ok (k := k + 1) F sc_is_test (by decide) fun cdv A' outer s H E hr => by
    have nd := sc_is_test.nd
    have hk := hr.mono (Nat.le_succ k)
    exact (b_cons (st_if (t_cmp (o_in (hu65 hr)) (d_at (hu64 hr) (d_var 0) d_int) (d_tup (a_cons d_str (a_cons d_str a_nil))) rfl) (b_one (st_ret (d_callB (c_all rfl) M.z_all (a_cons (d_lc rfl nd (i_seq (d_sl s_sl (d_var 0) (o_some d_int) o_none)) (blkOk_by (own := [("part", 3)]) (by kernel_rfl)) (g := (gName 3)) g_nm (fun _ _ _ _ _ => (pg_name (i := 3) nd rfl (by first | exact Or.inl rfl | exact Or.inr rfl))) (fun _ _ _ _ _ => ts_nil) (fun _ _ _ _ _ => (d_call A.is_sum hk pass0 (aCons_len (aCons_len (aCons_len aNil_len))) (a_cons (d_var 3) (a_cons (d_var 1) (a_cons (d_var 2) a_nil)))))) a_nil)))) b_nil)
    (b_one (st_ret (d_callB (c_all rfl) M.z_all (a_cons (d_lc rfl nd (i_seq (d_sl s_sl (d_var 0) (o_some d_int) o_none)) (blkOk_by (own := [("part", 3)]) (by kernel_rfl)) (g := (gName 3)) g_nm (fun _ _ _ _ _ => (pg_name (i := 3) nd rfl (by first | exact Or.inl rfl | exact Or.inr rfl))) (fun _ _ _ _ _ => ts_nil) (fun _ _ _ _ _ => (d_call A.is_test hk pass0 (aCons_len (aCons_len (aCons_len aNil_len))) (a_cons (d_var 3) (a_cons (d_var 1) (a_cons (d_var 2) a_nil)))))) a_nil)))))
theorem sc_is_straight : FnScope ["body", "names", "item", "statement", "x", "expression", "block"] ["body", "names", "item"] (defScope s_is_straight) := ⟨rfl, rfl, rfl, by decide +kernel, rfl, by decide +kernel, by decide +kernel⟩
theorem ok_is_straight (M : Fx P K mg) (A : All P w K mg base k T) (F : Fun K "is_straight" "is_straight" s_is_straight f fd) : FnOk P w K mg base CX0 (k + 2) f fd ["body", "names", "item"] (spD K (clOf mg) 3 0 (fn_is_straight T)) :=
  fn_ok (k := k + 1) F sc_is_straight (by decide) fun cdv A' outer s H E hr => by
    have nd := sc_is_straight.nd
    have hk := hr.mono (Nat.le_succ k)
    exact (b_cons (st_for PassesOwn.never rfl (i_seq (d_var 0)) (g := (gName 3)) (vs := [3]) (pg_name (i := 3) nd rfl (by first | exact Or.inl rfl | exact Or.inr rfl)) g_nm (b_one (st_if (t_cmp (o_eq (hu64 hr)) (d_at (hu64 hr) (d_var 3) d_int) d_str (nomark _)) (b_one (st_if (t_not (t_tru (d_callB (c_all rfl) M.z_all (a_cons (d_lc rfl nd (i_seq (d_at (hu64 hr) (d_var 3) d_int)) (blkOk_by (own := [("x", 4), ("expression", 5)]) (by kernel_rfl)) (g := (gTup K 2 (gCons (gName 4) (gCons (gName 5) gNil)))) (g_tp (gs_cons g_nm (gs_cons g_nm gs_nil))) (fun _ _ _ _ _ => (pg_tup rfl (pgs_cons (pg_name (i := 4) nd rfl (by first | exact Or.inl rfl | exact Or.inr rfl)) (pgs_cons (pg_name (i := 5) nd rfl (by first | exact Or.inl rfl | exact Or.inr rfl)) pgs_nil)))) (fun _ _ _ _ _ => ts_nil) (fun _ _ _ _ _ => (d_and (d_cmp (o_in (hu65 hr)) (d_var 4) (d_var 1) rfl) (d_one (d_call A.is_sum hk pass0 (aCons_len (aCons_len (aCons_len aNil_len))) (a_cons (d_var 5) (a_cons (d_var 1) (a_cons (d_var 2) a_nil)))))))) a_nil)))) (b_one (st_ret d_bl)) b_nil)) (b_one (st_if (t_w (w_or (t_cmp (o_ne (hu64 hr)) (d_at (hu64 hr) (d_var 3) d_int) d_str (nomark _)) (w_or1 (t_not (t_tru (d_call A.is_test hk pass0 (aCons_len (aCons_len (aCons_len aNil_len))) (a_cons (d_at (hu64 hr) (d_var 3) d_int) (a_cons (d_var 1) (a_cons (d_var 2) a_nil))))))))) (b_one (st_ret d_bl)) (b_one (st_if (t_not (t_tru (d_callB (c_all rfl) M.z_all (a_cons (d_lc rfl nd (i_seq (d_sl s_sl (d_var 3) (o_some d_int) o_none)) (blkOk_by (own := [("block", 6)]) (by kernel_rfl)) (g := (gName 6)) g_nm (fun _ _ _ _ _ => (pg_name (i := 6) nd rfl (by first | exact Or.inl rfl | exact Or.inr rfl))) (fun _ _ _ _ _ => ts_nil) (fun _ _ _ _ _ => (d_call A.is_straight hk pass0 (aCons_len (aCons_len (aCons_len aNil_len))) (a_cons (d_var 6) (a_cons (d_var 1) (a_cons (d_var 2) a_nil)))))) a_nil)))) (b_one (st_ret d_bl)) b_nil)))))))
    (b_one (st_ret d_bl)))
theorem sc_index_of : FnScope ["loop", "row", "proc", "test", "index", "step"] ["loop", "row", "proc"] (defScope s_index_of) := ⟨rfl, rfl, rfl, by decide +kernel, rfl, by decide +kernel, by decide +kernel⟩
theorem ok_index_of (M : Fx P K mg) (A : All P w K mg base k T) (F : Fun K "index_of" "index_of" s_index_of f fd) : FnOk P w K mg base CX0 (k + 2) f fd ["loop", "row", "proc"] (spD K (clOf mg) 3 0 (fn_index_of T)) :=
  fn_ok (k := k + 1) F sc_index_of (by decide) fun cdv A' outer s H E hr => by
    have nd := sc_index_of.nd
    have hk := hr.mono (Nat.le_succ k)
    exact (b_cons (st_set 3 nd (d_at (hu64 hr) (d_var 0) d_int))
    (b_cons (st_if (t_w (w_or (t_cmp (o_ne (hu64 hr)) (d_at (hu64 hr) (d_var 3) d_int) d_str (nomark _)) (w_or (t_cmp (o_ne (hu64 hr)) (d_at (hu64 hr) (d_at (hu64 hr) (d_var 3) d_int) d_int) d_str (nomark _)) (w_or1 (t_cmp (o_ne (hu64 hr)) (d_at (hu64 hr) (d_var 3) d_int) (d_tup (a_cons d_str (a_cons (d_var 1) a_nil))) (nomark _)))))) (b_one (st_ret d_non)) b_nil)
    (b_cons (st_set 4 nd (d_at (hu64 hr) (d_at (hu64 hr) (d_var 3) d_int) d_int))
    (b_cons (st_set 5 nd (d_tup (a_cons d_str (a_cons (d_tup (a_cons (d_tup (a_cons (d_var 4) (a_cons (d_tup (a_cons d_str (a_cons (d_tup (a_cons d_str (a_cons (d_var 4) a_nil))) (a_cons (d_tup (a_cons d_str (a_cons d_int a_nil))) a_nil)))) a_nil))) a_nil)) a_nil))))
    (b_cons (st_if (t_w (w_or (t_cmp (o_notIn (hu65 hr)) (d_tup (a_cons d_str (a_cons (d_var 4) a_nil))) (d_at (hu64 hr) (d_var 2) d_int) rfl) (w_or1 (t_cmp (o_ne (hu64 hr)) (d_sl s_sl (d_at (hu64 hr) (d_var 0) d_int) (o_some (d_un o_neg d_int)) o_none) (d_tup (a_cons (d_var 5) a_nil)) (nomark _))))) (b_one (st_ret d_non)) b_nil)
    (b_one (st_ret (d_var 4))))))))
theorem sc_parts_of : FnScope ["proc", "rows", "body", "index", "names", "item", "block", "statement", "expression"] ["proc"] (defScope s_parts_of) := ⟨rfl, rfl, rfl, by decide +kernel, rfl, by decide +kernel, by decide +kernel⟩
theorem ok_parts_of (M : Fx P K mg) (A : All P w K mg base k T) (F : Fun K "parts_of" "parts_of" s_parts_of f fd) : FnOk P w K mg base CX0 (k + 2) f fd ["proc"] (spD K (clOf mg) 1 0 (fn_parts_of T)) :=
  fn_ok (k := k + 1) F sc_parts_of (by decide) fun cdv A' outer s H E hr => by
    have nd := sc_parts_of.nd
    have hk := hr.mono (Nat.le_succ k)
    exact (b_cons (st_setLc 1 rfl nd (i_seq (d_at (hu64 hr) (d_var 0) d_int)) (blkOk_by (own := [("item", 5)]) (by kernel_rfl)) (g := (gName 5)) g_nm (fun _ _ _ _ _ => (pg_name (i := 5) nd rfl (by first | exact Or.inl rfl | exact Or.inr rfl))) (fun _ _ _ _ _ => (ts_one (t_cmp (o_eq (hu64 hr)) (d_at (hu64 hr) (d_var 5) d_int) d_str (nomark _)))) (fun _ _ _ _ _ => (d_at (hu64 hr) (d_var 5) d_int)))
    (b_cons (st_set 2 nd (d_call A.without_pauses hk pass0 (aCons_len aNil_len) (a_cons (d_at (hu64 hr) (d_var 0) d_int) a_nil)))
    (b_cons (st_if (t_w (w_or (t_cmp (o_ne (hu64 hr)) (d_callB c_len M.z_len (a_cons (d_var 1) a_nil)) d_int (nomark _)) (w_or (t_tru (d_callB (c_any rfl) M.z_any (a_cons (d_lc rfl nd (i_seq (d_at (hu64 hr) (d_var 0) d_int)) (blkOk_by (own := [("item", 5)]) (by kernel_rfl)) (g := (gName 5)) g_nm (fun _ _ _ _ _ => (pg_name (i := 5) nd rfl (by first | exact Or.inl rfl | exact Or.inr rfl))) (fun _ _ _ _ _ => ts_nil) (fun _ _ _ _ _ => (d_cmp (o_eq (hu64 hr)) (d_at (hu64 hr) (d_var 5) d_int) d_str (nomark _)))) a_nil))) (w_or (t_not (t_tru (d_at (hu64 hr) (d_var 0) d_int))) (w_or1 (t_cmp o_lt (d_callB c_len M.z_len (a_cons (d_var 2) a_nil)) d_int (nomark _))))))) (b_one (st_ret d_non)) b_nil)
    (b_cons (st_if (t_w (w_or (t_cmp (o_ne (hu64 hr)) (d_at (hu64 hr) (d_at (hu64 hr) (d_var 2) (d_un o_neg d_int)) d_int) d_str (nomark _)) (w_or1 (t_cmp (o_ne (hu64 hr)) (d_at (hu64 hr) (d_at (hu64 hr) (d_var 2) (d_un o_neg d_int)) d_int) d_str (nomark _))))) (b_one (st_ret d_non)) b_nil)
    (b_cons (st_set 3 nd (d_call A.index_of hk pass0 (aCons_len (aCons_len (aCons_len aNil_len))) (a_cons (d_at (hu64 hr) (d_var 2) (d_un o_neg d_int)) (a_cons (d_at (hu64 hr) (d_var 1) d_int) (a_cons (d_var 0) a_nil)))))
    (b_cons (st_if (t_cmp o_is (d_var 3) d_non (nomark _)) (b_one (st_ret d_non)) b_nil)
    (b_cons (st_set 4 nd (d_lc rfl nd (i_seq (d_bin o_add (d_at (hu64 hr) (d_var 0) d_int) (d_at (hu64 hr) (d_var 0) d_int))) (blkOk_by (own := [("item", 5)]) (by kernel_rfl)) (g := (gName 5)) g_nm (fun _ _ _ _ _ => (pg_name (i := 5) nd rfl (by first | exact Or.inl rfl | exact Or.inr rfl))) (fun _ _ _ _ _ => (ts_one (t_w (w_and (t_cmp (o_eq (hu64 hr)) (d_at (hu64 hr) (d_var 5) d_int) d_str (nomark _)) (w_and1 (t_cmp (o_ne (hu64 hr)) (d_at (hu64 hr) (d_var 5) d_int) (d_var 3) (nomark _))))))) (fun _ _ _ _ _ => (d_at (hu64 hr) (d_var 5) d_int))))
    (b_cons (st_set 5 nd (d_tup (a_cons d_str (a_cons (d_at (hu64 hr) (d_var 1) d_int) (a_cons (d_tup (a_cons d_str (a_cons (d_var 3) a_nil))) a_nil)))))
    (b_cons (st_set 6 nd (d_sl s_sl (d_at (hu64 hr) (d_at (hu64 hr) (d_var 2) (d_un o_neg d_int)) d_int) o_none (o_some (d_un o_neg d_int))))
    (b_cons (st_if (t_w (w_or (t_not (t_tru (d_call A.is_straight hk pass0 (aCons_len (aCons_len (aCons_len aNil_len))) (a_cons (d_var 6) (a_cons (d_var 4) (a_cons (d_var 5) a_nil)))))) (w_or1 (t_not (t_tru (d_call A.is_straight hk pass0 (aCons_len (aCons_len (aCons_len aNil_len))) (a_cons (d_sl s_sl (d_var 2) o_none (o_some (d_un o_neg d_int))) (a_cons (d_var 4) (a_cons d_non a_nil))))))))) (b_one (st_ret d_non)) b_nil)
    (b_cons (st_if (t_tru (d_callB (c_any rfl) M.z_any (a_cons (d_lc rfl nd (i_seq (d_sl s_sl (d_var 2) o_none (o_some (d_un o_neg d_int)))) (blkOk_by (own := [("statement", 7)]) (by kernel_rfl)) (g := (gName 7)) g_nm (fun _ _ _ _ _ => (pg_name (i := 7) nd rfl (by first | exact Or.inl rfl | exact Or.inr rfl))) (fun _ _ _ _ _ => ts_nil) (fun _ _ _ _ _ => (d_cmp (o_ne (hu64 hr)) (d_at (hu64 hr) (d_var 7) d_int) d_str (nomark _)))) a_nil))) (b_one (st_ret d_non)) b_nil)
    (b_cons (st_if (t_not (t_tru (d_callB (c_all rfl) M.z_all (a_cons (d_lc rfl nd (i_seq (d_at (hu64 hr) (d_at (hu64 hr) (d_var 2) (d_un o_neg d_int)) d_int)) (blkOk_by (own := [("expression", 8)]) (by kernel_rfl)) (g := (gName 8)) g_nm (fun _ _ _ _ _ => (pg_name (i := 8) nd rfl (by first | exact Or.inl rfl | exact Or.inr rfl))) (fun _ _ _ _ _ => ts_nil) (fun _ _ _ _ _ => (d_call A.is_sum hk pass0 (aCons_len (aCons_len (aCons_len aNil_len))) (a_cons (d_var 8) (a_cons (d_var 4) (a_cons d_non a_nil)))))) a_nil)))) (b_one (st_ret d_non)) b_nil)
    (b_one (st_ret (d_mk A.Loop_init rfl hr (aCons_len (aCons_len (aCons_len (aCons_len (aCons_len aNil_len))))) (a_cons (d_var 0) (a_cons (d_var 3) (a_cons (d_sl s_sl (d_var 2) o_none (o_some (d_un o_neg d_int))) (a_cons (d_var 6) (a_cons (d_at (hu64 hr) (d_var 2) (d_un o_neg d_int)) a_nil))))))))))))))))))))
theorem sc_check_name : FnScope ["core", "name", "proc"] ["core", "name"] (defScope s_check_name) := ⟨rfl, rfl, rfl, by decide +kernel, rfl, by decide +kernel, by decide +kernel⟩
theorem ok_check_name (M : Fx P K mg) (A : All P w K mg base k T) (F : Fun K "check_name" "check_name" s_check_name f fd) : FnOk P w K mg base (L2.CX P w) (k + 2) f fd ["core", "name"] (spX K (clOf mg) 2 0 (fn_check_name T)) :=
  fn_okX (k := k + 1) F sc_check_name (by decide) fun cdv A' outer s H E hr => by
    have nd := sc_check_name.nd
    have hk := hr.mono (Nat.le_succ k)
    have tk := takes_of (X := cxOf (L2.CX P w) P w K mg base ["core", "name", "proc"] "check_name" (defScope s_check_name) f cdv A' outer s H E) rfl rfl rfl rfl
    exact (x_one (x_if (t_cmp (o_notIn (hu65 hr)) (d_var 1) (d_lc rfl nd (i_seq (d_var 0)) (blkOk_by (own := [("proc", 2)]) (by kernel_rfl)) (g := (gName 2)) g_nm (fun _ _ _ _ _ => (pg_name (i := 2) nd rfl (by first | exact Or.inl rfl | exact Or.inr rfl))) (fun _ _ _ _ _ => ts_nil) (fun _ _ _ _ _ => (d_at (hu64 hr) (d_var 2) d_int))) rfl) (x_one (x_raiseE M.e_UnknownName rfl rfl tk hr (d_var 1))) x_nil))
theorem sc_loop_of : FnScope ["core", "name", "loop"] ["core", "name"] (defScope s_loop_of) := ⟨rfl, rfl, rfl, by decide +kernel, rfl, by decide +kernel, by decide +kernel⟩
theorem ok_loop_of (M : Fx P K mg) (A : All P w K mg base k T) (F : Fun K "loop_of" "loop_of" s_loop_of f fd) : FnOk P w K mg base (L2.CX P w) (k + 2) f fd ["core", "name"] (spX K (clOf mg) 2 0 (fn_loop_of T)) :=
  fn_okX (k := k + 1) F sc_loop_of (by decide) fun cdv A' outer s H E hr => by
    have nd := sc_loop_of.nd
    have hk := hr.mono (Nat.le_succ k)
    have tk := takes_of (X := cxOf (L2.CX P w) P w K mg base ["core", "name", "loop"] "loop_of" (defScope s_loop_of) f cdv A' outer s H E) rfl rfl rfl rfl
    exact (x_cons (x_expr (xe_call A.check_name hk tk (aCons_len (aCons_len aNil_len)) (a_cons (d_var 0) (a_cons (d_var 1) a_nil))))
    (x_cons (x_of (st_set 2 nd (d_call A.parts_of hk pass0 (aCons_len aNil_len) (a_cons (d_call A.proc_named hk pass0 (aCons_len (aCons_len aNil_len)) (a_cons (d_var 0) (a_cons (d_var 1) a_nil))) a_nil))))
    (x_cons (x_if (t_cmp o_is (d_var 2) d_non (nomark _)) (x_one (x_raiseE M.e_BadLoop rfl rfl tk hr (d_var 1))) x_nil)
    (x_one (x_of (st_ret (d_var 2)))))))
theorem sc_carried_of : FnScope ["core", "name"] ["core", "name"] (defScope s_carried_of) := ⟨rfl, rfl, rfl, by decide +kernel, rfl, by decide +kernel, by decide +kernel⟩
theorem ok_carried_of (M : Fx P K mg) (A : All P w K mg base k T) (F : Fun K "carried_of" "carried_of" s_carried_of f fd) : FnOk P w K mg base (L2.CX P w) (k + 2) f fd ["core", "name"] (spX K (clOf mg) 2 0 (fn_carried_of T)) :=
  fn_okX (k := k + 1) F sc_carried_of (by decide) fun cdv A' outer s H E hr => by
    have nd := sc_carried_of.nd
    have hk := hr.mono (Nat.le_succ k)
    have tk := takes_of (X := cxOf (L2.CX P w) P w K mg base ["core", "name"] "carried_of" (defScope s_carried_of) f cdv A' outer s H E) rfl rfl rfl rfl
    exact (x_one (x_ret (xe_fld (clsF_cons (fs := fs_Loop) M.c_Loop (by decide +kernel) clsF_nil) (xe_call A.loop_of hk tk (aCons_len (aCons_len aNil_len)) (a_cons (d_var 0) (a_cons (d_var 1) a_nil))))))
theorem sc_f_law_start : FnScope ["script"] ["script"] (defScope s_f_law_start) := ⟨rfl, rfl, rfl, by decide +kernel, rfl, by decide +kernel, by decide +kernel⟩
theorem ok_f_law_start (M : Fx P K mg) (A : All P w K mg base k T) (F : Fun K "_law_start" "_law_start" s_f_law_start f fd) : FnOk P w K mg base CX0 (k + 2) f fd ["script"] (spO K (clOf mg) 1 0 (fn_f_law_start T)) :=
  fn_okO (k := k + 1) F sc_f_law_start (by decide) fun cdv A' outer s H E hr => by
    have nd := sc_f_law_start.nd
    have hk := hr.mono (Nat.le_succ k)
    exact (b_one (st_retL (a_cons (d_callTy c_list M.z_list (a_cons (d_var 0) a_nil)) (a_cons d_int (a_cons d_int (a_cons d_int a_nil))))))
theorem sc_f_law_draw : FnScope ["state", "most", "cell", "mixed", "found"] ["state", "most"] (defScope s_f_law_draw) := ⟨rfl, rfl, rfl, by decide +kernel, rfl, by decide +kernel, by decide +kernel⟩
theorem ok_f_law_draw (M : Fx P K mg) (A : All P w K mg base k T) (F : Fun K "_law_draw" "_law_draw" s_f_law_draw f fd) : FnOk P w K mg base CX0 (k + 2) f fd ["state", "most"] (spD K (clOf mg) 2 1 (fn_f_law_draw T)) :=
  fn_ok (k := k + 1) F sc_f_law_draw (by decide) fun cdv A' outer s H E hr => by
    have nd := sc_f_law_draw.nd
    have hk := hr.mono (Nat.le_succ k)
    exact (b_cons (st_store (hu64 hr) (d_var 0) d_int (d_bin o_add (d_at (hu64 hr) (d_var 0) d_int) d_int))
    (b_cons (st_if (t_cmp o_gt (d_at (hu64 hr) (d_var 0) d_int) d_int (nomark _)) (b_cons (st_set 4 nd (d_bin o_mod (d_callTy c_int M.z_int (a_cons (d_at (hu64 hr) (d_var 0) d_int) a_nil)) (d_var 1)))
    (b_cons (st_store (hu64 hr) (d_var 0) d_int (d_bin o_fdv (d_at (hu64 hr) (d_var 0) d_int) (d_var 1)))
    (b_one (st_ret (d_var 4))))) b_nil)
    (b_cons (st_set 2 nd d_int)
    (b_cons (st_if (t_cmp o_gt (d_callB c_len M.z_len (a_cons (d_at (hu64 hr) (d_var 0) d_int) a_nil)) d_int (nomark _)) (b_one (st_set 2 nd (d_callB c_abs M.z_abs (a_cons (d_at (hu64 hr) (d_at (hu64 hr) (d_var 0) d_int) (d_bin o_mod (d_callTy c_int M.z_int (a_cons (d_at (hu64 hr) (d_var 0) d_int) a_nil)) (d_callB c_len M.z_len (a_cons (d_at (hu64 hr) (d_var 0) d_int) a_nil)))) a_nil)))) b_nil)
    (b_cons (st_store (hu64 hr) (d_var 0) d_int (d_bin o_add (d_at (hu64 hr) (d_var 0) d_int) d_int))
    (b_cons (st_if (t_cmp o_ge (d_var 2) (d_bin o_pow d_int d_int) (nomark _)) (b_cons (st_store (hu64 hr) (d_var 0) d_int (d_bin o_fdv (d_var 2) (d_var 1)))
    (b_one (st_ret (d_bin o_mod (d_callTy c_int M.z_int (a_cons (d_var 2) a_nil)) (d_var 1))))) b_nil)
    (b_cons (st_set 3 nd (d_bin o_mod (d_callTy c_int M.z_int (a_cons (d_bin o_add (d_bin o_mul (d_bin o_add (d_var 2) d_int) d_int) (d_bin o_mul (d_at (hu64 hr) (d_var 0) d_int) d_int)) a_nil)) d_int))
    (b_cons (st_set 3 nd (d_bin o_mod (d_callTy c_int M.z_int (a_cons (d_bin o_add (d_bin o_add (d_bin o_mul (d_var 3) d_int) (d_bin o_fdv (d_var 2) d_int)) (d_at (hu64 hr) (d_var 0) d_int)) a_nil)) d_int))
    (b_one (st_ret (d_bin o_mod (d_bin o_fdv (d_var 3) d_int) (d_var 1))))))))))))
theorem sc_f_law_one_of : FnScope ["state", "items"] ["state", "items"] (defScope s_f_law_one_of) := ⟨rfl, rfl, rfl, by decide +kernel, rfl, by decide +kernel, by decide +kernel⟩
theorem ok_f_law_one_of (M : Fx P K mg) (A : All P w K mg base k T) (F : Fun K "_law_one_of" "_law_one_of" s_f_law_one_of f fd) : FnOk P w K mg base CX0 (k + 2) f fd ["state", "items"] (spD K (clOf mg) 2 1 (fn_f_law_one_of T)) :=
  fn_ok (k := k + 1) F sc_f_law_one_of (by decide) fun cdv A' outer s H E hr => by
    have nd := sc_f_law_one_of.nd
    have hk := hr.mono (Nat.le_succ k)
    exact (b_one (st_ret (d_at (hu64 hr) (d_var 1) (d_call A.f_law_draw hk pass0 (aCons_len (aCons_len aNil_len)) (a_cons (d_var 0) (a_cons (d_callB c_len M.z_len (a_cons (d_var 1) a_nil)) a_nil))))))
theorem sc_f_law_shuffled : FnScope ["state", "items", "found", "item"] ["state", "items"] (defScope s_f_law_shuffled) := ⟨rfl, rfl, rfl, by decide +kernel, rfl, by decide +kernel, by decide +kernel⟩
theorem ok_f_law_shuffled (M : Fx P K mg) (A : All P w K mg base k T) (F : Fun K "_law_shuffled" "_law_shuffled" s_f_law_shuffled f fd) : FnOk P w K mg base CX0 (k + 2) f fd ["state", "items"] (spD K (clOf mg) 2 1 (fn_f_law_shuffled T)) :=
  fn_ok (k := k + 1) F sc_f_law_shuffled (by decide) fun cdv A' outer s H E hr => by
    have nd := sc_f_law_shuffled.nd
    have hk := hr.mono (Nat.le_succ k)
    exact (b_cons (st_newL 2 nd a_nil)
    (b_cons (st_for PassesOwn.never rfl (i_seq (d_var 1)) (g := (gName 3)) (vs := [3]) (pg_name (i := 3) nd rfl (by first | exact Or.inl rfl | exact Or.inr rfl)) g_nm (b_one (st_expr (d_mutL PySem.F.slot_list_insert PySem.F.type_list_insert m_ins (d_var 2) (a_cons (d_call A.f_law_draw hk pass0 (aCons_len (aCons_len aNil_len)) (a_cons (d_var 0) (a_cons (d_bin o_add (d_callB c_len M.z_len (a_cons (d_var 2) a_nil)) d_int) a_nil))) (a_cons (d_var 3) a_nil))))))
    (b_one (st_ret (d_var 2)))))
theorem sc_f_law_words : FnScope ["state", "many", "letters", "start", "step", "shared", "k"] ["state", "many"] (defScope s_f_law_words) := ⟨rfl, rfl, rfl, by decide +kernel, rfl, by decide +kernel, by decide +kernel⟩
theorem ok_f_law_words (M : Fx P K mg) (A : All P w K mg base k T) (F : Fun K "_law_words" "_law_words" s_f_law_words f fd) : FnOk P w K mg base CX0 (k + 2) f fd ["state", "many"] (spD K (clOf mg) 2 1 (fn_f_law_words T)) :=
  fn_ok (k := k + 1) F sc_f_law_words (by decide) fun cdv A' outer s H E hr => by
    have nd := sc_f_law_words.nd
    have hk := hr.mono (Nat.le_succ k)
    exact (b_cons (st_set 2 nd d_str)
    (b_cons (st_set 3 nd (d_call A.f_law_draw hk pass0 (aCons_len (aCons_len aNil_len)) (a_cons (d_var 0) (a_cons d_int a_nil))))
    (b_cons (st_set 4 nd (d_bin o_add d_int (d_bin o_mul d_int (d_call A.f_law_draw hk pass0 (aCons_len (aCons_len aNil_len)) (a_cons (d_var 0) (a_cons d_int a_nil))))))
    (b_cons (st_set 5 nd (d_sl s_sl d_str o_none (o_some (d_call A.f_law_draw hk pass0 (aCons_len (aCons_len aNil_len)) (a_cons (d_var 0) (a_cons d_int a_nil))))))
    (b_cons (st_if (t_cmp (o_eq (hu64 hr)) (d_call A.f_law_draw hk pass0 (aCons_len (aCons_len aNil_len)) (a_cons (d_var 0) (a_cons d_int a_nil))) d_int (nomark _)) (b_one (st_ret (d_lc rfl nd (i_range1 M.z_range (a_cons (d_var 1) a_nil)) (blkOk_by (own := [("k", 6)]) (by kernel_rfl)) (g := (gName 6)) g_nm (fun _ _ _ _ _ => (pg_name (i := 6) nd rfl (by first | exact Or.inl rfl | exact Or.inr rfl))) (fun _ _ _ _ _ => ts_nil) (fun _ _ _ _ _ => (d_bin o_add (d_var 5) (d_at (hu64 hr) (d_var 2) (d_bin o_mod (d_callTy c_int M.z_int (a_cons (d_bin o_add (d_var 3) (d_bin o_mul (d_var 6) (d_var 4))) a_nil)) d_int))))))) b_nil)
    (b_one (st_ret (d_lc rfl nd (i_range1 M.z_range (a_cons (d_var 1) a_nil)) (blkOk_by (own := [("k", 6)]) (by kernel_rfl)) (g := (gName 6)) g_nm (fun _ _ _ _ _ => (pg_name (i := 6) nd rfl (by first | exact Or.inl rfl | exact Or.inr rfl))) (fun _ _ _ _ _ => ts_nil) (fun _ _ _ _ _ => (d_bin o_add (d_at (hu64 hr) (d_var 2) (d_bin o_mod (d_callTy c_int M.z_int (a_cons (d_bin o_add (d_var 3) (d_bin o_mul (d_var 6) (d_var 4))) a_nil)) d_int)) (d_var 5)))))))))))
theorem sc_f_law_is_int : FnScope ["x"] ["x"] (defScope s_f_law_is_int) := ⟨rfl, rfl, rfl, by decide +kernel, rfl, by decide +kernel, by decide +kernel⟩
theorem ok_f_law_is_int (M : Fx P K mg) (A : All P w K mg base k T) (F : Fun K "_law_is_int" "_law_is_int" s_f_law_is_int f fd) : FnOk P w K mg base CX0 (k + 2) f fd ["x"] (spD K (clOf mg) 1 0 (fn_f_law_is_int T)) :=
  fn_ok (k := k + 1) F sc_f_law_is_int (by decide) fun cdv A' outer s H E hr => by
    have nd := sc_f_law_is_int.nd
    have hk := hr.mono (Nat.le_succ k)
    exact (b_one (st_ret (d_and (d_isi .int M.z_isinstance M.z_int (d_var 0)) (d_one (d_not (d_isi .bool M.z_isinstance M.z_bool (d_var 0)))))))
theorem sc_f_law_same : FnScope ["x", "y", "k"] ["x", "y"] (defScope s_f_law_same) := ⟨rfl, rfl, rfl, by decide +kernel, rfl, by decide +kernel, by decide +kernel⟩
theorem ok_f_law_same (M : Fx P K mg) (A : All P w K mg base k T) (F : Fun K "_law_same" "_law_same" s_f_law_same f fd) : FnOk P w K mg base CX0 (k + 2) f fd ["x", "y"] (spD K (clOf mg) 2 0 (fn_f_law_same T)) :=
  fn_ok (k := k + 1) F sc_f_law_same (by decide) fun cdv A' outer s H E hr => by
    have nd := sc_f_law_same.nd
    have hk := hr.mono (Nat.le_succ k)
    exact (b_cons (st_if (t_tru (d_isi .tuple M.z_isinstance M.z_tuple (d_var 1))) (b_cons (st_if (t_w (w_or (t_not (t_tru (d_isi .tuple M.z_isinstance M.z_tuple (d_var 0)))) (w_or1 (t_cmp (o_ne (hu64 hr)) (d_callB c_len M.z_len (a_cons (d_var 0) a_nil)) (d_callB c_len M.z_len (a_cons (d_var 1) a_nil)) (nomark _))))) (b_one (st_ret d_bl)) b_nil)
    (b_one (st_ret (d_callB (c_all rfl) M.z_all (a_cons (d_lc rfl nd (i_range1 M.z_range (a_cons (d_callB c_len M.z_len (a_cons (d_var 1) a_nil)) a_nil)) (blkOk_by (own := [("k", 2)]) (by kernel_rfl)) (g := (gName 2)) g_nm (fun _ _ _ _ _ => (pg_name (i := 2) nd rfl (by first | exact Or.inl rfl | exact Or.inr rfl))) (fun _ _ _ _ _ => ts_nil) (fun _ _ _ _ _ => (d_call A.f_law_same hk pass0 (aCons_len (aCons_len aNil_len)) (a_cons (d_at (hu64 hr) (d_var 0) (d_var 2)) (a_cons (d_at (hu64 hr) (d_var 1) (d_var 2)) a_nil))))) a_nil))))) b_nil)
    (b_cons (st_if (t_tru (d_isi .str M.z_isinstance M.z_str (d_var 1))) (b_one (st_ret (d_and (d_isi .str M.z_isinstance M.z_str (d_var 0)) (d_one (d_cmp (o_eq (hu64 hr)) (d_var 0) (d_var 1) (nomark _)))))) b_nil)
    (b_one (st_ret (d_and (d_call A.f_law_is_int hk pass0 (aCons_len aNil_len) (a_cons (d_var 0) a_nil)) (d_one (d_cmp (o_eq (hu64 hr)) (d_var 0) (d_var 1) (nomark _))))))))
theorem sc_f_law_loop_words : FnScope ["state", "starts", "places", "words", "w", "x"] ["state", "starts", "places"] (defScope s_f_law_loop_words) := ⟨rfl, rfl, rfl, by decide +kernel, rfl, by decide +kernel, by decide +kernel⟩
theorem ok_f_law_loop_words (M : Fx P K mg) (A : All P w K mg base k T) (F : Fun K "_law_loop_words" "_law_loop_words" s_f_law_loop_words f fd) : FnOk P w K mg base CX0 (k + 2) f fd ["state", "starts", "places"] (spO K (clOf mg) 3 1 (fn_f_law_loop_words T)) :=
  fn_okO (k := k + 1) F sc_f_law_loop_words (by decide) fun cdv A' outer s H E hr => by
    have nd := sc_f_law_loop_words.nd
    have hk := hr.mono (Nat.le_succ k)
    exact (b_cons (st_set 3 nd (d_call A.f_law_words hk pass0 (aCons_len (aCons_len aNil_len)) (a_cons (d_var 0) (a_cons (d_bin o_add (d_bin o_add d_int (d_var 1)) (d_var 2)) a_nil))))
    (b_cons (st_newD 4 nd (p_cons d_str (d_at (hu64 hr) (d_var 3) d_int) (p_cons d_str (d_at (hu64 hr) (d_var 3) d_int) (p_cons d_str (d_sl s_sl (d_var 3) (o_some d_int) (o_some (d_bin o_add d_int (d_var 1)))) (p_cons d_str (d_sl s_sl (d_var 3) (o_some (d_bin o_add d_int (d_var 1))) o_none) p_nil)))))
    (b_cons (st_if (t_w (w_and (t_cmp o_gt (d_var 2) d_int (nomark _)) (w_and1 (t_cmp (o_eq (hu64 hr)) (d_call A.f_law_draw hk pass0 (aCons_len (aCons_len aNil_len)) (a_cons (d_var 0) (a_cons d_int a_nil))) d_int (nomark _))))) (b_one (st_store (hu64 hr) (d_var 4) d_str (d_bin o_add (d_lst (a_cons (d_at (hu64 hr) (d_at (hu64 hr) (d_var 4) d_str) d_int) a_nil)) (d_lc rfl nd (i_seq (d_sl s_sl (d_at (hu64 hr) (d_var 4) d_str) (o_some d_int) o_none)) (blkOk_by (own := [("x", 5)]) (by kernel_rfl)) (g := (gName 5)) g_nm (fun _ _ _ _ _ => (pg_name (i := 5) nd rfl (by first | exact Or.inl rfl | exact Or.inr rfl))) (fun _ _ _ _ _ => ts_nil) (fun _ _ _ _ _ => (d_bin o_add d_str (d_var 5))))))) b_nil)
    (b_cons (st_store (hu64 hr) (d_var 4) d_str (d_bin o_add (d_at (hu64 hr) (d_var 4) d_str) (d_at (hu64 hr) (d_var 4) d_str)))
    (b_cons (st_store (hu64 hr) (d_var 4) d_str (d_tup (a_cons d_str (a_cons (d_at (hu64 hr) (d_var 4) d_str) (a_cons (d_tup (a_cons d_str (a_cons (d_at (hu64 hr) (d_var 4) d_str) a_nil))) a_nil)))))
    (b_one (st_retO (d_var 4))))))))
theorem sc_f_law_sum_of : FnScope ["state", "w", "names", "depth", "pick", "first"] ["state", "w", "names", "depth"] (defScope s_f_law_sum_of) := ⟨rfl, rfl, rfl, by decide +kernel, rfl, by decide +kernel, by decide +kernel⟩
theorem ok_f_law_sum_of (M : Fx P K mg) (A : All P w K mg base k T) (F : Fun K "_law_sum_of" "_law_sum_of" s_f_law_sum_of f fd) : FnOk P w K mg base CX0 (k + 2) f fd ["state", "w", "names", "depth"] (spD K (clOf mg) 4 2 (fn_f_law_sum_of T)) :=
  fn_ok (k := k + 1) F sc_f_law_sum_of (by decide) fun cdv A' outer s H E hr => by
    have nd := sc_f_law_sum_of.nd
    have hk := hr.mono (Nat.le_succ k)
    exact (b_cons (st_set 4 nd (d_call A.f_law_draw hk pass0 (aCons_len (aCons_len aNil_len)) (a_cons (d_var 0) (a_cons d_int a_nil))))
    (b_cons (st_if (t_w (w_and (t_cmp o_lt (d_var 4) d_int (nomark _)) (w_and1 (t_cmp (o_ne (hu64 hr)) (d_var 2) (d_lst a_nil) (nomark _))))) (b_one (st_ret (d_tup (a_cons d_str (a_cons (d_call A.f_law_one_of hk pass0 (aCons_len (aCons_len aNil_len)) (a_cons (d_var 0) (a_cons (d_var 2) a_nil))) a_nil))))) b_nil)
    (b_cons (st_if (t_w (w_or (t_cmp (o_eq (hu64 hr)) (d_var 4) d_int (nomark _)) (w_or1 (t_cmp (o_eq (hu64 hr)) (d_var 3) d_int (nomark _))))) (b_one (st_ret (d_tup (a_cons d_str (a_cons (d_call A.f_law_draw hk pass0 (aCons_len (aCons_len aNil_len)) (a_cons (d_var 0) (a_cons d_int a_nil))) a_nil))))) b_nil)
    (b_cons (st_if (t_w (w_and (t_cmp (o_eq (hu64 hr)) (d_var 4) d_int (nomark _)) (w_and1 (t_tru (d_at (hu64 hr) (d_var 1) d_str))))) (b_one (st_ret (d_at (hu64 hr) (d_var 1) d_str))) b_nil)
    (b_cons (st_if (t_cmp (o_eq (hu64 hr)) (d_var 4) d_int (nomark _)) (b_one (st_ret (d_tup (a_cons d_str (a_cons (d_at (hu64 hr) (d_lst (a_cons (d_un o_neg d_int) (a_cons d_int (a_cons d_int a_nil)))) (d_call A.f_law_draw hk pass0 (aCons_len (aCons_len aNil_len)) (a_cons (d_var 0) (a_cons d_int a_nil)))) (a_cons (d_call A.f_law_sum_of hk pass0 (aCons_len (aCons_len (aCons_len (aCons_len aNil_len)))) (a_cons (d_var 0) (a_cons (d_var 1) (a_cons (d_var 2) (a_cons (d_bin o_sub (d_var 3) d_int) a_nil))))) a_nil)))))) b_nil)
    (b_cons (st_set 5 nd (d_call A.f_law_sum_of hk pass0 (aCons_len (aCons_len (aCons_len (aCons_len aNil_len)))) (a_cons (d_var 0) (a_cons (d_var 1) (a_cons (d_var 2) (a_cons (d_bin o_sub (d_var 3) d_int) a_nil))))))
    (b_one (st_ret (d_tup (a_cons (d_at (hu64 hr) (d_lst (a_cons d_str (a_cons d_str a_nil))) (d_call A.f_law_draw hk pass0 (aCons_len (aCons_len aNil_len)) (a_cons (d_var 0) (a_cons d_int a_nil)))) (a_cons (d_var 5) (a_cons (d_call A.f_law_sum_of hk pass0 (aCons_len (aCons_len (aCons_len (aCons_len aNil_len)))) (a_cons (d_var 0) (a_cons (d_var 1) (a_cons (d_var 2) (a_cons (d_bin o_sub (d_var 3) d_int) a_nil))))) a_nil))))))))))))
theorem sc_f_law_item_sum : FnScope ["state", "w", "x", "some"] ["state", "w"] (defScope s_f_law_item_sum) := ⟨rfl, rfl, rfl, by decide +kernel, rfl, by decide +kernel, by decide +kernel⟩
theorem ok_f_law_item_sum (M : Fx P K mg) (A : All P w K mg base k T) (F : Fun K "_law_item_sum" "_law_item_sum" s_f_law_item_sum f fd) : FnOk P w K mg base CX0 (k + 2) f fd ["state", "w"] (spD K (clOf mg) 2 2 (fn_f_law_item_sum T)) :=
  fn_ok (k := k + 1) F sc_f_law_item_sum (by decide) fun cdv A' outer s H E hr => by
    have nd := sc_f_law_item_sum.nd
    have hk := hr.mono (Nat.le_succ k)
    exact (b_cons (st_set 2 nd (d_at (hu64 hr) (d_var 1) d_str))
    (b_cons (st_newL 3 nd (a_cons (d_var 2) (a_cons (d_var 2) (a_cons (d_tup (a_cons d_str (a_cons (d_at (hu64 hr) (d_lst (a_cons (d_un o_neg d_int) (a_cons d_int (a_cons d_int a_nil)))) (d_call A.f_law_draw hk pass0 (aCons_len (aCons_len aNil_len)) (a_cons (d_var 0) (a_cons d_int a_nil)))) (a_cons (d_var 2) a_nil)))) (a_cons (d_tup (a_cons d_str (a_cons (d_var 2) (a_cons (d_tup (a_cons d_str (a_cons (d_call A.f_law_draw hk pass0 (aCons_len (aCons_len aNil_len)) (a_cons (d_var 0) (a_cons d_int a_nil))) a_nil))) a_nil)))) a_nil)))))
    (b_cons (st_expr (d_mutL PySem.F.slot_list_append PySem.F.type_list_append m_app (d_var 3) (a_cons (d_tup (a_cons d_str (a_cons (d_un o_neg d_int) (a_cons (d_tup (a_cons d_str (a_cons d_int (a_cons (d_var 2) a_nil)))) a_nil)))) a_nil)))
    (b_one (st_ret (d_call A.f_law_one_of hk pass0 (aCons_len (aCons_len aNil_len)) (a_cons (d_var 0) (a_cons (d_bin o_add (d_var 3) (d_lst (a_cons (d_tup (a_cons d_str (a_cons (d_tup (a_cons d_str (a_cons (d_call A.f_law_draw hk pass0 (aCons_len (aCons_len aNil_len)) (a_cons (d_var 0) (a_cons d_int a_nil))) a_nil))) (a_cons (d_var 2) a_nil)))) a_nil))) a_nil))))))))
theorem sc_f_law_one_test : FnScope ["state", "w", "plain", "left", "right"] ["state", "w", "plain"] (defScope s_f_law_one_test) := ⟨rfl, rfl, rfl, by decide +kernel, rfl, by decide +kernel, by decide +kernel⟩
theorem ok_f_law_one_test (M : Fx P K mg) (A : All P w K mg base k T) (F : Fun K "_law_one_test" "_law_one_test" s_f_law_one_test f fd) : FnOk P w K mg base CX0 (k + 2) f fd ["state", "w", "plain"] (spD K (clOf mg) 3 2 (fn_f_law_one_test T)) :=
  fn_ok (k := k + 1) F sc_f_law_one_test (by decide) fun cdv A' outer s H E hr => by
    have nd := sc_f_law_one_test.nd
    have hk := hr.mono (Nat.le_succ k)
    exact (b_cons (st_set 3 nd (d_call A.f_law_item_sum hk pass0 (aCons_len (aCons_len aNil_len)) (a_cons (d_var 0) (a_cons (d_var 1) a_nil))))
    (b_cons (st_set 4 nd (d_tup (a_cons d_str (a_cons (d_call A.f_law_draw hk pass0 (aCons_len (aCons_len aNil_len)) (a_cons (d_var 0) (a_cons d_int a_nil))) a_nil))))
    (b_cons (st_if (t_w (w_and (t_not (t_tru (d_var 2))) (w_and1 (t_cmp (o_eq (hu64 hr)) (d_call A.f_law_draw hk pass0 (aCons_len (aCons_len aNil_len)) (a_cons (d_var 0) (a_cons d_int a_nil))) d_int (nomark _))))) (b_one (st_set 4 nd (d_tup (a_cons d_str (a_cons (d_call A.f_law_one_of hk pass0 (aCons_len (aCons_len aNil_len)) (a_cons (d_var 0) (a_cons (d_at (hu64 hr) (d_var 1) d_str) a_nil))) a_nil))))) b_nil)
    (b_cons (st_if (t_cmp (o_eq (hu64 hr)) (d_call A.f_law_draw hk pass0 (aCons_len (aCons_len aNil_len)) (a_cons (d_var 0) (a_cons d_int a_nil))) d_int (nomark _)) (b_one (st_par rfl nd (by decide) (a_cons (d_var 4) (a_cons (d_var 3) a_nil)) (i := 3) (j := 4))) b_nil)
    (b_one (st_ret (d_tup (a_cons (d_at (hu64 hr) (d_lst (a_cons d_str (a_cons d_str (a_cons d_str a_nil)))) (d_call A.f_law_draw hk pass0 (aCons_len (aCons_len aNil_len)) (a_cons (d_var 0) (a_cons d_int a_nil)))) (a_cons (d_var 3) (a_cons (d_var 4) a_nil))))))))))
theorem sc_f_law_loop_test : FnScope ["state", "w", "plain", "c", "pick"] ["state", "w", "plain"] (defScope s_f_law_loop_test) := ⟨rfl, rfl, rfl, by decide +kernel, rfl, by decide +kernel, by decide +kernel⟩
theorem ok_f_law_loop_test (M : Fx P K mg) (A : All P w K mg base k T) (F : Fun K "_law_loop_test" "_law_loop_test" s_f_law_loop_test f fd) : FnOk P w K mg base CX0 (k + 2) f fd ["state", "w", "plain"] (spD K (clOf mg) 3 2 (fn_f_law_loop_test T)) :=
  fn_ok (k := k + 1) F sc_f_law_loop_test (by decide) fun cdv A' outer s H E hr => by
    have nd := sc_f_law_loop_test.nd
    have hk := hr.mono (Nat.le_succ k)
    exact (b_cons (st_set 3 nd (d_call A.f_law_one_test hk pass0 (aCons_len (aCons_len (aCons_len aNil_len))) (a_cons (d_var 0) (a_cons (d_var 1) (a_cons (d_var 2) a_nil)))))
    (b_cons (st_set 4 nd (d_call A.f_law_draw hk pass0 (aCons_len (aCons_len aNil_len)) (a_cons (d_var 0) (a_cons d_int a_nil))))
    (b_cons (st_if (t_cmp (o_eq (hu64 hr)) (d_var 4) d_int (nomark _)) (b_one (st_ret (d_tup (a_cons d_str (a_cons (d_var 3) a_nil))))) b_nil)
    (b_cons (st_if (t_cmp (o_eq (hu64 hr)) (d_var 4) d_int (nomark _)) (b_one (st_ret (d_tup (a_cons (d_at (hu64 hr) (d_lst (a_cons d_str (a_cons d_str a_nil))) (d_call A.f_law_draw hk pass0 (aCons_len (aCons_len aNil_len)) (a_cons (d_var 0) (a_cons d_int a_nil)))) (a_cons (d_var 3) (a_cons (d_call A.f_law_one_test hk pass0 (aCons_len (aCons_len (aCons_len aNil_len))) (a_cons (d_var 0) (a_cons (d_var 1) (a_cons (d_var 2) a_nil)))) a_nil)))))) b_nil)
    (b_one (st_ret (d_var 3)))))))
theorem sc_f_law_loop_sets : FnScope ["state", "w", "many", "found", "k", "x"] ["state", "w", "many"] (defScope s_f_law_loop_sets) := ⟨rfl, rfl, rfl, by decide +kernel, rfl, by decide +kernel, by decide +kernel⟩
theorem ok_f_law_loop_sets (M : Fx P K mg) (A : All P w K mg base k T) (F : Fun K "_law_loop_sets" "_law_loop_sets" s_f_law_loop_sets f fd) : FnOk P w K mg base CX0 (k + 2) f fd ["state", "w", "many"] (spD K (clOf mg) 3 2 (fn_f_law_loop_sets T)) :=
  fn_ok (k := k + 1) F sc_f_law_loop_sets (by decide) fun cdv A' outer s H E hr => by
    have nd := sc_f_law_loop_sets.nd
    have hk := hr.mono (Nat.le_succ k)
    exact (b_cons (st_newL 3 nd a_nil)
    (b_cons (st_for PassesOwn.never rfl (i_range1 M.z_range (a_cons (d_var 2) a_nil)) (g := (gName 4)) (vs := [4]) (pg_name (i := 4) nd rfl (by first | exact Or.inl rfl | exact Or.inr rfl)) g_nm (b_cons (st_if (t_cmp (o_eq (hu64 hr)) (d_call A.f_law_draw hk pass0 (aCons_len (aCons_len aNil_len)) (a_cons (d_var 0) (a_cons d_int a_nil))) d_int (nomark _)) (b_one (st_expr (d_mutL PySem.F.slot_list_append PySem.F.type_list_append m_app (d_var 3) (a_cons (d_tup (a_cons d_str a_nil)) a_nil)))) b_nil)
    (b_cons (st_set 5 nd (d_call A.f_law_one_of hk pass0 (aCons_len (aCons_len aNil_len)) (a_cons (d_var 0) (a_cons (d_at (hu64 hr) (d_var 1) d_str) a_nil))))
    (b_one (st_expr (d_mutL PySem.F.slot_list_append PySem.F.type_list_append m_app (d_var 3) (a_cons (d_tup (a_cons d_str (a_cons (d_tup (a_cons (d_tup (a_cons (d_var 5) (a_cons (d_call A.f_law_sum_of hk pass0 (aCons_len (aCons_len (aCons_len (aCons_len aNil_len)))) (a_cons (d_var 0) (a_cons (d_var 1) (a_cons (d_at (hu64 hr) (d_var 1) d_str) (a_cons d_int a_nil))))) a_nil))) a_nil)) a_nil))) a_nil)))))))
    (b_one (st_ret (d_callTy c_tuple M.z_tuple (a_cons (d_var 3) a_nil))))))
theorem sc_f_law_loop_block : FnScope ["state", "w", "plain", "found", "k", "test", "one"] ["state", "w", "plain"] (defScope s_f_law_loop_block) := ⟨rfl, rfl, rfl, by decide +kernel, rfl, by decide +kernel, by decide +kernel⟩
theorem ok_f_law_loop_block (M : Fx P K mg) (A : All P w K mg base k T) (F : Fun K "_law_loop_block" "_law_loop_block" s_f_law_loop_block f fd) : FnOk P w K mg base CX0 (k + 2) f fd ["state", "w", "plain"] (spD K (clOf mg) 3 2 (fn_f_law_loop_block T)) :=
  fn_ok (k := k + 1) F sc_f_law_loop_block (by decide) fun cdv A' outer s H E hr => by
    have nd := sc_f_law_loop_block.nd
    have hk := hr.mono (Nat.le_succ k)
    exact (b_cons (st_store (hu64 hr) (d_var 1) d_str d_bl)
    (b_cons (st_set 3 nd (d_call A.f_law_loop_sets hk pass0 (aCons_len (aCons_len (aCons_len aNil_len))) (a_cons (d_var 0) (a_cons (d_var 1) (a_cons (d_call A.f_law_draw hk pass0 (aCons_len (aCons_len aNil_len)) (a_cons (d_var 0) (a_cons d_int a_nil))) a_nil)))))
    (b_cons (st_for PassesOwn.never rfl (i_range1 M.z_range (a_cons (d_bin o_add d_int (d_call A.f_law_draw hk pass0 (aCons_len (aCons_len aNil_len)) (a_cons (d_var 0) (a_cons d_int a_nil)))) a_nil)) (g := (gName 4)) (vs := [4]) (pg_name (i := 4) nd rfl (by first | exact Or.inl rfl | exact Or.inr rfl)) g_nm (b_cons (st_set 5 nd (d_call A.f_law_loop_test hk pass0 (aCons_len (aCons_len (aCons_len aNil_len))) (a_cons (d_var 0) (a_cons (d_var 1) (a_cons (d_var 2) a_nil)))))
    (b_cons (st_set 6 nd (d_call A.f_law_loop_sets hk pass0 (aCons_len (aCons_len (aCons_len aNil_len))) (a_cons (d_var 0) (a_cons (d_var 1) (a_cons (d_bin o_add d_int (d_call A.f_law_draw hk pass0 (aCons_len (aCons_len aNil_len)) (a_cons (d_var 0) (a_cons d_int a_nil)))) a_nil)))))
    (b_cons (st_if (t_cmp (o_eq (hu64 hr)) (d_call A.f_law_draw hk pass0 (aCons_len (aCons_len aNil_len)) (a_cons (d_var 0) (a_cons d_int a_nil))) d_int (nomark _)) (b_one (st_set 6 nd (d_bin o_add (d_var 6) (d_tup (a_cons (d_tup (a_cons d_str (a_cons (d_call A.f_law_loop_test hk pass0 (aCons_len (aCons_len (aCons_len aNil_len))) (a_cons (d_var 0) (a_cons (d_var 1) (a_cons (d_var 2) a_nil)))) (a_cons (d_call A.f_law_loop_sets hk pass0 (aCons_len (aCons_len (aCons_len aNil_len))) (a_cons (d_var 0) (a_cons (d_var 1) (a_cons d_int a_nil)))) (a_cons (d_tup a_nil) a_nil))))) a_nil))))) b_nil)
    (b_one (st_set 3 nd (d_bin o_add (d_var 3) (d_tup (a_cons (d_tup (a_cons d_str (a_cons (d_var 5) (a_cons (d_var 6) (a_cons (d_call A.f_law_loop_sets hk pass0 (aCons_len (aCons_len (aCons_len aNil_len))) (a_cons (d_var 0) (a_cons (d_var 1) (a_cons (d_call A.f_law_draw hk pass0 (aCons_len (aCons_len aNil_len)) (a_cons (d_var 0) (a_cons d_int a_nil))) a_nil)))) a_nil))))) a_nil)))))))))
    (b_cons (st_if (t_cmp (o_eq (hu64 hr)) (d_call A.f_law_draw hk pass0 (aCons_len (aCons_len aNil_len)) (a_cons (d_var 0) (a_cons d_int a_nil))) d_int (nomark _)) (b_one (st_set 3 nd (d_bin o_add (d_var 3) (d_call A.f_law_loop_sets hk pass0 (aCons_len (aCons_len (aCons_len aNil_len))) (a_cons (d_var 0) (a_cons (d_var 1) (a_cons d_int a_nil))))))) b_nil)
    (b_one (st_ret (d_var 3)))))))
theorem sc_f_law_loop_with : FnScope ["state", "name", "plain", "gives", "starts", "places", "w", "head", "block", "step", "last", "loop", "items", "results", "give", "at", "body", "x", "kind"] ["state", "name", "plain", "gives", "starts", "places"] (defScope s_f_law_loop_with) := ⟨rfl, rfl, rfl, by decide +kernel, rfl, by decide +kernel, by decide +kernel⟩
theorem ok_f_law_loop_with (M : Fx P K mg) (A : All P w K mg base k T) (F : Fun K "_law_loop_with" "_law_loop_with" s_f_law_loop_with f fd) : FnOk P w K mg base CX0 (k + 2) f fd ["state", "name", "plain", "gives", "starts", "places"] (spD K (clOf mg) 6 1 (fn_f_law_loop_with T)) :=
  fn_ok (k := k + 1) F sc_f_law_loop_with (by decide) fun cdv A' outer s H E hr => by
    have nd := sc_f_law_loop_with.nd
    have hk := hr.mono (Nat.le_succ k)
    exact (b_cons (st_callO 6 nd A.f_law_loop_words hk pass0 (aCons_len (aCons_len (aCons_len aNil_len))) (a_cons (d_var 0) (a_cons (d_var 4) (a_cons (d_var 5) a_nil))))
    (b_cons (st_if (t_w (w_and (t_cmp (o_eq (hu64 hr)) (d_var 3) d_str (nomark _)) (w_and1 (t_cmp o_gt (d_var 5) d_int (nomark _))))) (b_cons (st_store (hu64 hr) (d_var 6) d_str (d_lc rfl nd (i_seq (d_at (hu64 hr) (d_var 6) d_str)) (blkOk_by (own := [("x", 17)]) (by kernel_rfl)) (g := (gName 17)) g_nm (fun _ _ _ _ _ => (pg_name (i := 17) nd rfl (by first | exact Or.inl rfl | exact Or.inr rfl))) (fun _ _ _ _ _ => ts_nil) (fun _ _ _ _ _ => (d_catR (hyz := by decide) (d_var 17)))))
    (b_one (st_store (hu64 hr) (d_var 6) d_str (d_bin o_add (d_at (hu64 hr) (d_var 6) d_str) (d_at (hu64 hr) (d_var 6) d_str))))) b_nil)
    (b_cons (st_store (hu64 hr) (d_var 6) d_str d_bl)
    (b_cons (st_set 7 nd (d_call A.f_law_loop_sets hk pass0 (aCons_len (aCons_len (aCons_len aNil_len))) (a_cons (d_var 0) (a_cons (d_var 6) (a_cons (d_call A.f_law_draw hk pass0 (aCons_len (aCons_len aNil_len)) (a_cons (d_var 0) (a_cons d_int a_nil))) a_nil)))))
    (b_cons (st_set 8 nd (d_call A.f_law_loop_block hk pass0 (aCons_len (aCons_len (aCons_len aNil_len))) (a_cons (d_var 0) (a_cons (d_var 6) (a_cons (d_var 2) a_nil)))))
    (b_cons (st_store (hu64 hr) (d_var 6) d_str d_bl)
    (b_cons (st_set 9 nd (d_tup (a_cons d_str (a_cons (d_tup (a_cons (d_tup (a_cons (d_at (hu64 hr) (d_var 6) d_str) (a_cons (d_tup (a_cons d_str (a_cons (d_tup (a_cons d_str (a_cons (d_at (hu64 hr) (d_var 6) d_str) a_nil))) (a_cons (d_tup (a_cons d_str (a_cons d_int a_nil))) a_nil)))) a_nil))) a_nil)) a_nil))))
    (b_cons (st_set 10 nd (d_sl s_sl (d_tup (a_cons (d_tup (a_cons d_str a_nil)) a_nil)) o_none (o_some (d_call A.f_law_draw hk pass0 (aCons_len (aCons_len aNil_len)) (a_cons (d_var 0) (a_cons d_int a_nil))))))
    (b_cons (st_set 11 nd (d_tup (a_cons d_str (a_cons (d_tup (a_cons d_str (a_cons (d_tup (a_cons d_str (a_cons (d_at (hu64 hr) (d_var 6) d_str) a_nil))) (a_cons (d_tup (a_cons d_str (a_cons (d_at (hu64 hr) (d_var 6) d_str) a_nil))) a_nil)))) (a_cons (d_bin o_add (d_bin o_add (d_var 8) (d_tup (a_cons (d_var 9) a_nil))) (d_var 10)) a_nil)))))
    (b_cons (st_set 12 nd (d_call A.f_law_shuffled hk pass0 (aCons_len (aCons_len aNil_len)) (a_cons (d_var 0) (a_cons (d_bin o_add (d_lst (a_cons (d_tup (a_cons d_str (a_cons (d_at (hu64 hr) (d_var 6) d_str) a_nil))) a_nil)) (d_lc rfl nd (i_seq (d_at (hu64 hr) (d_var 6) d_str)) (blkOk_by (own := [("x", 17)]) (by kernel_rfl)) (g := (gName 17)) g_nm (fun _ _ _ _ _ => (pg_name (i := 17) nd rfl (by first | exact Or.inl rfl | exact Or.inr rfl))) (fun _ _ _ _ _ => ts_nil) (fun _ _ _ _ _ => (d_tup (a_cons d_str (a_cons (d_var 17) a_nil)))))) a_nil))))
    (b_cons (st_store (hu64 hr) (d_var 6) d_str (d_lc rfl nd (i_seq (d_var 12)) (blkOk_by (own := [("kind", 18), ("x", 17)]) (by kernel_rfl)) (g := (gTup K 2 (gCons (gName 18) (gCons (gName 17) gNil)))) (g_tp (gs_cons g_nm (gs_cons g_nm gs_nil))) (fun _ _ _ _ _ => (pg_tup rfl (pgs_cons (pg_name (i := 18) nd rfl (by first | exact Or.inl rfl | exact Or.inr rfl)) (pgs_cons (pg_name (i := 17) nd rfl (by first | exact Or.inl rfl | exact Or.inr rfl)) pgs_nil)))) (fun _ _ _ _ _ => (ts_one (t_cmp (o_eq (hu64 hr)) (d_var 18) d_str (nomark _)))) (fun _ _ _ _ _ => (d_var 17))))
    (b_cons (st_store (hu64 hr) (d_var 6) d_str (d_bin o_add (d_at (hu64 hr) (d_var 6) d_str) (d_at (hu64 hr) (d_var 6) d_str)))
    (b_cons (st_set 13 nd (d_tup (a_cons d_str a_nil)))
    (b_cons (st_set 14 nd (d_tup (a_cons d_str (a_cons (d_tup (a_cons (d_call A.f_law_sum_of hk pass0 (aCons_len (aCons_len (aCons_len (aCons_len aNil_len)))) (a_cons (d_var 0) (a_cons (d_var 6) (a_cons (d_at (hu64 hr) (d_var 6) d_str) (a_cons d_int a_nil))))) a_nil)) a_nil))))
    (b_cons (st_if (t_w (w_and (t_cmp (o_eq (hu64 hr)) (d_var 3) d_str (nomark _)) (w_and1 (t_cmp o_gt (d_callB c_len M.z_len (a_cons (d_at (hu64 hr) (d_var 6) d_str) a_nil)) d_int (nomark _))))) (b_cons (st_set 13 nd (d_callTy c_tuple M.z_tuple (a_cons (d_lc rfl nd (i_seq (d_at (hu64 hr) (d_var 6) d_str)) (blkOk_by (own := [("x", 17)]) (by kernel_rfl)) (g := (gName 17)) g_nm (fun _ _ _ _ _ => (pg_name (i := 17) nd rfl (by first | exact Or.inl rfl | exact Or.inr rfl))) (fun _ _ _ _ _ => ts_nil) (fun _ _ _ _ _ => (d_bin o_add d_str (d_sl s_sl (d_var 17) (o_some d_int) o_none)))) a_nil)))
    (b_one (st_set 14 nd (d_tup (a_cons d_str (a_cons (d_callTy c_tuple M.z_tuple (a_cons (d_lc rfl nd (i_seq (d_at (hu64 hr) (d_var 6) d_str)) (blkOk_by (own := [("x", 17)]) (by kernel_rfl)) (g := (gName 17)) g_nm (fun _ _ _ _ _ => (pg_name (i := 17) nd rfl (by first | exact Or.inl rfl | exact Or.inr rfl))) (fun _ _ _ _ _ => ts_nil) (fun _ _ _ _ _ => (d_tup (a_cons d_str (a_cons (d_var 17) a_nil))))) a_nil)) a_nil)))))) b_nil)
    (b_cons (st_setLc 5 rfl nd (i_seq (d_at (hu64 hr) (d_var 6) d_str)) (blkOk_by (own := [("x", 17)]) (by kernel_rfl)) (g := (gName 17)) g_nm (fun _ _ _ _ _ => (pg_name (i := 17) nd rfl (by first | exact Or.inl rfl | exact Or.inr rfl))) (fun _ _ _ _ _ => ts_nil) (fun _ _ _ _ _ => (d_tup (a_cons d_str (a_cons (d_var 17) a_nil)))))
    (b_cons (st_set 15 nd (d_bin o_mul (d_callB c_len M.z_len (a_cons (d_var 5) a_nil)) (d_call A.f_law_draw hk pass0 (aCons_len (aCons_len aNil_len)) (a_cons (d_var 0) (a_cons d_int a_nil)))))
    (b_cons (st_set 5 nd (d_bin o_add (d_bin o_add (d_sl s_sl (d_var 5) o_none (o_some (d_var 15))) (d_lst (a_cons (d_tup (a_cons d_str (a_cons (d_at (hu64 hr) (d_var 6) d_str) a_nil))) a_nil))) (d_sl s_sl (d_var 5) (o_some (d_var 15)) o_none)))
    (b_cons (st_store (hu64 hr) (d_var 6) d_str (d_var 7))
    (b_cons (st_store (hu64 hr) (d_var 6) d_str (d_var 8))
    (b_cons (st_store (hu64 hr) (d_var 6) d_str (d_var 14))
    (b_cons (st_set 16 nd (d_bin o_add (d_bin o_add (d_bin o_add (d_var 7) (d_tup (a_cons (d_var 11) a_nil))) (d_sl s_sl (d_tup (a_cons (d_tup (a_cons d_str a_nil)) a_nil)) o_none (o_some (d_call A.f_law_draw hk pass0 (aCons_len (aCons_len aNil_len)) (a_cons (d_var 0) (a_cons d_int a_nil)))))) (d_tup (a_cons (d_var 14) a_nil))))
    (b_cons (st_store (hu64 hr) (d_var 6) d_str (d_tup (a_cons (d_var 1) (a_cons (d_callTy c_tuple M.z_tuple (a_cons (d_var 12) a_nil)) (a_cons (d_var 13) (a_cons (d_callTy c_tuple M.z_tuple (a_cons (d_var 5) a_nil)) (a_cons (d_tup a_nil) (a_cons (d_tup a_nil) (a_cons (d_tup a_nil) (a_cons (d_tup a_nil) (a_cons (d_var 16) a_nil)))))))))))
    (b_one (st_ret (d_var 6))))))))))))))))))))))))))
theorem sc_f_law_loop_proc : FnScope ["state", "name", "plain", "gives", "starts"] ["state", "name", "plain", "gives"] (defScope s_f_law_loop_proc) := ⟨rfl, rfl, rfl, by decide +kernel, rfl, by decide +kernel, by decide +kernel⟩
theorem ok_f_law_loop_proc (M : Fx P K mg) (A : All P w K mg base k T) (F : Fun K "_law_loop_proc" "_law_loop_proc" s_f_law_loop_proc f fd) : FnOk P w K mg base CX0 (k + 2) f fd ["state", "name", "plain", "gives"] (spD K (clOf mg) 4 1 (fn_f_law_loop_proc T)) :=
  fn_ok (k := k + 1) F sc_f_law_loop_proc (by decide) fun cdv A' outer s H E hr => by
    have nd := sc_f_law_loop_proc.nd
    have hk := hr.mono (Nat.le_succ k)
    exact (b_cons (st_set 4 nd (d_call A.f_law_draw hk pass0 (aCons_len (aCons_len aNil_len)) (a_cons (d_var 0) (a_cons d_int a_nil))))
    (b_one (st_ret (d_call A.f_law_loop_with hk pass0 (aCons_len (aCons_len (aCons_len (aCons_len (aCons_len (aCons_len aNil_len)))))) (a_cons (d_var 0) (a_cons (d_var 1) (a_cons (d_var 2) (a_cons (d_var 3) (a_cons (d_var 4) (a_cons (d_bin o_add d_int (d_call A.f_law_draw hk pass0 (aCons_len (aCons_len aNil_len)) (a_cons (d_var 0) (a_cons d_int a_nil)))) a_nil))))))))))
theorem sc_f_law_refused : FnScope ["core", "name", "e"] ["core", "name"] (defScope s_f_law_refused) := ⟨rfl, rfl, rfl, by decide +kernel, rfl, by decide +kernel, by decide +kernel⟩
theorem ok_f_law_refused (M : Fx P K mg) (A : All P w K mg base k T) (F : Fun K "_law_refused" "_law_refused" s_f_law_refused f fd) : FnOk P w K mg base CX0 (k + 2) f fd ["core", "name"] (spD K (clOf mg) 2 0 (fn_f_law_refused T)) :=
  fn_ok (k := k + 1) F sc_f_law_refused (by decide) fun cdv A' outer s H E hr => by
    have nd := sc_f_law_refused.nd
    have hk := hr.mono (Nat.le_succ k)
    exact (b_cons (st_tryE rfl rfl nd (hde_cons M.e_BadLoop rfl (ls_cons M.m_BadLoop_BadLoop (ls_cons M.m_UnknownName_BadLoop ls_nil)) (tab_t (fun a oe cls d pn fs hz hf => us_one (u_ret (u_tup (ua_cons (u_of d_str) (ua_cons (u_fldE M.e_BadLoop rfl hz hf) (ua_cons (u_and (u_isE M.e_BadLoop rfl M.i_BadLoop_CutanywhereError M.z_isinstance hz hf) (u_and1 (u_not (u_isE M.e_BadLoop rfl M.i_BadLoop_UnknownName M.z_isinstance hz hf)))) ua_nil)))))) (tab_f tab_none)) (hde_cons M.e_UnknownName rfl (ls_cons M.m_UnknownName_UnknownName ls_nil) (tab_t (fun a oe cls d pn fs hz hf => us_one (u_ret (u_tup (ua_cons (u_of d_str) (ua_cons (u_fldE M.e_UnknownName rfl hz hf) (ua_cons (u_and (u_isE M.e_UnknownName rfl M.i_UnknownName_CutanywhereError M.z_isinstance hz hf) (u_and1 (u_not (u_isE M.e_UnknownName rfl M.i_UnknownName_BadLoop M.z_isinstance hz hf)))) ua_nil)))))) tab_none) hde_nil)) (fun W pn xe tk po => (x_one (x_expr (xe_call A.carried_of hk tk (aCons_len (aCons_len aNil_len)) (a_cons (d_var 0) (a_cons (d_var 1) a_nil)))))))
    (b_one (st_ret (d_tup (a_cons d_str (a_cons d_str (a_cons d_bl a_nil)))))))
theorem sc_law : FnScope ["script", "state", "names", "core", "due", "name", "k", "w", "p"] ["script"] (defScope s_law) := ⟨rfl, rfl, rfl, by decide +kernel, rfl, by decide +kernel, by decide +kernel⟩
theorem ok_law (M : Fx P K mg) (A : All P w K mg base k T) (F : Fun K "law" "law" s_law f fd) : FnOk P w K mg base CX0 (k + 2) f fd ["script"] (spD K (clOf mg) 1 0 (fn_law T)) :=
  fn_ok (k := k + 1) F sc_law (by decide) fun cdv A' outer s H E hr => by
    have nd := sc_law.nd
    have hk := hr.mono (Nat.le_succ k)
    exact (b_cons (st_callO 1 nd A.f_law_start hk pass0 (aCons_len aNil_len) (a_cons (d_var 0) a_nil))
    (b_cons (st_set 2 nd (d_callB (c_else c_sorted (c_else c_sortR c_sortS)) M.z_sorted (a_cons (d_call A.f_law_words hk pass0 (aCons_len (aCons_len aNil_len)) (a_cons (d_var 1) (a_cons d_int a_nil))) a_nil)))
    (b_cons (st_newL 3 nd a_nil)
    (b_cons (st_newL 4 nd a_nil)
    (b_cons (st_for PassesOwn.never rfl (i_seq (d_var 2)) (g := (gName 5)) (vs := [5]) (pg_name (i := 5) nd rfl (by first | exact Or.inl rfl | exact Or.inr rfl)) g_nm (b_cons (st_set 7 nd (d_call A.f_law_loop_proc hk pass0 (aCons_len (aCons_len (aCons_len (aCons_len aNil_len)))) (a_cons (d_var 1) (a_cons (d_var 5) (a_cons (d_cmp (o_eq (hu64 hr)) (d_call A.f_law_draw hk pass0 (aCons_len (aCons_len aNil_len)) (a_cons (d_var 1) (a_cons d_int a_nil))) d_int (nomark _)) (a_cons (d_at (hu64 hr) (d_lst (a_cons d_str (a_cons d_str a_nil))) (d_call A.f_law_draw hk pass0 (aCons_len (aCons_len aNil_len)) (a_cons (d_var 1) (a_cons d_int a_nil)))) a_nil))))))
    (b_cons (st_set 8 nd (d_at (hu64 hr) (d_var 7) d_str))
    (b_cons (st_if (t_cmp (o_eq (hu64 hr)) (d_call A.f_law_draw hk pass0 (aCons_len (aCons_len aNil_len)) (a_cons (d_var 1) (a_cons d_int a_nil))) d_int (nomark _)) (b_cons (st_set 8 nd (d_bin o_add (d_sl s_sl (d_var 8) o_none (o_some d_int)) (d_tup (a_cons (d_bin o_add (d_sl s_sl (d_at (hu64 hr) (d_var 8) d_int) o_none (o_some (d_un o_neg d_int))) (d_tup (a_cons (d_tup (a_cons d_str a_nil)) (a_cons (d_tup (a_cons d_str (a_cons (d_tup (a_cons d_str (a_cons d_int a_nil))) (a_cons (d_at (hu64 hr) (d_var 7) d_str) a_nil)))) a_nil)))) a_nil))))
    (b_one (st_expr (d_mutL PySem.F.slot_list_append PySem.F.type_list_append m_app (d_var 4) (a_cons (d_tup (a_cons d_str (a_cons (d_var 5) (a_cons d_bl a_nil)))) a_nil))))) (b_one (st_expr (d_mutL PySem.F.slot_list_append PySem.F.type_list_append m_app (d_var 4) (a_cons (d_callTy c_tuple M.z_tuple (a_cons (d_at (hu64 hr) (d_var 7) d_str) a_nil)) a_nil)))))
    (b_one (st_expr (d_mutL PySem.F.slot_list_append PySem.F.type_list_append m_app (d_var 3) (a_cons (d_var 8) a_nil))))))))
    (b_cons (st_set 3 nd (d_callTy c_tuple M.z_tuple (a_cons (d_var 3) a_nil)))
    (b_cons (st_for PassesOwn.never rfl (i_range1 M.z_range (a_cons d_int a_nil)) (g := (gName 6)) (vs := [6]) (pg_name (i := 6) nd rfl (by first | exact Or.inl rfl | exact Or.inr rfl)) g_nm (b_one (st_if (t_w (w_and (t_cmp (o_eq (hu64 hr)) (d_sl s_sl (d_at (hu64 hr) (d_var 4) (d_var 6)) o_none (o_some d_int)) (d_tup (a_cons d_str a_nil)) (nomark _)) (w_and (t_cmp (o_eq (hu64 hr)) (d_callB c_len M.z_len (a_cons (d_at (hu64 hr) (d_var 4) (d_var 6)) a_nil)) d_int (nomark _)) (w_and1 (t_cmp o_is (d_at (hu64 hr) (d_at (hu64 hr) (d_var 4) (d_var 6)) d_int) d_bl (nomark _)))))) (b_one (st_if (t_cmp (o_ne (hu64 hr)) (d_call A.f_law_refused hk pass0 (aCons_len (aCons_len aNil_len)) (a_cons (d_var 3) (a_cons (d_at (hu64 hr) (d_var 2) (d_var 6)) a_nil))) (d_at (hu64 hr) (d_var 4) (d_var 6)) (nomark _)) (b_one (st_ret d_bl)) b_nil)) (b_one (st_if (t_not (t_tru (d_call A.f_law_same hk pass0 (aCons_len (aCons_len aNil_len)) (a_cons (d_call (Cal.noX A.carried_of) hk passX0 (aCons_len (aCons_len aNil_len)) (a_cons (d_var 3) (a_cons (d_at (hu64 hr) (d_var 2) (d_var 6)) a_nil))) (a_cons (d_at (hu64 hr) (d_var 4) (d_var 6)) a_nil))))) (b_one (st_ret d_bl)) b_nil)))))
    (b_cons (st_for PassesOwn.never rfl (i_seq (d_lst (a_cons d_str (a_cons (d_bin o_add (d_at (hu64 hr) (d_var 2) d_int) d_str) (a_cons (d_bin o_add (d_at (hu64 hr) (d_var 2) d_int) d_str) a_nil))))) (g := (gName 5)) (vs := [5]) (pg_name (i := 5) nd rfl (by first | exact Or.inl rfl | exact Or.inr rfl)) g_nm (b_one (st_if (t_cmp (o_ne (hu64 hr)) (d_call A.f_law_refused hk pass0 (aCons_len (aCons_len aNil_len)) (a_cons (d_var 3) (a_cons (d_var 5) a_nil))) (d_tup (a_cons d_str (a_cons (d_var 5) (a_cons d_bl a_nil)))) (nomark _)) (b_one (st_ret d_bl)) b_nil)))
    (b_one (st_ret d_bl))))))))))
end
structure Tops (K : PySem.W.Frag) (mg : Str → Option Value) : Prop where
  proc_named : FnAt K mg "proc_named" s_proc_named ["core", "name"]
  Loop_init : IniAt K mg "Loop" "Loop.__init__" s_Loop_init ["self", "proc", "index", "head", "block", "give"]
  without_pauses : FnAt K mg "without_pauses" s_without_pauses ["body"]
  with_item : FnAt K mg "with_item" s_with_item ["part"]
  is_sum : FnAt K mg "is_sum" s_is_sum ["expression", "names", "item"]
  is_test : FnAt K mg "is_test" s_is_test ["condition", "names", "item"]
  is_straight : FnAt K mg "is_straight" s_is_straight ["body", "names", "item"]
  index_of : FnAt K mg "index_of" s_index_of ["loop", "row", "proc"]
  parts_of : FnAt K mg "parts_of" s_parts_of ["proc"]
  check_name : FnAt K mg "check_name" s_check_name ["core", "name"]
  loop_of : FnAt K mg "loop_of" s_loop_of ["core", "name"]
  carried_of : FnAt K mg "carried_of" s_carried_of ["core", "name"]
  f_law_start : FnAt K mg "_law_start" s_f_law_start ["script"]
  f_law_draw : FnAt K mg "_law_draw" s_f_law_draw ["state", "most"]
  f_law_one_of : FnAt K mg "_law_one_of" s_f_law_one_of ["state", "items"]
  f_law_shuffled : FnAt K mg "_law_shuffled" s_f_law_shuffled ["state", "items"]
  f_law_words : FnAt K mg "_law_words" s_f_law_words ["state", "many"]
  f_law_is_int : FnAt K mg "_law_is_int" s_f_law_is_int ["x"]
  f_law_same : FnAt K mg "_law_same" s_f_law_same ["x", "y"]
  f_law_loop_words : FnAt K mg "_law_loop_words" s_f_law_loop_words ["state", "starts", "places"]
  f_law_sum_of : FnAt K mg "_law_sum_of" s_f_law_sum_of ["state", "w", "names", "depth"]
  f_law_item_sum : FnAt K mg "_law_item_sum" s_f_law_item_sum ["state", "w"]
  f_law_one_test : FnAt K mg "_law_one_test" s_f_law_one_test ["state", "w", "plain"]
  f_law_loop_test : FnAt K mg "_law_loop_test" s_f_law_loop_test ["state", "w", "plain"]
  f_law_loop_sets : FnAt K mg "_law_loop_sets" s_f_law_loop_sets ["state", "w", "many"]
  f_law_loop_block : FnAt K mg "_law_loop_block" s_f_law_loop_block ["state", "w", "plain"]
  f_law_loop_with : FnAt K mg "_law_loop_with" s_f_law_loop_with ["state", "name", "plain", "gives", "starts", "places"]
  f_law_loop_proc : FnAt K mg "_law_loop_proc" s_f_law_loop_proc ["state", "name", "plain", "gives"]
  f_law_refused : FnAt K mg "_law_refused" s_f_law_refused ["core", "name"]
  law : FnAt K mg "law" s_law ["script"]
section
variable {P : Program} {w : World} {K : PySem.W.Frag} {mg : Str → Option Value} {base : Heap}
theorem all_zero (t : Tops K mg) : All P w K mg base 0 (tab 0) where
  proc_named := by obtain ⟨f, fd, h1, h2, h3⟩ := t.proc_named; exact ⟨f, fd, h1, h2.kp, h3, fn_none⟩
  Loop_init := by obtain ⟨C, f, fd, h1, h2, h3, h4⟩ := t.Loop_init; exact ⟨C, h1, ⟨f, fd, h2, fn_none, h1, h4⟩⟩
  without_pauses := by obtain ⟨f, fd, h1, h2, h3⟩ := t.without_pauses; exact ⟨f, fd, h1, h2.kp, h3, fn_none⟩
  with_item := by obtain ⟨f, fd, h1, h2, h3⟩ := t.with_item; exact ⟨f, fd, h1, h2.kp, h3, fn_none⟩
  is_sum := by obtain ⟨f, fd, h1, h2, h3⟩ := t.is_sum; exact ⟨f, fd, h1, h2.kp, h3, fn_none⟩
  is_test := by obtain ⟨f, fd, h1, h2, h3⟩ := t.is_test; exact ⟨f, fd, h1, h2.kp, h3, fn_none⟩
  is_straight := by obtain ⟨f, fd, h1, h2, h3⟩ := t.is_straight; exact ⟨f, fd, h1, h2.kp, h3, fn_none⟩
  index_of := by obtain ⟨f, fd, h1, h2, h3⟩ := t.index_of; exact ⟨f, fd, h1, h2.kp, h3, fn_none⟩
  parts_of := by obtain ⟨f, fd, h1, h2, h3⟩ := t.parts_of; exact ⟨f, fd, h1, h2.kp, h3, fn_none⟩
  check_name := by obtain ⟨f, fd, h1, h2, h3⟩ := t.check_name; exact ⟨f, fd, h1, h2.kp, h3, fn_noneX⟩
  loop_of := by obtain ⟨f, fd, h1, h2, h3⟩ := t.loop_of; exact ⟨f, fd, h1, h2.kp, h3, fn_noneX⟩
  carried_of := by obtain ⟨f, fd, h1, h2, h3⟩ := t.carried_of; exact ⟨f, fd, h1, h2.kp, h3, fn_noneX⟩
  f_law_start := by obtain ⟨f, fd, h1, h2, h3⟩ := t.f_law_start; exact ⟨f, fd, h1, h2.kp, h3, fn_noneO⟩
  f_law_draw := by obtain ⟨f, fd, h1, h2, h3⟩ := t.f_law_draw; exact ⟨f, fd, h1, h2.kp, h3, fn_none⟩
  f_law_one_of := by obtain ⟨f, fd, h1, h2, h3⟩ := t.f_law_one_of; exact ⟨f, fd, h1, h2.kp, h3, fn_none⟩
  f_law_shuffled := by obtain ⟨f, fd, h1, h2, h3⟩ := t.f_law_shuffled; exact ⟨f, fd, h1, h2.kp, h3, fn_none⟩
  f_law_words := by obtain ⟨f, fd, h1, h2, h3⟩ := t.f_law_words; exact ⟨f, fd, h1, h2.kp, h3, fn_none⟩
  f_law_is_int := by obtain ⟨f, fd, h1, h2, h3⟩ := t.f_law_is_int; exact ⟨f, fd, h1, h2.kp, h3, fn_none⟩
  f_law_same := by obtain ⟨f, fd, h1, h2, h3⟩ := t.f_law_same; exact ⟨f, fd, h1, h2.kp, h3, fn_none⟩
  f_law_loop_words := by obtain ⟨f, fd, h1, h2, h3⟩ := t.f_law_loop_words; exact ⟨f, fd, h1, h2.kp, h3, fn_noneO⟩
  f_law_sum_of := by obtain ⟨f, fd, h1, h2, h3⟩ := t.f_law_sum_of; exact ⟨f, fd, h1, h2.kp, h3, fn_none⟩
  f_law_item_sum := by obtain ⟨f, fd, h1, h2, h3⟩ := t.f_law_item_sum; exact ⟨f, fd, h1, h2.kp, h3, fn_none⟩
  f_law_one_test := by obtain ⟨f, fd, h1, h2, h3⟩ := t.f_law_one_test; exact ⟨f, fd, h1, h2.kp, h3, fn_none⟩
  f_law_loop_test := by obtain ⟨f, fd, h1, h2, h3⟩ := t.f_law_loop_test; exact ⟨f, fd, h1, h2.kp, h3, fn_none⟩
  f_law_loop_sets := by obtain ⟨f, fd, h1, h2, h3⟩ := t.f_law_loop_sets; exact ⟨f, fd, h1, h2.kp, h3, fn_none⟩
  f_law_loop_block := by obtain ⟨f, fd, h1, h2, h3⟩ := t.f_law_loop_block; exact ⟨f, fd, h1, h2.kp, h3, fn_none⟩
  f_law_loop_with := by obtain ⟨f, fd, h1, h2, h3⟩ := t.f_law_loop_with; exact ⟨f, fd, h1, h2.kp, h3, fn_none⟩
  f_law_loop_proc := by obtain ⟨f, fd, h1, h2, h3⟩ := t.f_law_loop_proc; exact ⟨f, fd, h1, h2.kp, h3, fn_none⟩
  f_law_refused := by obtain ⟨f, fd, h1, h2, h3⟩ := t.f_law_refused; exact ⟨f, fd, h1, h2.kp, h3, fn_none⟩
  law := by obtain ⟨f, fd, h1, h2, h3⟩ := t.law; exact ⟨f, fd, h1, h2.kp, h3, fn_none⟩
theorem all_step (M : Fx P K mg) (t : Tops K mg) {k n : Nat} (A : All P w K mg base k (tab n)) : All P w K mg base (k + 2) (tab (n + 1)) where
  proc_named := by obtain ⟨f, fd, h1, h2, h3⟩ := t.proc_named; exact ⟨f, fd, h1, h2.kp, h3, ok_proc_named M A h2⟩
  Loop_init := by obtain ⟨C, f, fd, h1, h2, h3, h4⟩ := t.Loop_init; exact ⟨C, h1, ⟨f, fd, h2, ok_Loop_init M A h3, h1, h4⟩⟩
  without_pauses := by obtain ⟨f, fd, h1, h2, h3⟩ := t.without_pauses; exact ⟨f, fd, h1, h2.kp, h3, ok_without_pauses M A h2⟩
  with_item := by obtain ⟨f, fd, h1, h2, h3⟩ := t.with_item; exact ⟨f, fd, h1, h2.kp, h3, ok_with_item M A h2⟩
  is_sum := by obtain ⟨f, fd, h1, h2, h3⟩ := t.is_sum; exact ⟨f, fd, h1, h2.kp, h3, ok_is_sum M A h2⟩
  is_test := by obtain ⟨f, fd, h1, h2, h3⟩ := t.is_test; exact ⟨f, fd, h1, h2.kp, h3, ok_is_test M A h2⟩
  is_straight := by obtain ⟨f, fd, h1, h2, h3⟩ := t.is_straight; exact ⟨f, fd, h1, h2.kp, h3, ok_is_straight M A h2⟩
  index_of := by obtain ⟨f, fd, h1, h2, h3⟩ := t.index_of; exact ⟨f, fd, h1, h2.kp, h3, ok_index_of M A h2⟩
  parts_of := by obtain ⟨f, fd, h1, h2, h3⟩ := t.parts_of; exact ⟨f, fd, h1, h2.kp, h3, ok_parts_of M A h2⟩
  check_name := by obtain ⟨f, fd, h1, h2, h3⟩ := t.check_name; exact ⟨f, fd, h1, h2.kp, h3, ok_check_name M A h2⟩
  loop_of := by obtain ⟨f, fd, h1, h2, h3⟩ := t.loop_of; exact ⟨f, fd, h1, h2.kp, h3, ok_loop_of M A h2⟩
  carried_of := by obtain ⟨f, fd, h1, h2, h3⟩ := t.carried_of; exact ⟨f, fd, h1, h2.kp, h3, ok_carried_of M A h2⟩
  f_law_start := by obtain ⟨f, fd, h1, h2, h3⟩ := t.f_law_start; exact ⟨f, fd, h1, h2.kp, h3, ok_f_law_start M A h2⟩
  f_law_draw := by obtain ⟨f, fd, h1, h2, h3⟩ := t.f_law_draw; exact ⟨f, fd, h1, h2.kp, h3, ok_f_law_draw M A h2⟩
  f_law_one_of := by obtain ⟨f, fd, h1, h2, h3⟩ := t.f_law_one_of; exact ⟨f, fd, h1, h2.kp, h3, ok_f_law_one_of M A h2⟩
  f_law_shuffled := by obtain ⟨f, fd, h1, h2, h3⟩ := t.f_law_shuffled; exact ⟨f, fd, h1, h2.kp, h3, ok_f_law_shuffled M A h2⟩
  f_law_words := by obtain ⟨f, fd, h1, h2, h3⟩ := t.f_law_words; exact ⟨f, fd, h1, h2.kp, h3, ok_f_law_words M A h2⟩
  f_law_is_int := by obtain ⟨f, fd, h1, h2, h3⟩ := t.f_law_is_int; exact ⟨f, fd, h1, h2.kp, h3, ok_f_law_is_int M A h2⟩
  f_law_same := by obtain ⟨f, fd, h1, h2, h3⟩ := t.f_law_same; exact ⟨f, fd, h1, h2.kp, h3, ok_f_law_same M A h2⟩
  f_law_loop_words := by obtain ⟨f, fd, h1, h2, h3⟩ := t.f_law_loop_words; exact ⟨f, fd, h1, h2.kp, h3, ok_f_law_loop_words M A h2⟩
  f_law_sum_of := by obtain ⟨f, fd, h1, h2, h3⟩ := t.f_law_sum_of; exact ⟨f, fd, h1, h2.kp, h3, ok_f_law_sum_of M A h2⟩
  f_law_item_sum := by obtain ⟨f, fd, h1, h2, h3⟩ := t.f_law_item_sum; exact ⟨f, fd, h1, h2.kp, h3, ok_f_law_item_sum M A h2⟩
  f_law_one_test := by obtain ⟨f, fd, h1, h2, h3⟩ := t.f_law_one_test; exact ⟨f, fd, h1, h2.kp, h3, ok_f_law_one_test M A h2⟩
  f_law_loop_test := by obtain ⟨f, fd, h1, h2, h3⟩ := t.f_law_loop_test; exact ⟨f, fd, h1, h2.kp, h3, ok_f_law_loop_test M A h2⟩
  f_law_loop_sets := by obtain ⟨f, fd, h1, h2, h3⟩ := t.f_law_loop_sets; exact ⟨f, fd, h1, h2.kp, h3, ok_f_law_loop_sets M A h2⟩
  f_law_loop_block := by obtain ⟨f, fd, h1, h2, h3⟩ := t.f_law_loop_block; exact ⟨f, fd, h1, h2.kp, h3, ok_f_law_loop_block M A h2⟩
  f_law_loop_with := by obtain ⟨f, fd, h1, h2, h3⟩ := t.f_law_loop_with; exact ⟨f, fd, h1, h2.kp, h3, ok_f_law_loop_with M A h2⟩
  f_law_loop_proc := by obtain ⟨f, fd, h1, h2, h3⟩ := t.f_law_loop_proc; exact ⟨f, fd, h1, h2.kp, h3, ok_f_law_loop_proc M A h2⟩
  f_law_refused := by obtain ⟨f, fd, h1, h2, h3⟩ := t.f_law_refused; exact ⟨f, fd, h1, h2.kp, h3, ok_f_law_refused M A h2⟩
  law := by obtain ⟨f, fd, h1, h2, h3⟩ := t.law; exact ⟨f, fd, h1, h2.kp, h3, ok_law M A h2⟩
theorem all (M : Fx P K mg) (t : Tops K mg) : ∀ n : Nat, All P w K mg base (2 * n) (tab n)
  | 0 => all_zero t
  | n + 1 => all_step M t (all M t n)
end
theorem at_law {l : PySem.W.OpenLaw} {w : World} {K : PySem.W.Frag} {mg : Str → Option Value} {fa : Addr} (hfa : mg "law" = some (.ref fa)) (M : Fx l.prog K mg) (t : Tops K mg) (n : Nat) (hl : ∀ ns : List Int, ns.length ≤ 63 → (tab (n + 1)).law [.scr ns] = some (.ok (.bl true), [])) :
    ∃ fd : FuncData, (∀ (s : Shared) (v : Value), BindsTo s fd ⟨[v], []⟩ [("script", v)]) ∧ ∀ base : Heap, K.In base → base.Ns mainGlobals mg → FnOk l.prog w K mg base CX0 (2 * n + 2) fa fd ["script"] (spLaw K) := by
  obtain ⟨f, fd, h1, h2, _⟩ := t.law
  have e := hfa.symm.trans h1
  cases e
  refine ⟨fd, fun s v => ?_, fun base _ _ => law_of (ok_law M (all M t n) h2) hl⟩
  obtain ⟨oc, od, kV, doc, pm, an, cdv, ct, osl, rfl, _⟩ := h2.ex
  exact .of_eq rfl
theorem walk {l : PySem.W.OpenLaw} {q : Program} {loose : List Str} {XP : (Str → Option Value) → Heap → Prop} {YP : World → Heap → Prop} {d : DefRec} {K : Params → PySem.W.Frag} (n : Nat) (hr : Room (2 * n + 2) callerA) (hl : ∀ ns : List Int, ns.length ≤ 63 → (tab (n + 1)).law [.scr ns] = some (.ok (.bl true), []))
    (hn : l.most = some 63) (hdf : d.params.defaults = []) (hd : d.name = "law") (hY : ∀ (w : World) (h : Heap), YP w h → (K w.params).In h)
    (F : ∀ (w : World) (mg : Str → Option Value) (h : Heap), (K w.params).In h → h.Ns mainGlobals mg → Fx l.prog (K w.params) mg ∧ Tops (K w.params) mg) : PySem.W.WalkO q loose XP YP l.row.toRowW d [] (fun f vs => PySem.call f vs) :=
  L2.walk_of (n := 63) (k := 2 * n + 2) (x := "script") (CX := fun _ => CX0) (sp := fun w => spLaw (K w.params)) hn (by decide) hdf hr hY (fun w mg fa h KX Gn hfa => by
    obtain ⟨M, t⟩ := F w mg h KX Gn
    exact at_law (by rw [← hd]; exact hfa) M t n hl) (fun w H a ns h1 _ h3 => ⟨a, ns, rfl, h1, h3, fun _ => rfl⟩) fun _ _ _ _ _ z => z
end
end G

namespace G
open PySem L2 DL
local macro_rules | `(tactic| walk_at "dl") => `(tactic| simp only [↓wp_fnX, ↓wp_xSeq, ↓wp_xOf, ↓wp_xeOf, ↓wp_xIf, ↓wp_xDrop, ↓wp_xRet, ↓wp_xSet, ↓wp_xFld, ↓wp_xRaise, ↓wp_xCall, ↓wp_xSkip, ↓wp_sTryM, ↓wp_runH, ↓wp_eExc, ↓wp_eBl, ↓wp_eFld, ↓wp_sFldSet, ↓wp_eMake, ↓wp_eMeth, ↓wp_runF, ↓wp_eDict, ↓wp_sNewD, ↓wp_sNewLc, ↓wp_sNewAdd, ↓wp_pNil, ↓wp_pCons, ↓wp_dispNil, ↓wp_dispCons, ↓wp_catR, ↓wp_body, ↓wp_bodyO, ↓wp_seq, ↓wp_sIf, ↓wp_sRet, ↓wp_sRetN, ↓wp_sRetO, ↓wp_sRetL, ↓wp_sSet, ↓wp_sNewL, ↓wp_callO, ↓wp_call, ↓wp_sAug, ↓wp_sPar, ↓wp_sUnp, ↓wp_sStore, ↓wp_eMutL, ↓wp_srcSeq, ↓wp_srcRg, ↓wp_srcZip, ↓wp_sSkip, ↓wp_sBrk, ↓wp_sDrop, ↓wp_sFor,
  ↓wp_C, ↓wp_eBin, ↓wp_eUn, ↓wp_eRev, ↓wp_bVal, ↓wp_bTru, ↓wp_bNot, ↓wp_bAnd, ↓wp_bOr, ↓wp_bYes, ↓wp_eAnd, ↓wp_eOr, ↓wp_eNot, ↓wp_eIf, ↓wp_aNil, ↓wp_aCons, ↓wp_eTup, ↓wp_eLst, ↓wp_eCB, ↓wp_eIsi, ↓wp_oNone, ↓wp_oSome, ↓wp_eSl, ↓wp_eLstR1, ↓wp_eChain, ↓wp_lc,
  ↓wp_some, ↓wp_peeks, ↓wp_escs, ↓wp_lent, ↓wp_giveBack, ↓wp_gave, ↓wp_listAt, ↓wp_mutAt, seqK_nx, seqK_rt, seqK_ro, seqK_bk, seqK_ct, endK_rt, endK_nx, endO_ro, callK_ok, callOK_ok, turnK_nx, midK_nx, midK_rt, midK_bk, midK_ct, turnK_rt, iteP_t, iteP_f, asI_int, asB_bl, chainK_bl,
  eVar_at, varR_val, varR_own, varR_lck, peek_val, peek_ref, peekS_val, peekS_own, peekS_lck, peeks_nil, esc_val, esc_ref, escR_own, escR_val, escs_nil, ownS_own, lent_nil, places_nil, places_ref, giveBack_nil, gaveS_own, gave_nil, lend_nil, lend_val, lend_own, srcOf_at, srcS_own, srcS_lck, srcS_list, srcS_tup, sorted_ints, srcOf_list, srcOf_tup, unlk_none, unlk_some, unlkS_lck, unlkF_nx, unlkF_rt, intAt_S, intS_val, ownAt_ref, ownO_own, tNm_ok,
  add_int, add_tup, add_list, add_str, sub_int, mul_int, fdv_int, mod_int, pow_int, neg_int, lt_int, le_int, gt_int, ge_int, eq_int, ne_int, eq_self, eq_str, ne_str, is_bl, is_non, at_list, at_tup, atI_0, atI_1, atI_2, atI_3, DL.sl_tup, DL.sl_list, DL.sl_str, rev_tup, rev_list, len_list, len_tup, len_str, len_scr, abs_int, int_int, tuple_list, tuple_tup, list_list, list_tup, list_scr, min_int, max_int, str_int, app_list, ext_list, sum_ints, int_bl, ins_list, store_0, store_1, store_2, store_3, rg1_int, rg2_int, zip_tup, zip_list, tru_bl, isT_int, isT_str, isT_tup, isT_list, DL.isNon,
  List.getElem?_cons_zero, List.getElem?_cons_succ, List.set_cons_zero, List.set_cons_succ, List.cons_append, List.nil_append, List.length_cons, List.length_nil, List.reduceReplicate, List.take_succ_cons, List.take_zero, List.drop_succ_cons, List.drop_zero, List.take_nil, List.drop_nil, List.append_nil,
  Nat.reduceAdd, Nat.reduceSub, Int.reduceAdd, Int.reduceSub, Int.reduceMul, Int.reduceLT, Int.reduceLE, Int.reduceGT, Int.reduceEq, Int.reduceNeg, Int.reducePow, Int.reduceToNat, Nat.reduceLT, Nat.reducePow, cm_l, cm_r, ok62_of, ↓tTp_ok, ↓wp_tsCons, tsNil_ok, wipeE_nil, wipeE_cons, restE_nil, restE_cons, plainE_nil, plainE_cons, plainS_emp, plainS_val, Bool.and_self, Bool.and_true, List.getD_cons_zero, List.getD_cons_succ, cut_1, all_map, any_map, sz_le, sz_lt, fits_nil, fits_cons, Nat.reduceLeDiff, Nat.zero_add, lo_small, Int.zero_add, List.length_map, Int.natCast_add, Int.cast_ofNat_Int, decide_true, decide_false, Bool.not_true, Bool.not_false, List.nodup_cons, List.nodup_nil, List.not_mem_nil, not_false_eq_true, and_self, and_true, true_and, true_implies, reduceCtorEq, List.mem_cons, or_false, iteP_dec, iteP_not,
  xseqK_nx, xseqK_rt, xseqK_er, xdropK_ok, xdropK_er, xretK_ok, xretK_er, xsetK_ok, xsetK_er, xfldK_ok, xfldK_er, xcallK_ok, xcallK_er, endX_rt, endX_nx, endX_er, pureX_nil, tryK_fl, tryK_er, rtK_rt, strV_str, lstV_list, addL_list, mkK_ok, elook_nil, elook_cons, look_nil, look_cons, fld_inst, set_inst, putG_nil, putG_cons, hasM_inst, catR_str, key_str, key_int, keyRV_val, at_dict, store_dict, valD_cons, valD_nil, valD_put, merge_nil, merge_cons, isB_eq, Option.getD_some,
  En.set, En.put, En.new, entE_eq, deref_nil, pureOk_nil, obj_slot, plc_ref, plc_cel, upd_slot, updS_own, upd_cell, obj_cell, celS_c, isLst_list, unlk_cell, srcOf_cel, celLS_list,
  ofs_eq, Sum.inr.injEq, Sum.inl.injEq, String.reduceEq, if_true, if_false, List.mem_singleton, true_or, or_true, false_or, and_false, false_and])
/-- the state of the draws -/
def St (s : D) : Prop := ∃ (L : List Int) (a c t : Int), s = .list [.list (L.map .int), .int a, .int c, .int t]
def DrawOk (f : Fn) : Prop := ∀ s m (Q : Rs × List D → Prop), St s → 0 < m → m < 2 ^ 60 → (∀ v s', St s' → 0 ≤ v → v < m → Q (.ok (.int v), [s'])) → wq (f [s, .int m]) Q
theorem draw_ok (T : Tab) : DrawOk (fn_f_law_draw T) := by
  rintro s m Q ⟨L, a, c, t, rfl⟩ h1 h2 hQ
  have lg : LogOk m := by rw [lo_small (by omega) (by omega)]; trivial
  have fin : ∀ (x a c t : Int), Q (.ok (.int (x % m)), [.list [.list (L.map .int), .int a, .int c, .int t]]) := fun x a c t => hQ _ _ ⟨L, a, c, t, rfl⟩ (Int.emod_nonneg _ (by omega)) (Int.emod_lt_of_pos _ h1)
  rw [fn_f_law_draw, b_f_law_draw]
  walk_at "dl"
  refine ⟨fun _ => ⟨h1, ⟨h1, lg⟩, fin _ _ _ _⟩, fun _ => ⟨fun h => ?_, fun h => ?_⟩⟩
  · refine ⟨h, ?_⟩
    obtain ⟨n, hn⟩ : ∃ n : Nat, a % (L.length : Int) = n := ⟨(a % (L.length : Int)).toNat, by have := Int.emod_nonneg a (b := (L.length : Int)) (by omega); omega⟩
    have hl : n < L.length := by have := Int.emod_lt_of_pos a h; omega
    rw [atI_of (n := n) (d := .int L[n]) (by simp [hl]) hn]
    walk_at "dl"
    exact ⟨fun _ => ⟨⟨h1, lg⟩, h1, fin _ _ _ _⟩, fun _ => ⟨h1, fin _ _ _ _⟩⟩
  · exact ⟨h1, fin _ _ _ _⟩
def StartOk (f : Fn) : Prop := ∀ (ns : List Int) (Q : Rs × List D → Prop), (∀ s, St s → Q (.ok s, [])) → wq (f [.scr ns]) Q
theorem start_ok (T : Tab) : StartOk (fn_f_law_start T) := by
  intro ns Q hQ
  rw [fn_f_law_start, b_f_law_start]
  walk_at "dl"
  exact hQ _ ⟨ns, 0, 0, 0, rfl⟩
end G

namespace G
open PySem L2 DL
local macro_rules | `(tactic| walk_at "dl") => `(tactic| simp only [↓wp_fnX, ↓wp_xSeq, ↓wp_xOf, ↓wp_xeOf, ↓wp_xIf, ↓wp_xDrop, ↓wp_xRet, ↓wp_xSet, ↓wp_xFld, ↓wp_xRaise, ↓wp_xCall, ↓wp_xSkip, ↓wp_sTryM, ↓wp_runH, ↓wp_eExc, ↓wp_eBl, ↓wp_eFld, ↓wp_sFldSet, ↓wp_eMake, ↓wp_eMeth, ↓wp_runF, ↓wp_eDict, ↓wp_sNewD, ↓wp_sNewLc, ↓wp_sNewAdd, ↓wp_pNil, ↓wp_pCons, ↓wp_dispNil, ↓wp_dispCons, ↓wp_catR, ↓wp_body, ↓wp_bodyO, ↓wp_seq, ↓wp_sIf, ↓wp_sRet, ↓wp_sRetN, ↓wp_sRetO, ↓wp_sRetL, ↓wp_sSet, ↓wp_sNewL, ↓wp_callO, ↓wp_call, ↓wp_sAug, ↓wp_sPar, ↓wp_sUnp, ↓wp_sStore, ↓wp_eMutL, ↓wp_srcSeq, ↓wp_srcRg, ↓wp_srcZip, ↓wp_sSkip, ↓wp_sBrk, ↓wp_sDrop, ↓wp_sFor,
  ↓wp_C, ↓wp_eBin, ↓wp_eUn, ↓wp_eRev, ↓wp_bVal, ↓wp_bTru, ↓wp_bNot, ↓wp_bAnd, ↓wp_bOr, ↓wp_bYes, ↓wp_eAnd, ↓wp_eOr, ↓wp_eNot, ↓wp_eIf, ↓wp_aNil, ↓wp_aCons, ↓wp_eTup, ↓wp_eLst, ↓wp_eCB, ↓wp_eIsi, ↓wp_oNone, ↓wp_oSome, ↓wp_eSl, ↓wp_eLstR1, ↓wp_eChain, ↓wp_lc,
  ↓wp_some, ↓wp_peeks, ↓wp_escs, ↓wp_lent, ↓wp_giveBack, ↓wp_gave, ↓wp_listAt, ↓wp_mutAt, seqK_nx, seqK_rt, seqK_ro, seqK_bk, seqK_ct, endK_rt, endK_nx, endO_ro, callK_ok, callOK_ok, turnK_nx, midK_nx, midK_rt, midK_bk, midK_ct, turnK_rt, iteP_t, iteP_f, asI_int, asB_bl, chainK_bl,
  eVar_at, varR_val, varR_own, varR_lck, peek_val, peek_ref, peekS_val, peekS_own, peekS_lck, peeks_nil, esc_val, esc_ref, escR_own, escR_val, escs_nil, ownS_own, lent_nil, places_nil, places_ref, giveBack_nil, gaveS_own, gave_nil, lend_nil, lend_val, lend_own, srcOf_at, srcS_own, srcS_lck, srcS_list, srcS_tup, sorted_ints, srcOf_list, srcOf_tup, unlk_none, unlk_some, unlkS_lck, unlkF_nx, unlkF_rt, intAt_S, intS_val, ownAt_ref, ownO_own, tNm_ok,
  add_int, add_tup, add_list, add_str, sub_int, mul_int, fdv_int, mod_int, pow_int, neg_int, lt_int, le_int, gt_int, ge_int, eq_int, ne_int, eq_self, eq_str, ne_str, is_bl, is_non, at_list, at_tup, atI_0, atI_1, atI_2, atI_3, DL.sl_tup, DL.sl_list, DL.sl_str, rev_tup, rev_list, len_list, len_tup, len_str, len_scr, abs_int, int_int, tuple_list, tuple_tup, list_list, list_tup, list_scr, min_int, max_int, str_int, app_list, ext_list, sum_ints, int_bl, ins_list, store_0, store_1, store_2, store_3, rg1_int, rg2_int, zip_tup, zip_list, tru_bl, isT_int, isT_str, isT_tup, isT_list, DL.isNon,
  List.getElem?_cons_zero, List.getElem?_cons_succ, List.set_cons_zero, List.set_cons_succ, List.cons_append, List.nil_append, List.length_cons, List.length_nil, List.reduceReplicate, List.take_succ_cons, List.take_zero, List.drop_succ_cons, List.drop_zero, List.take_nil, List.drop_nil, List.append_nil,
  Nat.reduceAdd, Nat.reduceSub, Int.reduceAdd, Int.reduceSub, Int.reduceMul, Int.reduceLT, Int.reduceLE, Int.reduceGT, Int.reduceEq, Int.reduceNeg, Int.reducePow, Int.reduceToNat, Nat.reduceLT, Nat.reducePow, cm_l, cm_r, ok62_of, ↓tTp_ok, ↓wp_tsCons, tsNil_ok, wipeE_nil, wipeE_cons, restE_nil, restE_cons, plainE_nil, plainE_cons, plainS_emp, plainS_val, Bool.and_self, Bool.and_true, List.getD_cons_zero, List.getD_cons_succ, cut_1, all_map, any_map, sz_le, sz_lt, fits_nil, fits_cons, Nat.reduceLeDiff, Nat.zero_add, lo_small, Int.zero_add, List.length_map, Int.natCast_add, Int.cast_ofNat_Int, decide_true, decide_false, Bool.not_true, Bool.not_false, List.nodup_cons, List.nodup_nil, List.not_mem_nil, not_false_eq_true, and_self, and_true, true_and, true_implies, reduceCtorEq, List.mem_cons, or_false, iteP_dec, iteP_not,
  xseqK_nx, xseqK_rt, xseqK_er, xdropK_ok, xdropK_er, xretK_ok, xretK_er, xsetK_ok, xsetK_er, xfldK_ok, xfldK_er, xcallK_ok, xcallK_er, endX_rt, endX_nx, endX_er, pureX_nil, tryK_fl, tryK_er, rtK_rt, strV_str, lstV_list, addL_list, mkK_ok, elook_nil, elook_cons, look_nil, look_cons, fld_inst, set_inst, putG_nil, putG_cons, hasM_inst, catR_str, key_str, key_int, keyRV_val, at_dict, store_dict, valD_cons, valD_nil, valD_put, merge_nil, merge_cons, isB_eq, Option.getD_some,
  En.set, En.put, En.new, entE_eq, deref_nil, pureOk_nil, obj_slot, plc_ref, plc_cel, upd_slot, updS_own, upd_cell, obj_cell, celS_c, isLst_list, unlk_cell, srcOf_cel, celLS_list,
  ofs_eq, Sum.inr.injEq, Sum.inl.injEq, String.reduceEq, if_true, if_false, List.mem_singleton, true_or, or_true, false_or, and_false, false_and])
def letter (l : Nat) : Str := ⟨#[97 + l]⟩
def sh (j : Nat) : Str := cutS "qxz" none (some (j : Int))
def wd (b : Bool) (j l : Nat) : Str := if b then sh j ++ letter l else letter l ++ sh j
def WordsOk (f : Fn) : Prop := ∀ s (n : Nat) (Q : Rs × List D → Prop), St s → n ≤ 10 → (∀ (b : Bool) (j : Nat) (ls : List Nat) (s' : D), St s' → j < 4 → ls.length = n → ls.Nodup → (∀ l ∈ ls, l < 26) → Q (.ok (.list ((ls.map (wd b j)).map .str)), [s'])) → wq (f [s, .int n]) Q
theorem abc_at0 : ∀ n : Nat, n < 26 → L2.atI (Str.ofString "abcdefghijklmnopqrstuvwxyz").cps.toList (n : Int) = some (97 + n) := by decide +kernel
theorem abc_at {n : Nat} (h : n < 26) : dAt (.str "abcdefghijklmnopqrstuvwxyz") (.int n) = some (.str (letter n)) := by
  show (L2.atI (Str.ofString "abcdefghijklmnopqrstuvwxyz").cps.toList (n : Int)).map (fun c => D.str ⟨#[c]⟩) = _
  rw [abc_at0 n h]
  rfl
theorem sh_len : ∀ j : Nat, j < 4 → (sh j).length ≤ 3 := by decide +kernel
theorem letter_len (l : Nat) : (letter l).length = 1 := rfl
theorem nodup_map {α β : Type} {f : α → β} {l : List α} (h : ∀ a ∈ l, ∀ b ∈ l, f a = f b → a = b) (n : l.Nodup) : (l.map f).Nodup :=
  List.pairwise_map.mpr (List.Pairwise.imp_of_mem (fun ha hb k e => k (h _ ha _ hb e)) n)
theorem step_inj {v1 v2 : Int} {k k' : Nat} (h2 : 0 ≤ v2) (h3 : v2 < 6) (hk : k < 10) (hk' : k' < 10) (e : ((v1 + k * (1 + 2 * v2)) % 26).toNat = ((v1 + k' * (1 + 2 * v2)) % 26).toNat) : k = k' := by
  have e' : (v1 + k * (1 + 2 * v2)) % 26 = (v1 + k' * (1 + 2 * v2)) % 26 := by
    have a1 := Int.emod_nonneg (v1 + k * (1 + 2 * v2)) (b := 26) (by omega)
    have a2 := Int.emod_nonneg (v1 + k' * (1 + 2 * v2)) (b := 26) (by omega)
    omega
  have : v2 = 0 ∨ v2 = 1 ∨ v2 = 2 ∨ v2 = 3 ∨ v2 = 4 ∨ v2 = 5 := by omega
  rcases this with rfl | rfl | rfl | rfl | rfl | rfl <;> omega
theorem cm_small {i j : Int} (h1 : -1000 < i) (h2 : i < 1000) : CMulA i j := .inl ⟨by omega, by omega⟩
theorem words_ok {T : Tab} (hd : DrawOk T.f_law_draw) : WordsOk (fn_f_law_words T) := by
  intro s n Q hs hn hQ
  have sz : 4096 ≤ sizeLine := by decide
  rw [fn_f_law_words, b_f_law_words]
  walk_at "dl"
  refine hd _ _ _ hs (by omega) (by omega) fun v1 s hs v10 v11 => ?_
  walk_at "dl"
  refine hd _ _ _ hs (by omega) (by omega) fun v2 s hs v20 v21 => ?_
  walk_at "dl"
  refine hd _ _ _ hs (by omega) (by omega) fun v3 s hs v30 v31 => ?_
  walk_at "dl"
  refine hd _ _ _ hs (by omega) (by omega) fun v4 s hs v40 v41 => ?_
  obtain ⟨j, rfl⟩ := Int.eq_ofNat_of_zero_le v30
  have hj : j < 4 := by omega
  have hsh := sh_len j hj
  have es : cutS "qxz" none (some (j : Int)) = sh j := rfl
  have nd : ((List.range n).map fun k : Nat => ((v1 + k * (1 + 2 * v2)) % 26).toNat).Nodup := by
    refine nodup_map ?_ List.nodup_range
    intro k hk k' hk' e
    rw [List.mem_range] at hk hk'
    exact step_inj v20 v21 (by omega) (by omega) e
  have lt : ∀ l ∈ (List.range n).map fun k : Nat => ((v1 + k * (1 + 2 * v2)) % 26).toNat, l < 26 := fun l hl => by
    obtain ⟨k, _, rfl⟩ := List.mem_map.mp hl
    have := Int.emod_lt_of_pos (v1 + k * (1 + 2 * v2)) (show (0 : Int) < 26 by omega)
    omega
  have fin : ∀ b : Bool, Q (.ok (.list ((List.range n).map fun k : Nat => .str (wd b j (((v1 + k * (1 + 2 * v2)) % 26).toNat)))), [s]) := fun b => by
    have := hQ b j _ s hs hj (by simp) nd lt
    rw [List.map_map, List.map_map] at this
    exact this
  have md : ∀ k : Nat, ∃ m : Nat, (v1 + k * (1 + 2 * v2)) % 26 = m ∧ m < 26 := fun k => ⟨((v1 + k * (1 + 2 * v2)) % 26).toNat, by
    have a1 := Int.emod_nonneg (v1 + k * (1 + 2 * v2)) (b := 26) (by omega)
    omega, by
    have a1 := Int.emod_lt_of_pos (v1 + k * (1 + 2 * v2)) (show (0 : Int) < 26 by omega)
    omega⟩
  walk_at "dl"
  rw [es]
  have rg : (ok62 (n : Int) = true) = True := ok62_of (by omega) (by omega)
  refine ⟨fun _ => ?_, fun _ => ?_⟩
  · refine ⟨by rw [rg]; trivial, by rw [rgD_len]; omega, ?_⟩
    refine lc_rg0 (fun k => .str (wd true j (((v1 + k * (1 + 2 * v2)) % 26).toNat))) (fun ρ => ∃ y, ρ = ⟨[.own (some 0) s, .val (.int n), .val (.str "abcdefghijklmnopqrstuvwxyz"), .val (.int v1), .val (.int (1 + 2 * v2)), .val (.str (sh j)), y], []⟩) ⟨_, rfl⟩ ?_ ?_
    · rintro k ρ P hk ⟨y, rfl⟩ hP
      obtain ⟨m, hm, hm'⟩ := md k
      walk_at "dl"
      refine ⟨cm_small (by omega) (by omega), ?_⟩
      rw [hm, abc_at hm']
      rw [hm] at hP
      walk_at "dl"
      have hl := letter_len m
      exact ⟨by omega, hP _ ⟨_, rfl⟩⟩
    · rintro ρ ⟨y, rfl⟩
      walk_at "dl"
      exact fin true
  · refine ⟨by rw [rg]; trivial, by rw [rgD_len]; omega, ?_⟩
    refine lc_rg0 (fun k => .str (wd false j (((v1 + k * (1 + 2 * v2)) % 26).toNat))) (fun ρ => ∃ y, ρ = ⟨[.own (some 0) s, .val (.int n), .val (.str "abcdefghijklmnopqrstuvwxyz"), .val (.int v1), .val (.int (1 + 2 * v2)), .val (.str (sh j)), y], []⟩) ⟨_, rfl⟩ ?_ ?_
    · rintro k ρ P hk ⟨y, rfl⟩ hP
      obtain ⟨m, hm, hm'⟩ := md k
      walk_at "dl"
      refine ⟨cm_small (by omega) (by omega), ?_⟩
      rw [hm, abc_at hm']
      rw [hm] at hP
      walk_at "dl"
      have hl := letter_len m
      exact ⟨by omega, hP _ ⟨_, rfl⟩⟩
    · rintro ρ ⟨y, rfl⟩
      walk_at "dl"
      exact fin false
def OneOk (f : Fn) : Prop := ∀ s (ds : List D) (Q : Rs × List D → Prop), St s → ds ≠ [] → ds.length ≤ 4096 → (∀ d ∈ ds, ∀ s', St s' → Q (.ok d, [s'])) → wq (f [s, .list ds]) Q
theorem one_ok {T : Tab} (hd : DrawOk T.f_law_draw) : OneOk (fn_f_law_one_of T) := by
  intro s ds Q hs hne hl hQ
  rw [fn_f_law_one_of, b_f_law_one_of]
  walk_at "dl"
  have hp : 0 < ds.length := List.length_pos_iff.mpr hne
  refine hd _ _ _ hs (by omega) (by omega) fun v s hs v0 v1 => ?_
  obtain ⟨n, rfl⟩ := Int.eq_ofNat_of_zero_le v0
  have hn : n < ds.length := by omega
  walk_at "dl"
  rw [atI_of (n := n) (d := ds[n]) (by simp [hn]) rfl]
  walk_at "dl"
  exact hQ _ (List.getElem_mem hn) _ hs
def ShufOk (f : Fn) : Prop := ∀ s (ds : List D) (Q : Rs × List D → Prop), St s → ds.length ≤ 20 → (∀ es s', St s' → es.Perm ds → Q (.ok (.list es), [s'])) → wq (f [s, .list ds]) Q
theorem shuf_ok {T : Tab} (hd : DrawOk T.f_law_draw) : ShufOk (fn_f_law_shuffled T) := by
  intro s ds Q hs hl hQ
  have sz : 4096 ≤ sizeLine := by decide
  rw [fn_f_law_shuffled, b_f_law_shuffled]
  walk_at "dl"
  refine wp_for (fun pre ρ => ∃ s es x, St s ∧ es.Perm pre ∧ ρ = ⟨[.own (some 0) s, .val (.list ds), .own none (.list es), x], []⟩) ⟨s, [], _, hs, .refl _, rfl⟩ ?_ ?_
  · rintro pre d post ρ e ⟨s, es, x, hs, hp, rfl⟩
    have hpl : pre.length ≤ 20 := by rw [e] at hl; simp at hl; omega
    have hel := hp.length_eq
    walk_at "dl"
    refine hd _ _ _ hs (by omega) (by omega) fun v s hs v0 v1 => ?_
    walk_at "dl"
    refine ⟨⟨by omega, v0, by omega⟩, s, _, _, hs, ?_, rfl⟩
    have h1 : (es.take v.toNat ++ [d] ++ es.drop v.toNat).Perm (d :: (es.take v.toNat ++ es.drop v.toNat)) := by
      rw [List.append_assoc]
      exact List.perm_middle
    rw [List.take_append_drop] at h1
    exact h1.trans ((hp.cons d).trans (List.perm_append_singleton d pre).symm)
  · rintro ρ ⟨s, es, x, hs, hp, rfl⟩
    walk_at "dl"
    exact hQ _ _ hs hp
end G

namespace G
open PySem L2 DL
/-! names -/
def nm (b : Bool) (j : Nat) (q : Bool × Nat) : Str := if q.1 then "t_t." ++ wd b j q.2 else wd b j q.2
theorem nm_f {b : Bool} {j l : Nat} : nm b j (false, l) = wd b j l := rfl
theorem nm_inj0 : ∀ j : Nat, j < 4 → ∀ l : Nat, l < 26 → ∀ l' : Nat, l' < 26 → ∀ b q q' : Bool, nm b j (q, l) = nm b j (q', l') → q = q' ∧ l = l' := by decide +kernel
theorem nm_len0 : ∀ j : Nat, j < 4 → ∀ l : Nat, l < 26 → ∀ b q : Bool, (nm b j (q, l)).length ≤ 8 ∧ PyData.strOk (nm b j (q, l)) = true := by decide +kernel
theorem nm_rep0 : ∀ j : Nat, j < 4 → ∀ l : Nat, l < 26 → ∀ b q : Bool, Txt.replace (nm b j (q, l)) "t_t." "" = wd b j l := by decide +kernel
end G

namespace G
open PySem L2 DL
local macro_rules | `(tactic| walk_at "dl") => `(tactic| simp only [↓wp_fnX, ↓wp_xSeq, ↓wp_xOf, ↓wp_xeOf, ↓wp_xIf, ↓wp_xDrop, ↓wp_xRet, ↓wp_xSet, ↓wp_xFld, ↓wp_xRaise, ↓wp_xCall, ↓wp_xSkip, ↓wp_sTryM, ↓wp_runH, ↓wp_eExc, ↓wp_eBl, ↓wp_eFld, ↓wp_sFldSet, ↓wp_eMake, ↓wp_eMeth, ↓wp_runF, ↓wp_eDict, ↓wp_sNewD, ↓wp_sNewLc, ↓wp_sNewAdd, ↓wp_pNil, ↓wp_pCons, ↓wp_dispNil, ↓wp_dispCons, ↓wp_catR, ↓wp_body, ↓wp_bodyO, ↓wp_seq, ↓wp_sIf, ↓wp_sRet, ↓wp_sRetN, ↓wp_sRetO, ↓wp_sRetL, ↓wp_sSet, ↓wp_sNewL, ↓wp_callO, ↓wp_call, ↓wp_sAug, ↓wp_sPar, ↓wp_sUnp, ↓wp_sStore, ↓wp_eMutL, ↓wp_srcSeq, ↓wp_srcRg, ↓wp_srcZip, ↓wp_sSkip, ↓wp_sBrk, ↓wp_sDrop, ↓wp_sFor,
  ↓wp_C, ↓wp_eBin, ↓wp_eUn, ↓wp_eRev, ↓wp_bVal, ↓wp_bTru, ↓wp_bNot, ↓wp_bAnd, ↓wp_bOr, ↓wp_bYes, ↓wp_eAnd, ↓wp_eOr, ↓wp_eNot, ↓wp_eIf, ↓wp_aNil, ↓wp_aCons, ↓wp_eTup, ↓wp_eLst, ↓wp_eCB, ↓wp_eIsi, ↓wp_oNone, ↓wp_oSome, ↓wp_eSl, ↓wp_eLstR1, ↓wp_eChain, ↓wp_lc,
  ↓wp_some, ↓wp_peeks, ↓wp_escs, ↓wp_lent, ↓wp_giveBack, ↓wp_gave, ↓wp_listAt, ↓wp_mutAt, seqK_nx, seqK_rt, seqK_ro, seqK_bk, seqK_ct, endK_rt, endK_nx, endO_ro, callK_ok, callOK_ok, turnK_nx, midK_nx, midK_rt, midK_bk, midK_ct, turnK_rt, iteP_t, iteP_f, asI_int, asB_bl, chainK_bl,
  eVar_at, varR_val, varR_own, varR_lck, peek_val, peek_ref, peekS_val, peekS_own, peekS_lck, peeks_nil, esc_val, esc_ref, escR_own, escR_val, escs_nil, ownS_own, lent_nil, places_nil, places_ref, giveBack_nil, gaveS_own, gave_nil, lend_nil, lend_val, lend_own, srcOf_at, srcS_own, srcS_lck, srcS_list, srcS_tup, sorted_ints, srcOf_list, srcOf_tup, unlk_none, unlk_some, unlkS_lck, unlkF_nx, unlkF_rt, intAt_S, intS_val, ownAt_ref, ownO_own, tNm_ok,
  add_int, add_tup, add_list, add_str, sub_int, mul_int, fdv_int, mod_int, pow_int, neg_int, lt_int, le_int, gt_int, ge_int, eq_int, ne_int, eq_self, eq_str, ne_str, is_bl, is_non, at_list, at_tup, atI_0, atI_1, atI_2, atI_3, DL.sl_tup, DL.sl_list, DL.sl_str, rev_tup, rev_list, len_list, len_tup, len_str, len_scr, abs_int, int_int, tuple_list, tuple_tup, list_list, list_tup, list_scr, min_int, max_int, str_int, app_list, ext_list, sum_ints, int_bl, ins_list, store_0, store_1, store_2, store_3, rg1_int, rg2_int, zip_tup, zip_list, tru_bl, isT_int, isT_str, isT_tup, isT_list, DL.isNon,
  List.getElem?_cons_zero, List.getElem?_cons_succ, List.set_cons_zero, List.set_cons_succ, List.cons_append, List.nil_append, List.length_cons, List.length_nil, List.reduceReplicate, List.take_succ_cons, List.take_zero, List.drop_succ_cons, List.drop_zero, List.take_nil, List.drop_nil, List.append_nil,
  Nat.reduceAdd, Nat.reduceSub, Int.reduceAdd, Int.reduceSub, Int.reduceMul, Int.reduceLT, Int.reduceLE, Int.reduceGT, Int.reduceEq, Int.reduceNeg, Int.reducePow, Int.reduceToNat, Nat.reduceLT, Nat.reducePow, cm_l, cm_r, ok62_of, ↓tTp_ok, ↓wp_tsCons, tsNil_ok, wipeE_nil, wipeE_cons, restE_nil, restE_cons, plainE_nil, plainE_cons, plainS_emp, plainS_val, Bool.and_self, Bool.and_true, List.getD_cons_zero, List.getD_cons_succ, cut_1, all_map, any_map, sz_le, sz_lt, fits_nil, fits_cons, Nat.reduceLeDiff, Nat.zero_add, lo_small, Int.zero_add, List.length_map, Int.natCast_add, Int.cast_ofNat_Int, decide_true, decide_false, Bool.not_true, Bool.not_false, List.nodup_cons, List.nodup_nil, List.not_mem_nil, not_false_eq_true, and_self, and_true, true_and, true_implies, reduceCtorEq, List.mem_cons, or_false, iteP_dec, iteP_not,
  xseqK_nx, xseqK_rt, xseqK_er, xdropK_ok, xdropK_er, xretK_ok, xretK_er, xsetK_ok, xsetK_er, xfldK_ok, xfldK_er, xcallK_ok, xcallK_er, endX_rt, endX_nx, endX_er, pureX_nil, tryK_fl, tryK_er, rtK_rt, strV_str, lstV_list, addL_list, mkK_ok, elook_nil, elook_cons, look_nil, look_cons, fld_inst, set_inst, putG_nil, putG_cons, hasM_inst, catR_str, key_str, key_int, keyRV_val, at_dict, store_dict, valD_cons, valD_nil, valD_put, merge_nil, merge_cons, isB_eq, Option.getD_some,
  En.set, En.put, En.new, entE_eq, deref_nil, pureOk_nil, obj_slot, plc_ref, plc_cel, upd_slot, updS_own, upd_cell, obj_cell, celS_c, isLst_list, unlk_cell, srcOf_cel, celLS_list,
  ofs_eq, Sum.inr.injEq, Sum.inl.injEq, String.reduceEq, if_true, if_false, List.mem_singleton, true_or, or_true, false_or, and_false, false_and])
theorem cut_mid {ds : List D} {i j : Int} {n m : Nat} (e : i = (n : Int)) (e' : j = (m : Int)) (h : n ≤ m) : cutD ds (some i) (some j) = (ds.drop n).take (m - n) := by
  subst e; subst e'
  unfold cutD
  rw [HT.sIx_nat, HT.sIx_nat]
  by_cases h1 : m ≤ ds.length
  · rw [Nat.min_eq_left h1, Nat.min_eq_left (by omega)]
  · rw [Nat.min_eq_right (a := m) (by omega)]
    by_cases h2 : n ≤ ds.length
    · rw [Nat.min_eq_left h2, List.take_of_length_le (by rw [List.length_drop]; omega), List.take_of_length_le (by rw [List.length_drop]; omega)]
    · rw [Nat.min_eq_right (by omega), List.drop_eq_nil_of_le (Nat.le_refl _), List.drop_eq_nil_of_le (by omega)]; simp
def itm (b : Bool) (j l0 l1 : Nat) : D := .tup [.str "item", .str (wd b j l0), .tup [.str "name", .str (wd b j l1)]]
structure LW (ks : List (Key × D)) (b : Bool) (j l0 l1 : Nat) (S : List Nat) (P : List (Bool × Nat)) : Prop where
  a : valD ks (.inr "a") = some (.str (wd b j l0))
  i : valD ks (.inr "i") = some (.str (wd b j l1))
  st : valD ks (.inr "starts") = some (.list ((S.map (wd b j)).map .str))
  pl : valD ks (.inr "places") = some (.list ((P.map (nm b j)).map .str))
  ca : valD ks (.inr "carried") = some (.list ((S.map (wd b j) ++ P.map (nm b j)).map .str))
  it : valD ks (.inr "item") = some (itm b j l0 l1)
  len : ks.length ≤ 8
  hj : j < 4
  nd : (l0 :: l1 :: (S ++ P.map (·.2))).Nodup
  lt : ∀ l ∈ l0 :: l1 :: (S ++ P.map (·.2)), l < 26
def LWOk (f : Fn) : Prop := ∀ s (n m : Nat) (Q : Rs × List D → Prop), St s → n ≤ 2 → 1 ≤ m → m ≤ 2 → (∀ s' ks b j l0 l1 S P, St s' → LW ks b j l0 l1 S P → S.length = n → P.length = m → Q (.ok (.dict ks), [s'])) → wq (f [s, .int n, .int m]) Q
theorem cut_S {x y : D} {S R : List Nat} {f : Nat → Str} {n : Nat} (h : S.length = n) : cutD (x :: y :: ((S ++ R).map f).map D.str) (some 2) (some (2 + (n : Int))) = (S.map f).map D.str := by
  rw [cut_mid (i := 2) (j := 2 + (n : Int)) (n := 2) (m := 2 + n) rfl (by omega) (by omega), List.drop_succ_cons, List.drop_succ_cons, List.drop_zero, List.map_append, List.map_append, List.take_left' (by simp [h])]
theorem cut_R {x y : D} {S R : List Nat} {f : Nat → Str} {n : Nat} (h : S.length = n) : cutD (x :: y :: ((S ++ R).map f).map D.str) (some (2 + (n : Int))) none = (R.map f).map D.str := by
  rw [cut_drop (i := 2 + (n : Int)) (n := n + 2) (by omega), List.drop_succ_cons, List.drop_succ_cons, List.map_append, List.map_append, List.drop_left' (by simp [h])]
theorem plen {ks : List (Key × D)} {k : Key} {v : D} {n : Nat} (h : ks.length ≤ n) : (putD ks k v).length ≤ n + 1 := Nat.le_trans putD_len (Nat.succ_le_succ h)
theorem plt {ks : List (Key × D)} {n : Nat} (h : ks.length ≤ n) (h' : n ≤ 4096 := by decide) : ks.length < sizeLine := Nat.lt_of_le_of_lt (Nat.le_trans h h') (by decide)
theorem putD2_len {ks : List (Key × D)} {k1 k2 : Key} {v1 v2 : D} : (putD (putD ks k1 v1) k2 v2).length ≤ ks.length + 2 := Nat.le_trans putD_len (Nat.add_le_add_right putD_len 1)
theorem lw_ok {T : Tab} (hd : DrawOk T.f_law_draw) (hw : WordsOk T.f_law_words) : LWOk (fn_f_law_loop_words T) := by
  intro s n m Q hs hn hm1 hm2 hQ
  have sz : 4096 ≤ sizeLine := by decide
  rw [fn_f_law_loop_words, b_f_law_loop_words]
  walk_at "dl"
  rw [show (2 : Int) + n + m = ((2 + n + m : Nat) : Int) by omega]
  refine hw _ _ _ hs (by omega) fun b j ls s hs hj hl hnd hlt => ?_
  obtain ⟨l0, l1, S, R, rfl, hS, hR⟩ : ∃ l0 l1 S R, ls = l0 :: l1 :: (S ++ R) ∧ S.length = n ∧ R.length = m := by
    match ls, hl with
    | [], h => simp at h; omega
    | [_], h => simp at h; omega
    | l0 :: l1 :: r, h => exact ⟨l0, l1, r.take n, r.drop n, by rw [List.take_append_drop], by rw [List.length_take]; simp at h; omega, by rw [List.length_drop]; simp at h; omega⟩
  have hp : ∀ R' : List Nat, (R'.map fun l => (false, l)).map (nm b j) = R'.map (wd b j) := fun R' => by rw [List.map_map]; rfl
  have fin : ∀ (s : D) (ks : List (Key × D)) (P : List (Bool × Nat)), St s → P.map (·.2) = R → ks.length ≤ 6 → valD ks (.inr "a") = some (.str (wd b j l0)) → valD ks (.inr "i") = some (.str (wd b j l1)) → valD ks (.inr "starts") = some (.list ((S.map (wd b j)).map .str)) → valD ks (.inr "places") = some (.list ((P.map (nm b j)).map .str)) →
      Q (.ok (.dict (putD (putD ks (.inr "carried") (.list ((S.map (wd b j)).map .str ++ (P.map (nm b j)).map .str))) (.inr "item") (.tup [.str "item", .str (wd b j l0), .tup [.str "name", .str (wd b j l1)]]))), [s]) := fun s ks P hs e h0 h1 h2 h3 h4 => by
    have hmp : P.length = m := by rw [← hR, ← e, List.length_map]
    refine hQ s _ b j l0 l1 S P hs ⟨?_, ?_, ?_, ?_, ?_, ?_, Nat.le_trans putD2_len (by omega), hj, by rw [e]; exact hnd, by rw [e]; exact hlt⟩ hS hmp
    all_goals simp only [valD_put, Sum.inr.injEq, ofs_eq, String.reduceEq, if_true, if_false]
    · exact h1
    · exact h2
    · exact h3
    · exact h4
    · rw [List.map_append]
    · rfl
  have hnl : ∀ l ∈ S ++ R, (wd b j l).length ≤ 8 := fun l hl => (nm_len0 j hj l (hlt l (List.mem_cons_of_mem _ (List.mem_cons_of_mem _ hl))) b false).1
  simp only [List.map_cons]
  walk_at "dl"
  rw [cut_S hS, cut_R hS]
  refine ⟨fun hm => ?_, fun hm => ?_⟩
  · refine hd _ _ _ hs (by omega) (by omega) fun v s hs v0 v1 => ?_
    obtain ⟨r0, r1, rfl⟩ : ∃ r0 r1, R = [r0, r1] := by
      match R, hR with
      | [r0, r1], _ => exact ⟨r0, r1, rfl⟩
      | [], h => simp at h; omega
      | [_], h => simp at h; omega
      | _ :: _ :: _ :: _, h => simp at h; omega
    simp only [List.map_cons, List.map_nil]
    walk_at "dl"
    have l4 : ∀ {k1 k2 k3 k4 : Key} {v1 v2 v3 v4 : D}, (putD (putD (putD (putD [] k1 v1) k2 v2) k3 v3) k4 v4).length ≤ 4 := fun {_ _ _ _ _ _ _ _} => plen (plen (plen (plen (Nat.zero_le _))))
    refine ⟨fun _ => ?_, fun _ => ?_⟩
    · refine lc_mapM (zs := [wd b j r1]) (h := D.str) (fun x => .str ("t_t." ++ x)) (fun ρ => ∃ y, ρ = ⟨[.own (some 0) s, .val (.int n), .val (.int m), .val (.list (.str (wd b j l0) :: .str (wd b j l1) :: ((S ++ [r0, r1]).map (wd b j)).map D.str)),
        .own none (.dict (putD (putD (putD (putD [] (.inr "a") (.str (wd b j l0))) (.inr "i") (.str (wd b j l1))) (.inr "starts") (.list ((S.map (wd b j)).map .str))) (.inr "places") (.list [.str (wd b j r0), .str (wd b j r1)]))), y], []⟩) ⟨_, rfl⟩ ?_ ?_
      · rintro x ρ P hx ⟨y, rfl⟩ hP
        walk_at "dl"
        rw [List.mem_singleton] at hx
        subst hx
        have := hnl r1 (by simp)
        exact ⟨Nat.le_trans (show _ ≤ 12 from by show 4 + _ ≤ 12; omega) (by decide), hP _ ⟨_, rfl⟩⟩
      · rintro ρ ⟨y, rfl⟩
        simp only [List.map_cons, List.map_nil]
        walk_at "dl"
        refine ⟨plt l4, by omega, plt (plen l4), plt (plen (plen l4)), ?_⟩
        refine fin s _ [(false, r0), (true, r1)] hs rfl (Nat.le_trans (plen l4) (by omega)) ?_ ?_ ?_ ?_
        all_goals simp only [valD_put, Sum.inr.injEq, ofs_eq, String.reduceEq, if_true, if_false]
        rfl
    · refine ⟨by omega, plt l4, plt (plen l4), ?_⟩
      refine fin s _ [(false, r0), (false, r1)] hs rfl (Nat.le_trans l4 (by omega)) ?_ ?_ ?_ ?_
      all_goals simp only [valD_put, Sum.inr.injEq, ofs_eq, String.reduceEq, if_true, if_false]
      rfl
  · have l4 : ∀ {k1 k2 k3 k4 : Key} {v1 v2 v3 v4 : D}, (putD (putD (putD (putD [] k1 v1) k2 v2) k3 v3) k4 v4).length ≤ 4 := fun {_ _ _ _ _ _ _ _} => plen (plen (plen (plen (Nat.zero_le _))))
    refine ⟨by simp; omega, plt l4, plt (plen l4), ?_⟩
    have key := fin s _ (R.map fun l => (false, l)) hs (by rw [List.map_map]; exact List.map_id _) (Nat.le_trans (l4 (k1 := .inr "a") (k2 := .inr "i") (k3 := .inr "starts") (k4 := .inr "places") (v1 := .str (wd b j l0)) (v2 := .str (wd b j l1)) (v3 := .list ((S.map (wd b j)).map .str)) (v4 := .list ((R.map (wd b j)).map .str))) (by omega)) ?_ ?_ ?_ ?_
    · rw [hp] at key
      exact key
    all_goals simp only [valD_put, Sum.inr.injEq, ofs_eq, String.reduceEq, if_true, if_false]
    rw [hp]
end G

namespace G
open PySem L2 DL
local macro_rules | `(tactic| walk_at "dl") => `(tactic| simp only [↓wp_fnX, ↓wp_xSeq, ↓wp_xOf, ↓wp_xeOf, ↓wp_xIf, ↓wp_xDrop, ↓wp_xRet, ↓wp_xSet, ↓wp_xFld, ↓wp_xRaise, ↓wp_xCall, ↓wp_xSkip, ↓wp_sTryM, ↓wp_runH, ↓wp_eExc, ↓wp_eBl, ↓wp_eFld, ↓wp_sFldSet, ↓wp_eMake, ↓wp_eMeth, ↓wp_runF, ↓wp_eDict, ↓wp_sNewD, ↓wp_sNewLc, ↓wp_sNewAdd, ↓wp_pNil, ↓wp_pCons, ↓wp_dispNil, ↓wp_dispCons, ↓wp_catR, ↓wp_body, ↓wp_bodyO, ↓wp_seq, ↓wp_sIf, ↓wp_sRet, ↓wp_sRetN, ↓wp_sRetO, ↓wp_sRetL, ↓wp_sSet, ↓wp_sNewL, ↓wp_callO, ↓wp_call, ↓wp_sAug, ↓wp_sPar, ↓wp_sUnp, ↓wp_sStore, ↓wp_eMutL, ↓wp_srcSeq, ↓wp_srcRg, ↓wp_srcZip, ↓wp_sSkip, ↓wp_sBrk, ↓wp_sDrop, ↓wp_sFor,
  ↓wp_C, ↓wp_eBin, ↓wp_eUn, ↓wp_eRev, ↓wp_bVal, ↓wp_bTru, ↓wp_bNot, ↓wp_bAnd, ↓wp_bOr, ↓wp_bYes, ↓wp_eAnd, ↓wp_eOr, ↓wp_eNot, ↓wp_eIf, ↓wp_aNil, ↓wp_aCons, ↓wp_eTup, ↓wp_eLst, ↓wp_eCB, ↓wp_eIsi, ↓wp_oNone, ↓wp_oSome, ↓wp_eSl, ↓wp_eLstR1, ↓wp_eChain, ↓wp_lc,
  ↓wp_some, ↓wp_peeks, ↓wp_escs, ↓wp_lent, ↓wp_giveBack, ↓wp_gave, ↓wp_listAt, ↓wp_mutAt, seqK_nx, seqK_rt, seqK_ro, seqK_bk, seqK_ct, endK_rt, endK_nx, endO_ro, callK_ok, callOK_ok, turnK_nx, midK_nx, midK_rt, midK_bk, midK_ct, turnK_rt, iteP_t, iteP_f, asI_int, asB_bl, chainK_bl,
  eVar_at, varR_val, varR_own, varR_lck, peek_val, peek_ref, peekS_val, peekS_own, peekS_lck, peeks_nil, esc_val, esc_ref, escR_own, escR_val, escs_nil, ownS_own, lent_nil, places_nil, places_ref, giveBack_nil, gaveS_own, gave_nil, lend_nil, lend_val, lend_own, srcOf_at, srcS_own, srcS_lck, srcS_list, srcS_tup, sorted_ints, srcOf_list, srcOf_tup, unlk_none, unlk_some, unlkS_lck, unlkF_nx, unlkF_rt, intAt_S, intS_val, ownAt_ref, ownO_own, tNm_ok,
  add_int, add_tup, add_list, add_str, sub_int, mul_int, fdv_int, mod_int, pow_int, neg_int, lt_int, le_int, gt_int, ge_int, eq_int, ne_int, eq_self, eq_str, ne_str, is_bl, is_non, at_list, at_tup, atI_0, atI_1, atI_2, atI_3, DL.sl_tup, DL.sl_list, DL.sl_str, rev_tup, rev_list, len_list, len_tup, len_str, len_scr, abs_int, int_int, tuple_list, tuple_tup, list_list, list_tup, list_scr, min_int, max_int, str_int, app_list, ext_list, sum_ints, int_bl, ins_list, store_0, store_1, store_2, store_3, rg1_int, rg2_int, zip_tup, zip_list, tru_bl, isT_int, isT_str, isT_tup, isT_list, DL.isNon,
  List.getElem?_cons_zero, List.getElem?_cons_succ, List.set_cons_zero, List.set_cons_succ, List.cons_append, List.nil_append, List.length_cons, List.length_nil, List.reduceReplicate, List.take_succ_cons, List.take_zero, List.drop_succ_cons, List.drop_zero, List.take_nil, List.drop_nil, List.append_nil,
  Nat.reduceAdd, Nat.reduceSub, Int.reduceAdd, Int.reduceSub, Int.reduceMul, Int.reduceLT, Int.reduceLE, Int.reduceGT, Int.reduceEq, Int.reduceNeg, Int.reducePow, Int.reduceToNat, Nat.reduceLT, Nat.reducePow, cm_l, cm_r, ok62_of, ↓tTp_ok, ↓wp_tsCons, tsNil_ok, wipeE_nil, wipeE_cons, restE_nil, restE_cons, plainE_nil, plainE_cons, plainS_emp, plainS_val, Bool.and_self, Bool.and_true, List.getD_cons_zero, List.getD_cons_succ, cut_1, all_map, any_map, sz_le, sz_lt, fits_nil, fits_cons, Nat.reduceLeDiff, Nat.zero_add, lo_small, Int.zero_add, List.length_map, Int.natCast_add, Int.cast_ofNat_Int, decide_true, decide_false, Bool.not_true, Bool.not_false, List.nodup_cons, List.nodup_nil, List.not_mem_nil, not_false_eq_true, and_self, and_true, true_and, true_implies, reduceCtorEq, List.mem_cons, or_false, iteP_dec, iteP_not,
  xseqK_nx, xseqK_rt, xseqK_er, xdropK_ok, xdropK_er, xretK_ok, xretK_er, xsetK_ok, xsetK_er, xfldK_ok, xfldK_er, xcallK_ok, xcallK_er, endX_rt, endX_nx, endX_er, pureX_nil, tryK_fl, tryK_er, rtK_rt, strV_str, lstV_list, addL_list, mkK_ok, elook_nil, elook_cons, look_nil, look_cons, fld_inst, set_inst, putG_nil, putG_cons, hasM_inst, catR_str, key_str, key_int, keyRV_val, at_dict, store_dict, valD_cons, valD_nil, valD_put, merge_nil, merge_cons, isB_eq, Option.getD_some,
  En.set, En.put, En.new, entE_eq, deref_nil, pureOk_nil, obj_slot, plc_ref, plc_cel, upd_slot, updS_own, upd_cell, obj_cell, celS_c, isLst_list, unlk_cell, srcOf_cel, celLS_list,
  ofs_eq, Sum.inr.injEq, Sum.inl.injEq, String.reduceEq, if_true, if_false, List.mem_singleton, true_or, or_true, false_or, and_false, false_and])
/-- the generators' parts -/
theorem lc_rel {lk : Option Lk} {ds0 ds : List D} {t : Tgt} {tt : Tx} {te : Ex} {vs : List Nat} {ρ : En} {Q : List D × En → Prop} (P : D → Prop) (I : En → Prop) (h0 : I ρ)
    (hs : ∀ d ρ (R : D → En → Prop), d ∈ ds → I ρ → (∀ v ρ', P v → I ρ' → R v ρ') → wq (t d (wipeE ρ vs)) fun ρ1 => wq (tt ρ1) fun p => iteP p.1 (wq (te p.2) fun q => wq (esc q.2 q.1) fun s => R s.1 s.2) False)
    (hd : ∀ acc ρ, acc.length = ds.length → (∀ v ∈ acc, P v) → I ρ → Q (acc, ρ)) (hf : lkFree lk = true := by rfl) : wq (lcLoop (ckOf lk ds0) t tt te vs ds [] ρ) Q := by
  refine wp_lcLoop (fun pre acc ρ => acc.length = pre.length ∧ (∀ v ∈ acc, P v) ∧ I ρ) ⟨rfl, fun v h => (List.not_mem_nil h).elim, h0⟩ ?_ ?_ hf
  · rintro pre d post acc ρ e ⟨hl, hp, hi⟩
    refine wp_mono (hs d ρ (fun v ρ' => P v ∧ I ρ') (by rw [e]; simp) hi fun v ρ' h h' => ⟨h, h'⟩) fun ρ1 h => wp_mono h fun p h => ?_
    unfold iteP at h
    by_cases c : p.1 = true
    · rw [if_pos c] at h ⊢
      refine wp_mono h fun q h => wp_mono h fun z h => ?_
      refine ⟨by simp [hl], fun v hv => ?_, h.2⟩
      rcases List.mem_append.mp hv with hv | hv
      · exact hp v hv
      · rw [List.mem_singleton] at hv
        exact hv ▸ h.1
    · rw [if_neg c] at h
      exact h.elim
  · rintro acc ρ ⟨hl, hp, h⟩
    exact hd acc ρ hl hp h
inductive Sm (N : List Str) (it : Option D) : Nat → D → Prop
  | num {n : Nat} (k : Int) : Sm N it n (.tup [.str "number", .int k])
  | name {n : Nat} (x : Str) : x ∈ N → Sm N it n (.tup [.str "name", .str x])
  | item {n : Nat} (a i : Str) : PyData.strOk a = true → PyData.strOk i = true → it = some (.tup [.str "item", .str a, .tup [.str "name", .str i]]) → Sm N it n (.tup [.str "item", .str a, .tup [.str "name", .str i]])
  | scale {n : Nat} (k : Int) (d : D) : Sm N it n d → Sm N it (n + 1) (.tup [.str "scale", .int k, d])
  | bin {n : Nat} (o : Str) (d e : D) : o = "plus" ∨ o = "minus" → Sm N it n d → Sm N it n e → Sm N it (n + 1) (.tup [.str o, d, e])
theorem Sm.up {N : List Str} {it : Option D} {n : Nat} {d : D} (h : Sm N it n d) : Sm N it (n + 1) d := by
  induction h with
  | num k => exact .num k
  | name x h => exact .name x h
  | item a i h1 h2 h => exact .item a i h1 h2 h
  | scale k d _ ih => exact .scale k d ih
  | bin o d e h _ _ i1 i2 => exact .bin o d e h i1 i2
inductive Tst (N : List Str) (it : Option D) : Nat → D → Prop
  | cmp {n : Nat} (o : Str) (d e : D) : o = "less" ∨ o = "same" → Sm N it 2 d → Sm N it 2 e → Tst N it n (.tup [.str o, d, e])
  | nt {n : Nat} (c : D) : Tst N it n c → Tst N it (n + 1) (.tup [.str "not", c])
  | bin {n : Nat} (o : Str) (c d : D) : o = "and" ∨ o = "or" → Tst N it n c → Tst N it n d → Tst N it (n + 1) (.tup [.str o, c, d])
theorem Tst.up {N : List Str} {it : Option D} {n : Nat} {d : D} (h : Tst N it n d) : Tst N it (n + 1) d := by
  induction h with
  | cmp o d e h1 h2 h3 => exact .cmp o d e h1 h2 h3
  | nt c _ ih => exact .nt c ih
  | bin o c d h _ _ i1 i2 => exact .bin o c d h i1 i2
inductive Stm (p : Bool) (N : List Str) (it : Option D) : Nat → D → Prop
  | pause {n : Nat} : p = true → Stm p N it n (.tup [.str "pause"])
  | set {n : Nat} (x : Str) (e : D) : x ∈ N → Sm N it 2 e → Stm p N it n (.tup [.str "set", .tup [.tup [.str x, e]]])
  | ite {n : Nat} (c : D) (a b : List D) : Tst N it 1 c → (∀ d ∈ a, Stm p N it n d) → a.length ≤ 20 → (∀ d ∈ b, Stm p N it n d) → b.length ≤ 20 → Stm p N it (n + 1) (.tup [.str "if", c, .tup a, .tup b])
theorem Stm.up {p : Bool} {N : List Str} {it : Option D} {n : Nat} {d : D} (h : Stm p N it n d) : Stm p N it (n + 1) d := by
  induction h with
  | pause h => exact .pause h
  | set x e h1 h2 => exact .set x e h1 h2
  | ite c a b h1 _ h2 _ h3 i1 i2 => exact .ite c a b h1 i1 h2 i2 h3
structure WK (N : List Str) (ks : List (Key × D)) (C : List Str) (a i : Str) (dp : Bool) : Prop where
  ca : valD ks (.inr "carried") = some (.list (C.map .str))
  it : valD ks (.inr "item") = some (.tup [.str "item", .str a, .tup [.str "name", .str i]])
  dp : valD ks (.inr "deep") = some (.bl dp)
  len : ks.length ≤ 20
  ne : C ≠ []
  ln : C.length ≤ 4
  sub : ∀ x ∈ C, x ∈ N
  ok : ∀ x ∈ C, PyData.strOk x = true
  oka : PyData.strOk a = true
  oki : PyData.strOk i = true
abbrev itOf (a i : Str) (dp : Bool) : Option D := if dp then some (.tup [.str "item", .str a, .tup [.str "name", .str i]]) else none
def SumOk (n : Nat) (f : Fn) : Prop := ∀ s ks N C a i dp (Q : Rs × List D → Prop), St s → WK N ks C a i dp → (∀ s' d, St s' → Sm N (itOf a i dp) n d → Q (.ok d, [s', .dict ks])) → wq (f [s, .dict ks, .list (C.map .str), .int n]) Q
theorem ne_nil {C : List Str} (h : C ≠ []) (ho : ∀ x ∈ C, PyData.strOk x = true) : dNe (.list (C.map .str)) (.list []) = some (.bl true) := by
  have h1 : Eqd 1 (.list (C.map .str)) := .list fun d hd => by
    obtain ⟨x, hx, rfl⟩ := List.mem_map.mp hd
    exact .str (ho x hx)
  obtain ⟨b, e1, e2⟩ := eqB_data (by omega) h1 (.list (ds := []) fun d hd => (List.not_mem_nil hd).elim)
  have : b = false := by
    cases b
    · rfl
    · have := e2.mp rfl
      simp only [D.list.injEq, List.map_eq_nil_iff] at this
      exact (h this).elim
  unfold dNe
  rw [e1, this]
  rfl
theorem one_str {f : Fn} (ho : OneOk f) {s : D} {C : List Str} {Q : Rs × List D → Prop} (hs : St s) (hne : C ≠ []) (hl : C.length ≤ 4) (h : ∀ x ∈ C, ∀ s', St s' → Q (.ok (.str x), [s'])) : wq (f [s, .list (C.map .str)]) Q := by
  refine ho _ _ _ hs (by simpa using hne) (by rw [List.length_map]; omega) fun d hd s' hs' => ?_
  obtain ⟨x, hx, rfl⟩ := List.mem_map.mp hd
  exact h x hx s' hs'
theorem ite2 {b : Bool} {c A B : Prop} (h1 : b = true → A) (h2 : B) : (c → iteP b A B) ∧ (¬c → B) := ⟨fun _ => by
  cases b
  · exact h2
  · exact h1 rfl, fun _ => h2⟩
theorem sum_ok {T : Tab} {n : Nat} (hd : DrawOk T.f_law_draw) (ho : OneOk T.f_law_one_of) (hr : ∀ m, n = m + 1 → SumOk m T.f_law_sum_of) (hn : n ≤ 5) : SumOk n (fn_f_law_sum_of T) := by
  intro s ks N C a i dp Q hs w hQ
  have sz : 4096 ≤ sizeLine := by decide
  rw [fn_f_law_sum_of, b_f_law_sum_of]
  walk_at "dl"
  refine hd _ _ _ hs (by omega) (by omega) fun v s hs v0 v1 => ?_
  walk_at "dl"
  rw [ne_nil w.ne w.ok]
  walk_at "dl"
  refine ⟨fun h => ?_, fun h => ?_⟩
  · refine one_str ho hs w.ne w.ln fun x hx s hs => ?_
    walk_at "dl"
    exact hQ _ _ hs (.name x (w.sub x hx))
  refine ⟨fun _ => ?_, fun _ => ⟨fun _ => ?_, fun hn0 => ?_⟩⟩
  · refine hd _ _ _ hs (by omega) (by omega) fun v s hs v0 v1 => ?_
    walk_at "dl"
    exact hQ _ _ hs (.num _)
  · refine hd _ _ _ hs (by omega) (by omega) fun v s hs v0 v1 => ?_
    walk_at "dl"
    exact hQ _ _ hs (.num _)
  obtain ⟨m, rfl⟩ : ∃ m, n = m + 1 := ⟨n - 1, by omega⟩
  have hsum := hr m rfl
  have em : (m : Int) + 1 - 1 = (m : Int) := by omega
  rw [w.dp]
  walk_at "dl"
  refine ite2 (fun h => ?_) ⟨fun _ => ?_, fun _ => ?_⟩
  · rw [w.it]
    walk_at "dl"
    exact hQ _ _ hs (.item a i w.oka w.oki (by simp [itOf, h]))
  · refine hd _ _ _ hs (by omega) (by omega) fun v s hs v0 v1 => ?_
    have : v = 0 ∨ v = 1 ∨ v = 2 := by omega
    rcases this with rfl | rfl | rfl
    all_goals
      walk_at "dl"
      rw [em]
      refine hsum _ _ _ _ _ _ _ _ hs w fun s e hs he => ?_
      walk_at "dl"
      exact hQ _ _ hs (.scale _ _ he)
  · rw [em]
    refine hsum _ _ _ _ _ _ _ _ hs w fun s e hs he => ?_
    walk_at "dl"
    refine hd _ _ _ hs (by omega) (by omega) fun v s hs v0 v1 => ?_
    have : v = 0 ∨ v = 1 := by omega
    rcases this with rfl | rfl
    all_goals
      walk_at "dl"
      rw [em]
      refine hsum _ _ _ _ _ _ _ _ hs w fun s e2 hs he2 => ?_
      walk_at "dl"
      exact hQ _ _ hs (.bin _ _ _ (by first | exact .inl rfl | exact .inr rfl) he he2)
end G

namespace G
open PySem L2 DL
local macro_rules | `(tactic| walk_at "dl") => `(tactic| simp only [↓wp_fnX, ↓wp_xSeq, ↓wp_xOf, ↓wp_xeOf, ↓wp_xIf, ↓wp_xDrop, ↓wp_xRet, ↓wp_xSet, ↓wp_xFld, ↓wp_xRaise, ↓wp_xCall, ↓wp_xSkip, ↓wp_sTryM, ↓wp_runH, ↓wp_eExc, ↓wp_eBl, ↓wp_eFld, ↓wp_sFldSet, ↓wp_eMake, ↓wp_eMeth, ↓wp_runF, ↓wp_eDict, ↓wp_sNewD, ↓wp_sNewLc, ↓wp_sNewAdd, ↓wp_pNil, ↓wp_pCons, ↓wp_dispNil, ↓wp_dispCons, ↓wp_catR, ↓wp_body, ↓wp_bodyO, ↓wp_seq, ↓wp_sIf, ↓wp_sRet, ↓wp_sRetN, ↓wp_sRetO, ↓wp_sRetL, ↓wp_sSet, ↓wp_sNewL, ↓wp_callO, ↓wp_call, ↓wp_sAug, ↓wp_sPar, ↓wp_sUnp, ↓wp_sStore, ↓wp_eMutL, ↓wp_srcSeq, ↓wp_srcRg, ↓wp_srcZip, ↓wp_sSkip, ↓wp_sBrk, ↓wp_sDrop, ↓wp_sFor,
  ↓wp_C, ↓wp_eBin, ↓wp_eUn, ↓wp_eRev, ↓wp_bVal, ↓wp_bTru, ↓wp_bNot, ↓wp_bAnd, ↓wp_bOr, ↓wp_bYes, ↓wp_eAnd, ↓wp_eOr, ↓wp_eNot, ↓wp_eIf, ↓wp_aNil, ↓wp_aCons, ↓wp_eTup, ↓wp_eLst, ↓wp_eCB, ↓wp_eIsi, ↓wp_oNone, ↓wp_oSome, ↓wp_eSl, ↓wp_eLstR1, ↓wp_eChain, ↓wp_lc,
  ↓wp_some, ↓wp_peeks, ↓wp_escs, ↓wp_lent, ↓wp_giveBack, ↓wp_gave, ↓wp_listAt, ↓wp_mutAt, seqK_nx, seqK_rt, seqK_ro, seqK_bk, seqK_ct, endK_rt, endK_nx, endO_ro, callK_ok, callOK_ok, turnK_nx, midK_nx, midK_rt, midK_bk, midK_ct, turnK_rt, iteP_t, iteP_f, asI_int, asB_bl, chainK_bl,
  eVar_at, varR_val, varR_own, varR_lck, peek_val, peek_ref, peekS_val, peekS_own, peekS_lck, peeks_nil, esc_val, esc_ref, escR_own, escR_val, escs_nil, ownS_own, lent_nil, places_nil, places_ref, giveBack_nil, gaveS_own, gave_nil, lend_nil, lend_val, lend_own, srcOf_at, srcS_own, srcS_lck, srcS_list, srcS_tup, sorted_ints, srcOf_list, srcOf_tup, unlk_none, unlk_some, unlkS_lck, unlkF_nx, unlkF_rt, intAt_S, intS_val, ownAt_ref, ownO_own, tNm_ok,
  add_int, add_tup, add_list, add_str, sub_int, mul_int, fdv_int, mod_int, pow_int, neg_int, lt_int, le_int, gt_int, ge_int, eq_int, ne_int, eq_self, eq_str, ne_str, is_bl, is_non, at_list, at_tup, atI_0, atI_1, atI_2, atI_3, DL.sl_tup, DL.sl_list, DL.sl_str, rev_tup, rev_list, len_list, len_tup, len_str, len_scr, abs_int, int_int, tuple_list, tuple_tup, list_list, list_tup, list_scr, min_int, max_int, str_int, app_list, ext_list, sum_ints, int_bl, ins_list, store_0, store_1, store_2, store_3, rg1_int, rg2_int, zip_tup, zip_list, tru_bl, isT_int, isT_str, isT_tup, isT_list, DL.isNon,
  List.getElem?_cons_zero, List.getElem?_cons_succ, List.set_cons_zero, List.set_cons_succ, List.cons_append, List.nil_append, List.length_cons, List.length_nil, List.reduceReplicate, List.take_succ_cons, List.take_zero, List.drop_succ_cons, List.drop_zero, List.take_nil, List.drop_nil, List.append_nil,
  Nat.reduceAdd, Nat.reduceSub, Int.reduceAdd, Int.reduceSub, Int.reduceMul, Int.reduceLT, Int.reduceLE, Int.reduceGT, Int.reduceEq, Int.reduceNeg, Int.reducePow, Int.reduceToNat, Nat.reduceLT, Nat.reducePow, cm_l, cm_r, ok62_of, ↓tTp_ok, ↓wp_tsCons, tsNil_ok, wipeE_nil, wipeE_cons, restE_nil, restE_cons, plainE_nil, plainE_cons, plainS_emp, plainS_val, Bool.and_self, Bool.and_true, List.getD_cons_zero, List.getD_cons_succ, cut_1, all_map, any_map, sz_le, sz_lt, fits_nil, fits_cons, Nat.reduceLeDiff, Nat.zero_add, lo_small, Int.zero_add, List.length_map, Int.natCast_add, Int.cast_ofNat_Int, decide_true, decide_false, Bool.not_true, Bool.not_false, List.nodup_cons, List.nodup_nil, List.not_mem_nil, not_false_eq_true, and_self, and_true, true_and, true_implies, reduceCtorEq, List.mem_cons, or_false, iteP_dec, iteP_not,
  xseqK_nx, xseqK_rt, xseqK_er, xdropK_ok, xdropK_er, xretK_ok, xretK_er, xsetK_ok, xsetK_er, xfldK_ok, xfldK_er, xcallK_ok, xcallK_er, endX_rt, endX_nx, endX_er, pureX_nil, tryK_fl, tryK_er, rtK_rt, strV_str, lstV_list, addL_list, mkK_ok, elook_nil, elook_cons, look_nil, look_cons, fld_inst, set_inst, putG_nil, putG_cons, hasM_inst, catR_str, key_str, key_int, keyRV_val, at_dict, store_dict, valD_cons, valD_nil, valD_put, merge_nil, merge_cons, isB_eq, Option.getD_some,
  En.set, En.put, En.new, entE_eq, deref_nil, pureOk_nil, obj_slot, plc_ref, plc_cel, upd_slot, updS_own, upd_cell, obj_cell, celS_c, isLst_list, unlk_cell, srcOf_cel, celLS_list,
  ofs_eq, Sum.inr.injEq, Sum.inl.injEq, String.reduceEq, if_true, if_false, List.mem_singleton, true_or, or_true, false_or, and_false, false_and])
abbrev ITM (a i : Str) : D := .tup [.str "item", .str a, .tup [.str "name", .str i]]
def GenOk (P : List Str → Option D → D → Prop) (f : Fn) : Prop := ∀ s ks N C a i (Q : Rs × List D → Prop), St s → WK N ks C a i true → (∀ s' d, St s' → P N (some (ITM a i)) d → Q (.ok d, [s', .dict ks])) → wq (f [s, .dict ks]) Q
theorem item_ok {T : Tab} (hd : DrawOk T.f_law_draw) (ho : OneOk T.f_law_one_of) : GenOk (fun N it d => Sm N it 2 d) (fn_f_law_item_sum T) := by
  intro s ks N C a i Q hs w hQ
  have sz : 4096 ≤ sizeLine := by decide
  have hit : Sm N (some (ITM a i)) 0 (ITM a i) := .item a i w.oka w.oki rfl
  rw [fn_f_law_item_sum, b_f_law_item_sum]
  walk_at "dl"
  rw [w.it]
  walk_at "dl"
  refine hd _ _ _ hs (by omega) (by omega) fun v s hs v0 v1 => ?_
  have : v = 0 ∨ v = 1 ∨ v = 2 := by omega
  rcases this with rfl | rfl | rfl
  all_goals
    walk_at "dl"
    refine hd _ _ _ hs (by omega) (by omega) fun v s hs v0 v1 => ?_
    walk_at "dl"
    refine hd _ _ _ hs (by omega) (by omega) fun u s hs u0 u1 => ?_
    walk_at "dl"
    refine ho _ _ _ hs (by simp) (by simp) fun d hd s hs => ?_
    walk_at "dl"
    refine hQ _ _ hs ?_
    simp only [List.mem_cons, List.not_mem_nil, or_false] at hd
    rcases hd with rfl | rfl | rfl | rfl | rfl | rfl
    · exact hit.up.up
    · exact hit.up.up
    · exact (Sm.scale _ _ hit).up
    · exact (Sm.bin _ _ _ (.inl rfl) hit (.num _)).up
    · exact (Sm.scale _ _ (Sm.scale _ _ hit))
    · exact (Sm.bin _ _ _ (.inr rfl) (.num _) hit).up
def TGenOk (P : List Str → Option D → D → Prop) (f : Fn) : Prop := ∀ s ks N C a i (pl : Bool) (Q : Rs × List D → Prop), St s → WK N ks C a i true → (∀ s' d, St s' → P N (some (ITM a i)) d → Q (.ok d, [s', .dict ks])) → wq (f [s, .dict ks, .bl pl]) Q
theorem wp_par2 {i j : Nat} {a b : D} {ρ : En} {S : Fl → Prop} : wq (par2 i j [a, b] ρ) S = S (.nx ((ρ.set i (.val a)).set j (.val b))) := by simp only [par2, wp_some]
theorem test_ok {T : Tab} (hd : DrawOk T.f_law_draw) (ho : OneOk T.f_law_one_of) (hi : GenOk (fun N it d => Sm N it 2 d) T.f_law_item_sum) : TGenOk (fun N it d => Tst N it 0 d) (fn_f_law_one_test T) := by
  intro s ks N C a i pl Q hs w hQ
  have sz : 4096 ≤ sizeLine := by decide
  rw [fn_f_law_one_test, b_f_law_one_test]
  walk_at "dl"
  refine hi _ _ _ _ _ _ _ hs w fun s l hs hl => ?_
  walk_at "dl"
  refine hd _ _ _ hs (by omega) (by omega) fun v s hs v0 v1 => ?_
  walk_at "dl"
  have hr : Sm N (some (ITM a i)) 2 (.tup [.str "number", .int v]) := .num v
  cases pl
  · walk_at "dl"
    refine hd _ _ _ hs (by omega) (by omega) fun u s hs u0 u1 => ?_
    walk_at "dl"
    refine ⟨fun _ => ?_, fun _ => ?_⟩
    · rw [w.ca]
      walk_at "dl"
      refine one_str ho hs w.ne w.ln fun x hx s hs => ?_
      have hr : Sm N (some (ITM a i)) 2 (.tup [.str "name", .str x]) := .name x (w.sub x hx)
      walk_at "dl"
      refine hd _ _ _ hs (by omega) (by omega) fun v s hs v0 v1 => ?_
      walk_at "dl"
      refine ⟨fun _ => ?_, fun _ => ?_⟩
      all_goals
        try rw [wp_par2]
        try walk_at "dl"
        refine hd _ _ _ hs (by omega) (by omega) fun v s hs v0 v1 => ?_
        have : v = 0 ∨ v = 1 ∨ v = 2 := by omega
        rcases this with rfl | rfl | rfl
        all_goals
          walk_at "dl"
          exact hQ _ _ hs (.cmp _ _ _ (by first | exact .inl rfl | exact .inr rfl) (by assumption) (by assumption))
    · refine hd _ _ _ hs (by omega) (by omega) fun v s hs v0 v1 => ?_
      walk_at "dl"
      refine ⟨fun _ => ?_, fun _ => ?_⟩
      all_goals
        try rw [wp_par2]
        try walk_at "dl"
        refine hd _ _ _ hs (by omega) (by omega) fun v s hs v0 v1 => ?_
        have : v = 0 ∨ v = 1 ∨ v = 2 := by omega
        rcases this with rfl | rfl | rfl
        all_goals
          walk_at "dl"
          exact hQ _ _ hs (.cmp _ _ _ (by first | exact .inl rfl | exact .inr rfl) (by assumption) (by assumption))
  · walk_at "dl"
    refine hd _ _ _ hs (by omega) (by omega) fun v s hs v0 v1 => ?_
    walk_at "dl"
    refine ⟨fun _ => ?_, fun _ => ?_⟩
    all_goals
      try rw [wp_par2]
      try walk_at "dl"
      refine hd _ _ _ hs (by omega) (by omega) fun v s hs v0 v1 => ?_
      have : v = 0 ∨ v = 1 ∨ v = 2 := by omega
      rcases this with rfl | rfl | rfl
      all_goals
        walk_at "dl"
        exact hQ _ _ hs (.cmp _ _ _ (by first | exact .inl rfl | exact .inr rfl) (by assumption) (by assumption))
theorem ltest_ok {T : Tab} (hd : DrawOk T.f_law_draw) (ht : TGenOk (fun N it d => Tst N it 0 d) T.f_law_one_test) : TGenOk (fun N it d => Tst N it 1 d) (fn_f_law_loop_test T) := by
  intro s ks N C a i pl Q hs w hQ
  have sz : 4096 ≤ sizeLine := by decide
  rw [fn_f_law_loop_test, b_f_law_loop_test]
  walk_at "dl"
  refine ht _ _ _ _ _ _ _ _ hs w fun s c hs hc => ?_
  walk_at "dl"
  refine hd _ _ _ hs (by omega) (by omega) fun v s hs v0 v1 => ?_
  walk_at "dl"
  refine ⟨fun _ => hQ _ _ hs (.nt _ hc), fun _ => ⟨fun _ => ?_, fun _ => hQ _ _ hs hc.up⟩⟩
  refine hd _ _ _ hs (by omega) (by omega) fun v s hs v0 v1 => ?_
  have : v = 0 ∨ v = 1 := by omega
  rcases this with rfl | rfl
  all_goals
    walk_at "dl"
    refine ht _ _ _ _ _ _ _ _ hs w fun s e hs he => ?_
    walk_at "dl"
    exact hQ _ _ hs (.bin _ _ _ (by first | exact .inl rfl | exact .inr rfl) hc he)
def SetsOk (f : Fn) : Prop := ∀ s ks N C a i dp (m : Nat) (Q : Rs × List D → Prop), St s → WK N ks C a i dp → m ≤ 4 → (∀ s' ds, St s' → (∀ d ∈ ds, Stm true N (itOf a i dp) 0 d) → ds.length ≤ 2 * m → Q (.ok (.tup ds), [s', .dict ks])) → wq (f [s, .dict ks, .int m]) Q
theorem sets_ok {T : Tab} (hd : DrawOk T.f_law_draw) (ho : OneOk T.f_law_one_of) (hsum : SumOk 2 T.f_law_sum_of) : SetsOk (fn_f_law_loop_sets T) := by
  intro s ks N C a i dp m Q hs w hm hQ
  have sz : 4096 ≤ sizeLine := by decide
  rw [fn_f_law_loop_sets, b_f_law_loop_sets]
  walk_at "dl"
  refine ⟨by rw [ok62_of (by omega) (by omega)]; trivial, ?_⟩
  refine wp_rg0 (fun k ρ => ∃ s ds x y, St s ∧ (∀ d ∈ ds, Stm true N (itOf a i dp) 0 d) ∧ ds.length ≤ 2 * k ∧ ρ = ⟨[.own (some 0) s, .own (some 1) (.dict ks), .val (.int m), .own none (.list ds), x, y], []⟩) ⟨s, [], _, _, hs, fun d h => (List.not_mem_nil h).elim, Nat.zero_le _, rfl⟩ ?_ ?_
  · rintro k ρ hk ⟨s, ds, x, y, hs, hp, hl, rfl⟩
    walk_at "dl"
    refine hd _ _ _ hs (by omega) (by omega) fun v s hs v0 v1 => ?_
    walk_at "dl"
    have hp' : ∀ d ∈ ds ++ [.tup [.str "pause"]], Stm true N (itOf a i dp) 0 d := fun d h => by
      rcases List.mem_append.mp h with h | h
      · exact hp d h
      · rw [List.mem_singleton] at h
        exact h ▸ .pause rfl
    refine ⟨fun _ => ⟨by omega, ?_⟩, fun _ => ?_⟩
    · rw [w.ca]
      walk_at "dl"
      refine one_str ho hs w.ne w.ln fun z hz s hs => ?_
      walk_at "dl"
      rw [w.ca]
      walk_at "dl"
      refine hsum _ _ _ _ _ _ _ _ hs w fun s e hs he => ?_
      walk_at "dl"
      refine ⟨by simp; omega, s, _, _, _, hs, fun d h => ?_, by simp; omega, rfl⟩
      rcases List.mem_append.mp h with h | h
      · exact hp' d h
      · rw [List.mem_singleton] at h
        exact h ▸ .set z e (w.sub z hz) he
    · rw [w.ca]
      walk_at "dl"
      refine one_str ho hs w.ne w.ln fun z hz s hs => ?_
      walk_at "dl"
      rw [w.ca]
      walk_at "dl"
      refine hsum _ _ _ _ _ _ _ _ hs w fun s e hs he => ?_
      walk_at "dl"
      refine ⟨by omega, s, _, _, _, hs, fun d h => ?_, by simp; omega, rfl⟩
      rcases List.mem_append.mp h with h | h
      · exact hp d h
      · rw [List.mem_singleton] at h
        exact h ▸ .set z e (w.sub z hz) he
  · rintro ρ ⟨s, ds, x, y, hs, hp, hl, rfl⟩
    walk_at "dl"
    exact hQ _ _ hs hp hl
end G

namespace G
open PySem L2 DL
local macro_rules | `(tactic| walk_at "dl") => `(tactic| simp only [↓wp_fnX, ↓wp_xSeq, ↓wp_xOf, ↓wp_xeOf, ↓wp_xIf, ↓wp_xDrop, ↓wp_xRet, ↓wp_xSet, ↓wp_xFld, ↓wp_xRaise, ↓wp_xCall, ↓wp_xSkip, ↓wp_sTryM, ↓wp_runH, ↓wp_eExc, ↓wp_eBl, ↓wp_eFld, ↓wp_sFldSet, ↓wp_eMake, ↓wp_eMeth, ↓wp_runF, ↓wp_eDict, ↓wp_sNewD, ↓wp_sNewLc, ↓wp_sNewAdd, ↓wp_pNil, ↓wp_pCons, ↓wp_dispNil, ↓wp_dispCons, ↓wp_catR, ↓wp_body, ↓wp_bodyO, ↓wp_seq, ↓wp_sIf, ↓wp_sRet, ↓wp_sRetN, ↓wp_sRetO, ↓wp_sRetL, ↓wp_sSet, ↓wp_sNewL, ↓wp_callO, ↓wp_call, ↓wp_sAug, ↓wp_sPar, ↓wp_sUnp, ↓wp_sStore, ↓wp_eMutL, ↓wp_srcSeq, ↓wp_srcRg, ↓wp_srcZip, ↓wp_sSkip, ↓wp_sBrk, ↓wp_sDrop, ↓wp_sFor,
  ↓wp_C, ↓wp_eBin, ↓wp_eUn, ↓wp_eRev, ↓wp_bVal, ↓wp_bTru, ↓wp_bNot, ↓wp_bAnd, ↓wp_bOr, ↓wp_bYes, ↓wp_eAnd, ↓wp_eOr, ↓wp_eNot, ↓wp_eIf, ↓wp_aNil, ↓wp_aCons, ↓wp_eTup, ↓wp_eLst, ↓wp_eCB, ↓wp_eIsi, ↓wp_oNone, ↓wp_oSome, ↓wp_eSl, ↓wp_eLstR1, ↓wp_eChain, ↓wp_lc,
  ↓wp_some, ↓wp_peeks, ↓wp_escs, ↓wp_lent, ↓wp_giveBack, ↓wp_gave, ↓wp_listAt, ↓wp_mutAt, seqK_nx, seqK_rt, seqK_ro, seqK_bk, seqK_ct, endK_rt, endK_nx, endO_ro, callK_ok, callOK_ok, turnK_nx, midK_nx, midK_rt, midK_bk, midK_ct, turnK_rt, iteP_t, iteP_f, asI_int, asB_bl, chainK_bl,
  eVar_at, varR_val, varR_own, varR_lck, peek_val, peek_ref, peekS_val, peekS_own, peekS_lck, peeks_nil, esc_val, esc_ref, escR_own, escR_val, escs_nil, ownS_own, lent_nil, places_nil, places_ref, giveBack_nil, gaveS_own, gave_nil, lend_nil, lend_val, lend_own, srcOf_at, srcS_own, srcS_lck, srcS_list, srcS_tup, sorted_ints, srcOf_list, srcOf_tup, unlk_none, unlk_some, unlkS_lck, unlkF_nx, unlkF_rt, intAt_S, intS_val, ownAt_ref, ownO_own, tNm_ok,
  add_int, add_tup, add_list, add_str, sub_int, mul_int, fdv_int, mod_int, pow_int, neg_int, lt_int, le_int, gt_int, ge_int, eq_int, ne_int, eq_self, eq_str, ne_str, is_bl, is_non, at_list, at_tup, atI_0, atI_1, atI_2, atI_3, DL.sl_tup, DL.sl_list, DL.sl_str, rev_tup, rev_list, len_list, len_tup, len_str, len_scr, abs_int, int_int, tuple_list, tuple_tup, list_list, list_tup, list_scr, min_int, max_int, str_int, app_list, ext_list, sum_ints, int_bl, ins_list, store_0, store_1, store_2, store_3, rg1_int, rg2_int, zip_tup, zip_list, tru_bl, isT_int, isT_str, isT_tup, isT_list, DL.isNon,
  List.getElem?_cons_zero, List.getElem?_cons_succ, List.set_cons_zero, List.set_cons_succ, List.cons_append, List.nil_append, List.length_cons, List.length_nil, List.reduceReplicate, List.take_succ_cons, List.take_zero, List.drop_succ_cons, List.drop_zero, List.take_nil, List.drop_nil, List.append_nil,
  Nat.reduceAdd, Nat.reduceSub, Int.reduceAdd, Int.reduceSub, Int.reduceMul, Int.reduceLT, Int.reduceLE, Int.reduceGT, Int.reduceEq, Int.reduceNeg, Int.reducePow, Int.reduceToNat, Nat.reduceLT, Nat.reducePow, cm_l, cm_r, ok62_of, ↓tTp_ok, ↓wp_tsCons, tsNil_ok, wipeE_nil, wipeE_cons, restE_nil, restE_cons, plainE_nil, plainE_cons, plainS_emp, plainS_val, Bool.and_self, Bool.and_true, List.getD_cons_zero, List.getD_cons_succ, cut_1, all_map, any_map, sz_le, sz_lt, fits_nil, fits_cons, Nat.reduceLeDiff, Nat.zero_add, lo_small, Int.zero_add, List.length_map, Int.natCast_add, Int.cast_ofNat_Int, decide_true, decide_false, Bool.not_true, Bool.not_false, List.nodup_cons, List.nodup_nil, List.not_mem_nil, not_false_eq_true, and_self, and_true, true_and, true_implies, reduceCtorEq, List.mem_cons, or_false, iteP_dec, iteP_not,
  xseqK_nx, xseqK_rt, xseqK_er, xdropK_ok, xdropK_er, xretK_ok, xretK_er, xsetK_ok, xsetK_er, xfldK_ok, xfldK_er, xcallK_ok, xcallK_er, endX_rt, endX_nx, endX_er, pureX_nil, tryK_fl, tryK_er, rtK_rt, strV_str, lstV_list, addL_list, mkK_ok, elook_nil, elook_cons, look_nil, look_cons, fld_inst, set_inst, putG_nil, putG_cons, hasM_inst, catR_str, key_str, key_int, keyRV_val, at_dict, store_dict, valD_cons, valD_nil, valD_put, merge_nil, merge_cons, isB_eq, Option.getD_some,
  En.set, En.put, En.new, entE_eq, deref_nil, pureOk_nil, obj_slot, plc_ref, plc_cel, upd_slot, updS_own, upd_cell, obj_cell, celS_c, isLst_list, unlk_cell, srcOf_cel, celLS_list,
  ofs_eq, Sum.inr.injEq, Sum.inl.injEq, String.reduceEq, if_true, if_false, List.mem_singleton, true_or, or_true, false_or, and_false, false_and])
theorem WK.deep {N : List Str} {ks : List (Key × D)} {C : List Str} {a i : Str} {dp b : Bool} (w : WK N ks C a i dp) (h : ks.length ≤ 19) : WK N (putD ks (.inr "deep") (.bl b)) C a i b where
  ca := by
    rw [valD_put, if_neg (by decide)]
    exact w.ca
  it := by
    rw [valD_put, if_neg (by decide)]
    exact w.it
  dp := by rw [valD_put, if_pos rfl]
  len := plen h
  ne := w.ne
  ln := w.ln
  sub := w.sub
  ok := w.ok
  oka := w.oka
  oki := w.oki
def BlockOk (f : Fn) : Prop := ∀ s ks N C a i dp (pl : Bool) (Q : Rs × List D → Prop), St s → WK N ks C a i dp → ks.length ≤ 19 → (∀ s' ds, St s' → (∀ d ∈ ds, Stm true N (some (ITM a i)) 2 d) → ds.length ≤ 20 → Q (.ok (.tup ds), [s', .dict (putD ks (.inr "deep") (.bl true))])) → wq (f [s, .dict ks, .bl pl]) Q
theorem memAdd {P : D → Prop} {as : List D} {d : D} (h : ∀ d ∈ as, P d) (h' : P d) : ∀ e ∈ as ++ [d], P e := fun e he => by
  rcases List.mem_append.mp he with h1 | h1
  · exact h e h1
  · rw [List.mem_singleton] at h1
    exact h1 ▸ h'
theorem memApp {P : D → Prop} {as bs : List D} (h : ∀ d ∈ as, P d) (h' : ∀ d ∈ bs, P d) : ∀ e ∈ as ++ bs, P e := fun e he => by
  rcases List.mem_append.mp he with h1 | h1
  · exact h e h1
  · exact h' e h1
theorem block_ok {T : Tab} (hd : DrawOk T.f_law_draw) (ht : TGenOk (fun N it d => Tst N it 1 d) T.f_law_loop_test) (hse : SetsOk T.f_law_loop_sets) : BlockOk (fn_f_law_loop_block T) := by
  intro s ks N C a i dp pl Q hs w0 hl Q'
  have sz : 4096 ≤ sizeLine := by decide
  have w := w0.deep (b := true) hl
  rw [fn_f_law_loop_block, b_f_law_loop_block]
  walk_at "dl"
  refine ⟨by omega, ?_⟩
  refine hd _ _ _ hs (by omega) (by omega) fun v s hs v0 v1 => ?_
  walk_at "dl"
  obtain ⟨m, rfl⟩ := Int.eq_ofNat_of_zero_le v0
  refine hse _ _ _ _ _ _ _ _ _ hs w (by omega) fun s ds hs hp hl => ?_
  walk_at "dl"
  refine hd _ _ _ hs (by omega) (by omega) fun v s hs v0 v1 => ?_
  obtain ⟨n, rfl⟩ := Int.eq_ofNat_of_zero_le v0
  walk_at "dl"
  rw [show (1 : Int) + (n : Int) = ((1 + n : Nat) : Int) by omega]
  refine ⟨by rw [ok62_of (by omega) (by omega)]; trivial, ?_⟩
  refine wp_rg0 (fun k ρ => ∃ s ds x y z, St s ∧ (∀ d ∈ ds, Stm true N (some (ITM a i)) 2 d) ∧ ds.length ≤ 2 + k ∧ ρ = ⟨[.own (some 0) s, .own (some 1) (.dict (putD ks (.inr "deep") (.bl true))), .val (.bl pl), .val (.tup ds), x, y, z], []⟩) ⟨s, ds, _, _, _, hs, fun d h => (hp d h).up.up, by omega, rfl⟩ ?_ ?_
  · rintro k ρ hk ⟨s, ds, x, y, z, hs, hp, hl, rfl⟩
    walk_at "dl"
    refine ht _ _ _ _ _ _ _ _ hs w fun s c hs hc => ?_
    walk_at "dl"
    refine hd _ _ _ hs (by omega) (by omega) fun v s hs v0 v1 => ?_
    obtain ⟨m, rfl⟩ := Int.eq_ofNat_of_zero_le v0
    walk_at "dl"
    rw [show (1 : Int) + (m : Int) = ((1 + m : Nat) : Int) by omega]
    refine hse _ _ _ _ _ _ _ _ _ hs w (by omega) fun s as hs ha hla => ?_
    walk_at "dl"
    refine hd _ _ _ hs (by omega) (by omega) fun v s hs v0 v1 => ?_
    walk_at "dl"
    have last : ∀ (as es : List D) (s : D), St s → (∀ d ∈ as, Stm true N (some (ITM a i)) 1 d) → as.length ≤ 20 → (∀ d ∈ es, Stm true N (some (ITM a i)) 0 d) → es.length ≤ 20 → ∃ (s' : D) (ds' : List D) (x y z : Sl), St s' ∧ (∀ d ∈ ds', Stm true N (some (ITM a i)) 2 d) ∧ ds'.length ≤ 2 + (k + 1) ∧ (⟨[.own (some 0) s, .own (some 1) (.dict (putD ks (.inr "deep") (.bl true))), .val (.bl pl), .val (.tup (ds ++ [.tup [.str "if", c, .tup as, .tup es]])), .val (.int k), .val c, .val (.tup as)], []⟩ : En) = ⟨[.own (some 0) s', .own (some 1) (.dict (putD ks (.inr "deep") (.bl true))), .val (.bl pl), .val (.tup ds'), x, y, z], []⟩ := fun as es s hs h1 h2 h3 h4 =>
      ⟨s, _, _, _, _, hs, memAdd hp (.ite c as es hc h1 h2 (fun d h => (h3 d h).up) h4), by simp; omega, rfl⟩
    refine ⟨fun _ => ?_, fun _ => ?_⟩
    · refine ht _ _ _ _ _ _ _ _ hs w fun s c2 hs hc2 => ?_
      walk_at "dl"
      refine hse _ _ _ _ _ _ _ 1 _ hs w (by omega) fun s bs hs hb hlb => ?_
      walk_at "dl"
      refine ⟨by omega, ?_⟩
      refine hd _ _ _ hs (by omega) (by omega) fun v s hs v0 v1 => ?_
      obtain ⟨m, rfl⟩ := Int.eq_ofNat_of_zero_le v0
      walk_at "dl"
      refine hse _ _ _ _ _ _ _ _ _ hs w (by omega) fun s es hs he hle => ?_
      walk_at "dl"
      exact ⟨by omega, last _ _ _ hs (memAdd (fun d h => (ha d h).up) (.ite c2 bs [] hc2 hb (by omega) (fun d h => (List.not_mem_nil h).elim) (by simp))) (by simp; omega) he (by omega)⟩
    · refine hd _ _ _ hs (by omega) (by omega) fun v s hs v0 v1 => ?_
      obtain ⟨m, rfl⟩ := Int.eq_ofNat_of_zero_le v0
      walk_at "dl"
      refine hse _ _ _ _ _ _ _ _ _ hs w (by omega) fun s es hs he hle => ?_
      walk_at "dl"
      exact ⟨by omega, last _ _ _ hs (fun d h => (ha d h).up) (by omega) he (by omega)⟩
  · rintro ρ ⟨s, ds, x, y, z, hs, hp, hl, rfl⟩
    walk_at "dl"
    refine hd _ _ _ hs (by omega) (by omega) fun v s hs v0 v1 => ?_
    walk_at "dl"
    refine ⟨fun _ => ?_, fun _ => ?_⟩
    · refine hse _ _ _ _ _ _ _ 1 _ hs w (by omega) fun s es hs he hle => ?_
      walk_at "dl"
      refine ⟨by omega, Q' _ _ hs (memApp hp fun d h => (he d h).up.up) (by rw [List.length_append]; omega)⟩
    · exact Q' _ _ hs hp (by omega)
end G

namespace G
open PySem L2 DL
local macro_rules | `(tactic| walk_at "dl") => `(tactic| simp only [↓wp_fnX, ↓wp_xSeq, ↓wp_xOf, ↓wp_xeOf, ↓wp_xIf, ↓wp_xDrop, ↓wp_xRet, ↓wp_xSet, ↓wp_xFld, ↓wp_xRaise, ↓wp_xCall, ↓wp_xSkip, ↓wp_sTryM, ↓wp_runH, ↓wp_eExc, ↓wp_eBl, ↓wp_eFld, ↓wp_sFldSet, ↓wp_eMake, ↓wp_eMeth, ↓wp_runF, ↓wp_eDict, ↓wp_sNewD, ↓wp_sNewLc, ↓wp_sNewAdd, ↓wp_pNil, ↓wp_pCons, ↓wp_dispNil, ↓wp_dispCons, ↓wp_catR, ↓wp_body, ↓wp_bodyO, ↓wp_seq, ↓wp_sIf, ↓wp_sRet, ↓wp_sRetN, ↓wp_sRetO, ↓wp_sRetL, ↓wp_sSet, ↓wp_sNewL, ↓wp_callO, ↓wp_call, ↓wp_sAug, ↓wp_sPar, ↓wp_sUnp, ↓wp_sStore, ↓wp_eMutL, ↓wp_srcSeq, ↓wp_srcRg, ↓wp_srcZip, ↓wp_sSkip, ↓wp_sBrk, ↓wp_sDrop, ↓wp_sFor,
  ↓wp_C, ↓wp_eBin, ↓wp_eUn, ↓wp_eRev, ↓wp_bVal, ↓wp_bTru, ↓wp_bNot, ↓wp_bAnd, ↓wp_bOr, ↓wp_bYes, ↓wp_eAnd, ↓wp_eOr, ↓wp_eNot, ↓wp_eIf, ↓wp_aNil, ↓wp_aCons, ↓wp_eTup, ↓wp_eLst, ↓wp_eCB, ↓wp_eIsi, ↓wp_oNone, ↓wp_oSome, ↓wp_eSl, ↓wp_eLstR1, ↓wp_eChain, ↓wp_lc,
  ↓wp_some, ↓wp_peeks, ↓wp_escs, ↓wp_lent, ↓wp_giveBack, ↓wp_gave, ↓wp_listAt, ↓wp_mutAt, seqK_nx, seqK_rt, seqK_ro, seqK_bk, seqK_ct, endK_rt, endK_nx, endO_ro, callK_ok, callOK_ok, turnK_nx, midK_nx, midK_rt, midK_bk, midK_ct, turnK_rt, iteP_t, iteP_f, asI_int, asB_bl, chainK_bl,
  eVar_at, varR_val, varR_own, varR_lck, peek_val, peek_ref, peekS_val, peekS_own, peekS_lck, peeks_nil, esc_val, esc_ref, escR_own, escR_val, escs_nil, ownS_own, lent_nil, places_nil, places_ref, giveBack_nil, gaveS_own, gave_nil, lend_nil, lend_val, lend_own, srcOf_at, srcS_own, srcS_lck, srcS_list, srcS_tup, sorted_ints, srcOf_list, srcOf_tup, unlk_none, unlk_some, unlkS_lck, unlkF_nx, unlkF_rt, intAt_S, intS_val, ownAt_ref, ownO_own, tNm_ok,
  add_int, add_tup, add_list, add_str, sub_int, mul_int, fdv_int, mod_int, pow_int, neg_int, lt_int, le_int, gt_int, ge_int, eq_int, ne_int, eq_self, eq_str, ne_str, is_bl, is_non, at_list, at_tup, atI_0, atI_1, atI_2, atI_3, DL.sl_tup, DL.sl_list, DL.sl_str, rev_tup, rev_list, len_list, len_tup, len_str, len_scr, abs_int, int_int, tuple_list, tuple_tup, list_list, list_tup, list_scr, min_int, max_int, str_int, app_list, ext_list, sum_ints, int_bl, ins_list, store_0, store_1, store_2, store_3, rg1_int, rg2_int, zip_tup, zip_list, tru_bl, isT_int, isT_str, isT_tup, isT_list, DL.isNon,
  List.getElem?_cons_zero, List.getElem?_cons_succ, List.set_cons_zero, List.set_cons_succ, List.cons_append, List.nil_append, List.length_cons, List.length_nil, List.reduceReplicate, List.take_succ_cons, List.take_zero, List.drop_succ_cons, List.drop_zero, List.take_nil, List.drop_nil, List.append_nil,
  Nat.reduceAdd, Nat.reduceSub, Int.reduceAdd, Int.reduceSub, Int.reduceMul, Int.reduceLT, Int.reduceLE, Int.reduceGT, Int.reduceEq, Int.reduceNeg, Int.reducePow, Int.reduceToNat, Nat.reduceLT, Nat.reducePow, cm_l, cm_r, ok62_of, ↓tTp_ok, ↓wp_tsCons, tsNil_ok, wipeE_nil, wipeE_cons, restE_nil, restE_cons, plainE_nil, plainE_cons, plainS_emp, plainS_val, Bool.and_self, Bool.and_true, List.getD_cons_zero, List.getD_cons_succ, cut_1, all_map, any_map, sz_le, sz_lt, fits_nil, fits_cons, Nat.reduceLeDiff, Nat.zero_add, lo_small, Int.zero_add, List.length_map, Int.natCast_add, Int.cast_ofNat_Int, decide_true, decide_false, Bool.not_true, Bool.not_false, List.nodup_cons, List.nodup_nil, List.not_mem_nil, not_false_eq_true, and_self, and_true, true_and, true_implies, reduceCtorEq, List.mem_cons, or_false, iteP_dec, iteP_not,
  xseqK_nx, xseqK_rt, xseqK_er, xdropK_ok, xdropK_er, xretK_ok, xretK_er, xsetK_ok, xsetK_er, xfldK_ok, xfldK_er, xcallK_ok, xcallK_er, endX_rt, endX_nx, endX_er, pureX_nil, tryK_fl, tryK_er, rtK_rt, strV_str, lstV_list, addL_list, mkK_ok, elook_nil, elook_cons, look_nil, look_cons, fld_inst, set_inst, putG_nil, putG_cons, hasM_inst, catR_str, key_str, key_int, keyRV_val, at_dict, store_dict, valD_cons, valD_nil, valD_put, merge_nil, merge_cons, isB_eq, Option.getD_some,
  En.set, En.put, En.new, entE_eq, deref_nil, pureOk_nil, obj_slot, plc_ref, plc_cel, upd_slot, updS_own, upd_cell, obj_cell, celS_c, isLst_list, unlk_cell, srcOf_cel, celLS_list,
  ofs_eq, Sum.inr.injEq, Sum.inl.injEq, String.reduceEq, if_true, if_false, List.mem_singleton, true_or, or_true, false_or, and_false, false_and])
structure LX (n : Nat) (ks : List (Key × D)) (b : Bool) (j l0 l1 : Nat) (S : List Nat) (P : List (Bool × Nat)) : Prop where
  a : valD ks (.inr "a") = some (.str (wd b j l0))
  i : valD ks (.inr "i") = some (.str (wd b j l1))
  st : valD ks (.inr "starts") = some (.list ((S.map (wd b j)).map .str))
  pl : valD ks (.inr "places") = some (.list ((P.map (nm b j)).map .str))
  ca : valD ks (.inr "carried") = some (.list ((S.map (wd b j) ++ P.map (nm b j)).map .str))
  it : valD ks (.inr "item") = some (itm b j l0 l1)
  len : ks.length ≤ n
  hj : j < 4
  nd : (l0 :: l1 :: (S ++ P.map (·.2))).Nodup
  lt : ∀ l ∈ l0 :: l1 :: (S ++ P.map (·.2)), l < 26
theorem LW.x {ks : List (Key × D)} {b : Bool} {j l0 l1 : Nat} {S : List Nat} {P : List (Bool × Nat)} (h : LW ks b j l0 l1 S P) : LX 10 ks b j l0 l1 S P := ⟨h.a, h.i, h.st, h.pl, h.ca, h.it, by have := h.len; omega, h.hj, h.nd, h.lt⟩
theorem wp_cut3 {m1 m2 n : Sx} {ρ : En} {Q : Fl → Prop} (R : En → Prop) (h2 : ∀ ρ', R ρ' → wq (n ρ') Q) (h1 : wq (sSeq m1 m2 ρ) (midK R Q)) : wq (sSeq m1 (sSeq m2 n) ρ) Q := by
  have e : sSeq m1 (sSeq m2 n) ρ = sSeq (sSeq m1 m2) n ρ := by
    unfold sSeq
    cases h : m1 ρ with
    | none => rfl
    | some fl => cases fl <;> rfl
  rw [e]
  exact wp_cut R h2 h1
structure PD where
  name : Str
  a : Str
  i : Str
  items : List D
  results : List D
  places : List D
  head : List D
  block : List D
  pz1 : List D
  pz2 : List D
  give : List D
  S : List Str
  P : List Str
def PD.step (p : PD) : D := .tup [.str "set", .tup [.tup [.str p.i, .tup [.str "plus", .tup [.str "name", .str p.i], .tup [.str "number", .int 1]]]]]
def PD.loop (p : PD) : D := .tup [.str "while", .tup [.str "less", .tup [.str "name", .str p.i], .tup [.str "length", .str p.a]], .tup (p.block ++ [p.step] ++ p.pz2)]
def PD.body (p : PD) : List D := p.head ++ [p.loop] ++ p.pz1 ++ [.tup [.str "give", .tup p.give]]
def PD.d (p : PD) (body : List D) : D := .tup [.str p.name, .tup p.items, .tup p.results, .tup p.places, .tup [], .tup [], .tup [], .tup [], .tup body]
def iD (xs : List Str) : List D := xs.map fun x => .tup [.str "int", .str x]
structure PD.Ok (p : PD) : Prop where
  items : ∃ u v, p.items = iD u ++ [.tup [.str "array", .str p.a]] ++ iD v ∧ p.S = u ++ v
  places : ∃ u v, p.places = iD u ++ [.tup [.str "int", .str p.i]] ++ iD v ∧ p.P = u ++ v
  res : p.results ≠ []
  head : ∀ d ∈ p.head, Stm true (p.S ++ p.P) none 0 d
  headl : p.head.length ≤ 10
  block : ∀ d ∈ p.block, Stm true (p.S ++ p.P) (some (ITM p.a p.i)) 2 d
  blockl : p.block.length ≤ 20
  pz1 : p.pz1 = [] ∨ p.pz1 = [.tup [.str "pause"]]
  pz2 : p.pz2 = [] ∨ p.pz2 = [.tup [.str "pause"]]
  give : ∀ d ∈ p.give, Sm (p.S ++ p.P) none 2 d
  givel : p.give.length ≤ 4
  ln : p.S.length ≤ 2
  lp : p.P.length ≤ 2
  ni : p.i ∉ p.S ++ p.P
  ok : ∀ x ∈ p.a :: p.i :: (p.S ++ p.P), PyData.strOk x = true
  oks : ∀ x ∈ p.a :: p.i :: (p.S ++ p.P), x.length ≤ 8
  nl : ∀ x ∈ p.S ++ p.P, x ≠ "loop"
def WithOk (f : Fn) : Prop := ∀ s (name : Str) (pl all : Bool) (n m : Nat) (Q : Rs × List D → Prop), St s → n ≤ 2 → 1 ≤ m → m ≤ 2 → (∀ s' ks (p : PD), St s' → p.Ok → p.name = name → valD ks (.inr "proc") = some (p.d p.body) → valD ks (.inr "carried") = some (.list ((p.S ++ p.P).map .str)) → valD ks (.inr "a") = some (.str p.a) → Q (.ok (.dict ks), [s'])) → wq (f [s, .str name, .bl pl, .str (if all then "all" else "one"), .int n, .int m]) Q
theorem LX.wk {ks : List (Key × D)} {b : Bool} {j l0 l1 k : Nat} {S : List Nat} {P : List (Bool × Nat)} (h : LX k ks b j l0 l1 S P) (hk : k ≤ 19) (h1 : S.length ≤ 2) (h2 : P.length ≤ 2) (h3 : P ≠ []) : WK (S.map (wd b j) ++ P.map (nm b j)) (putD ks (.inr "deep") (.bl false)) (S.map (wd b j) ++ P.map (nm b j)) (wd b j l0) (wd b j l1) false where
  ca := by
    rw [valD_put, if_neg (by decide)]
    exact h.ca
  it := by
    rw [valD_put, if_neg (by decide)]
    exact h.it
  dp := by rw [valD_put, if_pos rfl]
  len := plen (Nat.le_trans h.len hk)
  ne := by simp [h3]
  ln := by simp; omega
  sub := fun _ h => h
  ok := fun x hx => by
    rcases List.mem_append.mp hx with hx | hx
    · obtain ⟨l, hl, rfl⟩ := List.mem_map.mp hx
      exact (nm_len0 j h.hj l (h.lt l (by simp [hl])) b false).2
    · obtain ⟨q, hq, rfl⟩ := List.mem_map.mp hx
      exact (nm_len0 j h.hj q.2 (h.lt q.2 (List.mem_cons_of_mem _ (List.mem_cons_of_mem _ (List.mem_append_right _ (List.mem_map_of_mem hq))))) b q.1).2
  oka := (nm_len0 j h.hj l0 (h.lt l0 (by simp)) b false).2
  oki := (nm_len0 j h.hj l1 (h.lt l1 (by simp)) b false).2
theorem LX.dp {k : Nat} {ks : List (Key × D)} {b : Bool} {j l0 l1 : Nat} {S : List Nat} {P : List (Bool × Nat)} {v : D} (h : LX k ks b j l0 l1 S P) : LX (k + 1) (putD ks (.inr "deep") v) b j l0 l1 S P where
  a := by
    rw [valD_put, if_neg (by decide)]
    exact h.a
  i := by
    rw [valD_put, if_neg (by decide)]
    exact h.i
  st := by
    rw [valD_put, if_neg (by decide)]
    exact h.st
  pl := by
    rw [valD_put, if_neg (by decide)]
    exact h.pl
  ca := by
    rw [valD_put, if_neg (by decide)]
    exact h.ca
  it := by
    rw [valD_put, if_neg (by decide)]
    exact h.it
  len := plen h.len
  hj := h.hj
  nd := h.nd
  lt := h.lt
theorem pz_ex {d : D} {v : Int} (h0 : 0 ≤ v) (h1 : v < 2) : cutD [d] none (some v) = [] ∨ cutD [d] none (some v) = [d] := by
  have : v = 0 ∨ v = 1 := by omega
  rcases this with rfl | rfl
  · exact .inl rfl
  · exact .inr rfl
theorem set_own (sl : List Sl) (i : Nat) : ∃ y, sl = sl.set i y := by
  by_cases h : i < sl.length
  · exact ⟨sl[i], (List.set_getElem_self h).symm⟩
  · exact ⟨.emp, (List.set_eq_of_length_le (by omega)).symm⟩
theorem lc_setM {lk : Option Lk} {ds0 : List D} {α : Type} {zs : List α} {h : α → D} {t : Tgt} {tt : Tx} {te : Ex} {vs : List Nat} {sl : List Sl} {st : List (Option D)} {Q : List D × En → Prop} (i : Nat) (g : α → D)
    (hs : ∀ z y (R : D → En → Prop), z ∈ zs → (∀ y', R (g z) ⟨sl.set i y', st⟩) → wq (t (h z) (wipeE ⟨sl.set i y, st⟩ vs)) fun ρ1 => wq (tt ρ1) fun p => iteP p.1 (wq (te p.2) fun q => wq (esc q.2 q.1) fun s => R s.1 s.2) False)
    (hd : ∀ y, Q (zs.map g, ⟨sl.set i y, st⟩)) (hf : lkFree lk = true := by rfl) : wq (lcLoop (ckOf lk ds0) t tt te vs (zs.map h) [] ⟨sl, st⟩) Q := by
  refine lc_mapM (h := h) g (fun ρ => ∃ y, ρ = ⟨sl.set i y, st⟩) ?_ ?_ ?_ hf
  · obtain ⟨y, e⟩ := set_own sl i
    exact ⟨y, by rw [← e]⟩
  · rintro z ρ R hz ⟨y, rfl⟩ hR
    exact hs z y R hz fun y' => hR _ ⟨y', rfl⟩
  · rintro ρ ⟨y, rfl⟩
    exact hd y
theorem lc_setF {lk : Option Lk} {ds0 ds : List D} {t : Tgt} {tt : Tx} {te : Ex} {vs : List Nat} {sl : List Sl} {st : List (Option D)} {Q : List D × En → Prop} (i : Nat) (p : D → Bool) (g : D → D)
    (hs : ∀ z y (R : D → En → Prop) (S : En → Prop), z ∈ ds → (∀ y', p z = true → R (g z) ⟨sl.set i y', st⟩) → (∀ y', p z = false → S ⟨sl.set i y', st⟩) → wq (t z (wipeE ⟨sl.set i y, st⟩ vs)) fun ρ1 => wq (tt ρ1) fun p => iteP p.1 (wq (te p.2) fun q => wq (esc q.2 q.1) fun s => R s.1 s.2) (S p.2))
    (hd : ∀ y, Q ((ds.filter p).map g, ⟨sl.set i y, st⟩)) (hf : lkFree lk = true := by rfl) : wq (lcLoop (ckOf lk ds0) t tt te vs ds [] ⟨sl, st⟩) Q := by
  refine lc_filt p g (fun ρ => ∃ y, ρ = ⟨sl.set i y, st⟩) ?_ ?_ ?_ hf
  · obtain ⟨y, e⟩ := set_own sl i
    exact ⟨y, by rw [← e]⟩
  · rintro z ρ R S hz ⟨y, rfl⟩ hR hS
    exact hs z y R S hz (fun y' h => hR _ ⟨y', rfl⟩ h) (fun y' h => hS _ ⟨y', rfl⟩ h)
  · rintro ρ ⟨y, rfl⟩
    exact hd y
theorem lc_setR {lk : Option Lk} {ds0 ds : List D} {t : Tgt} {tt : Tx} {te : Ex} {vs : List Nat} {sl : List Sl} {st : List (Option D)} {Q : List D × En → Prop} (i : Nat) (P : D → Prop)
    (hs : ∀ z y (R : D → En → Prop), z ∈ ds → (∀ v y', P v → R v ⟨sl.set i y', st⟩) → wq (t z (wipeE ⟨sl.set i y, st⟩ vs)) fun ρ1 => wq (tt ρ1) fun p => iteP p.1 (wq (te p.2) fun q => wq (esc q.2 q.1) fun s => R s.1 s.2) False)
    (hd : ∀ acc y, acc.length = ds.length → (∀ v ∈ acc, P v) → Q (acc, ⟨sl.set i y, st⟩)) (hf : lkFree lk = true := by rfl) : wq (lcLoop (ckOf lk ds0) t tt te vs ds [] ⟨sl, st⟩) Q := by
  refine lc_rel P (fun ρ => ∃ y, ρ = ⟨sl.set i y, st⟩) ?_ ?_ ?_ hf
  · obtain ⟨y, e⟩ := set_own sl i
    exact ⟨y, by rw [← e]⟩
  · rintro z ρ R hz ⟨y, rfl⟩ hR
    exact hs z y R hz fun v y' h => hR v _ h ⟨y', rfl⟩
  · rintro acc ρ hl hp ⟨y, rfl⟩
    exact hd acc y hl hp
theorem lc_set2F {lk : Option Lk} {ds0 ds : List D} {t : Tgt} {tt : Tx} {te : Ex} {vs : List Nat} {sl : List Sl} {st : List (Option D)} {Q : List D × En → Prop} (i k : Nat) (p : D → Bool) (g : D → D)
    (hs : ∀ z y x (R : D → En → Prop) (S : En → Prop), z ∈ ds → (∀ y' x', p z = true → R (g z) ⟨(sl.set i y').set k x', st⟩) → (∀ y' x', p z = false → S ⟨(sl.set i y').set k x', st⟩) → wq (t z (wipeE ⟨(sl.set i y).set k x, st⟩ vs)) fun ρ1 => wq (tt ρ1) fun p => iteP p.1 (wq (te p.2) fun q => wq (esc q.2 q.1) fun s => R s.1 s.2) (S p.2))
    (hd : ∀ y x, Q ((ds.filter p).map g, ⟨(sl.set i y).set k x, st⟩)) (hf : lkFree lk = true := by rfl) : wq (lcLoop (ckOf lk ds0) t tt te vs ds [] ⟨sl, st⟩) Q := by
  refine lc_filt p g (fun ρ => ∃ y x, ρ = ⟨(sl.set i y).set k x, st⟩) ?_ ?_ ?_ hf
  · obtain ⟨y, e⟩ := set_own sl i
    obtain ⟨x, e'⟩ := set_own sl k
    exact ⟨y, x, by rw [← e, ← e']⟩
  · rintro z ρ R S hz ⟨y, x, rfl⟩ hR hS
    exact hs z y x R S hz (fun y' x' h => hR _ ⟨y', x', rfl⟩ h) (fun y' x' h => hS _ ⟨y', x', rfl⟩ h)
  · rintro ρ ⟨y, x, rfl⟩
    exact hd y x
def exI : D → Str
  | .tup [_, .str x] => x
  | _ => ""
def isI : D → Bool
  | .tup [.str k, _] => decide (k = "int")
  | _ => false
theorem iD_ex {l : List D} {xs : List Str} (h : ∀ d ∈ l, d ∈ iD xs) : l = iD (l.map exI) := by
  induction l with
  | nil => rfl
  | cons d l ih =>
    have h1 := h d (List.mem_cons_self ..)
    obtain ⟨x, _, rfl⟩ := List.mem_map.mp h1
    show _ = _ :: iD (l.map exI)
    rw [← ih fun d hd => h d (List.mem_cons_of_mem _ hd)]
    rfl
theorem ex_iD {xs : List Str} : (iD xs).map exI = xs := by
  unfold iD
  rw [List.map_map]
  exact List.map_id _
theorem iD_app {u v : List Str} : iD (u ++ v) = iD u ++ iD v := List.map_append
theorem perm_items {es : List D} {A : D} {xs : List Str} (h : es.Perm (A :: iD xs)) : ∃ u v, es = iD u ++ [A] ++ iD v ∧ (u ++ v).Perm xs := by
  obtain ⟨l1, l2, rfl⟩ := List.append_of_mem (h.mem_iff.mpr (List.mem_cons_self ..))
  have h2 : (l1 ++ l2).Perm (iD xs) := (List.perm_middle.symm.trans h).cons_inv
  have m1 : l1 = iD (l1.map exI) := iD_ex fun d hd => h2.mem_iff.mp (List.mem_append_left _ hd)
  have m2 : l2 = iD (l2.map exI) := iD_ex fun d hd => h2.mem_iff.mp (List.mem_append_right _ hd)
  refine ⟨l1.map exI, l2.map exI, ?_, ?_⟩
  · rw [← m1, ← m2, List.append_assoc]
    rfl
  · have := h2.map exI
    rwa [ex_iD, List.map_append] at this
def gI : D → D
  | .tup [_, x] => x
  | _ => .non
theorem filt_iD {u : List Str} : ((iD u).filter isI).map gI = u.map D.str := by
  unfold iD
  induction u with
  | nil => rfl
  | cons x u ih =>
    rw [List.map_cons, List.filter_cons_of_pos (by rfl), List.map_cons, ih]
    rfl
theorem filt_items {u v : List Str} {a : Str} : ((iD u ++ [D.tup [.str "array", .str a]] ++ iD v).filter isI).map gI = (u ++ v).map D.str := by
  rw [List.filter_append, List.filter_append, List.map_append, List.map_append, filt_iD, filt_iD, List.map_append]
  show u.map D.str ++ [] ++ _ = _
  rw [List.append_nil]
theorem Sm.sub {N N' : List Str} {it : Option D} {n : Nat} {d : D} (h : Sm N it n d) (hs : ∀ x ∈ N, x ∈ N') : Sm N' it n d := by
  induction h with
  | num k => exact .num k
  | name x h => exact .name x (hs x h)
  | item a i h1 h2 h => exact .item a i h1 h2 h
  | scale k d _ ih => exact .scale k d ih
  | bin o d e h _ _ i1 i2 => exact .bin o d e h i1 i2
theorem Tst.sub {N N' : List Str} {it : Option D} {n : Nat} {d : D} (h : Tst N it n d) (hs : ∀ x ∈ N, x ∈ N') : Tst N' it n d := by
  induction h with
  | cmp o d e h1 h2 h3 => exact .cmp o d e h1 (h2.sub hs) (h3.sub hs)
  | nt c _ ih => exact .nt c ih
  | bin o c d h _ _ i1 i2 => exact .bin o c d h i1 i2
theorem Stm.sub {p : Bool} {N N' : List Str} {it : Option D} {n : Nat} {d : D} (h : Stm p N it n d) (hs : ∀ x ∈ N, x ∈ N') : Stm p N' it n d := by
  induction h with
  | pause h => exact .pause h
  | set x e h1 h2 => exact .set x e (hs x h1) (h2.sub hs)
  | ite c a b h1 _ h2 _ h3 i1 i2 => exact .ite c a b (h1.sub hs) i1 h2 i2 h3
def mkPD (name : Str) (b : Bool) (j l0 l1 : Nat) (u v : List Str) (P : List (Bool × Nat)) (head block pz1 pz2 rs es : List D) (k : Nat) : PD where
  name := name
  a := wd b j l0
  i := wd b j l1
  items := iD u ++ [.tup [.str "array", .str (wd b j l0)]] ++ iD v
  results := rs
  places := iD ((P.map (nm b j)).take k) ++ [.tup [.str "int", .str (wd b j l1)]] ++ iD ((P.map (nm b j)).drop k)
  head := head
  block := block
  pz1 := pz1
  pz2 := pz2
  give := es
  S := u ++ v
  P := P.map (nm b j)
theorem nm_nl0 : ∀ j : Nat, j < 4 → ∀ l : Nat, l < 26 → ∀ b q : Bool, nm b j (q, l) ≠ "loop" := by decide +kernel
theorem mkPD_ok {name : Str} {ks : List (Key × D)} {b : Bool} {j l0 l1 m k : Nat} {S : List Nat} {u v : List Str} {P : List (Bool × Nat)} {head block pz1 pz2 rs es : List D} (h : LX m ks b j l0 l1 S P) (huv : (u ++ v).Perm (S.map (wd b j))) (hS : S.length ≤ 2) (hP : P.length ≤ 2) (h1 : ∀ d ∈ head, Stm true (S.map (wd b j) ++ P.map (nm b j)) none 0 d) (h1l : head.length ≤ 10)
    (h2 : ∀ d ∈ block, Stm true (S.map (wd b j) ++ P.map (nm b j)) (some (ITM (wd b j l0) (wd b j l1))) 2 d) (h2l : block.length ≤ 20) (h3 : pz1 = [] ∨ pz1 = [.tup [.str "pause"]]) (h4 : pz2 = [] ∨ pz2 = [.tup [.str "pause"]]) (h5 : rs ≠ []) (h6 : ∀ d ∈ es, Sm (S.map (wd b j) ++ P.map (nm b j)) none 2 d) (h6l : es.length ≤ 4) :
    (mkPD name b j l0 l1 u v P head block pz1 pz2 rs es k).Ok := by
  have sub : ∀ x ∈ S.map (wd b j) ++ P.map (nm b j), x ∈ u ++ v ++ P.map (nm b j) := fun x hx => by
    rcases List.mem_append.mp hx with hx | hx
    · exact List.mem_append_left _ (huv.mem_iff.mpr hx)
    · exact List.mem_append_right _ hx
  have sup : ∀ x ∈ u ++ v ++ P.map (nm b j), (∃ l ∈ S, x = nm b j (false, l)) ∨ ∃ q ∈ P, x = nm b j q := fun x hx => by
    rcases List.mem_append.mp hx with hx | hx
    · obtain ⟨l, hl, rfl⟩ := List.mem_map.mp (huv.mem_iff.mp hx)
      exact .inl ⟨l, hl, rfl⟩
    · obtain ⟨q, hq, rfl⟩ := List.mem_map.mp hx
      exact .inr ⟨q, hq, rfl⟩
  have lS : ∀ l ∈ S, l < 26 ∧ l ≠ l1 := fun l hl => ⟨h.lt l (by simp [hl]), fun e => by
    have := (List.nodup_cons.mp (List.nodup_cons.mp h.nd).2).1
    exact this (e ▸ List.mem_append_left _ hl)⟩
  have lP : ∀ q ∈ P, q.2 < 26 ∧ q.2 ≠ l1 := fun q hq => ⟨h.lt q.2 (List.mem_cons_of_mem _ (List.mem_cons_of_mem _ (List.mem_append_right _ (List.mem_map_of_mem hq)))), fun e => by
    have := (List.nodup_cons.mp (List.nodup_cons.mp h.nd).2).1
    exact this (e ▸ List.mem_append_right _ (List.mem_map_of_mem hq))⟩
  have a26 : l0 < 26 := h.lt l0 (by simp)
  have i26 : l1 < 26 := h.lt l1 (by simp)
  have oks : ∀ x ∈ wd b j l0 :: wd b j l1 :: (u ++ v ++ P.map (nm b j)), x.length ≤ 8 ∧ PyData.strOk x = true := fun x hx => by
    rcases List.mem_cons.mp hx with rfl | hx
    · exact nm_len0 j h.hj l0 a26 b false
    rcases List.mem_cons.mp hx with rfl | hx
    · exact nm_len0 j h.hj l1 i26 b false
    rcases sup x hx with ⟨l, hl, rfl⟩ | ⟨q, hq, rfl⟩
    · exact nm_len0 j h.hj l (lS l hl).1 b false
    · exact nm_len0 j h.hj q.2 (lP q hq).1 b q.1
  exact {
    items := ⟨u, v, rfl, rfl⟩
    places := ⟨_, _, rfl, (List.take_append_drop k _).symm⟩
    res := h5
    head := fun d hd => (h1 d hd).sub sub
    headl := h1l
    block := fun d hd => (h2 d hd).sub sub
    blockl := h2l
    pz1 := h3
    pz2 := h4
    give := fun d hd => (h6 d hd).sub sub
    givel := h6l
    ln := by
      have := huv.length_eq
      rw [List.length_map] at this
      show (u ++ v).length ≤ 2
      omega
    lp := by
      show (P.map (nm b j)).length ≤ 2
      rw [List.length_map]
      exact hP
    ni := fun hx => by
      rcases sup _ hx with ⟨l, hl, e⟩ | ⟨q, hq, e⟩
      · exact (lS l hl).2 (nm_inj0 j h.hj l1 i26 l (lS l hl).1 b false false e).2.symm
      · exact (lP q hq).2 (nm_inj0 j h.hj l1 i26 q.2 (lP q hq).1 b false q.1 e).2.symm
    ok := fun x hx => (oks x hx).2
    oks := fun x hx => (oks x hx).1
    nl := fun x hx => by
      rcases sup _ hx with ⟨l, hl, e⟩ | ⟨q, hq, e⟩
      · rw [e]
        exact nm_nl0 j h.hj l (lS l hl).1 b false
      · rw [e]
        exact nm_nl0 j h.hj q.2 (lP q hq).1 b q.1 }
theorem cut_iD1 {xs : List Str} {k : Nat} : cutD (xs.map fun x => D.tup [.str "int", .str x]) none (some (k : Int)) = iD (xs.take k) := by
  rw [cut_take rfl, ← List.map_take]
  rfl
theorem cut_iD2 {xs : List Str} {k : Nat} : cutD (xs.map fun x => D.tup [.str "int", .str x]) (some (k : Int)) none = iD (xs.drop k) := by
  rw [cut_drop rfl, ← List.map_drop]
  rfl
theorem with_ok {T : Tab} (hd : DrawOk T.f_law_draw) (hw : LWOk T.f_law_loop_words) (hse : SetsOk T.f_law_loop_sets) (hb : BlockOk T.f_law_loop_block) (hsh : ShufOk T.f_law_shuffled) (hsum : SumOk 2 T.f_law_sum_of) : WithOk (fn_f_law_loop_with T) := by
  intro s name pl all n m Q hs hn hm1 hm2 hQ
  have sz : 4096 ≤ sizeLine := by decide
  rw [fn_f_law_loop_with, b_f_law_loop_with, wp_body]
  simp only [entE_eq, List.length_cons, List.length_nil]
  refine wp_cut3 (fun ρ => ∃ s ks b j l0 l1 S P, St s ∧ LX 14 ks b j l0 l1 S P ∧ S.length = n ∧ P.length = m ∧ (all = true → 1 < m → ∀ q ∈ P, q.1 = true) ∧ ρ = ⟨[.own (some 0) s, .val (.str name), .val (.bl pl), .val (.str (if all then "all" else "one")), .val (.int n), .val (.int m), .own none (.dict ks), .emp, .emp, .emp, .emp, .emp, .emp, .emp, .emp, .emp, .emp, .emp, .emp], []⟩) ?_ ?_
  · rintro ρ ⟨s, ks, b, j, l0, l1, S, P, hs, h, hS, hP, hall, rfl⟩
    have w := h.wk (by omega) (by omega) (by omega) (by rintro rfl; simp at hP; omega)
    have w' := w.deep (b := true) (by have := putD_len (ks := ks) (k := .inr "deep") (v := .bl false); have := h.len; omega)
    walk_at "dl"
    refine ⟨plt h.len, ?_⟩
    refine hd _ _ _ hs (by omega) (by omega) fun v s hs v0 v1 => ?_
    obtain ⟨k1, rfl⟩ := Int.eq_ofNat_of_zero_le v0
    walk_at "dl"
    refine hse _ _ _ _ _ _ _ _ _ hs w (by omega) fun s head hs hh hhl => ?_
    walk_at "dl"
    refine hb _ _ _ _ _ _ _ _ _ hs w (by have := putD_len (ks := ks) (k := .inr "deep") (v := .bl false); have := h.len; omega) fun s block hs hbk hbl => ?_
    walk_at "dl"
    refine ⟨plt (plen (plen h.len)), ?_⟩
    have h5 := ((h.dp (v := .bl false)).dp (v := .bl true)).dp (v := .bl false)
    have w5 := w'.deep (b := false) (Nat.le_trans (plen (plen h.len)) (by omega))
    have hi := h.i
    clear w w' h
    generalize putD (putD (putD ks (.inr "deep") (.bl false)) (.inr "deep") (.bl true)) (.inr "deep") (.bl false) = ks5 at h5 w5 ⊢
    simp only [hi]
    walk_at "dl"
    refine hd _ _ _ hs (by omega) (by omega) fun v s hs v0 v1 => ?_
    have hz2 := pz_ex (d := .tup [.str "pause"]) v0 (by omega)
    walk_at "dl"
    generalize cutD [.tup [.str "pause"]] none (some v) = pz2 at hz2 ⊢
    have lz2 : pz2.length ≤ 1 := by rcases hz2 with rfl | rfl <;> simp
    simp only [h5.i, h5.a, h5.st]
    walk_at "dl"
    refine ⟨by omega, by simp; omega, by omega, ?_⟩
    refine lc_setM (zs := S.map (wd b j)) (h := D.str) 17 (fun x => .tup [.str "int", .str x]) ?_ ?_
    · rintro z y R hz hR
      walk_at "dl"
      exact hR _
    intro y
    walk_at "dl"
    refine ⟨by omega, ?_⟩
    refine hsh _ _ _ hs (by simp; omega) fun es s hs hpm => ?_
    have hle := hpm.length_eq
    obtain ⟨u, v, rfl, huv⟩ := perm_items hpm
    have luv := huv.length_eq
    simp only [List.length_append, List.length_map] at luv
    walk_at "dl"
    refine ⟨by simp [iD]; omega, ?_⟩
    refine lc_set2F 18 17 isI gI ?_ ?_
    · rintro z y x R S hz hR hS
      have hz' : (∃ q, z = .tup [.str "int", .str q]) ∨ z = .tup [.str "array", .str (wd b j l0)] := by
        simp only [List.mem_append, List.mem_singleton, iD, List.mem_map] at hz
        rcases hz with (⟨q, _, rfl⟩ | rfl) | ⟨q, _, rfl⟩
        · exact .inl ⟨q, rfl⟩
        · exact .inr rfl
        · exact .inl ⟨q, rfl⟩
      rcases hz' with ⟨q, rfl⟩ | rfl
      · walk_at "dl"
        exact hR _ _ rfl
      · walk_at "dl"
        exact hS _ _ rfl
    intro y x
    rw [filt_items]
    walk_at "dl"
    refine ⟨plt h5.len, ?_⟩
    simp only [h5.pl]
    walk_at "dl"
    refine ⟨by simp; omega, plt (plen h5.len), ?_⟩
    have eC : (u ++ v).map D.str ++ (P.map (nm b j)).map D.str = (u ++ v ++ P.map (nm b j)).map D.str := List.map_append.symm
    rw [eC]
    have memC : ∀ x, x ∈ u ++ v ++ P.map (nm b j) ↔ x ∈ S.map (wd b j) ++ P.map (nm b j) := fun x => by rw [List.mem_append, List.mem_append (s := S.map (wd b j)), huv.mem_iff]
    have w7 : WK (S.map (wd b j) ++ P.map (nm b j)) (putD (putD ks5 (.inr "starts") (.list ((u ++ v).map .str))) (.inr "carried") (.list ((u ++ v ++ P.map (nm b j)).map .str))) (u ++ v ++ P.map (nm b j)) (wd b j l0) (wd b j l1) false := {
      ca := by rw [valD_put, if_pos rfl]
      it := by
        rw [valD_put, if_neg (by decide), valD_put, if_neg (by decide)]
        exact w5.it
      dp := by
        rw [valD_put, if_neg (by decide), valD_put, if_neg (by decide)]
        exact w5.dp
      len := Nat.le_trans putD2_len (by have := h5.len; omega)
      ne := by
        intro h
        have : P = [] := by simpa using (List.append_eq_nil_iff.mp h).2
        rw [this] at hP
        simp at hP
        omega
      ln := by simp; omega
      sub := fun x hx => (memC x).mp hx
      ok := fun x hx => w5.ok x ((memC x).mp hx)
      oka := w5.oka
      oki := w5.oki }
    have h7 : (putD (putD ks5 (.inr "starts") (.list ((u ++ v).map .str))) (.inr "carried") (.list ((u ++ v ++ P.map (nm b j)).map .str))).length ≤ 19 := Nat.le_trans putD2_len (by have := h5.len; omega)
    refine hsum _ _ _ _ _ _ _ _ hs w7 fun s g hs hg => ?_
    walk_at "dl"
    simp only [h5.pl]
    walk_at "dl"
    cases all
    · walk_at "dl"
      refine ⟨fun h => h.elim, ?_⟩
      refine ⟨by omega, ?_⟩
      refine lc_setM (zs := P.map (nm b j)) (h := D.str) 17 (fun x => .tup [.str "int", .str x]) ?_ ?_
      · rintro z y R hz hR
        walk_at "dl"
        exact hR _
      intro y
      walk_at "dl"
      refine hd _ _ _ hs (by omega) (by omega) fun v2 s hs v20 v21 => ?_
      obtain ⟨k2, rfl⟩ := Int.eq_ofNat_of_zero_le v20
      have ek : (P.length : Int) * (k2 : Int) = ((P.length * k2 : Nat) : Int) := rfl
      have k2l : P.length * k2 ≤ 2 := by
        have : k2 = 0 ∨ k2 = 1 := by omega
        rcases this with rfl | rfl <;> omega
      walk_at "dl"
      rw [ek]
      simp only [cut_iD1, cut_iD2]
      simp only [h5.i]
      walk_at "dl"
      refine ⟨cm_small (by omega) (by omega), by simp [iD]; omega, by simp [iD]; omega, plt h7, plt (plen h7), plt (plen (plen h7)), by omega, ?_⟩
      refine hd _ _ _ hs (by omega) (by omega) fun v3 s hs v30 v31 => ?_
      have hz1 := pz_ex (d := .tup [.str "pause"]) v30 (by omega)
      walk_at "dl"
      generalize cutD [.tup [.str "pause"]] none (some v3) = pz1 at hz1 ⊢
      have lz1 : pz1.length ≤ 1 := by rcases hz1 with rfl | rfl <;> simp
      refine ⟨by simp; omega, by simp; omega, plt (plen (plen (plen h7))), ?_⟩
      refine hQ s _ (mkPD name b j l0 l1 u v P head block pz1 pz2 _ _ (P.length * k2)) hs (mkPD_ok h5 huv (by omega) (by omega) hh (by omega) hbk hbl hz1 hz2 (rs := [.str "result"]) (by simp) (fun d hd => by rw [List.mem_singleton] at hd; exact hd ▸ hg) (by simp)) rfl ?_ ?_ ?_
      all_goals simp only [valD_put, Sum.inr.injEq, ofs_eq, String.reduceEq, if_true, if_false]
      · rfl
      · rfl
      · exact h5.a
    · walk_at "dl"
      refine ⟨⟨fun hm => ?_, fun hm => ?_⟩, fun h => False.elim (by simp at h)⟩
      · refine ⟨by omega, ?_⟩
        refine lc_setM (zs := P.map (nm b j)) (h := D.str) 17 (fun x => .str ("result." ++ cutS x (some 4) none)) ?_ ?_
        · rintro z y R hz hR
          walk_at "dl"
          refine ⟨?_, hR _⟩
          obtain ⟨q, hq, rfl⟩ := List.mem_map.mp hz
          have h1 : (nm b j q).length ≤ 8 := (nm_len0 j h5.hj q.2 (h5.lt q.2 (List.mem_cons_of_mem _ (List.mem_cons_of_mem _ (List.mem_append_right _ (List.mem_map_of_mem hq))))) b q.1).1
          have h2 := cutS_length (nm b j q) (some 4) none
          have e1 : (Str.ofString "result.").length = 7 := by decide
          omega
        intro y
        walk_at "dl"
        simp only [h5.pl]
        walk_at "dl"
        refine ⟨by omega, ?_⟩
        refine lc_setM (zs := P.map (nm b j)) (h := D.str) 17 (fun x => .tup [.str "name", .str x]) ?_ ?_
        · rintro z y R hz hR
          walk_at "dl"
          exact hR _
        intro y
        walk_at "dl"
        simp only [h5.pl]
        walk_at "dl"
        refine ⟨by omega, ?_⟩
        refine lc_setM (zs := P.map (nm b j)) (h := D.str) 17 (fun x => .tup [.str "int", .str x]) ?_ ?_
        · rintro z y R hz hR
          walk_at "dl"
          exact hR _
        intro y
        walk_at "dl"
        refine hd _ _ _ hs (by omega) (by omega) fun v2 s hs v20 v21 => ?_
        obtain ⟨k2, rfl⟩ := Int.eq_ofNat_of_zero_le v20
        have ek : (P.length : Int) * (k2 : Int) = ((P.length * k2 : Nat) : Int) := rfl
        have k2l : P.length * k2 ≤ 2 := by
          have : k2 = 0 ∨ k2 = 1 := by omega
          rcases this with rfl | rfl <;> omega
        walk_at "dl"
        rw [ek]
        simp only [cut_iD1, cut_iD2]
        simp only [h5.i]
        walk_at "dl"
        refine ⟨cm_small (by omega) (by omega), by simp [iD]; omega, by simp [iD]; omega, plt h7, plt (plen h7), plt (plen (plen h7)), by omega, ?_⟩
        refine hd _ _ _ hs (by omega) (by omega) fun v3 s hs v30 v31 => ?_
        have hz1 := pz_ex (d := .tup [.str "pause"]) v30 (by omega)
        walk_at "dl"
        generalize cutD [.tup [.str "pause"]] none (some v3) = pz1 at hz1 ⊢
        have lz1 : pz1.length ≤ 1 := by rcases hz1 with rfl | rfl <;> simp
        refine ⟨by simp; omega, by simp; omega, plt (plen (plen (plen h7))), ?_⟩
        refine hQ s _ (mkPD name b j l0 l1 u v P head block pz1 pz2 _ _ (P.length * k2)) hs (mkPD_ok h5 huv (by omega) (by omega) hh (by omega) hbk hbl hz1 hz2 (rs := (P.map (nm b j)).map fun x => D.str ("result." ++ cutS x (some 4) none)) (by simp; intro h; rw [h] at hP; simp at hP; omega) (fun d hd => by
          obtain ⟨q, hq, rfl⟩ := List.mem_map.mp hd
          exact .name _ (List.mem_append_right _ hq)) (by simp; omega)) rfl ?_ ?_ ?_
        all_goals simp only [valD_put, Sum.inr.injEq, ofs_eq, String.reduceEq, if_true, if_false]
        · rfl
        · rfl
        · exact h5.a
      · refine ⟨by omega, ?_⟩
        refine lc_setM (zs := P.map (nm b j)) (h := D.str) 17 (fun x => .tup [.str "int", .str x]) ?_ ?_
        · rintro z y R hz hR
          walk_at "dl"
          exact hR _
        intro y
        walk_at "dl"
        refine hd _ _ _ hs (by omega) (by omega) fun v2 s hs v20 v21 => ?_
        obtain ⟨k2, rfl⟩ := Int.eq_ofNat_of_zero_le v20
        have ek : (P.length : Int) * (k2 : Int) = ((P.length * k2 : Nat) : Int) := rfl
        have k2l : P.length * k2 ≤ 2 := by
          have : k2 = 0 ∨ k2 = 1 := by omega
          rcases this with rfl | rfl <;> omega
        walk_at "dl"
        rw [ek]
        simp only [cut_iD1, cut_iD2]
        simp only [h5.i]
        walk_at "dl"
        refine ⟨cm_small (by omega) (by omega), by simp [iD]; omega, by simp [iD]; omega, plt h7, plt (plen h7), plt (plen (plen h7)), by omega, ?_⟩
        refine hd _ _ _ hs (by omega) (by omega) fun v3 s hs v30 v31 => ?_
        have hz1 := pz_ex (d := .tup [.str "pause"]) v30 (by omega)
        walk_at "dl"
        generalize cutD [.tup [.str "pause"]] none (some v3) = pz1 at hz1 ⊢
        have lz1 : pz1.length ≤ 1 := by rcases hz1 with rfl | rfl <;> simp
        refine ⟨by simp; omega, by simp; omega, plt (plen (plen (plen h7))), ?_⟩
        refine hQ s _ (mkPD name b j l0 l1 u v P head block pz1 pz2 _ _ (P.length * k2)) hs (mkPD_ok h5 huv (by omega) (by omega) hh (by omega) hbk hbl hz1 hz2 (rs := [.str "result"]) (by simp) (fun d hd => by rw [List.mem_singleton] at hd; exact hd ▸ hg) (by simp)) rfl ?_ ?_ ?_
        all_goals simp only [valD_put, Sum.inr.injEq, ofs_eq, String.reduceEq, if_true, if_false]
        · rfl
        · rfl
        · exact h5.a
  · walk_at "dl"
    refine hw _ _ _ _ hs hn hm1 hm2 fun s ks b j l0 l1 S P hs h hS hP => ?_
    walk_at "dl"
    cases all
    · walk_at "dl"
      exact ⟨fun h => h.elim, ⟨s, ks, b, j, l0, l1, S, P, hs, ⟨h.a, h.i, h.st, h.pl, h.ca, h.it, by have := h.len; omega, h.hj, h.nd, h.lt⟩, hS, hP, fun h => h.elim, rfl⟩⟩
    · walk_at "dl"
      refine ⟨⟨fun hm => ?_, fun hm => ⟨s, ks, b, j, l0, l1, S, P, hs, ⟨h.a, h.i, h.st, h.pl, h.ca, h.it, by have := h.len; omega, h.hj, h.nd, h.lt⟩, hS, hP, fun _ h => by omega, rfl⟩⟩, fun h => False.elim (by simp at h)⟩
      rw [h.pl]
      walk_at "dl"
      refine ⟨by omega, ?_⟩
      rw [List.map_map]
      refine lc_mapM (zs := P) (h := D.str ∘ nm b j) (fun q => .str (nm b j (true, q.2))) (fun ρ => ∃ y, ρ = ⟨[.own (some 0) s, .val (.str name), .val (.bl pl), .val (.str "all"), .val (.int n), .val (.int m), .own none (.dict ks), .emp, .emp, .emp, .emp, .emp, .emp, .emp, .emp, .emp, .emp, y, .emp], []⟩) ⟨_, rfl⟩ ?_ ?_
      · rintro q ρ X hq ⟨y, rfl⟩ hX
        have hl : q.2 < 26 := h.lt q.2 (List.mem_cons_of_mem _ (List.mem_cons_of_mem _ (List.mem_append_right _ (List.mem_map_of_mem hq))))
        simp only [Function.comp]
        walk_at "dl"
        have h1 : (nm b j q).length ≤ 8 := (nm_len0 j h.hj q.2 hl b q.1).1
        have h2 : (wd b j q.2).length ≤ 8 := (nm_len0 j h.hj q.2 hl b false).1
        have e2 : Txt.replace (nm b j q) "t_t." "" = wd b j q.2 := nm_rep0 j h.hj q.2 hl b q.1
        rw [e2]
        have e0 : (Str.ofString "").length = 0 := rfl
        have e1 : (Str.ofString "t_t.").length = 4 := by decide
        refine ⟨⟨by rw [e0]; omega, by rw [e1]; omega⟩, hX _ ⟨_, rfl⟩⟩
      · rintro ρ ⟨y, rfl⟩
        walk_at "dl"
        have e4 : (P.map fun q => D.str (nm b j (true, q.2))) = ((P.map fun q => (true, q.2)).map (nm b j)).map D.str := by rw [List.map_map, List.map_map]; rfl
        have e5 : (P.map fun q => ((true, q.2) : Bool × Nat)).map (·.2) = P.map (·.2) := by rw [List.map_map]; rfl
        refine ⟨plt h.len, ?_⟩
        rw [h.st]
        walk_at "dl"
        refine ⟨by omega, plt (plen h.len), s, _, b, j, l0, l1, S, P.map fun q => (true, q.2), hs, ⟨?_, ?_, ?_, ?_, ?_, ?_, Nat.le_trans putD2_len (by have := h.len; omega), h.hj, by rw [e5]; exact h.nd, by rw [e5]; exact h.lt⟩, hS, by rw [List.length_map]; exact hP, fun _ q hq => ?_, rfl⟩
        all_goals try simp only [valD_put, Sum.inr.injEq, ofs_eq, String.reduceEq, if_true, if_false]
        · exact h.a
        · exact h.i
        · exact h.st
        · rw [e4]
        · rw [e4, List.map_append]
        · exact h.it
        · obtain ⟨q', _, rfl⟩ := List.mem_map.mp hq
          rfl
end G

namespace G
open PySem L2 DL
local macro_rules | `(tactic| walk_at "dl") => `(tactic| simp only [↓wp_fnX, ↓wp_xSeq, ↓wp_xOf, ↓wp_xeOf, ↓wp_xIf, ↓wp_xDrop, ↓wp_xRet, ↓wp_xSet, ↓wp_xFld, ↓wp_xRaise, ↓wp_xCall, ↓wp_xSkip, ↓wp_sTryM, ↓wp_runH, ↓wp_eExc, ↓wp_eBl, ↓wp_eFld, ↓wp_sFldSet, ↓wp_eMake, ↓wp_eMeth, ↓wp_runF, ↓wp_eDict, ↓wp_sNewD, ↓wp_sNewLc, ↓wp_sNewAdd, ↓wp_pNil, ↓wp_pCons, ↓wp_dispNil, ↓wp_dispCons, ↓wp_catR, ↓wp_body, ↓wp_bodyO, ↓wp_seq, ↓wp_sIf, ↓wp_sRet, ↓wp_sRetN, ↓wp_sRetO, ↓wp_sRetL, ↓wp_sSet, ↓wp_sNewL, ↓wp_callO, ↓wp_call, ↓wp_sAug, ↓wp_sPar, ↓wp_sUnp, ↓wp_sStore, ↓wp_eMutL, ↓wp_srcSeq, ↓wp_srcRg, ↓wp_srcZip, ↓wp_sSkip, ↓wp_sBrk, ↓wp_sDrop, ↓wp_sFor,
  ↓wp_C, ↓wp_eBin, ↓wp_eUn, ↓wp_eRev, ↓wp_bVal, ↓wp_bTru, ↓wp_bNot, ↓wp_bAnd, ↓wp_bOr, ↓wp_bYes, ↓wp_eAnd, ↓wp_eOr, ↓wp_eNot, ↓wp_eIf, ↓wp_aNil, ↓wp_aCons, ↓wp_eTup, ↓wp_eLst, ↓wp_eCB, ↓wp_eIsi, ↓wp_oNone, ↓wp_oSome, ↓wp_eSl, ↓wp_eLstR1, ↓wp_eChain, ↓wp_lc,
  ↓wp_some, ↓wp_peeks, ↓wp_escs, ↓wp_lent, ↓wp_giveBack, ↓wp_gave, ↓wp_listAt, ↓wp_mutAt, seqK_nx, seqK_rt, seqK_ro, seqK_bk, seqK_ct, endK_rt, endK_nx, endO_ro, callK_ok, callOK_ok, turnK_nx, midK_nx, midK_rt, midK_bk, midK_ct, turnK_rt, iteP_t, iteP_f, asI_int, asB_bl, chainK_bl,
  eVar_at, varR_val, varR_own, varR_lck, peek_val, peek_ref, peekS_val, peekS_own, peekS_lck, peeks_nil, esc_val, esc_ref, escR_own, escR_val, escs_nil, ownS_own, lent_nil, places_nil, places_ref, giveBack_nil, gaveS_own, gave_nil, lend_nil, lend_val, lend_own, srcOf_at, srcS_own, srcS_lck, srcS_list, srcS_tup, sorted_ints, srcOf_list, srcOf_tup, unlk_none, unlk_some, unlkS_lck, unlkF_nx, unlkF_rt, intAt_S, intS_val, ownAt_ref, ownO_own, tNm_ok,
  add_int, add_tup, add_list, add_str, sub_int, mul_int, fdv_int, mod_int, pow_int, neg_int, lt_int, le_int, gt_int, ge_int, eq_int, ne_int, eq_self, eq_str, ne_str, is_bl, is_non, at_list, at_tup, atI_0, atI_1, atI_2, atI_3, DL.sl_tup, DL.sl_list, DL.sl_str, rev_tup, rev_list, len_list, len_tup, len_str, len_scr, abs_int, int_int, tuple_list, tuple_tup, list_list, list_tup, list_scr, min_int, max_int, str_int, app_list, ext_list, sum_ints, int_bl, ins_list, store_0, store_1, store_2, store_3, rg1_int, rg2_int, zip_tup, zip_list, tru_bl, isT_int, isT_str, isT_tup, isT_list, DL.isNon,
  List.getElem?_cons_zero, List.getElem?_cons_succ, List.set_cons_zero, List.set_cons_succ, List.cons_append, List.nil_append, List.length_cons, List.length_nil, List.reduceReplicate, List.take_succ_cons, List.take_zero, List.drop_succ_cons, List.drop_zero, List.take_nil, List.drop_nil, List.append_nil,
  Nat.reduceAdd, Nat.reduceSub, Int.reduceAdd, Int.reduceSub, Int.reduceMul, Int.reduceLT, Int.reduceLE, Int.reduceGT, Int.reduceEq, Int.reduceNeg, Int.reducePow, Int.reduceToNat, Nat.reduceLT, Nat.reducePow, cm_l, cm_r, ok62_of, ↓tTp_ok, ↓wp_tsCons, tsNil_ok, wipeE_nil, wipeE_cons, restE_nil, restE_cons, plainE_nil, plainE_cons, plainS_emp, plainS_val, Bool.and_self, Bool.and_true, List.getD_cons_zero, List.getD_cons_succ, cut_1, all_map, any_map, sz_le, sz_lt, fits_nil, fits_cons, Nat.reduceLeDiff, Nat.zero_add, lo_small, Int.zero_add, List.length_map, Int.natCast_add, Int.cast_ofNat_Int, decide_true, decide_false, Bool.not_true, Bool.not_false, List.nodup_cons, List.nodup_nil, List.not_mem_nil, not_false_eq_true, and_self, and_true, true_and, true_implies, reduceCtorEq, List.mem_cons, or_false, iteP_dec, iteP_not,
  xseqK_nx, xseqK_rt, xseqK_er, xdropK_ok, xdropK_er, xretK_ok, xretK_er, xsetK_ok, xsetK_er, xfldK_ok, xfldK_er, xcallK_ok, xcallK_er, endX_rt, endX_nx, endX_er, pureX_nil, tryK_fl, tryK_er, rtK_rt, strV_str, lstV_list, addL_list, mkK_ok, elook_nil, elook_cons, look_nil, look_cons, fld_inst, set_inst, putG_nil, putG_cons, hasM_inst, catR_str, key_str, key_int, keyRV_val, at_dict, store_dict, valD_cons, valD_nil, valD_put, merge_nil, merge_cons, isB_eq, Option.getD_some,
  En.set, En.put, En.new, entE_eq, deref_nil, pureOk_nil, obj_slot, plc_ref, plc_cel, upd_slot, updS_own, upd_cell, obj_cell, celS_c, isLst_list, unlk_cell, srcOf_cel, celLS_list,
  ofs_eq, Sum.inr.injEq, Sum.inl.injEq, String.reduceEq, if_true, if_false, List.mem_singleton, true_or, or_true, false_or, and_false, false_and])
def ProcOk (f : Fn) : Prop := ∀ s (name : Str) (pl all : Bool) (Q : Rs × List D → Prop), St s → (∀ s' ks (p : PD), St s' → p.Ok → p.name = name → valD ks (.inr "proc") = some (p.d p.body) → valD ks (.inr "carried") = some (.list ((p.S ++ p.P).map .str)) → valD ks (.inr "a") = some (.str p.a) → Q (.ok (.dict ks), [s'])) → wq (f [s, .str name, .bl pl, .str (if all then "all" else "one")]) Q
theorem proc_ok {T : Tab} (hd : DrawOk T.f_law_draw) (hw : WithOk T.f_law_loop_with) : ProcOk (fn_f_law_loop_proc T) := by
  intro s name pl all Q hs hQ
  have sz : 4096 ≤ sizeLine := by decide
  rw [fn_f_law_loop_proc, b_f_law_loop_proc]
  walk_at "dl"
  refine hd _ _ _ hs (by omega) (by omega) fun v s hs v0 v1 => ?_
  obtain ⟨n, rfl⟩ := Int.eq_ofNat_of_zero_le v0
  walk_at "dl"
  refine hd _ _ _ hs (by omega) (by omega) fun v s hs v0 v1 => ?_
  obtain ⟨m, rfl⟩ := Int.eq_ofNat_of_zero_le v0
  walk_at "dl"
  rw [show (1 : Int) + (m : Int) = ((1 + m : Nat) : Int) by omega]
  refine hw _ _ _ _ _ _ _ hs (by omega) (by omega) (by omega) fun s ks p hs h1 h2 h3 h4 h5 => ?_
  walk_at "dl"
  exact hQ s ks p hs h1 h2 h3 h4 h5
/-! what the program's own defs answer -/
theorem in_tup {ds : List D} {d : D} {n : Nat} (hn : n + 1 ≤ 64) (hd : Eqd n d) (hs : ∀ e ∈ ds, Eqd n e) {b : Bool} (hb : b = true ↔ d ∈ ds) : dIn d (.tup ds) = some (.bl b) := by
  obtain ⟨b', h1, h2⟩ := inB_data hn hd hs
  have e : b' = b := by
    rw [Bool.eq_iff_iff, h2, hb]
  rw [dIn, inB, h1, Option.map_some, e]
theorem notin_tup {ds : List D} {d : D} {n : Nat} (hn : n + 1 ≤ 64) (hd : Eqd n d) (hs : ∀ e ∈ ds, Eqd n e) {b : Bool} (hb : b = true ↔ d ∈ ds) : dNotIn d (.tup ds) = some (.bl !b) := by
  obtain ⟨b', h1, h2⟩ := inB_data hn hd hs
  have e : b' = b := by
    rw [Bool.eq_iff_iff, h2, hb]
  rw [dNotIn, inB, h1, Option.map_some, e]
theorem inL_data {n : Nat} {d : D} {ds : List D} (hn : n + 1 ≤ 64) (hd : Eqd n d) (hs : ∀ e ∈ ds, Eqd n e) : ∃ b, inB d (.list ds) = some b ∧ (b = true ↔ d ∈ ds) := by
  obtain ⟨b, h1, h2⟩ := inB_data hn hd hs
  refine ⟨b, ?_, h2⟩
  obtain ⟨p, hp⟩ := hd.pyd
  obtain ⟨ps, k1, k2, k3⟩ := pyds fun e he => (hs e he).pyd
  have sh : SeqAt.shaped (.list ps) = true := by
    have hz : (PyData.list ps).depth ≤ 64 := by rw [PyData.depth]; omega
    have hc : (PyData.list ps).canLay0 = true := by rw [PyData.canLay0]; exact k2
    unfold SeqAt.shaped
    rw [hc, Bool.true_and]
    exact decide_eq_true hz
  have sh' : SeqAt.shaped (.tuple ps) = true := by
    have hz : (PyData.tuple ps).depth ≤ 64 := by rw [PyData.depth]; omega
    have hc : (PyData.tuple ps).canLay0 = true := by rw [PyData.canLay0]; exact k2
    unfold SeqAt.shaped
    rw [hc, Bool.true_and]
    exact decide_eq_true hz
  rw [hp.1, Option.bind_some, k1, Option.bind_some, if_pos ⟨hp.shaped (by omega), sh'⟩] at h1
  rw [inB, hp.1, Option.bind_some, k1, Option.bind_some, if_pos ⟨hp.shaped (by omega), sh⟩]
  exact h1
theorem in_list {ds : List D} {d : D} {n : Nat} (hn : n + 1 ≤ 64) (hd : Eqd n d) (hs : ∀ e ∈ ds, Eqd n e) {b : Bool} (hb : b = true ↔ d ∈ ds) : dIn d (.list ds) = some (.bl b) := by
  obtain ⟨b', h1, h2⟩ := inL_data hn hd hs
  have e : b' = b := by
    rw [Bool.eq_iff_iff, h2, hb]
  rw [dIn, h1, Option.map_some, e]
theorem notin_list {ds : List D} {d : D} {n : Nat} (hn : n + 1 ≤ 64) (hd : Eqd n d) (hs : ∀ e ∈ ds, Eqd n e) {b : Bool} (hb : b = true ↔ d ∈ ds) : dNotIn d (.list ds) = some (.bl !b) := by
  obtain ⟨b', h1, h2⟩ := inL_data hn hd hs
  have e : b' = b := by
    rw [Bool.eq_iff_iff, h2, hb]
  rw [dNotIn, h1, Option.map_some, e]
theorem in_two {k a b : Str} (hk : PyData.strOk k = true) (ha : PyData.strOk a = true) (hb : PyData.strOk b = true) : dIn (.str k) (.tup [.str a, .str b]) = some (.bl (decide (k = a ∨ k = b))) :=
  in_tup (n := 0) (by omega) (.str hk) (fun e he => by
    simp only [List.mem_cons, List.not_mem_nil, or_false] at he
    rcases he with rfl | rfl
    · exact .str ha
    · exact .str hb) (by simp)
theorem in_names {x : Str} {C : List Str} (hx : x ∈ C) (hC : ∀ x ∈ C, PyData.strOk x = true) : dIn (.str x) (.list (C.map .str)) = some (.bl true) :=
  in_list (n := 0) (by omega) (.str (hC x hx)) (fun e he => by
    obtain ⟨y, hy, rfl⟩ := List.mem_map.mp he
    exact .str (hC y hy)) (by simp [hx])
/-! without_pauses -/
inductive WfS : Nat → D → Prop
  | pause {n : Nat} : WfS n (.tup [.str "pause"])
  | other {n : Nat} (k : Str) (x : D) : k ≠ "pause" → k ≠ "if" → k ≠ "while" → PyData.strOk k = true → WfS n (.tup [.str k, x])
  | push {n : Nat} (x : D) (y : Str) : WfS n (.tup [.str "push", x, .str y])
  | ite {n : Nat} (c : D) (a b : List D) : (∀ d ∈ a, WfS n d) → a.length ≤ 40 → (∀ d ∈ b, WfS n d) → b.length ≤ 40 → WfS (n + 1) (.tup [.str "if", c, .tup a, .tup b])
  | whl {n : Nat} (c : D) (a : List D) : (∀ d ∈ a, WfS n d) → a.length ≤ 40 → WfS (n + 1) (.tup [.str "while", c, .tup a])
def isP : D → Bool
  | .tup [.str k] => decide (k = "pause")
  | _ => false
def wpS : Nat → D → List D
  | n + 1, .tup [.str k, c, .tup a, .tup b] => [.tup [.str k, c, .tup (a.flatMap (wpS n)), .tup (b.flatMap (wpS n))]]
  | n + 1, .tup [.str k, c, .tup a] => [.tup [.str k, c, .tup (a.flatMap (wpS n))]]
  | _, .tup [.str k] => if k = "pause" then [] else [.tup [.str k]]
  | _, d => [d]
theorem wpS_pause {n : Nat} : wpS n (.tup [.str "pause"]) = [] := by cases n <;> rfl
theorem wpS_two {n : Nat} {k : Str} {x : D} : wpS n (.tup [.str k, x]) = [.tup [.str k, x]] := by cases n <;> rfl
theorem wpS_push {n : Nat} {k y : Str} {x : D} : wpS n (.tup [.str k, x, .str y]) = [.tup [.str k, x, .str y]] := by cases n <;> rfl
theorem wpS_ite {n : Nat} {k : Str} {c : D} {a b : List D} : wpS (n + 1) (.tup [.str k, c, .tup a, .tup b]) = [.tup [.str k, c, .tup (a.flatMap (wpS n)), .tup (b.flatMap (wpS n))]] := rfl
theorem wpS_whl {n : Nat} {k : Str} {c : D} {a : List D} : wpS (n + 1) (.tup [.str k, c, .tup a]) = [.tup [.str k, c, .tup (a.flatMap (wpS n))]] := rfl
theorem WfS.len {n : Nat} {d : D} (h : WfS n d) : (wpS n d).length ≤ 1 := by
  cases h with
  | pause => rw [wpS_pause]; simp
  | other => rw [wpS_two]; simp
  | push => rw [wpS_push]; simp
  | ite => rw [wpS_ite]; simp
  | whl => rw [wpS_whl]; simp
theorem flat_len {n : Nat} {ds : List D} (h : ∀ d ∈ ds, WfS n d) : (ds.flatMap (wpS n)).length ≤ ds.length := by
  induction ds with
  | nil => simp
  | cons d ds ih =>
    rw [List.flatMap_cons, List.length_append, List.length_cons]
    have h1 := (h d (List.mem_cons_self ..)).len
    have h2 := ih fun d hd => h d (List.mem_cons_of_mem _ hd)
    omega
def WpOk (n : Nat) (f : Fn) : Prop := ∀ ds (Q : Rs × List D → Prop), (∀ d ∈ ds, WfS n d) → ds.length ≤ 40 → Q (.ok (.tup (ds.flatMap (wpS n))), []) → wq (f [.tup ds]) Q
theorem wp_ok {T : Tab} {n : Nat} (hr : ∀ m, n = m + 1 → WpOk m T.without_pauses) : WpOk n (fn_without_pauses T) := by
  intro ds Q hds hl hQ
  have sz : 4096 ≤ sizeLine := by decide
  rw [fn_without_pauses, b_without_pauses]
  walk_at "dl"
  refine wp_for (fun pre ρ => ∃ x, ρ = ⟨[.val (.tup ds), .own none (.list (pre.flatMap (wpS n))), x, .emp], []⟩) ⟨_, rfl⟩ ?_ ?_
  · rintro pre d post ρ e ⟨x, rfl⟩
    have hd : WfS n d := hds d (by rw [e]; simp)
    have hpl : (pre.flatMap (wpS n)).length ≤ 40 := by
      have h1 := flat_len fun d hd => hds d (by rw [e]; exact List.mem_append_left _ hd)
      have h2 : pre.length ≤ ds.length := by rw [e]; simp
      omega
    rw [List.flatMap_append, List.flatMap_cons, List.flatMap_nil, List.append_nil]
    cases hd with
    | pause =>
      rw [wpS_pause, List.append_nil]
      walk_at "dl"
      rw [in_two (by decide +kernel) (by decide +kernel) (by decide +kernel)]
      walk_at "dl"
      exact ⟨_, rfl⟩
    | other k x h1 h2 h3 h4 =>
      rw [wpS_two]
      walk_at "dl"
      rw [in_two h4 (by decide +kernel) (by decide +kernel), decide_eq_false (by simp [h2, h3])]
      walk_at "dl"
      exact ⟨fun h => (h1 h).elim, fun _ => ⟨by omega, _, rfl⟩⟩
    | push x y =>
      rw [wpS_push]
      walk_at "dl"
      rw [in_two (by decide +kernel) (by decide +kernel) (by decide +kernel), decide_eq_false (by simp [ofs_eq])]
      walk_at "dl"
      exact ⟨by omega, _, rfl⟩
    | @ite m c a b ha hal hb hbl =>
      rw [wpS_ite]
      have hw := hr _ rfl
      walk_at "dl"
      rw [in_two (by decide +kernel) (by decide +kernel) (by decide +kernel)]
      walk_at "dl"
      rw [cut_drop (i := 2) (n := 2) rfl, cut_take (i := 2) (n := 2) rfl]
      walk_at "dl"
      refine lc_setM (zs := [a, b]) (h := D.tup) 3 (fun l => .tup (l.flatMap (wpS m))) ?_ ?_
      · intro z y R hz hR
        have hz' : (∀ d ∈ z, WfS m d) ∧ z.length ≤ 40 := by
          simp only [List.mem_cons, List.not_mem_nil, or_false] at hz
          rcases hz with rfl | rfl
          · exact ⟨ha, hal⟩
          · exact ⟨hb, hbl⟩
        walk_at "dl"
        refine hw _ _ hz'.1 hz'.2 ?_
        walk_at "dl"
        exact hR _
      intro y
      walk_at "dl"
      simp only [List.map_cons, List.map_nil]
      exact ⟨by omega, _, rfl⟩
    | @whl m c a ha hal =>
      rw [wpS_whl]
      have hw := hr _ rfl
      walk_at "dl"
      rw [in_two (by decide +kernel) (by decide +kernel) (by decide +kernel)]
      walk_at "dl"
      rw [cut_drop (i := 2) (n := 2) rfl, cut_take (i := 2) (n := 2) rfl]
      walk_at "dl"
      refine lc_setM (zs := [a]) (h := D.tup) 3 (fun l => .tup (l.flatMap (wpS m))) ?_ ?_
      · intro z y R hz hR
        have hz' : (∀ d ∈ z, WfS m d) ∧ z.length ≤ 40 := by
          simp only [List.mem_cons, List.not_mem_nil, or_false] at hz
          rcases hz with rfl
          exact ⟨ha, hal⟩
        walk_at "dl"
        refine hw _ _ hz'.1 hz'.2 ?_
        walk_at "dl"
        exact hR _
      intro y
      walk_at "dl"
      simp only [List.map_cons, List.map_nil]
      exact ⟨by omega, _, rfl⟩
  · rintro ρ ⟨x, rfl⟩
    walk_at "dl"
    exact hQ
end G

namespace G
open PySem L2 DL
local macro_rules | `(tactic| walk_at "dl") => `(tactic| simp only [↓wp_fnX, ↓wp_xSeq, ↓wp_xOf, ↓wp_xeOf, ↓wp_xIf, ↓wp_xDrop, ↓wp_xRet, ↓wp_xSet, ↓wp_xFld, ↓wp_xRaise, ↓wp_xCall, ↓wp_xSkip, ↓wp_sTryM, ↓wp_runH, ↓wp_eExc, ↓wp_eBl, ↓wp_eFld, ↓wp_sFldSet, ↓wp_eMake, ↓wp_eMeth, ↓wp_runF, ↓wp_eDict, ↓wp_sNewD, ↓wp_sNewLc, ↓wp_sNewAdd, ↓wp_pNil, ↓wp_pCons, ↓wp_dispNil, ↓wp_dispCons, ↓wp_catR, ↓wp_body, ↓wp_bodyO, ↓wp_seq, ↓wp_sIf, ↓wp_sRet, ↓wp_sRetN, ↓wp_sRetO, ↓wp_sRetL, ↓wp_sSet, ↓wp_sNewL, ↓wp_callO, ↓wp_call, ↓wp_sAug, ↓wp_sPar, ↓wp_sUnp, ↓wp_sStore, ↓wp_eMutL, ↓wp_srcSeq, ↓wp_srcRg, ↓wp_srcZip, ↓wp_sSkip, ↓wp_sBrk, ↓wp_sDrop, ↓wp_sFor,
  ↓wp_C, ↓wp_eBin, ↓wp_eUn, ↓wp_eRev, ↓wp_bVal, ↓wp_bTru, ↓wp_bNot, ↓wp_bAnd, ↓wp_bOr, ↓wp_bYes, ↓wp_eAnd, ↓wp_eOr, ↓wp_eNot, ↓wp_eIf, ↓wp_aNil, ↓wp_aCons, ↓wp_eTup, ↓wp_eLst, ↓wp_eCB, ↓wp_eIsi, ↓wp_oNone, ↓wp_oSome, ↓wp_eSl, ↓wp_eLstR1, ↓wp_eChain, ↓wp_lc,
  ↓wp_some, ↓wp_peeks, ↓wp_escs, ↓wp_lent, ↓wp_giveBack, ↓wp_gave, ↓wp_listAt, ↓wp_mutAt, seqK_nx, seqK_rt, seqK_ro, seqK_bk, seqK_ct, endK_rt, endK_nx, endO_ro, callK_ok, callOK_ok, turnK_nx, midK_nx, midK_rt, midK_bk, midK_ct, turnK_rt, iteP_t, iteP_f, asI_int, asB_bl, chainK_bl,
  eVar_at, varR_val, varR_own, varR_lck, peek_val, peek_ref, peekS_val, peekS_own, peekS_lck, peeks_nil, esc_val, esc_ref, escR_own, escR_val, escs_nil, ownS_own, lent_nil, places_nil, places_ref, giveBack_nil, gaveS_own, gave_nil, lend_nil, lend_val, lend_own, srcOf_at, srcS_own, srcS_lck, srcS_list, srcS_tup, sorted_ints, srcOf_list, srcOf_tup, unlk_none, unlk_some, unlkS_lck, unlkF_nx, unlkF_rt, intAt_S, intS_val, ownAt_ref, ownO_own, tNm_ok,
  add_int, add_tup, add_list, add_str, sub_int, mul_int, fdv_int, mod_int, pow_int, neg_int, lt_int, le_int, gt_int, ge_int, eq_int, ne_int, eq_self, eq_str, ne_str, is_bl, is_non, at_list, at_tup, atI_0, atI_1, atI_2, atI_3, DL.sl_tup, DL.sl_list, DL.sl_str, rev_tup, rev_list, len_list, len_tup, len_str, len_scr, abs_int, int_int, tuple_list, tuple_tup, list_list, list_tup, list_scr, min_int, max_int, str_int, app_list, ext_list, sum_ints, int_bl, ins_list, store_0, store_1, store_2, store_3, rg1_int, rg2_int, zip_tup, zip_list, tru_bl, isT_int, isT_str, isT_tup, isT_list, DL.isNon,
  List.getElem?_cons_zero, List.getElem?_cons_succ, List.set_cons_zero, List.set_cons_succ, List.cons_append, List.nil_append, List.length_cons, List.length_nil, List.reduceReplicate, List.take_succ_cons, List.take_zero, List.drop_succ_cons, List.drop_zero, List.take_nil, List.drop_nil, List.append_nil,
  Nat.reduceAdd, Nat.reduceSub, Int.reduceAdd, Int.reduceSub, Int.reduceMul, Int.reduceLT, Int.reduceLE, Int.reduceGT, Int.reduceEq, Int.reduceNeg, Int.reducePow, Int.reduceToNat, Nat.reduceLT, Nat.reducePow, cm_l, cm_r, ok62_of, ↓tTp_ok, ↓wp_tsCons, tsNil_ok, wipeE_nil, wipeE_cons, restE_nil, restE_cons, plainE_nil, plainE_cons, plainS_emp, plainS_val, Bool.and_self, Bool.and_true, List.getD_cons_zero, List.getD_cons_succ, cut_1, all_map, any_map, sz_le, sz_lt, fits_nil, fits_cons, Nat.reduceLeDiff, Nat.zero_add, lo_small, Int.zero_add, List.length_map, Int.natCast_add, Int.cast_ofNat_Int, decide_true, decide_false, Bool.not_true, Bool.not_false, List.nodup_cons, List.nodup_nil, List.not_mem_nil, not_false_eq_true, and_self, and_true, true_and, true_implies, reduceCtorEq, List.mem_cons, or_false, iteP_dec, iteP_not,
  xseqK_nx, xseqK_rt, xseqK_er, xdropK_ok, xdropK_er, xretK_ok, xretK_er, xsetK_ok, xsetK_er, xfldK_ok, xfldK_er, xcallK_ok, xcallK_er, endX_rt, endX_nx, endX_er, pureX_nil, tryK_fl, tryK_er, rtK_rt, strV_str, lstV_list, addL_list, mkK_ok, elook_nil, elook_cons, look_nil, look_cons, fld_inst, set_inst, putG_nil, putG_cons, hasM_inst, catR_str, key_str, key_int, keyRV_val, at_dict, store_dict, valD_cons, valD_nil, valD_put, merge_nil, merge_cons, isB_eq, Option.getD_some,
  En.set, En.put, En.new, entE_eq, deref_nil, pureOk_nil, obj_slot, plc_ref, plc_cel, upd_slot, updS_own, upd_cell, obj_cell, celS_c, isLst_list, unlk_cell, srcOf_cel, celLS_list,
  ofs_eq, Sum.inr.injEq, Sum.inl.injEq, String.reduceEq, if_true, if_false, List.mem_singleton, true_or, or_true, false_or, and_false, false_and])
/-! blocks without pauses -/
theorem Stm.wf {N : List Str} {it : Option D} {n : Nat} {d : D} (h : Stm true N it n d) : WfS n d := by
  induction h with
  | pause => exact .pause
  | set x e => exact .other _ _ (by decide) (by decide) (by decide) (by decide +kernel)
  | ite c a b _ _ ha _ hb i1 i2 => exact .ite c a b i1 (by omega) i2 (by omega)
theorem Stm.wp {N : List Str} {it : Option D} {n : Nat} {d : D} (h : Stm true N it n d) : ∀ e ∈ wpS n d, Stm false N it n e := by
  induction h with
  | pause => rw [wpS_pause]; exact fun e h => (List.not_mem_nil h).elim
  | set x e h1 h2 =>
    rw [wpS_two]
    intro d hd
    rw [List.mem_singleton] at hd
    exact hd ▸ .set x e h1 h2
  | @ite n c a b h1 ha hal hb hbl i1 i2 =>
    rw [wpS_ite]
    intro d hd
    rw [List.mem_singleton] at hd
    have l1 := flat_len fun d hd => (ha d hd).wf
    have l2 := flat_len fun d hd => (hb d hd).wf
    refine hd ▸ .ite c _ _ h1 ?_ (by omega) ?_ (by omega)
    · intro e he
      obtain ⟨d, hd, he⟩ := List.mem_flatMap.mp he
      exact i1 d hd e he
    · intro e he
      obtain ⟨d, hd, he⟩ := List.mem_flatMap.mp he
      exact i2 d hd e he
def itD : Option D → D
  | none => .non
  | some d => d
theorem eq_tt {n : Nat} {d : D} (hn : n ≤ 64) (h : Eqd n d) : dEq d d = some (.bl true) := by
  obtain ⟨b, e1, e2⟩ := eqB_data hn h h
  rw [dEq, e1, e2.mpr rfl]
  rfl
def Names (N C : List Str) : Prop := (∀ x ∈ N, x ∈ C) ∧ ∀ x ∈ C, PyData.strOk x = true
theorem itm_eqd {a i : Str} (ha : PyData.strOk a = true) (hi : PyData.strOk i = true) : Eqd 2 (ITM a i) := .tup fun d hd => by
  simp only [List.mem_cons, List.not_mem_nil, or_false] at hd
  rcases hd with rfl | rfl | rfl
  · exact .str (by decide +kernel)
  · exact .str ha
  · exact .tup fun d hd => by
      simp only [List.mem_cons, List.not_mem_nil, or_false] at hd
      rcases hd with rfl | rfl
      · exact .str (by decide +kernel)
      · exact .str hi
def IsSum (n : Nat) (f : Fn) : Prop := ∀ N C it d (Q : Rs × List D → Prop), Sm N it n d → Names N C → Q (.ok (.bl true), []) → wq (f [d, .list (C.map .str), itD it]) Q
theorem issum_ok {T : Tab} {n : Nat} (hr : ∀ m, n = m + 1 → IsSum m T.is_sum) : IsSum n (fn_is_sum T) := by
  intro N C it d Q hd hC hQ
  have sz : 4096 ≤ sizeLine := by decide
  rw [fn_is_sum, b_is_sum]
  cases hd with
  | num k =>
    walk_at "dl"
    exact hQ
  | name x hx =>
    walk_at "dl"
    rw [in_names (hC.1 x hx) hC.2]
    walk_at "dl"
    exact hQ
  | item a i h1 h2 h =>
    subst h
    rw [itD]
    walk_at "dl"
    rw [eq_tt (by omega) (itm_eqd h1 h2)]
    walk_at "dl"
    exact hQ
  | @scale m k d h =>
    have hw := hr _ rfl
    walk_at "dl"
    refine hw _ _ _ _ _ h hC ?_
    walk_at "dl"
    exact hQ
  | @bin m o d e ho h h' =>
    have hw := hr _ rfl
    have hall : ∀ z ∈ [d, e], Sm N it m z := fun z hz => by
      simp only [List.mem_cons, List.not_mem_nil, or_false] at hz
      rcases hz with rfl | rfl
      · exact h
      · exact h'
    rcases ho with rfl | rfl
    all_goals
      walk_at "dl"
      rw [in_two (by decide +kernel) (by decide +kernel) (by decide +kernel)]
      walk_at "dl"
      refine lc_setM (zs := [d, e]) (h := id) 4 (fun _ => .bl true) ?_ ?_
      · intro z y R hz hR
        walk_at "dl"
        refine hw _ _ _ _ _ (hall z hz) hC ?_
        walk_at "dl"
        exact hR _
      intro y
      walk_at "dl"
      exact hQ
end G

namespace G
open PySem L2 DL
local macro_rules | `(tactic| walk_at "dl") => `(tactic| simp only [↓wp_fnX, ↓wp_xSeq, ↓wp_xOf, ↓wp_xeOf, ↓wp_xIf, ↓wp_xDrop, ↓wp_xRet, ↓wp_xSet, ↓wp_xFld, ↓wp_xRaise, ↓wp_xCall, ↓wp_xSkip, ↓wp_sTryM, ↓wp_runH, ↓wp_eExc, ↓wp_eBl, ↓wp_eFld, ↓wp_sFldSet, ↓wp_eMake, ↓wp_eMeth, ↓wp_runF, ↓wp_eDict, ↓wp_sNewD, ↓wp_sNewLc, ↓wp_sNewAdd, ↓wp_pNil, ↓wp_pCons, ↓wp_dispNil, ↓wp_dispCons, ↓wp_catR, ↓wp_body, ↓wp_bodyO, ↓wp_seq, ↓wp_sIf, ↓wp_sRet, ↓wp_sRetN, ↓wp_sRetO, ↓wp_sRetL, ↓wp_sSet, ↓wp_sNewL, ↓wp_callO, ↓wp_call, ↓wp_sAug, ↓wp_sPar, ↓wp_sUnp, ↓wp_sStore, ↓wp_eMutL, ↓wp_srcSeq, ↓wp_srcRg, ↓wp_srcZip, ↓wp_sSkip, ↓wp_sBrk, ↓wp_sDrop, ↓wp_sFor,
  ↓wp_C, ↓wp_eBin, ↓wp_eUn, ↓wp_eRev, ↓wp_bVal, ↓wp_bTru, ↓wp_bNot, ↓wp_bAnd, ↓wp_bOr, ↓wp_bYes, ↓wp_eAnd, ↓wp_eOr, ↓wp_eNot, ↓wp_eIf, ↓wp_aNil, ↓wp_aCons, ↓wp_eTup, ↓wp_eLst, ↓wp_eCB, ↓wp_eIsi, ↓wp_oNone, ↓wp_oSome, ↓wp_eSl, ↓wp_eLstR1, ↓wp_eChain, ↓wp_lc,
  ↓wp_some, ↓wp_peeks, ↓wp_escs, ↓wp_lent, ↓wp_giveBack, ↓wp_gave, ↓wp_listAt, ↓wp_mutAt, seqK_nx, seqK_rt, seqK_ro, seqK_bk, seqK_ct, endK_rt, endK_nx, endO_ro, callK_ok, callOK_ok, turnK_nx, midK_nx, midK_rt, midK_bk, midK_ct, turnK_rt, iteP_t, iteP_f, asI_int, asB_bl, chainK_bl,
  eVar_at, varR_val, varR_own, varR_lck, peek_val, peek_ref, peekS_val, peekS_own, peekS_lck, peeks_nil, esc_val, esc_ref, escR_own, escR_val, escs_nil, ownS_own, lent_nil, places_nil, places_ref, giveBack_nil, gaveS_own, gave_nil, lend_nil, lend_val, lend_own, srcOf_at, srcS_own, srcS_lck, srcS_list, srcS_tup, sorted_ints, srcOf_list, srcOf_tup, unlk_none, unlk_some, unlkS_lck, unlkF_nx, unlkF_rt, intAt_S, intS_val, ownAt_ref, ownO_own, tNm_ok,
  add_int, add_tup, add_list, add_str, sub_int, mul_int, fdv_int, mod_int, pow_int, neg_int, lt_int, le_int, gt_int, ge_int, eq_int, ne_int, eq_self, eq_str, ne_str, is_bl, is_non, at_list, at_tup, atI_0, atI_1, atI_2, atI_3, DL.sl_tup, DL.sl_list, DL.sl_str, rev_tup, rev_list, len_list, len_tup, len_str, len_scr, abs_int, int_int, tuple_list, tuple_tup, list_list, list_tup, list_scr, min_int, max_int, str_int, app_list, ext_list, sum_ints, int_bl, ins_list, store_0, store_1, store_2, store_3, rg1_int, rg2_int, zip_tup, zip_list, tru_bl, isT_int, isT_str, isT_tup, isT_list, DL.isNon,
  List.getElem?_cons_zero, List.getElem?_cons_succ, List.set_cons_zero, List.set_cons_succ, List.cons_append, List.nil_append, List.length_cons, List.length_nil, List.reduceReplicate, List.take_succ_cons, List.take_zero, List.drop_succ_cons, List.drop_zero, List.take_nil, List.drop_nil, List.append_nil,
  Nat.reduceAdd, Nat.reduceSub, Int.reduceAdd, Int.reduceSub, Int.reduceMul, Int.reduceLT, Int.reduceLE, Int.reduceGT, Int.reduceEq, Int.reduceNeg, Int.reducePow, Int.reduceToNat, Nat.reduceLT, Nat.reducePow, cm_l, cm_r, ok62_of, ↓tTp_ok, ↓wp_tsCons, tsNil_ok, wipeE_nil, wipeE_cons, restE_nil, restE_cons, plainE_nil, plainE_cons, plainS_emp, plainS_val, Bool.and_self, Bool.and_true, List.getD_cons_zero, List.getD_cons_succ, cut_1, all_map, any_map, sz_le, sz_lt, fits_nil, fits_cons, Nat.reduceLeDiff, Nat.zero_add, lo_small, Int.zero_add, List.length_map, Int.natCast_add, Int.cast_ofNat_Int, decide_true, decide_false, Bool.not_true, Bool.not_false, List.nodup_cons, List.nodup_nil, List.not_mem_nil, not_false_eq_true, and_self, and_true, true_and, true_implies, reduceCtorEq, List.mem_cons, or_false, iteP_dec, iteP_not,
  xseqK_nx, xseqK_rt, xseqK_er, xdropK_ok, xdropK_er, xretK_ok, xretK_er, xsetK_ok, xsetK_er, xfldK_ok, xfldK_er, xcallK_ok, xcallK_er, endX_rt, endX_nx, endX_er, pureX_nil, tryK_fl, tryK_er, rtK_rt, strV_str, lstV_list, addL_list, mkK_ok, elook_nil, elook_cons, look_nil, look_cons, fld_inst, set_inst, putG_nil, putG_cons, hasM_inst, catR_str, key_str, key_int, keyRV_val, at_dict, store_dict, valD_cons, valD_nil, valD_put, merge_nil, merge_cons, isB_eq, Option.getD_some,
  En.set, En.put, En.new, entE_eq, deref_nil, pureOk_nil, obj_slot, plc_ref, plc_cel, upd_slot, updS_own, upd_cell, obj_cell, celS_c, isLst_list, unlk_cell, srcOf_cel, celLS_list,
  ofs_eq, Sum.inr.injEq, Sum.inl.injEq, String.reduceEq, if_true, if_false, List.mem_singleton, true_or, or_true, false_or, and_false, false_and])
def IsTst (n : Nat) (f : Fn) : Prop := ∀ N C it d (Q : Rs × List D → Prop), Tst N it n d → Names N C → Q (.ok (.bl true), []) → wq (f [d, .list (C.map .str), itD it]) Q
theorem istest_ok {T : Tab} {n : Nat} (hs : IsSum 2 T.is_sum) (hr : ∀ m, n = m + 1 → IsTst m T.is_test) : IsTst n (fn_is_test T) := by
  intro N C it d Q hd hC hQ
  have sz : 4096 ≤ sizeLine := by decide
  rw [fn_is_test, b_is_test]
  cases hd with
  | cmp o d e ho h h' =>
    have hall : ∀ z ∈ [d, e], Sm N it 2 z := fun z hz => by
      simp only [List.mem_cons, List.not_mem_nil, or_false] at hz
      rcases hz with rfl | rfl
      · exact h
      · exact h'
    rcases ho with rfl | rfl
    all_goals
      walk_at "dl"
      rw [in_two (by decide +kernel) (by decide +kernel) (by decide +kernel)]
      walk_at "dl"
      refine lc_setM (zs := [d, e]) (h := id) 3 (fun _ => .bl true) ?_ ?_
      · intro z y R hz hR
        walk_at "dl"
        refine hs _ _ _ _ _ (hall z hz) hC ?_
        walk_at "dl"
        exact hR _
      intro y
      walk_at "dl"
      exact hQ
  | @nt m c h =>
    have hw := hr _ rfl
    have hall : ∀ z ∈ [c], Tst N it m z := fun z hz => by
      rw [List.mem_singleton] at hz
      exact hz ▸ h
    walk_at "dl"
    rw [in_two (by decide +kernel) (by decide +kernel) (by decide +kernel)]
    walk_at "dl"
    refine lc_setM (zs := [c]) (h := id) 3 (fun _ => .bl true) ?_ ?_
    · intro z y R hz hR
      walk_at "dl"
      refine hw _ _ _ _ _ (hall z hz) hC ?_
      walk_at "dl"
      exact hR _
    intro y
    walk_at "dl"
    exact hQ
  | @bin m o c e ho h h' =>
    have hw := hr _ rfl
    have hall : ∀ z ∈ [c, e], Tst N it m z := fun z hz => by
      simp only [List.mem_cons, List.not_mem_nil, or_false] at hz
      rcases hz with rfl | rfl
      · exact h
      · exact h'
    rcases ho with rfl | rfl
    all_goals
      walk_at "dl"
      rw [in_two (by decide +kernel) (by decide +kernel) (by decide +kernel)]
      walk_at "dl"
      refine lc_setM (zs := [c, e]) (h := id) 3 (fun _ => .bl true) ?_ ?_
      · intro z y R hz hR
        walk_at "dl"
        refine hw _ _ _ _ _ (hall z hz) hC ?_
        walk_at "dl"
        exact hR _
      intro y
      walk_at "dl"
      exact hQ
def StmF (N : List Str) (it : Option D) (n : Nat) (ds : List D) : Prop := (∀ d ∈ ds, Stm false N it n d) ∧ ds.length ≤ 20
def IsStr (n : Nat) (f : Fn) : Prop := ∀ N C it ds (Q : Rs × List D → Prop), StmF N it n ds → Names N C → Q (.ok (.bl true), []) → wq (f [.tup ds, .list (C.map .str), itD it]) Q
theorem isstr_ok {T : Tab} {n : Nat} (hs : IsSum 2 T.is_sum) (ht : IsTst 1 T.is_test) (hr : ∀ m, n = m + 1 → IsStr m T.is_straight) : IsStr n (fn_is_straight T) := by
  intro N C it ds Q hds hC hQ
  have sz : 4096 ≤ sizeLine := by decide
  rw [fn_is_straight, b_is_straight]
  walk_at "dl"
  refine wp_for (fun pre ρ => ∃ x, ρ = ⟨[.val (.tup ds), .val (.list (C.map .str)), .val (itD it), x, .emp, .emp, .emp], []⟩) ⟨_, rfl⟩ ?_ ?_
  · rintro pre d post ρ e ⟨x, rfl⟩
    have hd : Stm false N it n d := hds.1 d (by rw [e]; simp)
    cases hd with
    | pause h => cases h
    | set x e hx he =>
      walk_at "dl"
      refine lc_set2F 4 5 (fun _ => true) (fun _ => .bl true) ?_ ?_
      · intro z y x' R S hz hR hS
        rw [List.mem_singleton] at hz
        subst hz
        walk_at "dl"
        rw [in_names (hC.1 x hx) hC.2]
        walk_at "dl"
        refine hs _ _ _ _ _ he hC ?_
        walk_at "dl"
        exact hR _ _ rfl
      intro y x'
      walk_at "dl"
      unfold iteP
      rw [if_pos (by rfl)]
      exact ⟨_, rfl⟩
    | @ite m c a b hc ha hal hb hbl =>
      have hw := hr _ rfl
      have hall : ∀ z ∈ [a, b], StmF N it m z := fun z hz => by
        simp only [List.mem_cons, List.not_mem_nil, or_false] at hz
        rcases hz with rfl | rfl
        · exact ⟨ha, hal⟩
        · exact ⟨hb, hbl⟩
      walk_at "dl"
      refine ht _ _ _ _ _ hc hC ?_
      walk_at "dl"
      rw [cut_drop (i := 2) (n := 2) rfl]
      walk_at "dl"
      refine lc_setM (zs := [a, b]) (h := D.tup) 6 (fun _ => .bl true) ?_ ?_
      · intro z y R hz hR
        walk_at "dl"
        refine hw _ _ _ _ _ (hall z hz) hC ?_
        walk_at "dl"
        exact hR _
      intro y
      walk_at "dl"
      unfold iteP
      rw [if_pos (by rfl)]
      exact ⟨_, rfl⟩
  · rintro ρ ⟨x, rfl⟩
    walk_at "dl"
    exact hQ
inductive Tr : Nat → D → Prop
  | str {n : Nat} (x : Str) : PyData.strOk x = true → Tr n (.str x)
  | int {n : Nat} (i : Int) : Tr n (.int i)
  | tup {n : Nat} (ds : List D) : (∀ d ∈ ds, Tr n d) → ds.length ≤ 40 → Tr (n + 1) (.tup ds)
theorem Tr.eqd {n : Nat} {d : D} (h : Tr n d) : Eqd n d := by
  induction h with
  | str x h => exact .str h
  | int i => exact .int
  | tup ds _ _ ih => exact .tup ih
theorem Tr.up {n : Nat} {d : D} (h : Tr n d) : Tr (n + 1) d := by
  induction h with
  | str x h => exact .str x h
  | int i => exact .int i
  | tup ds _ hl ih => exact .tup ds ih hl
theorem Tr.le {n m : Nat} {d : D} (h : Tr n d) (hm : n ≤ m) : Tr m d := by
  obtain ⟨k, rfl⟩ := Nat.exists_eq_add_of_le hm
  clear hm
  induction k with
  | zero => exact h
  | succ k ih => exact ih.up
def WiOk (n : Nat) (f : Fn) : Prop := ∀ d (Q : Rs × List D → Prop), Tr n d → (∀ e, Q (.ok e, [])) → wq (f [d]) Q
theorem wi_ok {T : Tab} {n : Nat} (hn : n ≤ 60) (hr : ∀ m, n = m + 1 → WiOk m T.with_item) : WiOk n (fn_with_item T) := by
  intro d Q hd hQ
  have sz : 4096 ≤ sizeLine := by decide
  rw [fn_with_item, b_with_item]
  cases hd with
  | str x h =>
    walk_at "dl"
    exact hQ _
  | int i =>
    walk_at "dl"
    exact hQ _
  | @tup m ds hds hl =>
    have hw := hr _ rfl
    have go : ds.length ≤ sizeLine ∧ wq (lcLoop (ckOf none ds) (tNm 1) bYes (eCall 0 T.with_item (aCons (eVar 1) aNil)) [1] ds [] ⟨[.val (.tup ds), .emp], []⟩) (fun q => wq (gTuple [deref q.2.st (.list q.1)]) fun r => pureOk q.2.st [r] = true ∧ Q (.ok r, [])) := by
      refine ⟨by omega, lc_setR 1 (fun _ => True) ?_ ?_⟩
      · intro z y R hz hR
        walk_at "dl"
        refine hw _ _ (hds z hz) fun e => ?_
        walk_at "dl"
        exact hR _ _ trivial
      · intro acc y _ _
        walk_at "dl"
        exact hQ _
    walk_at "dl"
    refine ⟨fun h3 => ?_, fun _ => go⟩
    have h0 : 0 < ds.length := by omega
    rw [atI_of (i := 0) (n := 0) (d := ds[0]) (List.getElem?_eq_getElem h0) rfl]
    walk_at "dl"
    have he : Eqd m ds[0] := (hds _ (List.getElem_mem h0)).eqd
    refine wp_eqD (n := m) (by omega) he (.str (by decide +kernel)) fun b _ => ?_
    walk_at "dl"
    cases b
    · exact go
    · exact hQ _
end G

namespace G
open PySem L2 DL
local macro_rules | `(tactic| walk_at "dl") => `(tactic| simp only [↓wp_fnX, ↓wp_xSeq, ↓wp_xOf, ↓wp_xeOf, ↓wp_xIf, ↓wp_xDrop, ↓wp_xRet, ↓wp_xSet, ↓wp_xFld, ↓wp_xRaise, ↓wp_xCall, ↓wp_xSkip, ↓wp_sTryM, ↓wp_runH, ↓wp_eExc, ↓wp_eBl, ↓wp_eFld, ↓wp_sFldSet, ↓wp_eMake, ↓wp_eMeth, ↓wp_runF, ↓wp_eDict, ↓wp_sNewD, ↓wp_sNewLc, ↓wp_sNewAdd, ↓wp_pNil, ↓wp_pCons, ↓wp_dispNil, ↓wp_dispCons, ↓wp_catR, ↓wp_body, ↓wp_bodyO, ↓wp_seq, ↓wp_sIf, ↓wp_sRet, ↓wp_sRetN, ↓wp_sRetO, ↓wp_sRetL, ↓wp_sSet, ↓wp_sNewL, ↓wp_callO, ↓wp_call, ↓wp_sAug, ↓wp_sPar, ↓wp_sUnp, ↓wp_sStore, ↓wp_eMutL, ↓wp_srcSeq, ↓wp_srcRg, ↓wp_srcZip, ↓wp_sSkip, ↓wp_sBrk, ↓wp_sDrop, ↓wp_sFor,
  ↓wp_C, ↓wp_eBin, ↓wp_eUn, ↓wp_eRev, ↓wp_bVal, ↓wp_bTru, ↓wp_bNot, ↓wp_bAnd, ↓wp_bOr, ↓wp_bYes, ↓wp_eAnd, ↓wp_eOr, ↓wp_eNot, ↓wp_eIf, ↓wp_aNil, ↓wp_aCons, ↓wp_eTup, ↓wp_eLst, ↓wp_eCB, ↓wp_eIsi, ↓wp_oNone, ↓wp_oSome, ↓wp_eSl, ↓wp_eLstR1, ↓wp_eChain, ↓wp_lc,
  ↓wp_some, ↓wp_peeks, ↓wp_escs, ↓wp_lent, ↓wp_giveBack, ↓wp_gave, ↓wp_listAt, ↓wp_mutAt, seqK_nx, seqK_rt, seqK_ro, seqK_bk, seqK_ct, endK_rt, endK_nx, endO_ro, callK_ok, callOK_ok, turnK_nx, midK_nx, midK_rt, midK_bk, midK_ct, turnK_rt, iteP_t, iteP_f, asI_int, asB_bl, chainK_bl,
  eVar_at, varR_val, varR_own, varR_lck, peek_val, peek_ref, peekS_val, peekS_own, peekS_lck, peeks_nil, esc_val, esc_ref, escR_own, escR_val, escs_nil, ownS_own, lent_nil, places_nil, places_ref, giveBack_nil, gaveS_own, gave_nil, lend_nil, lend_val, lend_own, srcOf_at, srcS_own, srcS_lck, srcS_list, srcS_tup, sorted_ints, srcOf_list, srcOf_tup, unlk_none, unlk_some, unlkS_lck, unlkF_nx, unlkF_rt, intAt_S, intS_val, ownAt_ref, ownO_own, tNm_ok,
  add_int, add_tup, add_list, add_str, sub_int, mul_int, fdv_int, mod_int, pow_int, neg_int, lt_int, le_int, gt_int, ge_int, eq_int, ne_int, eq_self, eq_str, ne_str, is_bl, is_non, at_list, at_tup, atI_0, atI_1, atI_2, atI_3, DL.sl_tup, DL.sl_list, DL.sl_str, rev_tup, rev_list, len_list, len_tup, len_str, len_scr, abs_int, int_int, tuple_list, tuple_tup, list_list, list_tup, list_scr, min_int, max_int, str_int, app_list, ext_list, sum_ints, int_bl, ins_list, store_0, store_1, store_2, store_3, rg1_int, rg2_int, zip_tup, zip_list, tru_bl, isT_int, isT_str, isT_tup, isT_list, DL.isNon,
  List.getElem?_cons_zero, List.getElem?_cons_succ, List.set_cons_zero, List.set_cons_succ, List.cons_append, List.nil_append, List.length_cons, List.length_nil, List.reduceReplicate, List.take_succ_cons, List.take_zero, List.drop_succ_cons, List.drop_zero, List.take_nil, List.drop_nil, List.append_nil,
  Nat.reduceAdd, Nat.reduceSub, Int.reduceAdd, Int.reduceSub, Int.reduceMul, Int.reduceLT, Int.reduceLE, Int.reduceGT, Int.reduceEq, Int.reduceNeg, Int.reducePow, Int.reduceToNat, Nat.reduceLT, Nat.reducePow, cm_l, cm_r, ok62_of, ↓tTp_ok, ↓wp_tsCons, tsNil_ok, wipeE_nil, wipeE_cons, restE_nil, restE_cons, plainE_nil, plainE_cons, plainS_emp, plainS_val, Bool.and_self, Bool.and_true, List.getD_cons_zero, List.getD_cons_succ, cut_1, all_map, any_map, sz_le, sz_lt, fits_nil, fits_cons, Nat.reduceLeDiff, Nat.zero_add, lo_small, Int.zero_add, List.length_map, Int.natCast_add, Int.cast_ofNat_Int, decide_true, decide_false, Bool.not_true, Bool.not_false, List.nodup_cons, List.nodup_nil, List.not_mem_nil, not_false_eq_true, and_self, and_true, true_and, true_implies, reduceCtorEq, List.mem_cons, or_false, iteP_dec, iteP_not,
  xseqK_nx, xseqK_rt, xseqK_er, xdropK_ok, xdropK_er, xretK_ok, xretK_er, xsetK_ok, xsetK_er, xfldK_ok, xfldK_er, xcallK_ok, xcallK_er, endX_rt, endX_nx, endX_er, pureX_nil, tryK_fl, tryK_er, rtK_rt, strV_str, lstV_list, addL_list, mkK_ok, elook_nil, elook_cons, look_nil, look_cons, fld_inst, set_inst, putG_nil, putG_cons, hasM_inst, catR_str, key_str, key_int, keyRV_val, at_dict, store_dict, valD_cons, valD_nil, valD_put, merge_nil, merge_cons, isB_eq, Option.getD_some,
  En.set, En.put, En.new, entE_eq, deref_nil, pureOk_nil, obj_slot, plc_ref, plc_cel, upd_slot, updS_own, upd_cell, obj_cell, celS_c, isLst_list, unlk_cell, srcOf_cel, celLS_list,
  ofs_eq, Sum.inr.injEq, Sum.inl.injEq, String.reduceEq, if_true, if_false, List.mem_singleton, true_or, or_true, false_or, and_false, false_and])
theorem Sm.tr {N : List Str} {it : Option D} {n : Nat} {d : D} (h : Sm N it n d) (hN : ∀ x ∈ N, PyData.strOk x = true) : Tr (n + 2) d := by
  have two : ∀ {m : Nat} {a b : D}, Tr m a → Tr m b → Tr (m + 1) (.tup [a, b]) := fun {m a b} ha hb => .tup _ (fun d hd => by
    simp only [List.mem_cons, List.not_mem_nil, or_false] at hd
    rcases hd with rfl | rfl
    · exact ha
    · exact hb) (by simp)
  have three : ∀ {m : Nat} {a b c : D}, Tr m a → Tr m b → Tr m c → Tr (m + 1) (.tup [a, b, c]) := fun {m a b c} ha hb hc => .tup _ (fun d hd => by
    simp only [List.mem_cons, List.not_mem_nil, or_false] at hd
    rcases hd with rfl | rfl | rfl
    · exact ha
    · exact hb
    · exact hc) (by simp)
  induction h with
  | num k => exact two (.str _ (by decide +kernel)) (.int k)
  | name x h => exact two (.str _ (by decide +kernel)) (.str x (hN x h))
  | @item n a i h1 h2 h => exact three (.str _ (by decide +kernel)) (.str a h1) ((two (m := 0) (.str _ (by decide +kernel)) (.str i h2)).le (by omega))
  | scale k d _ ih => exact three (.str _ (by decide +kernel)) (.int k) ih
  | bin o d e h _ _ i1 i2 =>
    rcases h with rfl | rfl
    · exact three (.str _ (by decide +kernel)) i1 i2
    · exact three (.str _ (by decide +kernel)) i1 i2
theorem tr_two {m : Nat} {a b : D} (ha : Tr m a) (hb : Tr m b) : Tr (m + 1) (.tup [a, b]) := .tup _ (fun d hd => by
  simp only [List.mem_cons, List.not_mem_nil, or_false] at hd
  rcases hd with rfl | rfl
  · exact ha
  · exact hb) (by simp)
theorem tr_three {m : Nat} {a b c : D} (ha : Tr m a) (hb : Tr m b) (hc : Tr m c) : Tr (m + 1) (.tup [a, b, c]) := .tup _ (fun d hd => by
  simp only [List.mem_cons, List.not_mem_nil, or_false] at hd
  rcases hd with rfl | rfl | rfl
  · exact ha
  · exact hb
  · exact hc) (by simp)
theorem Tst.tr {N : List Str} {it : Option D} {n : Nat} {d : D} (h : Tst N it n d) (hN : ∀ x ∈ N, PyData.strOk x = true) : Tr (n + 5) d := by
  induction h with
  | cmp o d e h h1 h2 =>
    rcases h with rfl | rfl
    · exact tr_three (.str _ (by decide +kernel)) ((h1.tr hN).le (by omega)) ((h2.tr hN).le (by omega))
    · exact tr_three (.str _ (by decide +kernel)) ((h1.tr hN).le (by omega)) ((h2.tr hN).le (by omega))
  | nt c _ ih => exact tr_two (.str _ (by decide +kernel)) ih
  | bin o c d h _ _ i1 i2 =>
    rcases h with rfl | rfl
    · exact tr_three (.str _ (by decide +kernel)) i1 i2
    · exact tr_three (.str _ (by decide +kernel)) i1 i2
theorem Stm.tr {p : Bool} {N : List Str} {it : Option D} {n : Nat} {d : D} (h : Stm p N it n d) (hN : ∀ x ∈ N, PyData.strOk x = true) : Tr (2 * n + 7) d := by
  induction h with
  | pause => exact .tup _ (fun d hd => by
      rw [List.mem_singleton] at hd
      exact hd ▸ .str _ (by decide +kernel)) (by simp)
  | set x e h1 h2 => exact tr_two (.str _ (by decide +kernel)) (.tup _ (fun d hd => by
      rw [List.mem_singleton] at hd
      exact hd ▸ tr_two (.str x (hN x h1)) ((h2.tr hN).le (by omega))) (by simp))
  | @ite n c a b hc _ hal _ hbl i1 i2 =>
    refine .tup (n := 2 * n + 8) _ (fun d hd => ?_) (by simp)
    simp only [List.mem_cons, List.not_mem_nil, or_false] at hd
    rcases hd with rfl | rfl | rfl | rfl
    · exact .str _ (by decide +kernel)
    · exact (hc.tr hN).le (by omega)
    · exact .tup a i1 (by omega)
    · exact .tup b i2 (by omega)
def notI (i : Str) : D → Bool
  | .tup [_, .str x] => decide (x ≠ i)
  | _ => false
theorem filt_notI {i : Str} {u : List Str} (h : i ∉ u) : ((iD u).filter (notI i)).map gI = u.map D.str := by
  unfold iD
  induction u with
  | nil => rfl
  | cons x u ih =>
    rw [List.mem_cons, not_or] at h
    have hx : notI i (D.tup [.str "int", .str x]) = true := decide_eq_true (Ne.symm h.1)
    rw [List.map_cons, List.filter_cons_of_pos hx, List.map_cons, ih h.2]
    rfl
theorem filt_places {i : Str} {u v : List Str} (h : i ∉ u ++ v) : ((iD u ++ [D.tup [.str "int", .str i]] ++ iD v).filter (notI i)).map gI = (u ++ v).map D.str := by
  rw [List.mem_append, not_or] at h
  rw [List.filter_append, List.filter_append, List.map_append, List.map_append, filt_notI h.1, filt_notI h.2, List.map_append]
  have e : [D.tup [.str "int", .str i]].filter (notI i) = [] := List.filter_cons_of_neg (by simp [notI])
  rw [e]
  show u.map D.str ++ [] ++ _ = _
  rw [List.append_nil]
def LinitOk (f : Fn) : Prop := ∀ (p : PD) (h' b' : List D) (Q : Rs × List D → Prop), p.Ok → Tr 12 (.tup b') → (∀ fs, fs.lookup (Str.ofString "carried") = some (D.tup ((p.S ++ p.P).map .str)) → Q (.ok .non, [.inst "Loop" fs])) → wq (f [.inst "Loop" [], p.d p.body, .str p.i, .tup h', .tup b', .tup [.str "give", .tup p.give]]) Q
theorem mem_items {p : PD} (h : p.Ok) {z : D} (hz : z ∈ p.items) : (∃ q, z = .tup [.str "int", .str q]) ∨ z = .tup [.str "array", .str p.a] := by
  obtain ⟨u, v, e, _⟩ := h.items
  rw [e] at hz
  simp only [List.mem_append, List.mem_singleton, iD, List.mem_map] at hz
  rcases hz with (⟨q, _, rfl⟩ | rfl) | ⟨q, _, rfl⟩
  · exact .inl ⟨q, rfl⟩
  · exact .inr rfl
  · exact .inl ⟨q, rfl⟩
theorem mem_places {p : PD} (h : p.Ok) {z : D} (hz : z ∈ p.places) : ∃ q, z = .tup [.str "int", .str q] := by
  obtain ⟨u, v, e, _⟩ := h.places
  rw [e] at hz
  simp only [List.mem_append, List.mem_singleton, iD, List.mem_map] at hz
  rcases hz with (⟨q, _, rfl⟩ | rfl) | ⟨q, _, rfl⟩
  · exact ⟨q, rfl⟩
  · exact ⟨_, rfl⟩
  · exact ⟨q, rfl⟩
theorem PD.Ok.li {p : PD} (h : p.Ok) : p.items.length = p.S.length + 1 := by
  obtain ⟨u, v, e, e'⟩ := h.items
  rw [e, e']
  simp [iD]
  omega
theorem PD.Ok.lpl {p : PD} (h : p.Ok) : p.places.length = p.P.length + 1 := by
  obtain ⟨u, v, e, e'⟩ := h.places
  rw [e, e']
  simp [iD]
  omega
theorem loopinit_ok {T : Tab} (hwi : WiOk 12 T.with_item) : LinitOk (fn_Loop_init T) := by
  intro p h' b' Q hp hb hQ
  have sz : 4096 ≤ sizeLine := by decide
  have li := hp.li
  have lpl := hp.lpl
  have l2 := hp.ln
  have l3 := hp.lp
  rw [fn_Loop_init, b_Loop_init, PD.d]
  walk_at "dl"
  refine ⟨by omega, ?_⟩
  refine lc_setF 6 isI gI ?_ ?_
  · intro z y R S hz hR hS
    rcases mem_items hp hz with ⟨q, rfl⟩ | rfl
    · walk_at "dl"
      exact hR _ rfl
    · walk_at "dl"
      exact hS _ rfl
  intro y
  have e1 : (p.items.filter isI).map gI = p.S.map D.str := by
    obtain ⟨u, v, e, e'⟩ := hp.items
    rw [e, e', filt_items]
  rw [e1]
  walk_at "dl"
  refine ⟨by omega, ?_⟩
  refine lc_setF 6 (notI p.i) gI ?_ ?_
  · intro z y R S hz hR hS
    obtain ⟨q, rfl⟩ := mem_places hp hz
    walk_at "dl"
    refine ⟨fun e => hS _ (by simp [notI, e]), fun e => hR _ (by simp [notI, e])⟩
  intro y
  have e2 : (p.places.filter (notI p.i)).map gI = p.P.map D.str := by
    obtain ⟨u, v, e, e'⟩ := hp.places
    rw [e, e', filt_places]
    intro h
    exact hp.ni (List.mem_append_right _ (e' ▸ h))
  rw [e2]
  walk_at "dl"
  refine ⟨by omega, ?_⟩
  rw [atI_of (i := 5) (n := 5) (d := .tup []) rfl rfl]
  walk_at "dl"
  refine hwi _ _ hb fun e => ?_
  walk_at "dl"
  refine hQ _ ?_
  rw [List.map_append]
  rfl
end G

namespace G
open PySem L2 DL
local macro_rules | `(tactic| walk_at "dl") => `(tactic| simp only [↓wp_fnX, ↓wp_xSeq, ↓wp_xOf, ↓wp_xeOf, ↓wp_xIf, ↓wp_xDrop, ↓wp_xRet, ↓wp_xSet, ↓wp_xFld, ↓wp_xRaise, ↓wp_xCall, ↓wp_xSkip, ↓wp_sTryM, ↓wp_runH, ↓wp_eExc, ↓wp_eBl, ↓wp_eFld, ↓wp_sFldSet, ↓wp_eMake, ↓wp_eMeth, ↓wp_runF, ↓wp_eDict, ↓wp_sNewD, ↓wp_sNewLc, ↓wp_sNewAdd, ↓wp_pNil, ↓wp_pCons, ↓wp_dispNil, ↓wp_dispCons, ↓wp_catR, ↓wp_body, ↓wp_bodyO, ↓wp_seq, ↓wp_sIf, ↓wp_sRet, ↓wp_sRetN, ↓wp_sRetO, ↓wp_sRetL, ↓wp_sSet, ↓wp_sNewL, ↓wp_callO, ↓wp_call, ↓wp_sAug, ↓wp_sPar, ↓wp_sUnp, ↓wp_sStore, ↓wp_eMutL, ↓wp_srcSeq, ↓wp_srcRg, ↓wp_srcZip, ↓wp_sSkip, ↓wp_sBrk, ↓wp_sDrop, ↓wp_sFor,
  ↓wp_C, ↓wp_eBin, ↓wp_eUn, ↓wp_eRev, ↓wp_bVal, ↓wp_bTru, ↓wp_bNot, ↓wp_bAnd, ↓wp_bOr, ↓wp_bYes, ↓wp_eAnd, ↓wp_eOr, ↓wp_eNot, ↓wp_eIf, ↓wp_aNil, ↓wp_aCons, ↓wp_eTup, ↓wp_eLst, ↓wp_eCB, ↓wp_eIsi, ↓wp_oNone, ↓wp_oSome, ↓wp_eSl, ↓wp_eLstR1, ↓wp_eChain, ↓wp_lc,
  ↓wp_some, ↓wp_peeks, ↓wp_escs, ↓wp_lent, ↓wp_giveBack, ↓wp_gave, ↓wp_listAt, ↓wp_mutAt, seqK_nx, seqK_rt, seqK_ro, seqK_bk, seqK_ct, endK_rt, endK_nx, endO_ro, callK_ok, callOK_ok, turnK_nx, midK_nx, midK_rt, midK_bk, midK_ct, turnK_rt, iteP_t, iteP_f, asI_int, asB_bl, chainK_bl,
  eVar_at, varR_val, varR_own, varR_lck, peek_val, peek_ref, peekS_val, peekS_own, peekS_lck, peeks_nil, esc_val, esc_ref, escR_own, escR_val, escs_nil, ownS_own, lent_nil, places_nil, places_ref, giveBack_nil, gaveS_own, gave_nil, lend_nil, lend_val, lend_own, srcOf_at, srcS_own, srcS_lck, srcS_list, srcS_tup, sorted_ints, srcOf_list, srcOf_tup, unlk_none, unlk_some, unlkS_lck, unlkF_nx, unlkF_rt, intAt_S, intS_val, ownAt_ref, ownO_own, tNm_ok,
  add_int, add_tup, add_list, add_str, sub_int, mul_int, fdv_int, mod_int, pow_int, neg_int, lt_int, le_int, gt_int, ge_int, eq_int, ne_int, eq_self, eq_str, ne_str, is_bl, is_non, at_list, at_tup, atI_0, atI_1, atI_2, atI_3, DL.sl_tup, DL.sl_list, DL.sl_str, rev_tup, rev_list, len_list, len_tup, len_str, len_scr, abs_int, int_int, tuple_list, tuple_tup, list_list, list_tup, list_scr, min_int, max_int, str_int, app_list, ext_list, sum_ints, int_bl, ins_list, store_0, store_1, store_2, store_3, rg1_int, rg2_int, zip_tup, zip_list, tru_bl, isT_int, isT_str, isT_tup, isT_list, DL.isNon,
  List.getElem?_cons_zero, List.getElem?_cons_succ, List.set_cons_zero, List.set_cons_succ, List.cons_append, List.nil_append, List.length_cons, List.length_nil, List.reduceReplicate, List.take_succ_cons, List.take_zero, List.drop_succ_cons, List.drop_zero, List.take_nil, List.drop_nil, List.append_nil,
  Nat.reduceAdd, Nat.reduceSub, Int.reduceAdd, Int.reduceSub, Int.reduceMul, Int.reduceLT, Int.reduceLE, Int.reduceGT, Int.reduceEq, Int.reduceNeg, Int.reducePow, Int.reduceToNat, Nat.reduceLT, Nat.reducePow, cm_l, cm_r, ok62_of, ↓tTp_ok, ↓wp_tsCons, tsNil_ok, wipeE_nil, wipeE_cons, restE_nil, restE_cons, plainE_nil, plainE_cons, plainS_emp, plainS_val, Bool.and_self, Bool.and_true, List.getD_cons_zero, List.getD_cons_succ, cut_1, all_map, any_map, sz_le, sz_lt, fits_nil, fits_cons, Nat.reduceLeDiff, Nat.zero_add, lo_small, Int.zero_add, List.length_map, Int.natCast_add, Int.cast_ofNat_Int, decide_true, decide_false, Bool.not_true, Bool.not_false, List.nodup_cons, List.nodup_nil, List.not_mem_nil, not_false_eq_true, and_self, and_true, true_and, true_implies, reduceCtorEq, List.mem_cons, or_false, iteP_dec, iteP_not,
  xseqK_nx, xseqK_rt, xseqK_er, xdropK_ok, xdropK_er, xretK_ok, xretK_er, xsetK_ok, xsetK_er, xfldK_ok, xfldK_er, xcallK_ok, xcallK_er, endX_rt, endX_nx, endX_er, pureX_nil, tryK_fl, tryK_er, rtK_rt, strV_str, lstV_list, addL_list, mkK_ok, elook_nil, elook_cons, look_nil, look_cons, fld_inst, set_inst, putG_nil, putG_cons, hasM_inst, catR_str, key_str, key_int, keyRV_val, at_dict, store_dict, valD_cons, valD_nil, valD_put, merge_nil, merge_cons, isB_eq, Option.getD_some,
  En.set, En.put, En.new, entE_eq, deref_nil, pureOk_nil, obj_slot, plc_ref, plc_cel, upd_slot, updS_own, upd_cell, obj_cell, celS_c, isLst_list, unlk_cell, srcOf_cel, celLS_list,
  ofs_eq, Sum.inr.injEq, Sum.inl.injEq, String.reduceEq, if_true, if_false, List.mem_singleton, true_or, or_true, false_or, and_false, false_and])
theorem cut_last {ds : List D} {d : D} : cutD (ds ++ [d]) (some (-1)) none = [d] := by
  unfold cutD
  have h1 : HT.sIx (ds ++ [d]).length 0 (some (-1)) = ds.length := by
    show (if (-1 : Int) < 0 then ((-1 : Int) + ((ds ++ [d]).length : Int)).toNat else min (-1 : Int).toNat (ds ++ [d]).length) = _
    rw [if_pos (by omega), List.length_append, List.length_singleton]
    omega
  rw [h1, HT.sIx_none, List.drop_left, List.length_append, List.length_singleton, Nat.add_sub_cancel_left]
  rfl
theorem cut_init {ds es : List D} {i : Int} (h : i = -(es.length : Int)) (h' : 0 < es.length) : cutD (ds ++ es) none (some i) = ds := by
  unfold cutD
  have h1 : HT.sIx (ds ++ es).length (ds ++ es).length (some i) = ds.length := by
    show (if i < 0 then (i + ((ds ++ es).length : Int)).toNat else min i.toNat (ds ++ es).length) = _
    rw [if_pos (by omega), List.length_append]
    omega
  rw [h1, HT.sIx_none, List.drop_zero, Nat.sub_zero, List.take_left]
theorem atI_neg {ds es : List D} {d : D} {i : Int} (h : i = -(es.length + 1 : Int)) : atI (ds ++ d :: es) i = some d := by
  unfold atI L2.ixN
  rw [if_neg (by omega), List.length_append, List.length_cons, if_pos (by omega)]
  have e : (i + ((ds.length + (es.length + 1) : Nat) : Int)).toNat = ds.length := by omega
  show (ds ++ d :: es)[(i + ((ds.length + (es.length + 1) : Nat) : Int)).toNat]? = _
  rw [e]
  simp
theorem ne_tt {n : Nat} {d : D} (hn : n ≤ 64) (h : Eqd n d) : dNe d d = some (.bl false) := by
  obtain ⟨b, e1, e2⟩ := eqB_data hn h h
  rw [dNe, e1, e2.mpr rfl]
  rfl
theorem eqd_two {m : Nat} {a b : D} (ha : Eqd m a) (hb : Eqd m b) : Eqd (m + 1) (.tup [a, b]) := .tup fun d hd => by
  simp only [List.mem_cons, List.not_mem_nil, or_false] at hd
  rcases hd with rfl | rfl
  · exact ha
  · exact hb
theorem eqd_three {m : Nat} {a b c : D} (ha : Eqd m a) (hb : Eqd m b) (hc : Eqd m c) : Eqd (m + 1) (.tup [a, b, c]) := .tup fun d hd => by
  simp only [List.mem_cons, List.not_mem_nil, or_false] at hd
  rcases hd with rfl | rfl | rfl
  · exact ha
  · exact hb
  · exact hc
theorem eqd_one {m : Nat} {a : D} (ha : Eqd m a) : Eqd (m + 1) (.tup [a]) := .tup fun d hd => by
  rw [List.mem_singleton] at hd
  exact hd ▸ ha
theorem mem_places' {p : PD} (h : p.Ok) {z : D} (hz : z ∈ p.places) : ∃ q, z = .tup [.str "int", .str q] ∧ PyData.strOk q = true := by
  obtain ⟨u, v, e, e'⟩ := h.places
  rw [e] at hz
  simp only [List.mem_append, List.mem_singleton, iD, List.mem_map] at hz
  rcases hz with (⟨q, hq, rfl⟩ | rfl) | ⟨q, hq, rfl⟩
  · exact ⟨q, rfl, h.ok _ (by simp [e', hq])⟩
  · exact ⟨_, rfl, h.ok _ (by simp)⟩
  · exact ⟨q, rfl, h.ok _ (by simp [e', hq])⟩
def PD.loopW (p : PD) (b' : List D) : D := .tup [.str "while", .tup [.str "less", .tup [.str "name", .str p.i], .tup [.str "length", .str p.a]], .tup (b' ++ [p.step])]
def IdxOk (f : Fn) : Prop := ∀ (p : PD) (b' body : List D) (Q : Rs × List D → Prop), p.Ok → Q (.ok (.str p.i), []) → wq (f [p.loopW b', .str p.a, p.d body]) Q
theorem idx_ok {T : Tab} : IdxOk (fn_index_of T) := by
  intro p b' body Q hp hQ
  have sz : 4096 ≤ sizeLine := by decide
  have oka : PyData.strOk p.a = true := hp.ok _ (by simp)
  have oki : PyData.strOk p.i = true := hp.ok _ (by simp)
  have hstep : Eqd 6 (.tup [p.step]) := eqd_one (eqd_two (.str (by decide +kernel)) (eqd_one (eqd_two (.str oki) (eqd_three (.str (by decide +kernel)) (eqd_two (.str (by decide +kernel)) (.str oki)) (eqd_two (.str (by decide +kernel)) .int)))))
  rw [fn_index_of, b_index_of, PD.d, PD.loopW]
  walk_at "dl"
  rw [ne_tt (n := 1) (by omega) (eqd_two (.str (by decide +kernel)) (.str oka))]
  walk_at "dl"
  rw [notin_tup (n := 1) (b := true) (by omega) (eqd_two (.str (by decide +kernel)) (.str oki)) ?_ ?_]
  · walk_at "dl"
    rw [cut_last]
    rw [PD.step] at hstep ⊢
    rw [ne_tt (n := 6) (by omega) hstep]
    walk_at "dl"
    exact hQ
  · intro e he
    obtain ⟨q, rfl, hq⟩ := mem_places' hp he
    exact eqd_two (.str (by decide +kernel)) (.str hq)
  · obtain ⟨u, v, e, e'⟩ := hp.places
    rw [e]
    simp
end G

namespace G
open PySem L2 DL
local macro_rules | `(tactic| walk_at "dl") => `(tactic| simp only [↓wp_fnX, ↓wp_xSeq, ↓wp_xOf, ↓wp_xeOf, ↓wp_xIf, ↓wp_xDrop, ↓wp_xRet, ↓wp_xSet, ↓wp_xFld, ↓wp_xRaise, ↓wp_xCall, ↓wp_xSkip, ↓wp_sTryM, ↓wp_runH, ↓wp_eExc, ↓wp_eBl, ↓wp_eFld, ↓wp_sFldSet, ↓wp_eMake, ↓wp_eMeth, ↓wp_runF, ↓wp_eDict, ↓wp_sNewD, ↓wp_sNewLc, ↓wp_sNewAdd, ↓wp_pNil, ↓wp_pCons, ↓wp_dispNil, ↓wp_dispCons, ↓wp_catR, ↓wp_body, ↓wp_bodyO, ↓wp_seq, ↓wp_sIf, ↓wp_sRet, ↓wp_sRetN, ↓wp_sRetO, ↓wp_sRetL, ↓wp_sSet, ↓wp_sNewL, ↓wp_callO, ↓wp_call, ↓wp_sAug, ↓wp_sPar, ↓wp_sUnp, ↓wp_sStore, ↓wp_eMutL, ↓wp_srcSeq, ↓wp_srcRg, ↓wp_srcZip, ↓wp_sSkip, ↓wp_sBrk, ↓wp_sDrop, ↓wp_sFor,
  ↓wp_C, ↓wp_eBin, ↓wp_eUn, ↓wp_eRev, ↓wp_bVal, ↓wp_bTru, ↓wp_bNot, ↓wp_bAnd, ↓wp_bOr, ↓wp_bYes, ↓wp_eAnd, ↓wp_eOr, ↓wp_eNot, ↓wp_eIf, ↓wp_aNil, ↓wp_aCons, ↓wp_eTup, ↓wp_eLst, ↓wp_eCB, ↓wp_eIsi, ↓wp_oNone, ↓wp_oSome, ↓wp_eSl, ↓wp_eLstR1, ↓wp_eChain, ↓wp_lc,
  ↓wp_some, ↓wp_peeks, ↓wp_escs, ↓wp_lent, ↓wp_giveBack, ↓wp_gave, ↓wp_listAt, ↓wp_mutAt, seqK_nx, seqK_rt, seqK_ro, seqK_bk, seqK_ct, endK_rt, endK_nx, endO_ro, callK_ok, callOK_ok, turnK_nx, midK_nx, midK_rt, midK_bk, midK_ct, turnK_rt, iteP_t, iteP_f, asI_int, asB_bl, chainK_bl,
  eVar_at, varR_val, varR_own, varR_lck, peek_val, peek_ref, peekS_val, peekS_own, peekS_lck, peeks_nil, esc_val, esc_ref, escR_own, escR_val, escs_nil, ownS_own, lent_nil, places_nil, places_ref, giveBack_nil, gaveS_own, gave_nil, lend_nil, lend_val, lend_own, srcOf_at, srcS_own, srcS_lck, srcS_list, srcS_tup, sorted_ints, srcOf_list, srcOf_tup, unlk_none, unlk_some, unlkS_lck, unlkF_nx, unlkF_rt, intAt_S, intS_val, ownAt_ref, ownO_own, tNm_ok,
  add_int, add_tup, add_list, add_str, sub_int, mul_int, fdv_int, mod_int, pow_int, neg_int, lt_int, le_int, gt_int, ge_int, eq_int, ne_int, eq_self, eq_str, ne_str, is_bl, is_non, at_list, at_tup, atI_0, atI_1, atI_2, atI_3, DL.sl_tup, DL.sl_list, DL.sl_str, rev_tup, rev_list, len_list, len_tup, len_str, len_scr, abs_int, int_int, tuple_list, tuple_tup, list_list, list_tup, list_scr, min_int, max_int, str_int, app_list, ext_list, sum_ints, int_bl, ins_list, store_0, store_1, store_2, store_3, rg1_int, rg2_int, zip_tup, zip_list, tru_bl, isT_int, isT_str, isT_tup, isT_list, DL.isNon,
  List.getElem?_cons_zero, List.getElem?_cons_succ, List.set_cons_zero, List.set_cons_succ, List.cons_append, List.nil_append, List.length_cons, List.length_nil, List.reduceReplicate, List.take_succ_cons, List.take_zero, List.drop_succ_cons, List.drop_zero, List.take_nil, List.drop_nil, List.append_nil,
  Nat.reduceAdd, Nat.reduceSub, Int.reduceAdd, Int.reduceSub, Int.reduceMul, Int.reduceLT, Int.reduceLE, Int.reduceGT, Int.reduceEq, Int.reduceNeg, Int.reducePow, Int.reduceToNat, Nat.reduceLT, Nat.reducePow, cm_l, cm_r, ok62_of, ↓tTp_ok, ↓wp_tsCons, tsNil_ok, wipeE_nil, wipeE_cons, restE_nil, restE_cons, plainE_nil, plainE_cons, plainS_emp, plainS_val, Bool.and_self, Bool.and_true, List.getD_cons_zero, List.getD_cons_succ, cut_1, all_map, any_map, sz_le, sz_lt, fits_nil, fits_cons, Nat.reduceLeDiff, Nat.zero_add, lo_small, Int.zero_add, List.length_map, Int.natCast_add, Int.cast_ofNat_Int, decide_true, decide_false, Bool.not_true, Bool.not_false, List.nodup_cons, List.nodup_nil, List.not_mem_nil, not_false_eq_true, and_self, and_true, true_and, true_implies, reduceCtorEq, List.mem_cons, or_false, iteP_dec, iteP_not,
  xseqK_nx, xseqK_rt, xseqK_er, xdropK_ok, xdropK_er, xretK_ok, xretK_er, xsetK_ok, xsetK_er, xfldK_ok, xfldK_er, xcallK_ok, xcallK_er, endX_rt, endX_nx, endX_er, pureX_nil, tryK_fl, tryK_er, rtK_rt, strV_str, lstV_list, addL_list, mkK_ok, elook_nil, elook_cons, look_nil, look_cons, fld_inst, set_inst, putG_nil, putG_cons, hasM_inst, catR_str, key_str, key_int, keyRV_val, at_dict, store_dict, valD_cons, valD_nil, valD_put, merge_nil, merge_cons, isB_eq, Option.getD_some,
  En.set, En.put, En.new, entE_eq, deref_nil, pureOk_nil, obj_slot, plc_ref, plc_cel, upd_slot, updS_own, upd_cell, obj_cell, celS_c, isLst_list, unlk_cell, srcOf_cel, celLS_list,
  ofs_eq, Sum.inr.injEq, Sum.inl.injEq, String.reduceEq, if_true, if_false, List.mem_singleton, true_or, or_true, false_or, and_false, false_and])
theorem WfS.up {n : Nat} {d : D} (h : WfS n d) : WfS (n + 1) d := by
  induction h with
  | pause => exact .pause
  | other k x h1 h2 h3 h4 => exact .other k x h1 h2 h3 h4
  | push x y => exact .push x y
  | ite c a b _ ha _ hb i1 i2 => exact .ite c a b i1 ha i2 hb
  | whl c a _ ha i1 => exact .whl c a i1 ha
theorem Stm0.wp {N : List Str} {it : Option D} {n : Nat} {d : D} (h : Stm true N it 0 d) : WfS n d ∧ ∀ e ∈ wpS n d, Stm false N it 0 e := by
  cases h with
  | pause =>
    refine ⟨.pause, ?_⟩
    rw [wpS_pause]
    exact fun e h => (List.not_mem_nil h).elim
  | set x e h1 h2 =>
    refine ⟨.other _ _ (by decide) (by decide) (by decide) (by decide +kernel), ?_⟩
    rw [wpS_two]
    intro d hd
    rw [List.mem_singleton] at hd
    exact hd ▸ .set x e h1 h2
def PD.h' (p : PD) : List D := p.head.flatMap (wpS 3)
def PD.b' (p : PD) : List D := p.block.flatMap (wpS 2)
def PD.gv (p : PD) : D := .tup [.str "give", .tup p.give]
def PD.psh (p : PD) : D := .tup [.str "push", .tup [.str "number", .int 1], .str p.a]
def PD.bad (p : PD) : List D := p.head ++ [p.loop] ++ p.pz1 ++ [.tup [.str "pause"], p.psh]
theorem pz_flat {n : Nat} {pz : List D} (h : pz = [] ∨ pz = [.tup [.str "pause"]]) : pz.flatMap (wpS n) = [] ∧ (∀ d ∈ pz, WfS n d) ∧ pz.length ≤ 1 := by
  rcases h with rfl | rfl
  · exact ⟨rfl, fun d h => (List.not_mem_nil h).elim, by simp⟩
  · refine ⟨by rw [List.flatMap_cons, wpS_pause]; rfl, fun d h => ?_, by simp⟩
    rw [List.mem_singleton] at h
    exact h ▸ .pause
theorem PD.Ok.h0 {p : PD} (h : p.Ok) : (∀ d ∈ p.head, WfS 3 d) ∧ (∀ d ∈ p.h', Stm false (p.S ++ p.P) none 0 d) ∧ p.h'.length ≤ 10 := by
  have h1 : ∀ d ∈ p.head, WfS 3 d := fun d hd => (Stm0.wp (h.head d hd)).1
  refine ⟨h1, fun d hd => ?_, Nat.le_trans (flat_len h1) h.headl⟩
  obtain ⟨e, he, hd⟩ := List.mem_flatMap.mp hd
  exact (Stm0.wp (h.head e he)).2 d hd
theorem PD.Ok.b0 {p : PD} (h : p.Ok) : (∀ d ∈ p.block, WfS 2 d) ∧ (∀ d ∈ p.b', Stm false (p.S ++ p.P) (some (ITM p.a p.i)) 2 d) ∧ p.b'.length ≤ 20 := by
  have h1 : ∀ d ∈ p.block, WfS 2 d := fun d hd => (h.block d hd).wf
  refine ⟨h1, fun d hd => ?_, Nat.le_trans (flat_len h1) h.blockl⟩
  obtain ⟨e, he, hd⟩ := List.mem_flatMap.mp hd
  exact (h.block e he).wp d hd
theorem wf_mem2 {n : Nat} {as bs : List D} (h1 : ∀ d ∈ as, WfS n d) (h2 : ∀ d ∈ bs, WfS n d) : ∀ d ∈ as ++ bs, WfS n d := fun d hd => by
  rcases List.mem_append.mp hd with hd | hd
  · exact h1 d hd
  · exact h2 d hd
theorem wf_one {n : Nat} {d : D} (h : WfS n d) : ∀ e ∈ [d], WfS n e := fun e he => by
  rw [List.mem_singleton] at he
  exact he ▸ h
theorem PD.Ok.loopwf {p : PD} (h : p.Ok) : WfS 3 p.loop := by
  have hz := pz_flat (n := 2) h.pz2
  refine .whl _ _ (wf_mem2 (wf_mem2 h.b0.1 (wf_one (.other _ _ (by decide) (by decide) (by decide) (by decide +kernel)))) hz.2.1) ?_
  have := h.blockl
  have := hz.2.2
  simp
  omega
theorem PD.Ok.loopwp {p : PD} (h : p.Ok) : wpS 3 p.loop = [p.loopW p.b'] := by
  rw [PD.loop, wpS_whl, List.flatMap_append, List.flatMap_append, (pz_flat h.pz2).1, List.append_nil]
  have e : [p.step].flatMap (wpS 2) = [p.step] := by
    rw [List.flatMap_cons, PD.step, wpS_two]
    rfl
  rw [e]
  rfl
theorem PD.Ok.bodywp {p : PD} (h : p.Ok) : (∀ d ∈ p.body, WfS 3 d) ∧ p.body.length ≤ 40 ∧ p.body.flatMap (wpS 3) = p.h' ++ [p.loopW p.b', p.gv] := by
  have hz := pz_flat (n := 3) h.pz1
  refine ⟨wf_mem2 (wf_mem2 (wf_mem2 h.h0.1 (wf_one h.loopwf)) hz.2.1) (wf_one (.other _ _ (by decide) (by decide) (by decide) (by decide +kernel))), ?_, ?_⟩
  · have := h.headl
    have := hz.2.2
    simp [PD.body]
    omega
  · rw [PD.body, List.flatMap_append, List.flatMap_append, List.flatMap_append, hz.1, List.append_nil, List.flatMap_cons, h.loopwp, List.flatMap_cons, wpS_two, List.flatMap_nil, List.append_nil, List.append_nil, List.append_assoc]
    rfl
theorem PD.Ok.badwp {p : PD} (h : p.Ok) : (∀ d ∈ p.bad, WfS 3 d) ∧ p.bad.length ≤ 40 ∧ p.bad.flatMap (wpS 3) = p.h' ++ [p.loopW p.b', p.psh] := by
  have hz := pz_flat (n := 3) h.pz1
  refine ⟨wf_mem2 (wf_mem2 (wf_mem2 h.h0.1 (wf_one h.loopwf)) hz.2.1) fun d hd => ?_, ?_, ?_⟩
  · simp only [List.mem_cons, List.not_mem_nil, or_false] at hd
    rcases hd with rfl | rfl
    · exact .pause
    · exact .push _ _
  · have := h.headl
    have := hz.2.2
    simp [PD.bad]
    omega
  · rw [PD.bad, List.flatMap_append, List.flatMap_append, List.flatMap_append, hz.1, List.append_nil, List.flatMap_cons, h.loopwp, List.flatMap_cons, wpS_pause, List.flatMap_cons, PD.psh, wpS_push, List.flatMap_nil]
    simp only [List.append_nil, List.nil_append, List.append_assoc, List.cons_append]
    rfl
def isA : D → Bool
  | .tup [.str k, _] => decide (k = "array")
  | _ => false
theorem filt_A {u : List Str} : (iD u).filter isA = [] := by
  unfold iD
  rw [List.filter_eq_nil_iff]
  intro d hd
  obtain ⟨x, _, rfl⟩ := List.mem_map.mp hd
  show ¬ decide (Str.ofString "int" = "array") = true
  rw [decide_eq_true_eq, ofs_eq]
  decide
theorem filt_rows {p : PD} (h : p.Ok) : (p.items.filter isA).map gI = [D.str p.a] := by
  obtain ⟨u, v, e, _⟩ := h.items
  rw [e, List.filter_append, List.filter_append, filt_A, filt_A]
  rfl
theorem same_bl {acc : List D} {b : Bool} (h : ∀ v ∈ acc, v = .bl b) : acc = acc.map fun _ => D.bl b := by
  induction acc with
  | nil => rfl
  | cons a acc ih =>
    rw [List.map_cons, ← ih fun v hv => h v (List.mem_cons_of_mem _ hv), h a (List.mem_cons_self ..)]
theorem any_no {acc : List D} (h : ∀ v ∈ acc, v = .bl false) : gAny [.list acc] = some (.bl false) := by
  rw [same_bl h, any_map]
  congr 2
  simp
theorem all_yes {acc : List D} (h : ∀ v ∈ acc, v = .bl true) : gAll [.list acc] = some (.bl true) := by
  rw [same_bl h, all_map]
  congr 2
  simp
theorem tru_tup {ds : List D} (h : ds ≠ []) : truth (.tup ds) = some true := by
  cases ds with
  | nil => exact (h rfl).elim
  | cons => rfl
def PartsOk (f : Fn) : Prop := ∀ (p : PD) (Q : Rs × List D → Prop), p.Ok → (∀ fs, fs.lookup (Str.ofString "carried") = some (D.tup ((p.S ++ p.P).map .str)) → Q (.ok (.inst "Loop" fs), [])) → wq (f [p.d p.body]) Q
def PartsBad (f : Fn) : Prop := ∀ (p : PD) (Q : Rs × List D → Prop), p.Ok → Q (.ok .non, []) → wq (f [p.d p.bad]) Q
theorem parts_bad {T : Tab} (hwp : WpOk 3 T.without_pauses) : PartsBad (fn_parts_of T) := by
  intro p Q hp hQ
  have sz : 4096 ≤ sizeLine := by decide
  have li := hp.li
  have lpl := hp.lpl
  have l2 := hp.ln
  have l3 := hp.lp
  obtain ⟨w1, w2, w3⟩ := hp.badwp
  rw [fn_parts_of, b_parts_of, PD.d]
  walk_at "dl"
  refine ⟨by omega, ?_⟩
  refine lc_setF 5 isA gI ?_ ?_
  · intro z y R S hz hR hS
    rcases mem_items hp hz with ⟨q, rfl⟩ | rfl
    · walk_at "dl"
      exact hS _ rfl
    · walk_at "dl"
      exact hR _ rfl
  intro y
  rw [filt_rows hp]
  walk_at "dl"
  rw [atI_of (i := 8) (n := 8) (d := .tup p.bad) rfl rfl]
  walk_at "dl"
  refine hwp _ _ w1 w2 ?_
  rw [w3]
  walk_at "dl"
  refine ⟨by omega, ?_⟩
  refine lc_setR 5 (fun v => v = .bl false) ?_ ?_
  · intro z y R hz hR
    obtain ⟨q, rfl⟩ := mem_places hp hz
    walk_at "dl"
    exact hR _ _ rfl
  intro acc y hacc hfal
  walk_at "dl"
  rw [any_no hfal]
  walk_at "dl"
  rw [tru_tup hp.res]
  walk_at "dl"
  refine ⟨fun h => hQ, fun _ => ?_⟩
  rw [show p.h' ++ [p.loopW p.b', p.psh] = (p.h' ++ [p.loopW p.b']) ++ p.psh :: [] by simp, atI_neg (by simp), PD.psh]
  walk_at "dl"
  exact hQ
end G

namespace G
open PySem L2 DL
local macro_rules | `(tactic| walk_at "dl") => `(tactic| simp only [↓wp_fnX, ↓wp_xSeq, ↓wp_xOf, ↓wp_xeOf, ↓wp_xIf, ↓wp_xDrop, ↓wp_xRet, ↓wp_xSet, ↓wp_xFld, ↓wp_xRaise, ↓wp_xCall, ↓wp_xSkip, ↓wp_sTryM, ↓wp_runH, ↓wp_eExc, ↓wp_eBl, ↓wp_eFld, ↓wp_sFldSet, ↓wp_eMake, ↓wp_eMeth, ↓wp_runF, ↓wp_eDict, ↓wp_sNewD, ↓wp_sNewLc, ↓wp_sNewAdd, ↓wp_pNil, ↓wp_pCons, ↓wp_dispNil, ↓wp_dispCons, ↓wp_catR, ↓wp_body, ↓wp_bodyO, ↓wp_seq, ↓wp_sIf, ↓wp_sRet, ↓wp_sRetN, ↓wp_sRetO, ↓wp_sRetL, ↓wp_sSet, ↓wp_sNewL, ↓wp_callO, ↓wp_call, ↓wp_sAug, ↓wp_sPar, ↓wp_sUnp, ↓wp_sStore, ↓wp_eMutL, ↓wp_srcSeq, ↓wp_srcRg, ↓wp_srcZip, ↓wp_sSkip, ↓wp_sBrk, ↓wp_sDrop, ↓wp_sFor,
  ↓wp_C, ↓wp_eBin, ↓wp_eUn, ↓wp_eRev, ↓wp_bVal, ↓wp_bTru, ↓wp_bNot, ↓wp_bAnd, ↓wp_bOr, ↓wp_bYes, ↓wp_eAnd, ↓wp_eOr, ↓wp_eNot, ↓wp_eIf, ↓wp_aNil, ↓wp_aCons, ↓wp_eTup, ↓wp_eLst, ↓wp_eCB, ↓wp_eIsi, ↓wp_oNone, ↓wp_oSome, ↓wp_eSl, ↓wp_eLstR1, ↓wp_eChain, ↓wp_lc,
  ↓wp_some, ↓wp_peeks, ↓wp_escs, ↓wp_lent, ↓wp_giveBack, ↓wp_gave, ↓wp_listAt, ↓wp_mutAt, seqK_nx, seqK_rt, seqK_ro, seqK_bk, seqK_ct, endK_rt, endK_nx, endO_ro, callK_ok, callOK_ok, turnK_nx, midK_nx, midK_rt, midK_bk, midK_ct, turnK_rt, iteP_t, iteP_f, asI_int, asB_bl, chainK_bl,
  eVar_at, varR_val, varR_own, varR_lck, peek_val, peek_ref, peekS_val, peekS_own, peekS_lck, peeks_nil, esc_val, esc_ref, escR_own, escR_val, escs_nil, ownS_own, lent_nil, places_nil, places_ref, giveBack_nil, gaveS_own, gave_nil, lend_nil, lend_val, lend_own, srcOf_at, srcS_own, srcS_lck, srcS_list, srcS_tup, sorted_ints, srcOf_list, srcOf_tup, unlk_none, unlk_some, unlkS_lck, unlkF_nx, unlkF_rt, intAt_S, intS_val, ownAt_ref, ownO_own, tNm_ok,
  add_int, add_tup, add_list, add_str, sub_int, mul_int, fdv_int, mod_int, pow_int, neg_int, lt_int, le_int, gt_int, ge_int, eq_int, ne_int, eq_self, eq_str, ne_str, is_bl, is_non, at_list, at_tup, atI_0, atI_1, atI_2, atI_3, DL.sl_tup, DL.sl_list, DL.sl_str, rev_tup, rev_list, len_list, len_tup, len_str, len_scr, abs_int, int_int, tuple_list, tuple_tup, list_list, list_tup, list_scr, min_int, max_int, str_int, app_list, ext_list, sum_ints, int_bl, ins_list, store_0, store_1, store_2, store_3, rg1_int, rg2_int, zip_tup, zip_list, tru_bl, isT_int, isT_str, isT_tup, isT_list, DL.isNon,
  List.getElem?_cons_zero, List.getElem?_cons_succ, List.set_cons_zero, List.set_cons_succ, List.cons_append, List.nil_append, List.length_cons, List.length_nil, List.reduceReplicate, List.take_succ_cons, List.take_zero, List.drop_succ_cons, List.drop_zero, List.take_nil, List.drop_nil, List.append_nil,
  Nat.reduceAdd, Nat.reduceSub, Int.reduceAdd, Int.reduceSub, Int.reduceMul, Int.reduceLT, Int.reduceLE, Int.reduceGT, Int.reduceEq, Int.reduceNeg, Int.reducePow, Int.reduceToNat, Nat.reduceLT, Nat.reducePow, cm_l, cm_r, ok62_of, ↓tTp_ok, ↓wp_tsCons, tsNil_ok, wipeE_nil, wipeE_cons, restE_nil, restE_cons, plainE_nil, plainE_cons, plainS_emp, plainS_val, Bool.and_self, Bool.and_true, List.getD_cons_zero, List.getD_cons_succ, cut_1, all_map, any_map, sz_le, sz_lt, fits_nil, fits_cons, Nat.reduceLeDiff, Nat.zero_add, lo_small, Int.zero_add, List.length_map, Int.natCast_add, Int.cast_ofNat_Int, decide_true, decide_false, Bool.not_true, Bool.not_false, List.nodup_cons, List.nodup_nil, List.not_mem_nil, not_false_eq_true, and_self, and_true, true_and, true_implies, reduceCtorEq, List.mem_cons, or_false, iteP_dec, iteP_not,
  xseqK_nx, xseqK_rt, xseqK_er, xdropK_ok, xdropK_er, xretK_ok, xretK_er, xsetK_ok, xsetK_er, xfldK_ok, xfldK_er, xcallK_ok, xcallK_er, endX_rt, endX_nx, endX_er, pureX_nil, tryK_fl, tryK_er, rtK_rt, strV_str, lstV_list, addL_list, mkK_ok, elook_nil, elook_cons, look_nil, look_cons, fld_inst, set_inst, putG_nil, putG_cons, hasM_inst, catR_str, key_str, key_int, keyRV_val, at_dict, store_dict, valD_cons, valD_nil, valD_put, merge_nil, merge_cons, isB_eq, Option.getD_some,
  En.set, En.put, En.new, entE_eq, deref_nil, pureOk_nil, obj_slot, plc_ref, plc_cel, upd_slot, updS_own, upd_cell, obj_cell, celS_c, isLst_list, unlk_cell, srcOf_cel, celLS_list,
  ofs_eq, Sum.inr.injEq, Sum.inl.injEq, String.reduceEq, if_true, if_false, List.mem_singleton, true_or, or_true, false_or, and_false, false_and])
theorem filt_names0 {i : Str} {u : List Str} (h : i ∉ u) : ((iD u).filter fun z => isI z && notI i z).map gI = u.map D.str := by
  unfold iD
  induction u with
  | nil => rfl
  | cons x u ih =>
    rw [List.mem_cons, not_or] at h
    have hx : (isI (D.tup [.str "int", .str x]) && notI i (D.tup [.str "int", .str x])) = true := by
      rw [Bool.and_eq_true]
      exact ⟨rfl, decide_eq_true (Ne.symm h.1)⟩
    rw [List.map_cons, List.filter_cons_of_pos (p := fun z => isI z && notI i z) hx, List.map_cons, ih h.2]
    rfl
theorem filt_names {p : PD} (hp : p.Ok) : ((p.items ++ p.places).filter fun z => isI z && notI p.i z).map gI = (p.S ++ p.P).map D.str := by
  have hn := hp.ni
  obtain ⟨u, v, e, e'⟩ := hp.items
  obtain ⟨u2, v2, e2, e2'⟩ := hp.places
  rw [e', e2'] at hn
  simp only [List.mem_append, not_or] at hn
  obtain ⟨⟨n1, n2⟩, n3, n4⟩ := hn
  have ea : [D.tup [.str "array", .str p.a]].filter (fun z => isI z && notI p.i z) = [] := List.filter_cons_of_neg (by
    show ¬ (decide (Str.ofString "array" = "int") && _) = true
    rw [decide_eq_false (by rw [ofs_eq]; decide)]
    simp)
  have ei : [D.tup [.str "int", .str p.i]].filter (fun z => isI z && notI p.i z) = [] := List.filter_cons_of_neg (by simp [notI])
  rw [e, e2, e', e2']
  simp only [List.filter_append, List.map_append, filt_names0 n1, filt_names0 n2, filt_names0 n3, filt_names0 n4, ea, ei, List.map_nil, List.append_nil]
theorem parts_ok {T : Tab} (hwp : WpOk 3 T.without_pauses) (hix : IdxOk T.index_of) (hst0 : IsStr 0 T.is_straight) (hst2 : IsStr 2 T.is_straight) (hsm : IsSum 2 T.is_sum) (hli : LinitOk T.Loop_init) : PartsOk (fn_parts_of T) := by
  intro p Q hp hQ
  have sz : 4096 ≤ sizeLine := by decide
  have li := hp.li
  have lpl := hp.lpl
  have l2 := hp.ln
  have l3 := hp.lp
  obtain ⟨w1, w2, w3⟩ := hp.bodywp
  obtain ⟨_, hh2, hh3⟩ := hp.h0
  obtain ⟨_, hb2, hb3⟩ := hp.b0
  rw [fn_parts_of, b_parts_of, PD.d]
  walk_at "dl"
  refine ⟨by omega, ?_⟩
  refine lc_setF 5 isA gI ?_ ?_
  · intro z y R S hz hR hS
    rcases mem_items hp hz with ⟨q, rfl⟩ | rfl
    · walk_at "dl"
      exact hS _ rfl
    · walk_at "dl"
      exact hR _ rfl
  intro y
  rw [filt_rows hp]
  walk_at "dl"
  rw [atI_of (i := 8) (n := 8) (d := .tup p.body) rfl rfl]
  walk_at "dl"
  refine hwp _ _ w1 w2 ?_
  rw [w3]
  walk_at "dl"
  refine ⟨by omega, ?_⟩
  refine lc_setR 5 (fun v => v = .bl false) ?_ ?_
  · intro z y R hz hR
    obtain ⟨q, rfl⟩ := mem_places hp hz
    walk_at "dl"
    exact hR _ _ rfl
  intro acc y hacc hfal
  walk_at "dl"
  rw [any_no hfal]
  walk_at "dl"
  rw [tru_tup hp.res]
  walk_at "dl"
  have b1 : p.h' ++ [p.loopW p.b', p.gv] = (p.h' ++ [p.loopW p.b']) ++ p.gv :: [] := by simp
  have b2 : p.h' ++ [p.loopW p.b', p.gv] = p.h' ++ p.loopW p.b' :: [p.gv] := rfl
  have a1 : atI (p.h' ++ [p.loopW p.b', p.gv]) (-1) = some p.gv := by rw [b1, atI_neg (by simp)]
  have a2 : atI (p.h' ++ [p.loopW p.b', p.gv]) (-2) = some (p.loopW p.b') := by rw [b2, atI_neg (by simp)]
  have c2 : cutD (p.h' ++ [p.loopW p.b', p.gv]) none (some (-2)) = p.h' := cut_init (by simp) (by simp)
  refine ⟨fun h => by simp at h; omega, fun _ => ?_⟩
  rw [a1, PD.gv]
  walk_at "dl"
  rw [← PD.gv, a2, PD.loopW]
  walk_at "dl"
  rw [← PD.loopW]
  refine hix p _ _ _ hp ?_
  walk_at "dl"
  refine ⟨by omega, by simp; omega, ?_⟩
  refine lc_setF 5 (fun z => isI z && notI p.i z) gI ?_ ?_
  · intro z y R S hz hR hS
    have hz' : (∃ q, z = .tup [.str "int", .str q]) ∨ z = .tup [.str "array", .str p.a] := by
      rcases List.mem_append.mp hz with hz | hz
      · exact mem_items hp hz
      · exact .inl (mem_places hp hz)
    rcases hz' with ⟨q, rfl⟩ | rfl
    · walk_at "dl"
      exact ⟨fun e => hS _ (by simp [notI, e]), fun e => hR _ (by simp [notI, isI, e])⟩
    · walk_at "dl"
      exact hS _ rfl
  intro y
  rw [filt_names hp]
  walk_at "dl"
  have c1 : cutD (p.b' ++ [p.step]) none (some (-1)) = p.b' := cut_init (by simp) (by simp)
  have nm : Names (p.S ++ p.P) (p.S ++ p.P) := ⟨fun _ h => h, fun x hx => hp.ok x (List.mem_cons_of_mem _ (List.mem_cons_of_mem _ hx))⟩
  rw [a2, PD.loopW]
  walk_at "dl"
  rw [← PD.loopW, c1]
  refine hst2 _ _ (some (ITM p.a p.i)) _ _ ⟨hb2, hb3⟩ nm ?_
  walk_at "dl"
  rw [c2]
  refine hst0 _ _ none _ _ ⟨hh2, by omega⟩ nm ?_
  walk_at "dl"
  rw [c2]
  refine ⟨by omega, ?_⟩
  refine lc_setR 7 (fun v => v = .bl false) ?_ ?_
  · intro z y R hz hR
    cases hh2 z hz with
    | pause h => cases h
    | set x e hx he =>
      walk_at "dl"
      exact hR _ _ rfl
  intro acc y _ hfal
  walk_at "dl"
  rw [any_no hfal]
  walk_at "dl"
  rw [a1, PD.gv]
  walk_at "dl"
  rw [← PD.gv]
  refine ⟨by have := hp.givel; omega, ?_⟩
  refine lc_setR 8 (fun v => v = .bl true) ?_ ?_
  · intro z y R hz hR
    walk_at "dl"
    refine hsm _ _ none _ _ (hp.give z hz) nm ?_
    walk_at "dl"
    exact hR _ _ rfl
  intro acc y _ hfal
  walk_at "dl"
  rw [all_yes hfal]
  walk_at "dl"
  rw [a1, c2]
  walk_at "dl"
  have tb : Tr 12 (.tup p.b') := .tup _ (fun d hd => (hb2 d hd).tr nm.2) (by omega)
  refine hli p p.h' p.b' _ hp tb fun fs hfs => ?_
  exact hQ fs hfs
end G

namespace G
open PySem L2 DL
local macro_rules | `(tactic| walk_at "dl") => `(tactic| simp only [↓wp_fnX, ↓wp_xSeq, ↓wp_xOf, ↓wp_xeOf, ↓wp_xIf, ↓wp_xDrop, ↓wp_xRet, ↓wp_xSet, ↓wp_xFld, ↓wp_xRaise, ↓wp_xCall, ↓wp_xSkip, ↓wp_sTryM, ↓wp_runH, ↓wp_eExc, ↓wp_eBl, ↓wp_eFld, ↓wp_sFldSet, ↓wp_eMake, ↓wp_eMeth, ↓wp_runF, ↓wp_eDict, ↓wp_sNewD, ↓wp_sNewLc, ↓wp_sNewAdd, ↓wp_pNil, ↓wp_pCons, ↓wp_dispNil, ↓wp_dispCons, ↓wp_catR, ↓wp_body, ↓wp_bodyO, ↓wp_seq, ↓wp_sIf, ↓wp_sRet, ↓wp_sRetN, ↓wp_sRetO, ↓wp_sRetL, ↓wp_sSet, ↓wp_sNewL, ↓wp_callO, ↓wp_call, ↓wp_sAug, ↓wp_sPar, ↓wp_sUnp, ↓wp_sStore, ↓wp_eMutL, ↓wp_srcSeq, ↓wp_srcRg, ↓wp_srcZip, ↓wp_sSkip, ↓wp_sBrk, ↓wp_sDrop, ↓wp_sFor,
  ↓wp_C, ↓wp_eBin, ↓wp_eUn, ↓wp_eRev, ↓wp_bVal, ↓wp_bTru, ↓wp_bNot, ↓wp_bAnd, ↓wp_bOr, ↓wp_bYes, ↓wp_eAnd, ↓wp_eOr, ↓wp_eNot, ↓wp_eIf, ↓wp_aNil, ↓wp_aCons, ↓wp_eTup, ↓wp_eLst, ↓wp_eCB, ↓wp_eIsi, ↓wp_oNone, ↓wp_oSome, ↓wp_eSl, ↓wp_eLstR1, ↓wp_eChain, ↓wp_lc,
  ↓wp_some, ↓wp_peeks, ↓wp_escs, ↓wp_lent, ↓wp_giveBack, ↓wp_gave, ↓wp_listAt, ↓wp_mutAt, seqK_nx, seqK_rt, seqK_ro, seqK_bk, seqK_ct, endK_rt, endK_nx, endO_ro, callK_ok, callOK_ok, turnK_nx, midK_nx, midK_rt, midK_bk, midK_ct, turnK_rt, iteP_t, iteP_f, asI_int, asB_bl, chainK_bl,
  eVar_at, varR_val, varR_own, varR_lck, peek_val, peek_ref, peekS_val, peekS_own, peekS_lck, peeks_nil, esc_val, esc_ref, escR_own, escR_val, escs_nil, ownS_own, lent_nil, places_nil, places_ref, giveBack_nil, gaveS_own, gave_nil, lend_nil, lend_val, lend_own, srcOf_at, srcS_own, srcS_lck, srcS_list, srcS_tup, sorted_ints, srcOf_list, srcOf_tup, unlk_none, unlk_some, unlkS_lck, unlkF_nx, unlkF_rt, intAt_S, intS_val, ownAt_ref, ownO_own, tNm_ok,
  add_int, add_tup, add_list, add_str, sub_int, mul_int, fdv_int, mod_int, pow_int, neg_int, lt_int, le_int, gt_int, ge_int, eq_int, ne_int, eq_self, eq_str, ne_str, is_bl, is_non, at_list, at_tup, atI_0, atI_1, atI_2, atI_3, DL.sl_tup, DL.sl_list, DL.sl_str, rev_tup, rev_list, len_list, len_tup, len_str, len_scr, abs_int, int_int, tuple_list, tuple_tup, list_list, list_tup, list_scr, min_int, max_int, str_int, app_list, ext_list, sum_ints, int_bl, ins_list, store_0, store_1, store_2, store_3, rg1_int, rg2_int, zip_tup, zip_list, tru_bl, isT_int, isT_str, isT_tup, isT_list, DL.isNon,
  List.getElem?_cons_zero, List.getElem?_cons_succ, List.set_cons_zero, List.set_cons_succ, List.cons_append, List.nil_append, List.length_cons, List.length_nil, List.reduceReplicate, List.take_succ_cons, List.take_zero, List.drop_succ_cons, List.drop_zero, List.take_nil, List.drop_nil, List.append_nil,
  Nat.reduceAdd, Nat.reduceSub, Int.reduceAdd, Int.reduceSub, Int.reduceMul, Int.reduceLT, Int.reduceLE, Int.reduceGT, Int.reduceEq, Int.reduceNeg, Int.reducePow, Int.reduceToNat, Nat.reduceLT, Nat.reducePow, cm_l, cm_r, ok62_of, ↓tTp_ok, ↓wp_tsCons, tsNil_ok, wipeE_nil, wipeE_cons, restE_nil, restE_cons, plainE_nil, plainE_cons, plainS_emp, plainS_val, Bool.and_self, Bool.and_true, List.getD_cons_zero, List.getD_cons_succ, cut_1, all_map, any_map, sz_le, sz_lt, fits_nil, fits_cons, Nat.reduceLeDiff, Nat.zero_add, lo_small, Int.zero_add, List.length_map, Int.natCast_add, Int.cast_ofNat_Int, decide_true, decide_false, Bool.not_true, Bool.not_false, List.nodup_cons, List.nodup_nil, List.not_mem_nil, not_false_eq_true, and_self, and_true, true_and, true_implies, reduceCtorEq, List.mem_cons, or_false, iteP_dec, iteP_not,
  xseqK_nx, xseqK_rt, xseqK_er, xdropK_ok, xdropK_er, xretK_ok, xretK_er, xsetK_ok, xsetK_er, xfldK_ok, xfldK_er, xcallK_ok, xcallK_er, endX_rt, endX_nx, endX_er, pureX_nil, tryK_fl, tryK_er, rtK_rt, strV_str, lstV_list, addL_list, mkK_ok, elook_nil, elook_cons, look_nil, look_cons, fld_inst, set_inst, putG_nil, putG_cons, hasM_inst, catR_str, key_str, key_int, keyRV_val, at_dict, store_dict, valD_cons, valD_nil, valD_put, merge_nil, merge_cons, isB_eq, Option.getD_some,
  En.set, En.put, En.new, entE_eq, deref_nil, pureOk_nil, obj_slot, plc_ref, plc_cel, upd_slot, updS_own, upd_cell, obj_cell, celS_c, isLst_list, unlk_cell, srcOf_cel, celLS_list,
  ofs_eq, Sum.inr.injEq, Sum.inl.injEq, String.reduceEq, if_true, if_false, List.mem_singleton, true_or, or_true, false_or, and_false, false_and])
def cD (c : PD × Bool) : D := c.1.d (if c.2 then c.1.bad else c.1.body)
structure CsOk (cs : List (PD × Bool)) : Prop where
  ok : ∀ c ∈ cs, c.1.Ok
  nd : (cs.map fun c => c.1.name).Nodup
  st : ∀ c ∈ cs, PyData.strOk c.1.name = true
  ls : ∀ c ∈ cs, c.1.name.length ≤ 100
  ln : cs.length ≤ 10
def pN (nm : Str) : D → Bool
  | .tup (.str k :: _) => decide (k = nm)
  | _ => false
theorem pN_cD {nm : Str} {c : PD × Bool} : pN nm (cD c) = decide (c.1.name = nm) := rfl
theorem filt_none {nm : Str} {cs : List (PD × Bool)} (h : nm ∉ cs.map fun c => c.1.name) : (cs.map cD).filter (pN nm) = [] := by
  rw [List.filter_eq_nil_iff]
  intro d hd
  obtain ⟨c, hc, rfl⟩ := List.mem_map.mp hd
  rw [pN_cD, decide_eq_true_eq]
  intro e
  exact h (List.mem_map.mpr ⟨c, hc, e⟩)
theorem filt_name {c : PD × Bool} {cs : List (PD × Bool)} (h : (cs.map fun c => c.1.name).Nodup) (hc : c ∈ cs) : (cs.map cD).filter (pN c.1.name) = [cD c] := by
  induction cs with
  | nil => cases hc
  | cons a cs ih =>
    rw [List.map_cons, List.nodup_cons] at h
    rw [List.map_cons]
    rcases List.mem_cons.mp hc with rfl | hc
    · rw [List.filter_cons_of_pos (by rw [pN_cD]; exact decide_eq_true rfl), filt_none h.1]
    · rw [List.filter_cons_of_neg (by
        rw [pN_cD, decide_eq_true_eq]
        intro e
        exact h.1 (e ▸ List.mem_map.mpr ⟨c, hc, rfl⟩)), ih h.2 hc]
def NamedOk (f : Fn) : Prop := ∀ cs c (Q : Rs × List D → Prop), CsOk cs → c ∈ cs → Q (.ok (cD c), []) → wq (f [.tup (cs.map cD), .str c.1.name]) Q
theorem named_ok {T : Tab} : NamedOk (fn_proc_named T) := by
  intro cs c Q hcs hc hQ
  have sz : 4096 ≤ sizeLine := by decide
  have hl := hcs.ln
  rw [fn_proc_named, b_proc_named]
  walk_at "dl"
  refine ⟨by omega, ?_⟩
  refine lc_setF 2 (pN c.1.name) id ?_ ?_
  · intro z y R S hz hR hS
    obtain ⟨c', _, rfl⟩ := List.mem_map.mp hz
    rw [cD, PD.d] at *
    walk_at "dl"
    exact ⟨fun e => hR _ (by simp [pN, e]), fun e => hS _ (by simp [pN, e])⟩
  intro y
  rw [List.map_id, filt_name hcs.nd hc]
  walk_at "dl"
  exact hQ
def ChkOk (f : Fn) : Prop := ∀ cs (nm : Str) (Q : Rs × List D → Prop), CsOk cs → PyData.strOk nm = true → nm.length ≤ 100 → (nm ∈ (cs.map fun c => c.1.name) → Q (.ok .non, [])) → (nm ∉ (cs.map fun c => c.1.name) → Q (.er "UnknownName" [("name", .str nm)], [])) → wq (f [.tup (cs.map cD), .str nm]) Q
theorem chk_ok {T : Tab} : ChkOk (fn_check_name T) := by
  intro cs nm Q hcs hnm hnl h1 h2
  have sz : 4096 ≤ sizeLine := by decide
  have hl := hcs.ln
  rw [fn_check_name, b_check_name]
  walk_at "dl"
  refine ⟨by omega, ?_⟩
  refine lc_setM (zs := cs) (h := cD) 2 (fun c => .str c.1.name) ?_ ?_
  · intro z y R hz hR
    rw [cD, PD.d]
    walk_at "dl"
    exact hR _
  intro y
  walk_at "dl"
  have e1 : (cs.map fun c => D.str c.1.name) = (cs.map fun c => c.1.name).map D.str := by rw [List.map_map]; rfl
  rw [e1]
  have key : ∀ b : Bool, (b = true ↔ nm ∈ (cs.map fun c => c.1.name)) → dNotIn (.str nm) (.list ((cs.map fun c => c.1.name).map D.str)) = some (.bl !b) := fun b hb =>
    notin_list (n := 0) (by omega) (.str hnm) (fun e he => by
      obtain ⟨x, hx, rfl⟩ := List.mem_map.mp he
      obtain ⟨c, hc, rfl⟩ := List.mem_map.mp hx
      exact .str (hcs.st c hc)) (by rw [hb]; simp)
  by_cases hm : nm ∈ (cs.map fun c => c.1.name)
  · rw [key true (by simp only [true_iff]; exact hm)]
    walk_at "dl"
    exact h1 hm
  · rw [key false (by simp only [false_iff, reduceCtorEq]; exact hm)]
    walk_at "dl"
    exact ⟨by omega, h2 hm⟩
def LoopOk (f : Fn) : Prop := ∀ cs c (Q : Rs × List D → Prop), CsOk cs → c ∈ cs → (c.2 = false → ∀ fs, fs.lookup (Str.ofString "carried") = some (D.tup ((c.1.S ++ c.1.P).map .str)) → Q (.ok (.inst "Loop" fs), [])) → (c.2 = true → Q (.er "BadLoop" [("name", .str c.1.name)], [])) → wq (f [.tup (cs.map cD), .str c.1.name]) Q
def LoopNo (f : Fn) : Prop := ∀ cs (nm : Str) (Q : Rs × List D → Prop), CsOk cs → PyData.strOk nm = true → nm.length ≤ 100 → nm ∉ (cs.map fun c => c.1.name) → Q (.er "UnknownName" [("name", .str nm)], []) → wq (f [.tup (cs.map cD), .str nm]) Q
theorem loop_ok {T : Tab} (hch : ChkOk T.check_name) (hnd : NamedOk T.proc_named) (hpo : PartsOk T.parts_of) (hpb : PartsBad T.parts_of) : LoopOk (fn_loop_of T) := by
  intro cs c Q hcs hc h1 h2
  have sz : 4096 ≤ sizeLine := by decide
  have hm : c.1.name ∈ (cs.map fun c => c.1.name) := List.mem_map.mpr ⟨c, hc, rfl⟩
  have hl := hcs.ls c hc
  rw [fn_loop_of, b_loop_of]
  walk_at "dl"
  refine hch _ _ _ hcs (hcs.st c hc) hl (fun _ => ?_) (fun h => (h hm).elim)
  walk_at "dl"
  refine hnd _ _ _ hcs hc ?_
  walk_at "dl"
  rw [cD]
  cases hb : c.2
  · rw [if_neg (by simp)]
    refine hpo _ _ (hcs.ok c hc) fun fs hfs => ?_
    walk_at "dl"
    exact h1 hb fs hfs
  · rw [if_pos rfl]
    refine hpb _ _ (hcs.ok c hc) ?_
    walk_at "dl"
    exact ⟨by omega, h2 hb⟩
theorem loop_no {T : Tab} (hch : ChkOk T.check_name) : LoopNo (fn_loop_of T) := by
  intro cs nm Q hcs hs hl hm hQ
  rw [fn_loop_of, b_loop_of]
  walk_at "dl"
  refine hch _ _ _ hcs hs hl (fun h => (hm h).elim) fun _ => ?_
  walk_at "dl"
  exact hQ
def CarOk (f : Fn) : Prop := ∀ cs c (Q : Rs × List D → Prop), CsOk cs → c ∈ cs → (c.2 = false → Q (.ok (.tup ((c.1.S ++ c.1.P).map .str)), [])) → (c.2 = true → Q (.er "BadLoop" [("name", .str c.1.name)], [])) → wq (f [.tup (cs.map cD), .str c.1.name]) Q
theorem car_ok {T : Tab} (h : LoopOk T.loop_of) : CarOk (fn_carried_of T) := by
  intro cs c Q hcs hc h1 h2
  rw [fn_carried_of, b_carried_of]
  walk_at "dl"
  refine h _ _ _ hcs hc (fun hb fs hfs => ?_) fun hb => ?_
  · walk_at "dl"
    rw [hfs]
    walk_at "dl"
    exact h1 hb
  · walk_at "dl"
    exact h2 hb
theorem car_no {T : Tab} (h : LoopNo T.loop_of) : LoopNo (fn_carried_of T) := by
  intro cs nm Q hcs hs hl hm hQ
  rw [fn_carried_of, b_carried_of]
  walk_at "dl"
  refine h _ _ _ hcs hs hl hm ?_
  walk_at "dl"
  exact hQ
def RefOk (f : Fn) : Prop := (∀ cs c (Q : Rs × List D → Prop), CsOk cs → c ∈ cs → c.2 = true → Q (.ok (.tup [.str "loop", .str c.1.name, .bl true]), []) → wq (f [.tup (cs.map cD), .str c.1.name]) Q) ∧
  ∀ cs (nm : Str) (Q : Rs × List D → Prop), CsOk cs → PyData.strOk nm = true → nm.length ≤ 100 → nm ∉ (cs.map fun c => c.1.name) → Q (.ok (.tup [.str "name", .str nm, .bl true]), []) → wq (f [.tup (cs.map cD), .str nm]) Q
theorem ref_ok {T : Tab} (h : CarOk T.carried_of) (h' : LoopNo T.carried_of) : RefOk (fn_f_law_refused T) := by
  constructor
  · intro cs c Q hcs hc hb hQ
    rw [fn_f_law_refused, b_f_law_refused]
    walk_at "dl"
    refine h _ _ _ hcs hc (fun h => by rw [hb] at h; cases h) fun _ => ?_
    walk_at "dl"
    exact hQ
  · intro cs nm Q hcs hs hl hm hQ
    rw [fn_f_law_refused, b_f_law_refused]
    walk_at "dl"
    refine h' _ _ _ hcs hs hl hm ?_
    walk_at "dl"
    exact hQ
end G

namespace G
open PySem L2 DL
local macro_rules | `(tactic| walk_at "dl") => `(tactic| simp only [↓wp_fnX, ↓wp_xSeq, ↓wp_xOf, ↓wp_xeOf, ↓wp_xIf, ↓wp_xDrop, ↓wp_xRet, ↓wp_xSet, ↓wp_xFld, ↓wp_xRaise, ↓wp_xCall, ↓wp_xSkip, ↓wp_sTryM, ↓wp_runH, ↓wp_eExc, ↓wp_eBl, ↓wp_eFld, ↓wp_sFldSet, ↓wp_eMake, ↓wp_eMeth, ↓wp_runF, ↓wp_eDict, ↓wp_sNewD, ↓wp_sNewLc, ↓wp_sNewAdd, ↓wp_pNil, ↓wp_pCons, ↓wp_dispNil, ↓wp_dispCons, ↓wp_catR, ↓wp_body, ↓wp_bodyO, ↓wp_seq, ↓wp_sIf, ↓wp_sRet, ↓wp_sRetN, ↓wp_sRetO, ↓wp_sRetL, ↓wp_sSet, ↓wp_sNewL, ↓wp_callO, ↓wp_call, ↓wp_sAug, ↓wp_sPar, ↓wp_sUnp, ↓wp_sStore, ↓wp_eMutL, ↓wp_srcSeq, ↓wp_srcRg, ↓wp_srcZip, ↓wp_sSkip, ↓wp_sBrk, ↓wp_sDrop, ↓wp_sFor,
  ↓wp_C, ↓wp_eBin, ↓wp_eUn, ↓wp_eRev, ↓wp_bVal, ↓wp_bTru, ↓wp_bNot, ↓wp_bAnd, ↓wp_bOr, ↓wp_bYes, ↓wp_eAnd, ↓wp_eOr, ↓wp_eNot, ↓wp_eIf, ↓wp_aNil, ↓wp_aCons, ↓wp_eTup, ↓wp_eLst, ↓wp_eCB, ↓wp_eIsi, ↓wp_oNone, ↓wp_oSome, ↓wp_eSl, ↓wp_eLstR1, ↓wp_eChain, ↓wp_lc,
  ↓wp_some, ↓wp_peeks, ↓wp_escs, ↓wp_lent, ↓wp_giveBack, ↓wp_gave, ↓wp_listAt, ↓wp_mutAt, seqK_nx, seqK_rt, seqK_ro, seqK_bk, seqK_ct, endK_rt, endK_nx, endO_ro, callK_ok, callOK_ok, turnK_nx, midK_nx, midK_rt, midK_bk, midK_ct, turnK_rt, iteP_t, iteP_f, asI_int, asB_bl, chainK_bl,
  eVar_at, varR_val, varR_own, varR_lck, peek_val, peek_ref, peekS_val, peekS_own, peekS_lck, peeks_nil, esc_val, esc_ref, escR_own, escR_val, escs_nil, ownS_own, lent_nil, places_nil, places_ref, giveBack_nil, gaveS_own, gave_nil, lend_nil, lend_val, lend_own, srcOf_at, srcS_own, srcS_lck, srcS_list, srcS_tup, sorted_ints, srcOf_list, srcOf_tup, unlk_none, unlk_some, unlkS_lck, unlkF_nx, unlkF_rt, intAt_S, intS_val, ownAt_ref, ownO_own, tNm_ok,
  add_int, add_tup, add_list, add_str, sub_int, mul_int, fdv_int, mod_int, pow_int, neg_int, lt_int, le_int, gt_int, ge_int, eq_int, ne_int, eq_self, eq_str, ne_str, is_bl, is_non, at_list, at_tup, atI_0, atI_1, atI_2, atI_3, DL.sl_tup, DL.sl_list, DL.sl_str, rev_tup, rev_list, len_list, len_tup, len_str, len_scr, abs_int, int_int, tuple_list, tuple_tup, list_list, list_tup, list_scr, min_int, max_int, str_int, app_list, ext_list, sum_ints, int_bl, ins_list, store_0, store_1, store_2, store_3, rg1_int, rg2_int, zip_tup, zip_list, tru_bl, isT_int, isT_str, isT_tup, isT_list, DL.isNon,
  List.getElem?_cons_zero, List.getElem?_cons_succ, List.set_cons_zero, List.set_cons_succ, List.cons_append, List.nil_append, List.length_cons, List.length_nil, List.reduceReplicate, List.take_succ_cons, List.take_zero, List.drop_succ_cons, List.drop_zero, List.take_nil, List.drop_nil, List.append_nil,
  Nat.reduceAdd, Nat.reduceSub, Int.reduceAdd, Int.reduceSub, Int.reduceMul, Int.reduceLT, Int.reduceLE, Int.reduceGT, Int.reduceEq, Int.reduceNeg, Int.reducePow, Int.reduceToNat, Nat.reduceLT, Nat.reducePow, cm_l, cm_r, ok62_of, ↓tTp_ok, ↓wp_tsCons, tsNil_ok, wipeE_nil, wipeE_cons, restE_nil, restE_cons, plainE_nil, plainE_cons, plainS_emp, plainS_val, Bool.and_self, Bool.and_true, List.getD_cons_zero, List.getD_cons_succ, cut_1, all_map, any_map, sz_le, sz_lt, fits_nil, fits_cons, Nat.reduceLeDiff, Nat.zero_add, lo_small, Int.zero_add, List.length_map, Int.natCast_add, Int.cast_ofNat_Int, decide_true, decide_false, Bool.not_true, Bool.not_false, List.nodup_cons, List.nodup_nil, List.not_mem_nil, not_false_eq_true, and_self, and_true, true_and, true_implies, reduceCtorEq, List.mem_cons, or_false, iteP_dec, iteP_not,
  xseqK_nx, xseqK_rt, xseqK_er, xdropK_ok, xdropK_er, xretK_ok, xretK_er, xsetK_ok, xsetK_er, xfldK_ok, xfldK_er, xcallK_ok, xcallK_er, endX_rt, endX_nx, endX_er, pureX_nil, tryK_fl, tryK_er, rtK_rt, strV_str, lstV_list, addL_list, mkK_ok, elook_nil, elook_cons, look_nil, look_cons, fld_inst, set_inst, putG_nil, putG_cons, hasM_inst, catR_str, key_str, key_int, keyRV_val, at_dict, store_dict, valD_cons, valD_nil, valD_put, merge_nil, merge_cons, isB_eq, Option.getD_some,
  En.set, En.put, En.new, entE_eq, deref_nil, pureOk_nil, obj_slot, plc_ref, plc_cel, upd_slot, updS_own, upd_cell, obj_cell, celS_c, isLst_list, unlk_cell, srcOf_cel, celLS_list,
  ofs_eq, Sum.inr.injEq, Sum.inl.injEq, String.reduceEq, if_true, if_false, List.mem_singleton, true_or, or_true, false_or, and_false, false_and])
def tri (a b : Str) : D := .tup [.str a, .str b, .bl true]
theorem ne_tri {a b : Str} (ha : PyData.strOk a = true) (hb : PyData.strOk b = true) : dNe (tri a b) (tri a b) = some (.bl false) := by
  unfold dNe tri eqB
  have h1 : PyData.canLayAll0 [PyData.str a, PyData.str b, PyData.bool true] = true := by
    simp only [PyData.canLayAll0, PyData.canLay0, Bool.and_true, Bool.and_eq_true]
    exact ⟨ha, hb⟩
  have h2 : (PyData.tuple [PyData.str a, PyData.str b, PyData.bool true]).canLay0 = true := by
    rw [PyData.canLay0]
    exact h1
  have h3 : PyData.depthAll [PyData.str a, PyData.str b, PyData.bool true] + 1 ≤ 64 := by
    simp [PyData.depthAll, PyData.depth]
  simp only [D.py, pyAll, Option.map_some, Option.bind_some, SeqAt.shaped, PyData.canLay0, PyData.depth, h1, decide_eq_true h3, Bool.and_self, and_self, if_true, SeqAt.eqv_refl _ h2]
  rfl
def SameS (f : Fn) : Prop := ∀ (x : Str) (Q : Rs × List D → Prop), Q (.ok (.bl true), []) → wq (f [.str x, .str x]) Q
def SameOk (f : Fn) : Prop := ∀ (C : List Str) (Q : Rs × List D → Prop), C.length ≤ 10 → Q (.ok (.bl true), []) → wq (f [.tup (C.map .str), .tup (C.map .str)]) Q
theorem sameS_ok {T : Tab} : SameS (fn_f_law_same T) := by
  intro x Q hQ
  rw [fn_f_law_same, b_f_law_same]
  walk_at "dl"
  exact hQ
theorem same_ok {T : Tab} (hs : SameS T.f_law_same) : SameOk (fn_f_law_same T) := by
  intro C Q hl hQ
  have sz : 4096 ≤ sizeLine := by decide
  rw [fn_f_law_same, b_f_law_same]
  walk_at "dl"
  refine ⟨by rw [ok62_of (by omega) (by omega)]; trivial, by rw [rgD_len]; omega, ?_⟩
  refine lc_rg0 (fun _ => .bl true) (fun ρ => ∃ y, ρ = ⟨[.val (.tup (C.map .str)), .val (.tup (C.map .str)), y], []⟩) ⟨_, rfl⟩ ?_ ?_
  · rintro k ρ R hk ⟨y, rfl⟩ hR
    have e1 : (C.map D.str)[k]? = some (.str C[k]) := by simp [hk]
    walk_at "dl"
    simp only [atI_of (i := (k : Int)) e1 rfl]
    walk_at "dl"
    refine hs _ _ ?_
    walk_at "dl"
    exact hR _ ⟨_, rfl⟩
  · rintro ρ ⟨y, rfl⟩
    walk_at "dl"
    have e1 : ((List.range C.length).all fun _ => true) = true := by simp
    rw [e1]
    exact hQ
theorem bad_len0 : ∀ j : Nat, j < 4 → ∀ l : Nat, l < 26 → ∀ b : Bool, (wd b j l).length = (sh j).length + 1 ∧ ((wd b j l ++ "_").length = (sh j).length + 2 ∧ PyData.strOk (wd b j l ++ "_") = true) ∧ ((wd b j l ++ "0").length = (sh j).length + 2 ∧ PyData.strOk (wd b j l ++ "0") = true) := by decide +kernel
def dueD (c : PD × Bool) : D := if c.2 then tri "loop" c.1.name else .tup ((c.1.S ++ c.1.P).map .str)
theorem law_ok {T : Tab} (hst : StartOk T.f_law_start) (hd : DrawOk T.f_law_draw) (hw : WordsOk T.f_law_words) (hpr : ProcOk T.f_law_loop_proc) (hcar : CarOk T.carried_of) (href : RefOk T.f_law_refused) (hsame : SameOk T.f_law_same) (ns : List Int) : wq (fn_law T [.scr ns]) (fun r => r = (.ok (.bl true), [])) := by
  have sz : 4096 ≤ sizeLine := by decide
  rw [fn_law, b_law]
  walk_at "dl"
  refine hst _ _ fun s hs => ?_
  walk_at "dl"
  refine hw _ 3 _ hs (by omega) fun b j ls s hs hj hls hnd hlt => ?_
  walk_at "dl"
  rw [sorted_strs (by simp; omega) (by intro h; have := congrArg List.length h; simp at this; rw [this] at hls; simp at hls)]
  walk_at "dl"
  have hperm := sortS_perm (ls.map (wd b j))
  have hnl : (sortS (ls.map (wd b j))).length = 3 := by rw [hperm.length_eq, List.length_map, hls]
  have hmem : ∀ x ∈ sortS (ls.map (wd b j)), ∃ l, l < 26 ∧ x = wd b j l := fun x hx => by
    obtain ⟨l, hl, rfl⟩ := List.mem_map.mp (hperm.mem_iff.mp hx)
    exact ⟨l, hlt l hl, rfl⟩
  have hndS : (sortS (ls.map (wd b j))).Nodup := hperm.nodup_iff.mpr (nodup_map (fun a ha c hc e => (nm_inj0 j hj a (hlt a ha) c (hlt c hc) b false false e).2) hnd)
  generalize sortS (ls.map (wd b j)) = N at hperm hnl hmem hndS ⊢
  clear hperm
  have hok : ∀ x ∈ N, x.length ≤ 8 ∧ PyData.strOk x = true := fun x hx => by
    obtain ⟨l, hl, rfl⟩ := hmem x hx
    exact nm_len0 j hj l hl b false
  refine wp_forM (zs := N) (g := D.str) (fun pre ρ => ∃ s cs x5 x7 x8, St s ∧ (∀ c ∈ cs, c.1.Ok) ∧ (cs.map fun c : PD × Bool => c.1.name) = pre ∧ ρ = ⟨[.val (.scr ns), .own none s, .val (.list (N.map .str)), .own none (.list (cs.map cD)), .own none (.list (cs.map dueD)), x5, .emp, x7, x8], []⟩) ⟨s, [], _, _, _, hs, fun c h => (List.not_mem_nil h).elim, rfl, rfl⟩ ?_ ?_
  · rintro pre z post ρ e ⟨s, cs, x5, x7, x8, hs, hcs, hpre, rfl⟩
    have lcs : cs.length ≤ 3 := by
      have h1 := congrArg List.length hpre
      have h2 := congrArg List.length e
      simp at h1 h2
      omega
    walk_at "dl"
    refine hd _ _ _ hs (by omega) (by omega) fun v s hs v0 v1 => ?_
    walk_at "dl"
    refine hd _ _ _ hs (by omega) (by omega) fun v2 s hs v20 v21 => ?_
    have ea : ∃ all : Bool, atI [D.str "one", D.str "all"] v2 = some (.str (if all then "all" else "one")) := by
      have : v2 = 0 ∨ v2 = 1 := by omega
      rcases this with rfl | rfl
      · exact ⟨false, rfl⟩
      · exact ⟨true, rfl⟩
    obtain ⟨all, ea⟩ := ea
    walk_at "dl"
    rw [ea]
    walk_at "dl"
    refine hpr _ _ _ all _ hs fun s ks p hs hp hname h1 h2 h3 => ?_
    subst hname
    walk_at "dl"
    rw [h1]
    walk_at "dl"
    refine hd _ _ _ hs (by omega) (by omega) fun v3 s hs v30 v31 => ?_
    walk_at "dl"
    refine ⟨fun _ => ?_, fun _ => ?_⟩
    · have cb : cutD p.body none (some (-1)) = p.head ++ [p.loop] ++ p.pz1 := cut_init (by simp) (by simp)
      rw [PD.d]
      walk_at "dl"
      rw [atI_of (i := 8) (n := 8) (d := .tup p.body) rfl rfl, cut_take (i := 8) (n := 8) rfl]
      walk_at "dl"
      rw [cb, h3]
      walk_at "dl"
      refine ⟨?_, by omega, by omega, s, cs ++ [(p, true)], .val (.str p.name), .val (.dict ks), .val (p.d p.bad), hs, ?_, ?_, ?_⟩
      · have := (pz_flat (n := 0) hp.pz1).2.2
        have := hp.headl
        simp
        omega
      · intro c hc
        rcases List.mem_append.mp hc with hc | hc
        · exact hcs c hc
        · rw [List.mem_singleton] at hc
          exact hc ▸ hp
      · rw [List.map_append, hpre]
        rfl
      · rw [List.map_append (f := cD), List.map_append (f := dueD)]
        rfl
    · rw [h2]
      walk_at "dl"
      refine ⟨by omega, by omega, s, cs ++ [(p, false)], .val (.str p.name), .val (.dict ks), .val (p.d p.body), hs, ?_, ?_, ?_⟩
      · intro c hc
        rcases List.mem_append.mp hc with hc | hc
        · exact hcs c hc
        · rw [List.mem_singleton] at hc
          exact hc ▸ hp
      · rw [List.map_append, hpre]
        rfl
      · rw [List.map_append (f := cD), List.map_append (f := dueD)]
        rfl
  · rintro ρ ⟨s, cs, x5, x7, x8, hs, hcs, hpre, rfl⟩
    walk_at "dl"
    subst hpre
    rw [List.length_map] at hnl
    have hCs : CsOk cs := ⟨hcs, hndS, fun c hc => (hok _ (List.mem_map.mpr ⟨c, hc, rfl⟩)).2, fun c hc => Nat.le_trans (hok _ (List.mem_map.mpr ⟨c, hc, rfl⟩)).1 (by omega), by omega⟩
    refine wp_rg0 (n := 3) (fun k ρ => ∃ x6, ρ = ⟨[.val (.scr ns), .own none s, .val (.list ((cs.map fun c => c.1.name).map .str)), .val (.tup (cs.map cD)), .own none (.list (cs.map dueD)), x5, x6, x7, x8], []⟩) ⟨_, rfl⟩ ?_ ?_
    · rintro k ρ hk ⟨x6, rfl⟩
      have hk' : k < cs.length := by omega
      have g1 : (cs.map dueD)[k]? = some (dueD cs[k]) := by simp [hk']
      have g2 : ((cs.map fun c => c.1.name).map D.str)[k]? = some (.str cs[k].1.name) := by simp [hk']
      have hc : cs[k] ∈ cs := List.getElem_mem hk'
      generalize cs[k] = c at g1 g2 hc
      have a1 : atI (cs.map dueD) (k : Int) = some (dueD c) := atI_of g1 rfl
      have a2 : atI ((cs.map fun c => c.1.name).map D.str) (k : Int) = some (.str c.1.name) := atI_of g2 rfl
      walk_at "dl"
      simp only [a1, a2]
      cases hb : c.2
      · have ed : dueD c = .tup ((c.1.S ++ c.1.P).map .str) := by rw [dueD, hb, if_neg (by simp)]
        have hp := hCs.ok c hc
        have el : ∀ d ∈ cutD ((c.1.S ++ c.1.P).map D.str) none (some 1), ∃ x, d = .str x ∧ x ∈ c.1.S ++ c.1.P := fun d hd => by
          obtain ⟨x, hx, rfl⟩ := List.mem_map.mp (mem_cut hd)
          exact ⟨x, rfl, hx⟩
        rw [ed]
        walk_at "dl"
        refine wp_eqD (n := 1) (by omega) (.tup fun d hd => by
          obtain ⟨x, rfl, hx⟩ := el d hd
          exact .str (hp.ok x (List.mem_cons_of_mem _ (List.mem_cons_of_mem _ hx)))) (eqd_one (.str (by decide +kernel))) fun bb hbb => ?_
        have hf : bb = false := by
          cases bb
          · rfl
          · have e := hbb.mp rfl
            rw [D.tup.injEq] at e
            obtain ⟨x, e1, hx⟩ := el (.str "loop") (by rw [e]; simp)
            rw [D.str.injEq] at e1
            exact (hp.nl x hx e1.symm).elim
        subst hf
        walk_at "dl"
        refine hcar _ _ _ hCs hc (fun _ => ?_) fun h => by rw [hb] at h; cases h
        walk_at "dl"
        simp only [a1, ed]
        walk_at "dl"
        refine hsame _ _ (by have := hp.ln; have := hp.lp; simp; omega) ?_
        walk_at "dl"
        exact ⟨_, rfl⟩
      · have ed : dueD c = tri "loop" c.1.name := by rw [dueD, hb, if_pos rfl]
        rw [ed, tri]
        walk_at "dl"
        rw [cut_take (i := 1) (n := 1) rfl]
        walk_at "dl"
        rw [eq_tt (n := 1) (by omega) (eqd_one (.str (by decide +kernel)))]
        walk_at "dl"
        refine href.1 _ _ _ hCs hc hb ?_
        walk_at "dl"
        simp only [a1, ed]
        walk_at "dl"
        rw [← tri, ne_tri (by decide +kernel) (hCs.st c hc)]
        walk_at "dl"
        exact ⟨_, rfl⟩
    · rintro ρ ⟨x6, rfl⟩
      have hne : ∀ x ∈ (["", (cs[0]'(by omega)).1.name ++ "_", (cs[2]'(by omega)).1.name ++ "0"] : List Str), PyData.strOk x = true ∧ x.length ≤ 100 ∧ x ∉ (cs.map fun c => c.1.name) := by
        have hsl := sh_len j hj
        obtain ⟨l0, h0, e0⟩ := hmem (cs[0]'(by omega)).1.name (List.mem_map.mpr ⟨_, List.getElem_mem _, rfl⟩)
        obtain ⟨l2, h2, e2⟩ := hmem (cs[2]'(by omega)).1.name (List.mem_map.mpr ⟨_, List.getElem_mem _, rfl⟩)
        have z0 := bad_len0 j hj l0 h0 b
        have z2 := bad_len0 j hj l2 h2 b
        have no : ∀ x : Str, x.length ≠ (sh j).length + 1 → x ∉ (cs.map fun c => c.1.name) := fun x hx hm => by
          obtain ⟨l, hl, rfl⟩ := hmem x hm
          exact hx (bad_len0 j hj l hl b).1
        intro x hx
        rw [e0, e2] at hx
        simp only [List.mem_cons, List.not_mem_nil, or_false] at hx
        rcases hx with rfl | rfl | rfl
        · exact ⟨by decide +kernel, by decide +kernel, no _ (by
            have : (Str.ofString "").length = 0 := by decide +kernel
            omega)⟩
        · exact ⟨z0.2.1.2, by omega, no _ (by omega)⟩
        · exact ⟨z2.2.2.2, by omega, no _ (by omega)⟩
      have q0 : atI ((cs.map fun c => c.1.name).map D.str) 0 = some (.str (cs[0]'(by omega)).1.name) := atI_of (n := 0) (by rw [List.getElem?_map, List.getElem?_map, List.getElem?_eq_getElem (by omega)]; rfl) rfl
      have q2 : atI ((cs.map fun c => c.1.name).map D.str) 2 = some (.str (cs[2]'(by omega)).1.name) := atI_of (n := 2) (by rw [List.getElem?_map, List.getElem?_map, List.getElem?_eq_getElem (by omega)]; rfl) rfl
      have l0 := (hok _ (List.mem_map.mpr ⟨_, List.getElem_mem (l := cs) (n := 0) (by omega), rfl⟩)).1
      have l2 := (hok _ (List.mem_map.mpr ⟨_, List.getElem_mem (l := cs) (n := 2) (by omega), rfl⟩)).1
      generalize (cs[0]'(by omega)).1.name = n0 at hne q0 l0
      generalize (cs[2]'(by omega)).1.name = n2 at hne q2 l2
      walk_at "dl"
      simp only [q0, q2]
      walk_at "dl"
      have u1 : (Str.ofString "_").length = 1 := by decide +kernel
      have u2 : (Str.ofString "0").length = 1 := by decide +kernel
      refine ⟨by omega, by omega, ?_⟩
      refine wp_forM (zs := (["", n0 ++ "_", n2 ++ "0"] : List Str)) (g := D.str) (fun _ ρ => ∃ x5, ρ = ⟨[.val (.scr ns), .own none s, .val (.list ((cs.map fun c => c.1.name).map .str)), .val (.tup (cs.map cD)), .own none (.list (cs.map dueD)), x5, x6, x7, x8], []⟩) ⟨_, rfl⟩ ?_ ?_
      · rintro pre z post ρ e ⟨x5, rfl⟩
        obtain ⟨g1, g2, g3⟩ := hne z (by rw [e]; simp)
        walk_at "dl"
        refine href.2 _ _ _ hCs g1 g2 g3 ?_
        walk_at "dl"
        rw [← tri, ne_tri (by decide +kernel) g1]
        walk_at "dl"
        exact ⟨_, rfl⟩
      · rintro ρ ⟨x5, rfl⟩
        walk_at "dl"
end G

namespace G
open PySem L2 DL
local macro_rules | `(tactic| walk_at "dl") => `(tactic| simp only [↓wp_fnX, ↓wp_xSeq, ↓wp_xOf, ↓wp_xeOf, ↓wp_xIf, ↓wp_xDrop, ↓wp_xRet, ↓wp_xSet, ↓wp_xFld, ↓wp_xRaise, ↓wp_xCall, ↓wp_xSkip, ↓wp_sTryM, ↓wp_runH, ↓wp_eExc, ↓wp_eBl, ↓wp_eFld, ↓wp_sFldSet, ↓wp_eMake, ↓wp_eMeth, ↓wp_runF, ↓wp_eDict, ↓wp_sNewD, ↓wp_sNewLc, ↓wp_sNewAdd, ↓wp_pNil, ↓wp_pCons, ↓wp_dispNil, ↓wp_dispCons, ↓wp_catR, ↓wp_body, ↓wp_bodyO, ↓wp_seq, ↓wp_sIf, ↓wp_sRet, ↓wp_sRetN, ↓wp_sRetO, ↓wp_sRetL, ↓wp_sSet, ↓wp_sNewL, ↓wp_callO, ↓wp_call, ↓wp_sAug, ↓wp_sPar, ↓wp_sUnp, ↓wp_sStore, ↓wp_eMutL, ↓wp_srcSeq, ↓wp_srcRg, ↓wp_srcZip, ↓wp_sSkip, ↓wp_sBrk, ↓wp_sDrop, ↓wp_sFor,
  ↓wp_C, ↓wp_eBin, ↓wp_eUn, ↓wp_eRev, ↓wp_bVal, ↓wp_bTru, ↓wp_bNot, ↓wp_bAnd, ↓wp_bOr, ↓wp_bYes, ↓wp_eAnd, ↓wp_eOr, ↓wp_eNot, ↓wp_eIf, ↓wp_aNil, ↓wp_aCons, ↓wp_eTup, ↓wp_eLst, ↓wp_eCB, ↓wp_eIsi, ↓wp_oNone, ↓wp_oSome, ↓wp_eSl, ↓wp_eLstR1, ↓wp_eChain, ↓wp_lc,
  ↓wp_some, ↓wp_peeks, ↓wp_escs, ↓wp_lent, ↓wp_giveBack, ↓wp_gave, ↓wp_listAt, ↓wp_mutAt, seqK_nx, seqK_rt, seqK_ro, seqK_bk, seqK_ct, endK_rt, endK_nx, endO_ro, callK_ok, callOK_ok, turnK_nx, midK_nx, midK_rt, midK_bk, midK_ct, turnK_rt, iteP_t, iteP_f, asI_int, asB_bl, chainK_bl,
  eVar_at, varR_val, varR_own, varR_lck, peek_val, peek_ref, peekS_val, peekS_own, peekS_lck, peeks_nil, esc_val, esc_ref, escR_own, escR_val, escs_nil, ownS_own, lent_nil, places_nil, places_ref, giveBack_nil, gaveS_own, gave_nil, lend_nil, lend_val, lend_own, srcOf_at, srcS_own, srcS_lck, srcS_list, srcS_tup, sorted_ints, srcOf_list, srcOf_tup, unlk_none, unlk_some, unlkS_lck, unlkF_nx, unlkF_rt, intAt_S, intS_val, ownAt_ref, ownO_own, tNm_ok,
  add_int, add_tup, add_list, add_str, sub_int, mul_int, fdv_int, mod_int, pow_int, neg_int, lt_int, le_int, gt_int, ge_int, eq_int, ne_int, eq_self, eq_str, ne_str, is_bl, is_non, at_list, at_tup, atI_0, atI_1, atI_2, atI_3, DL.sl_tup, DL.sl_list, DL.sl_str, rev_tup, rev_list, len_list, len_tup, len_str, len_scr, abs_int, int_int, tuple_list, tuple_tup, list_list, list_tup, list_scr, min_int, max_int, str_int, app_list, ext_list, sum_ints, int_bl, ins_list, store_0, store_1, store_2, store_3, rg1_int, rg2_int, zip_tup, zip_list, tru_bl, isT_int, isT_str, isT_tup, isT_list, DL.isNon,
  List.getElem?_cons_zero, List.getElem?_cons_succ, List.set_cons_zero, List.set_cons_succ, List.cons_append, List.nil_append, List.length_cons, List.length_nil, List.reduceReplicate, List.take_succ_cons, List.take_zero, List.drop_succ_cons, List.drop_zero, List.take_nil, List.drop_nil, List.append_nil,
  Nat.reduceAdd, Nat.reduceSub, Int.reduceAdd, Int.reduceSub, Int.reduceMul, Int.reduceLT, Int.reduceLE, Int.reduceGT, Int.reduceEq, Int.reduceNeg, Int.reducePow, Int.reduceToNat, Nat.reduceLT, Nat.reducePow, cm_l, cm_r, ok62_of, ↓tTp_ok, ↓wp_tsCons, tsNil_ok, wipeE_nil, wipeE_cons, restE_nil, restE_cons, plainE_nil, plainE_cons, plainS_emp, plainS_val, Bool.and_self, Bool.and_true, List.getD_cons_zero, List.getD_cons_succ, cut_1, all_map, any_map, sz_le, sz_lt, fits_nil, fits_cons, Nat.reduceLeDiff, Nat.zero_add, lo_small, Int.zero_add, List.length_map, Int.natCast_add, Int.cast_ofNat_Int, decide_true, decide_false, Bool.not_true, Bool.not_false, List.nodup_cons, List.nodup_nil, List.not_mem_nil, not_false_eq_true, and_self, and_true, true_and, true_implies, reduceCtorEq, List.mem_cons, or_false, iteP_dec, iteP_not,
  xseqK_nx, xseqK_rt, xseqK_er, xdropK_ok, xdropK_er, xretK_ok, xretK_er, xsetK_ok, xsetK_er, xfldK_ok, xfldK_er, xcallK_ok, xcallK_er, endX_rt, endX_nx, endX_er, pureX_nil, tryK_fl, tryK_er, rtK_rt, strV_str, lstV_list, addL_list, mkK_ok, elook_nil, elook_cons, look_nil, look_cons, fld_inst, set_inst, putG_nil, putG_cons, hasM_inst, catR_str, key_str, key_int, keyRV_val, at_dict, store_dict, valD_cons, valD_nil, valD_put, merge_nil, merge_cons, isB_eq, Option.getD_some,
  En.set, En.put, En.new, entE_eq, deref_nil, pureOk_nil, obj_slot, plc_ref, plc_cel, upd_slot, updS_own, upd_cell, obj_cell, celS_c, isLst_list, unlk_cell, srcOf_cel, celLS_list,
  ofs_eq, Sum.inr.injEq, Sum.inl.injEq, String.reduceEq, if_true, if_false, List.mem_singleton, true_or, or_true, false_or, and_false, false_and])
theorem t_draw (k : Nat) : DrawOk (tab (k + 1)).f_law_draw := draw_ok (tab k)
theorem t_start (k : Nat) : StartOk (tab (k + 1)).f_law_start := start_ok (tab k)
theorem t_one (k : Nat) : OneOk (tab (k + 2)).f_law_one_of := one_ok (T := tab (k + 1)) (t_draw k)
theorem t_shuf (k : Nat) : ShufOk (tab (k + 2)).f_law_shuffled := shuf_ok (T := tab (k + 1)) (t_draw k)
theorem t_words (k : Nat) : WordsOk (tab (k + 2)).f_law_words := words_ok (T := tab (k + 1)) (t_draw k)
theorem t_lw (k : Nat) : LWOk (tab (k + 3)).f_law_loop_words := lw_ok (T := tab (k + 2)) (t_draw (k + 1)) (t_words k)
theorem t_sum0 (k : Nat) : SumOk 0 (tab (k + 3)).f_law_sum_of := sum_ok (T := tab (k + 2)) (t_draw (k + 1)) (t_one k) (fun m e => by omega) (by omega)
theorem t_sum1 (k : Nat) : SumOk 1 (tab (k + 4)).f_law_sum_of := sum_ok (T := tab (k + 3)) (t_draw (k + 2)) (t_one (k + 1)) (fun m e => by
  obtain rfl : m = 0 := by omega
  exact t_sum0 k) (by omega)
theorem t_sum2 (k : Nat) : SumOk 2 (tab (k + 5)).f_law_sum_of := sum_ok (T := tab (k + 4)) (t_draw (k + 3)) (t_one (k + 2)) (fun m e => by
  obtain rfl : m = 1 := by omega
  exact t_sum1 k) (by omega)
theorem t_item (k : Nat) : GenOk (fun N it d => Sm N it 2 d) (tab (k + 3)).f_law_item_sum := item_ok (T := tab (k + 2)) (t_draw (k + 1)) (t_one k)
theorem t_test (k : Nat) : TGenOk (fun N it d => Tst N it 0 d) (tab (k + 4)).f_law_one_test := test_ok (T := tab (k + 3)) (t_draw (k + 2)) (t_one (k + 1)) (t_item k)
theorem t_ltest (k : Nat) : TGenOk (fun N it d => Tst N it 1 d) (tab (k + 5)).f_law_loop_test := ltest_ok (T := tab (k + 4)) (t_draw (k + 3)) (t_test k)
theorem t_sets (k : Nat) : SetsOk (tab (k + 6)).f_law_loop_sets := sets_ok (T := tab (k + 5)) (t_draw (k + 4)) (t_one (k + 3)) (t_sum2 k)
theorem t_block (k : Nat) : BlockOk (tab (k + 7)).f_law_loop_block := block_ok (T := tab (k + 6)) (t_draw (k + 5)) (t_ltest (k + 1)) (t_sets k)
theorem t_with (k : Nat) : WithOk (tab (k + 8)).f_law_loop_with := with_ok (T := tab (k + 7)) (t_draw (k + 6)) (t_lw (k + 4)) (t_sets (k + 1)) (t_block k) (t_shuf (k + 5)) (t_sum2 (k + 2))
theorem t_proc (k : Nat) : ProcOk (tab (k + 9)).f_law_loop_proc := proc_ok (T := tab (k + 8)) (t_draw (k + 7)) (t_with k)
theorem t_wp (n : Nat) : ∀ k, WpOk n (tab (k + n + 1)).without_pauses := by
  induction n with
  | zero => exact fun k => wp_ok (T := tab k) fun m e => by omega
  | succ n ih =>
    intro k
    refine wp_ok (T := tab (k + n + 1)) fun m e => ?_
    obtain rfl : m = n := by omega
    exact ih k
theorem t_wi (n : Nat) : ∀ k, n ≤ 60 → WiOk n (tab (k + n + 1)).with_item := by
  induction n with
  | zero => exact fun k h => wi_ok (T := tab k) h fun m e => by omega
  | succ n ih =>
    intro k h
    refine wi_ok (T := tab (k + n + 1)) h fun m e => ?_
    obtain rfl : m = n := by omega
    exact ih k (by omega)
theorem t_idx (k : Nat) : IdxOk (tab (k + 1)).index_of := idx_ok (T := tab k)
theorem t_issum (n : Nat) : ∀ k, IsSum n (tab (k + n + 1)).is_sum := by
  induction n with
  | zero => exact fun k => issum_ok (T := tab k) fun m e => by omega
  | succ n ih =>
    intro k
    refine issum_ok (T := tab (k + n + 1)) fun m e => ?_
    obtain rfl : m = n := by omega
    exact ih k
theorem t_istst (n : Nat) : ∀ k, IsTst n (tab (k + n + 4)).is_test := by
  induction n with
  | zero => exact fun k => istest_ok (T := tab (k + 3)) (t_issum 2 k) fun m e => by omega
  | succ n ih =>
    intro k
    refine istest_ok (T := tab (k + n + 4)) (t_issum 2 (k + n + 1)) fun m e => ?_
    obtain rfl : m = n := by omega
    exact ih k
theorem t_isstr (n : Nat) : ∀ k, IsStr n (tab (k + n + 6)).is_straight := by
  induction n with
  | zero => exact fun k => isstr_ok (T := tab (k + 5)) (t_issum 2 (k + 2)) (t_istst 1 k) fun m e => by omega
  | succ n ih =>
    intro k
    refine isstr_ok (T := tab (k + n + 6)) (t_issum 2 (k + n + 3)) (t_istst 1 (k + n + 1)) fun m e => ?_
    obtain rfl : m = n := by omega
    exact ih k
theorem t_linit (k : Nat) : LinitOk (tab (k + 14)).Loop_init := loopinit_ok (T := tab (k + 13)) (t_wi 12 k (by omega))
theorem t_parts (k : Nat) : PartsOk (tab (k + 15)).parts_of := parts_ok (T := tab (k + 14)) (t_wp 3 (k + 10)) (t_idx (k + 13)) (t_isstr 0 (k + 8)) (t_isstr 2 (k + 6)) (t_issum 2 (k + 11)) (t_linit k)
theorem t_partsb (k : Nat) : PartsBad (tab (k + 15)).parts_of := parts_bad (T := tab (k + 14)) (t_wp 3 (k + 10))
theorem t_chk (k : Nat) : ChkOk (tab (k + 1)).check_name := chk_ok (T := tab k)
theorem t_named (k : Nat) : NamedOk (tab (k + 1)).proc_named := named_ok (T := tab k)
theorem t_loop (k : Nat) : LoopOk (tab (k + 16)).loop_of := loop_ok (T := tab (k + 15)) (t_chk (k + 14)) (t_named (k + 14)) (t_parts k) (t_partsb k)
theorem t_loopn (k : Nat) : LoopNo (tab (k + 16)).loop_of := loop_no (T := tab (k + 15)) (t_chk (k + 14))
theorem t_car (k : Nat) : CarOk (tab (k + 17)).carried_of := car_ok (T := tab (k + 16)) (t_loop k)
theorem t_carn (k : Nat) : LoopNo (tab (k + 17)).carried_of := car_no (T := tab (k + 16)) (t_loopn k)
theorem t_ref (k : Nat) : RefOk (tab (k + 18)).f_law_refused := ref_ok (T := tab (k + 17)) (t_car k) (t_carn k)
theorem t_sameS (k : Nat) : SameS (tab (k + 1)).f_law_same := sameS_ok (T := tab k)
theorem t_same (k : Nat) : SameOk (tab (k + 2)).f_law_same := same_ok (T := tab (k + 1)) (t_sameS k)
theorem law_true (ns : List Int) : (tab 41).law [.scr ns] = some (.ok (.bl true), []) := by
  have h := law_ok (T := tab 40) (t_start 39) (t_draw 39) (t_words 38) (t_proc 31) (t_car 23) (t_ref 22) (t_same 38) ns
  obtain ⟨r, h1, rfl⟩ := h
  exact h1
end G

open PySem PySem.W PyProof.Rows in
set_option maxRecDepth 100000 in
set_option maxHeartbeats 0 in
theorem PySem.Challenge.cw_cutanywhere_k01_carried_of_holds : PySem.Challenge.rw_cutanywhere_k01_carried_of.Holds := by
  w_on; o_law; k_head; (case hw => w_witness2)
  k_fill
  refine G.walk (l := PySem.Challenge.rw_cutanywhere_k01_carried_of) 40 ⟨rfl, by decide, by decide⟩ (fun ns _ => G.law_true ns) rfl rfl rfl (fun w h Y => PySem.W.kIn_of Y) ?F
  case F =>
    intro w mg h KX Gn
    refine' ⟨⟨PySem.W.mg_none_of KX Gn ?z0, PySem.W.mg_none_of KX Gn ?z1, PySem.W.mg_none_of KX Gn ?z2, PySem.W.mg_none_of KX Gn ?z3, PySem.W.mg_none_of KX Gn ?z4, PySem.W.mg_none_of KX Gn ?z5, PySem.W.mg_none_of KX Gn ?z6, PySem.W.mg_none_of KX Gn ?z7, PySem.W.mg_none_of KX Gn ?z8, PySem.W.mg_none_of KX Gn ?z9, PySem.W.mg_none_of KX Gn ?z10, PySem.W.mg_none_of KX Gn ?z11, DL.con_mk KX Gn ?k0 ?kr0, DL.clsAt_mk KX Gn ?ca0 ?cb0 ?cc0 ?cd0 ?ce0 ?cf0, ?er0, ?er1, DL.meetAt_mk KX Gn ?ma0 ?mb0 ?mc0 ?md0 ?me0 ?mf0, DL.meetAt_mk KX Gn ?ma1 ?mb1 ?mc1 ?md1 ?me1 ?mf1, DL.meetAt_mk KX Gn ?ma2 ?mb2 ?mc2 ?md2 ?me2 ?mf2, DL.isAt_mk KX Gn ?ia0 ?ib0 ?ic0 ?id0 ?ie0 ?if0, DL.isAt_mk KX Gn ?ia1 ?ib1 ?ic1 ?id1 ?ie1 ?if1, DL.isAt_mk KX Gn ?ia2 ?ib2 ?ic2 ?id2 ?ie2 ?if2, DL.isAt_mk KX Gn ?ia3 ?ib3 ?ic3 ?id3 ?ie3 ?if3⟩, ⟨DL.fnAt_mk KX Gn ?ta0 ?tb0 ?tc0 ?td0 (fun _ _ _ _ _ _ us hl => match us, hl with | [_, _], _ => rfl), DL.iniAt_mk KX Gn ?ta1 ?tb1 ?tc1 ?td1 ?te1 ?tf1 ?tg1 ?th1 (fun _ _ _ _ _ _ us hl => match us, hl with | [_, _, _, _, _, _], _ => rfl), DL.fnAt_mk KX Gn ?ta2 ?tb2 ?tc2 ?td2 (fun _ _ _ _ _ _ us hl => match us, hl with | [_], _ => rfl), DL.fnAt_mk KX Gn ?ta3 ?tb3 ?tc3 ?td3 (fun _ _ _ _ _ _ us hl => match us, hl with | [_], _ => rfl), DL.fnAt_mk KX Gn ?ta4 ?tb4 ?tc4 ?td4 (fun _ _ _ _ _ _ us hl => match us, hl with | [_, _, _], _ => rfl), DL.fnAt_mk KX Gn ?ta5 ?tb5 ?tc5 ?td5 (fun _ _ _ _ _ _ us hl => match us, hl with | [_, _, _], _ => rfl), DL.fnAt_mk KX Gn ?ta6 ?tb6 ?tc6 ?td6 (fun _ _ _ _ _ _ us hl => match us, hl with | [_, _, _], _ => rfl), DL.fnAt_mk KX Gn ?ta7 ?tb7 ?tc7 ?td7 (fun _ _ _ _ _ _ us hl => match us, hl with | [_, _, _], _ => rfl), DL.fnAt_mk KX Gn ?ta8 ?tb8 ?tc8 ?td8 (fun _ _ _ _ _ _ us hl => match us, hl with | [_], _ => rfl), DL.fnAt_mk KX Gn ?ta9 ?tb9 ?tc9 ?td9 (fun _ _ _ _ _ _ us hl => match us, hl with | [_, _], _ => rfl), DL.fnAt_mk KX Gn ?ta10 ?tb10 ?tc10 ?td10 (fun _ _ _ _ _ _ us hl => match us, hl with | [_, _], _ => rfl), DL.fnAt_mk KX Gn ?ta11 ?tb11 ?tc11 ?td11 (fun _ _ _ _ _ _ us hl => match us, hl with | [_, _], _ => rfl), DL.fnAt_mk KX Gn ?ta12 ?tb12 ?tc12 ?td12 (fun _ _ _ _ _ _ us hl => match us, hl with | [_], _ => rfl), DL.fnAt_mk KX Gn ?ta13 ?tb13 ?tc13 ?td13 (fun _ _ _ _ _ _ us hl => match us, hl with | [_, _], _ => rfl), DL.fnAt_mk KX Gn ?ta14 ?tb14 ?tc14 ?td14 (fun _ _ _ _ _ _ us hl => match us, hl with | [_, _], _ => rfl), DL.fnAt_mk KX Gn ?ta15 ?tb15 ?tc15 ?td15 (fun _ _ _ _ _ _ us hl => match us, hl with | [_, _], _ => rfl), DL.fnAt_mk KX Gn ?ta16 ?tb16 ?tc16 ?td16 (fun _ _ _ _ _ _ us hl => match us, hl with | [_, _], _ => rfl), DL.fnAt_mk KX Gn ?ta17 ?tb17 ?tc17 ?td17 (fun _ _ _ _ _ _ us hl => match us, hl with | [_], _ => rfl), DL.fnAt_mk KX Gn ?ta18 ?tb18 ?tc18 ?td18 (fun _ _ _ _ _ _ us hl => match us, hl with | [_, _], _ => rfl), DL.fnAt_mk KX Gn ?ta19 ?tb19 ?tc19 ?td19 (fun _ _ _ _ _ _ us hl => match us, hl with | [_, _, _], _ => rfl), DL.fnAt_mk KX Gn ?ta20 ?tb20 ?tc20 ?td20 (fun _ _ _ _ _ _ us hl => match us, hl with | [_, _, _, _], _ => rfl), DL.fnAt_mk KX Gn ?ta21 ?tb21 ?tc21 ?td21 (fun _ _ _ _ _ _ us hl => match us, hl with | [_, _], _ => rfl), DL.fnAt_mk KX Gn ?ta22 ?tb22 ?tc22 ?td22 (fun _ _ _ _ _ _ us hl => match us, hl with | [_, _, _], _ => rfl), DL.fnAt_mk KX Gn ?ta23 ?tb23 ?tc23 ?td23 (fun _ _ _ _ _ _ us hl => match us, hl with | [_, _, _], _ => rfl), DL.fnAt_mk KX Gn ?ta24 ?tb24 ?tc24 ?td24 (fun _ _ _ _ _ _ us hl => match us, hl with | [_, _, _], _ => rfl), DL.fnAt_mk KX Gn ?ta25 ?tb25 ?tc25 ?td25 (fun _ _ _ _ _ _ us hl => match us, hl with | [_, _, _], _ => rfl), DL.fnAt_mk KX Gn ?ta26 ?tb26 ?tc26 ?td26 (fun _ _ _ _ _ _ us hl => match us, hl with | [_, _, _, _, _, _], _ => rfl), DL.fnAt_mk KX Gn ?ta27 ?tb27 ?tc27 ?td27 (fun _ _ _ _ _ _ us hl => match us, hl with | [_, _, _, _], _ => rfl), DL.fnAt_mk KX Gn ?ta28 ?tb28 ?tc28 ?td28 (fun _ _ _ _ _ _ us hl => match us, hl with | [_, _], _ => rfl), DL.fnAt_mk KX Gn ?ta29 ?tb29 ?tc29 ?td29 (fun _ _ _ _ _ _ us hl => match us, hl with | [_], _ => rfl)⟩⟩
    (case z0 => k_is)
    (case z1 => k_is)
    (case z2 => k_is)
    (case z3 => k_is)
    (case z4 => k_is)
    (case z5 => k_is)
    (case z6 => k_is)
    (case z7 => k_is)
    (case z8 => k_is)
    (case z9 => k_is)
    (case z10 => k_is)
    (case z11 => k_is)
    (case k0 => k_is)
    (case kr0 => exact ⟨_, rfl⟩)
    (case ca0 => k_is)
    (case cb0 => k_is)
    (case cc0 => k_is)
    (case cd0 => k_is)
    (case ce0 => k_is)
    (case cf0 => refine' List.forall_mem_cons.mpr ⟨?cf0_0, List.forall_mem_cons.mpr ⟨?cf0_1, List.forall_mem_cons.mpr ⟨?cf0_2, List.forall_mem_cons.mpr ⟨?cf0_3, List.forall_mem_cons.mpr ⟨?cf0_4, List.forall_mem_cons.mpr ⟨?cf0_5, List.forall_mem_cons.mpr ⟨?cf0_6, List.forall_mem_cons.mpr ⟨?cf0_7, (fun _ h => nomatch h)⟩⟩⟩⟩⟩⟩⟩⟩; (case cf0_0 => (show PySem.W.findIn _ _ _ = _; k_is)); (case cf0_1 => (show PySem.W.findIn _ _ _ = _; k_is)); (case cf0_2 => (show PySem.W.findIn _ _ _ = _; k_is)); (case cf0_3 => (show PySem.W.findIn _ _ _ = _; k_is)); (case cf0_4 => (show PySem.W.findIn _ _ _ = _; k_is)); (case cf0_5 => (show PySem.W.findIn _ _ _ = _; k_is)); (case cf0_6 => (show PySem.W.findIn _ _ _ = _; k_is)); (case cf0_7 => (show PySem.W.findIn _ _ _ = _; k_is)))
    (case er0 =>
      refine' DL.errAt_mk KX Gn ?q0a ?q0b ?q0c ?q0d ?q0e ?q0f ?q0r ?q0s1 ?q0s2 ?q0s3 ?q0s4 ?q0s5 ?q0s6 ?q0s7 ?q0s8 ?q0s9 ?q0s10 ?q0s11 ?q0su ?q0s12 ?q0s13 ?q0s14 ?q0t1 ?q0t2 ?q0t3 ?q0t4 ?q0h1 ?q0h2 ?q0h3 ?q0h4 ?q0v2 ?q0fe ?q0n1 ?q0n2 ?q0n3 ?q0n4 ?q0n5 ?q0bd ?q0sy
      all_goals try k_is
      all_goals try ks_is
      all_goals try k_is
      all_goals try (first | rfl | decide +kernel | exact fun _ => ⟨_, rfl⟩ | (intros; rfl) | exact fun w y t h => PySem.ErrX.says_after (by decide) (Nat.le_trans (Nat.add_le_add_left h _) (by decide +kernel)) | exact fun w y t h => PySem.ErrX.says_before (by decide) (Nat.le_trans (Nat.add_le_add_right h _) (by decide +kernel))))
    (case er1 =>
      refine' DL.errAt_mk KX Gn ?q1a ?q1b ?q1c ?q1d ?q1e ?q1f ?q1r ?q1s1 ?q1s2 ?q1s3 ?q1s4 ?q1s5 ?q1s6 ?q1s7 ?q1s8 ?q1s9 ?q1s10 ?q1s11 ?q1su ?q1s12 ?q1s13 ?q1s14 ?q1t1 ?q1t2 ?q1t3 ?q1t4 ?q1h1 ?q1h2 ?q1h3 ?q1h4 ?q1v2 ?q1fe ?q1n1 ?q1n2 ?q1n3 ?q1n4 ?q1n5 ?q1bd ?q1sy
      all_goals try k_is
      all_goals try ks_is
      all_goals try k_is
      all_goals try (first | rfl | decide +kernel | exact fun _ => ⟨_, rfl⟩ | (intros; rfl) | exact fun w y t h => PySem.ErrX.says_after (by decide) (Nat.le_trans (Nat.add_le_add_left h _) (by decide +kernel)) | exact fun w y t h => PySem.ErrX.says_before (by decide) (Nat.le_trans (Nat.add_le_add_right h _) (by decide +kernel))))
    (case ma0 => k_is)
    (case mb0 => k_is)
    (case mc0 => k_is)
    (case md0 => k_is)
    (case me0 => k_is)
    (case mf0 => k_is)
    (case ma1 => k_is)
    (case mb1 => k_is)
    (case mc1 => k_is)
    (case md1 => k_is)
    (case me1 => k_is)
    (case mf1 => k_is)
    (case ma2 => k_is)
    (case mb2 => k_is)
    (case mc2 => k_is)
    (case md2 => k_is)
    (case me2 => k_is)
    (case mf2 => k_is)
    (case ia0 => k_is)
    (case ib0 => k_is)
    (case ic0 => k_is)
    (case id0 => k_is)
    (case ie0 => k_is)
    (case if0 => first | exact fun _ => rfl | exact fun h => absurd h (by decide))
    (case ia1 => k_is)
    (case ib1 => k_is)
    (case ic1 => k_is)
    (case id1 => k_is)
    (case ie1 => k_is)
    (case if1 => first | exact fun _ => rfl | exact fun h => absurd h (by decide))
    (case ia2 => k_is)
    (case ib2 => k_is)
    (case ic2 => k_is)
    (case id2 => k_is)
    (case ie2 => k_is)
    (case if2 => first | exact fun _ => rfl | exact fun h => absurd h (by decide))
    (case ia3 => k_is)
    (case ib3 => k_is)
    (case ic3 => k_is)
    (case id3 => k_is)
    (case ie3 => k_is)
    (case if3 => first | exact fun _ => rfl | exact fun h => absurd h (by decide))
    (case ta0 => k_is)
    (case tb0 => k_is)
    (case tc0 => k_is)
    (case td0 => k_is)
    (case ta1 => k_is)
    (case tb1 => k_is)
    (case tc1 => k_is)
    (case td1 => k_is)
    (case te1 => k_is)
    (case tf1 => k_is)
    (case tg1 => k_is)
    (case th1 => k_is)
    (case ta2 => k_is)
    (case tb2 => k_is)
    (case tc2 => k_is)
    (case td2 => k_is)
    (case ta3 => k_is)
    (case tb3 => k_is)
    (case tc3 => k_is)
    (case td3 => k_is)
    (case ta4 => k_is)
    (case tb4 => k_is)
    (case tc4 => k_is)
    (case td4 => k_is)
    (case ta5 => k_is)
    (case tb5 => k_is)
    (case tc5 => k_is)
    (case td5 => k_is)
    (case ta6 => k_is)
    (case tb6 => k_is)
    (case tc6 => k_is)
    (case td6 => k_is)
    (case ta7 => k_is)
    (case tb7 => k_is)
    (case tc7 => k_is)
    (case td7 => k_is)
    (case ta8 => k_is)
    (case tb8 => k_is)
    (case tc8 => k_is)
    (case td8 => k_is)
    (case ta9 => k_is)
    (case tb9 => k_is)
    (case tc9 => k_is)
    (case td9 => k_is)
    (case ta10 => k_is)
    (case tb10 => k_is)
    (case tc10 => k_is)
    (case td10 => k_is)
    (case ta11 => k_is)
    (case tb11 => k_is)
    (case tc11 => k_is)
    (case td11 => k_is)
    (case ta12 => k_is)
    (case tb12 => k_is)
    (case tc12 => k_is)
    (case td12 => k_is)
    (case ta13 => k_is)
    (case tb13 => k_is)
    (case tc13 => k_is)
    (case td13 => k_is)
    (case ta14 => k_is)
    (case tb14 => k_is)
    (case tc14 => k_is)
    (case td14 => k_is)
    (case ta15 => k_is)
    (case tb15 => k_is)
    (case tc15 => k_is)
    (case td15 => k_is)
    (case ta16 => k_is)
    (case tb16 => k_is)
    (case tc16 => k_is)
    (case td16 => k_is)
    (case ta17 => k_is)
    (case tb17 => k_is)
    (case tc17 => k_is)
    (case td17 => k_is)
    (case ta18 => k_is)
    (case tb18 => k_is)
    (case tc18 => k_is)
    (case td18 => k_is)
    (case ta19 => k_is)
    (case tb19 => k_is)
    (case tc19 => k_is)
    (case td19 => k_is)
    (case ta20 => k_is)
    (case tb20 => k_is)
    (case tc20 => k_is)
    (case td20 => k_is)
    (case ta21 => k_is)
    (case tb21 => k_is)
    (case tc21 => k_is)
    (case td21 => k_is)
    (case ta22 => k_is)
    (case tb22 => k_is)
    (case tc22 => k_is)
    (case td22 => k_is)
    (case ta23 => k_is)
    (case tb23 => k_is)
    (case tc23 => k_is)
    (case td23 => k_is)
    (case ta24 => k_is)
    (case tb24 => k_is)
    (case tc24 => k_is)
    (case td24 => k_is)
    (case ta25 => k_is)
    (case tb25 => k_is)
    (case tc25 => k_is)
    (case td25 => k_is)
    (case ta26 => k_is)
    (case tb26 => k_is)
    (case tc26 => k_is)
    (case td26 => k_is)
    (case ta27 => k_is)
    (case tb27 => k_is)
    (case tc27 => k_is)
    (case td27 => k_is)
    (case ta28 => k_is)
    (case tb28 => k_is)
    (case tc28 => k_is)
    (case td28 => k_is)
    (case ta29 => k_is)
    (case tb29 => k_is)
    (case tc29 => k_is)
    (case td29 => k_is)
