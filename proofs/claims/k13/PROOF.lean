import PyProof.Rows.All
import Wide.All
import OpenK.AllK
import Wide.FinOn
import HandS.ForMost
import HandS.ForExc
import HandS.StrMore
import HandS.TupAny
import HandS.IsInst
import HandS.Style
import HandS.SortInts
import HandS.DictTup
import HandS.TryOnly
import HandS.Zip
import HandS.More
import HandS.ExcOwn
import HandS.ExcIs
import HandS.Conv
import HandS.SetFor
import HandS.SetKeys
import PySem.Challenge.RW_greatkeep_k13_whole_pages
set_option Elab.async false
set_option linter.all false
set_option maxRecDepth 100000
set_option maxHeartbeats 4000000
/-! The abstract layer: Python values as data D, mutable objects as entries of a list, readings lifted to these. -/
namespace AB
open PySem L2

/-- a value: what never changes stands written out; obj n is the n-th entry of the state -/
inductive D where
  | non | bl (b : Bool) | int (i : Int) | str (x : Str) | tup (xs : List D) | lst (xs : List D) | lsk (xs : List D) | obj (n : Nat) | raw (v : V)
/-- what may change -/
inductive Ent where
  | lst (xs : List D) | dK (kvs : List (Key × D)) | lk (kvs : List (Key × D)) | dT (kvs : List (List Key × D)) | ins (C : Addr) (fs : List (Str × D)) | gone
abbrev Th := List Ent
abbrev G := List (Option D)

def FzL (H : Hp) (a : Addr) (xs : List V) : Prop := ∃ o, H a = some (.frz o (.lst xs))
theorem FzL.rd {H : Hp} {a : Addr} {xs : List V} (h : FzL H a xs) : Rd H a (.lst xs) := .inr h
/-- a list of the module's own, or a frozen one -/
def FkL (K : PySem.W.Frag) (H : Hp) (a : Addr) (xs : List V) : Prop := FzL H a xs ∨
    ∃ (o : Obj) (its : Array Value) (n : Nat), K.lookup a = some o ∧ o.cls = .type "list" ∧ o.dict = none ∧ o.data = .seq its n ∧ its.size ≤ sizeLine ∧ Vals xs its.toList
theorem FkL.sq {K : PySem.W.Frag} {H : Hp} {a : Addr} {xs : List V} (h : FkL K H a xs) : SqL K H a xs := by
  rcases h with h | h
  · exact .inl h.rd
  · exact .inr h

section
variable (K : PySem.W.Frag) (H : Hp) (α : Nat → Addr) (N : Nat)
mutual
def Rep : D → V → Prop
  | .non, v => v = .non
  | .bl b, v => v = .bl b
  | .int i, v => v = .int i
  | .str x, v => v = .str x
  | .tup ds, v => ∃ a vs, v = .ref a ∧ H a = some (.tup vs) ∧ Reps ds vs
  | .lst ds, v => ∃ a vs, v = .ref a ∧ FzL H a vs ∧ Reps ds vs
  | .lsk ds, v => ∃ a vs, v = .ref a ∧ FkL K H a vs ∧ Reps ds vs
  | .obj n, v => n < N ∧ v = .ref (α n)
  | .raw x, v => v = x
def Reps : List D → List V → Prop
  | [], vs => vs = []
  | d :: ds, vs => ∃ v ws, vs = v :: ws ∧ Rep d v ∧ Reps ds ws
end
def KRep {κ : Type} (kvs : List (κ × D)) (ws : List (κ × V)) : Prop := kvs.map (·.1) = ws.map (·.1) ∧ Reps K H α N (kvs.map (·.2)) (ws.map (·.2))
def EntAt (a : Addr) : Ent → Prop
  | .lst ds => ∃ vs, H a = some (.lst vs) ∧ Reps K H α N ds vs
  | .dK kvs => ∃ ws, H a = some (.dK ws) ∧ KRep K H α N kvs ws
  | .lk kvs => ∃ o ws, H a = some (.frz o (.dK ws)) ∧ KRep K H α N kvs ws
  | .dT kvs => ∃ ws, H a = some (.dT ws) ∧ KRep K H α N kvs ws
  | .ins C fs => ∃ dx ws, H a = some (.ins C dx ws) ∧ KRep K H α N fs ws
  | .gone => H a ≠ none
/-- the state: each entry stands at its own address -/
structure Sta (θ : Th) : Prop where
  ent : ∀ n e, θ[n]? = some e → EntAt K H α θ.length (α n) e
  inj : ∀ n m, n < θ.length → m < θ.length → α n = α m → n = m
/-- the frame's slots -/
def Slots (σ : L2.St) (Γ : G) : Prop := Γ.length = σ.length ∧ ∀ (i : Nat) (d : D), Γ[i]? = some (some d) → ∃ v : V, σ[i]? = some (some v) ∧ Rep K H α N d v
end
/-- what never changes stays -/
structure Pers (H H' : Hp) : Prop where
  tup : ∀ a vs, H a = some (.tup vs) → H' a = some (.tup vs)
  frz : ∀ a o u, H a = some (.frz o u) → H' a = some (.frz o u)
theorem Pers.refl (H : Hp) : Pers H H := ⟨fun _ _ h => h, fun _ _ _ h => h⟩
theorem Pers.trans {H H1 H2 : Hp} (a : Pers H H1) (b : Pers H1 H2) : Pers H H2 := ⟨fun c v h => b.tup c v (a.tup c v h), fun c o v h => b.frz c o v (a.frz c o v h)⟩
theorem Pers.same {H H' : Hp} (s : ∀ b o, H b = some o → H' b = some o) : Pers H H' := ⟨fun a vs h => s a _ h, fun a o vs h => s a _ h⟩
theorem same_new {H : Hp} {p : Addr} {o : HO} (h : H p = none) : ∀ b u, H b = some u → (upd H p o) b = some u := fun b u e => by rw [upd_ne (ne_of_none e h)]; exact e
theorem Pers.new {H : Hp} {p : Addr} {o : HO} (h : H p = none) : Pers H (upd H p o) := Pers.same (same_new h)
theorem Pers.write {H : Hp} {p : Addr} {u o : HO} (h : H p = some u) (mu : Mut (some u)) : Pers H (upd H p o) := by
  refine ⟨fun a vs e => ?_, fun a o vs e => ?_⟩
  · rw [upd_ne (ne_of e h (by rintro rfl; exact mu))]; exact e
  · rw [upd_ne (ne_of e h (by rintro rfl; exact mu))]; exact e

/-- from a state to a later one -/
structure Nx (α : Nat → Addr) (n : Nat) (H : Hp) (α' : Nat → Addr) (n' : Nat) (H' : Hp) : Prop where
  ag : ∀ m, m < n → α' m = α m
  le : n ≤ n'
  per : Pers H H'
theorem Nx.refl (α : Nat → Addr) (n : Nat) (H : Hp) : Nx α n H α n H := ⟨fun _ _ => rfl, Nat.le_refl _, Pers.refl H⟩
theorem Nx.trans {α α1 α2 : Nat → Addr} {n n1 n2 : Nat} {H H1 H2 : Hp} (a : Nx α n H α1 n1 H1) (b : Nx α1 n1 H1 α2 n2 H2) : Nx α n H α2 n2 H2 :=
  ⟨fun m h => (b.ag m (Nat.lt_of_lt_of_le h a.le)).trans (a.ag m h), Nat.le_trans a.le b.le, a.per.trans b.per⟩
theorem Nx.of (α : Nat → Addr) (n : Nat) {H H' : Hp} (p : Pers H H') : Nx α n H α n H' := ⟨fun _ _ => rfl, Nat.le_refl _, p⟩

section
variable {K : PySem.W.Frag} {H H' : Hp} {α α' : Nat → Addr} {N N' : Nat}
theorem FzL.mono {a : Addr} {xs : List V} (p : Pers H H') (h : FzL H a xs) : FzL H' a xs := let ⟨o, h⟩ := h; ⟨o, p.frz _ _ _ h⟩
theorem FkL.mono {a : Addr} {xs : List V} (p : Pers H H') (h : FkL K H a xs) : FkL K H' a xs := h.elim (fun h => .inl (h.mono p)) .inr
mutual
theorem Rep.mono (x : Nx α N H α' N' H') : ∀ (d : D) (v : V), Rep K H α N d v → Rep K H' α' N' d v
  | .non, _, h => h
  | .bl _, _, h => h
  | .int _, _, h => h
  | .str _, _, h => h
  | .tup ds, v, h => by
    unfold Rep at h ⊢
    obtain ⟨a, vs, e, h1, h2⟩ := h
    exact ⟨a, vs, e, x.per.tup _ _ h1, Reps.mono x ds vs h2⟩
  | .lst ds, v, h => by
    unfold Rep at h ⊢
    obtain ⟨a, vs, e, h1, h2⟩ := h
    exact ⟨a, vs, e, h1.mono x.per, Reps.mono x ds vs h2⟩
  | .lsk ds, v, h => by
    unfold Rep at h ⊢
    obtain ⟨a, vs, e, h1, h2⟩ := h
    exact ⟨a, vs, e, h1.mono x.per, Reps.mono x ds vs h2⟩
  | .obj n, v, h => by
    unfold Rep at h ⊢
    exact ⟨Nat.lt_of_lt_of_le h.1 x.le, by rw [x.ag n h.1]; exact h.2⟩
  | .raw _, _, h => h
theorem Reps.mono (x : Nx α N H α' N' H') : ∀ (ds : List D) (vs : List V), Reps K H α N ds vs → Reps K H' α' N' ds vs
  | [], _, h => h
  | d :: ds, vs, h => by
    unfold Reps at h ⊢
    obtain ⟨v, ws, e, h1, h2⟩ := h
    exact ⟨v, ws, e, Rep.mono x d v h1, Reps.mono x ds ws h2⟩
end
theorem KRep.mono {κ : Type} {kvs : List (κ × D)} {ws : List (κ × V)} (x : Nx α N H α' N' H') (h : KRep K H α N kvs ws) : KRep K H' α' N' kvs ws := ⟨h.1, Reps.mono x _ _ h.2⟩
/-- an entry whose object is as it was -/
theorem EntAt.mono {a : Addr} {e : Ent} (x : Nx α N H α' N' H') (h : EntAt K H α N a e) (s : ∀ o, H a = some o → H' a = some o) : EntAt K H' α' N' a e := by
  cases e with
  | lst ds => obtain ⟨vs, h1, h2⟩ := h; exact ⟨vs, s _ h1, Reps.mono x _ _ h2⟩
  | dK kvs => obtain ⟨vs, h1, h2⟩ := h; exact ⟨vs, s _ h1, h2.mono x⟩
  | lk kvs => obtain ⟨o, vs, h1, h2⟩ := h; exact ⟨o, vs, s _ h1, h2.mono x⟩
  | dT kvs => obtain ⟨vs, h1, h2⟩ := h; exact ⟨vs, s _ h1, h2.mono x⟩
  | ins C fs => obtain ⟨dx, vs, h1, h2⟩ := h; exact ⟨dx, vs, s _ h1, h2.mono x⟩
  | gone => 
    intro z
    cases q : H a with
    | none => exact h q
    | some o => rw [s o q] at z; cases z
theorem Slots.mono {σ : L2.St} {Γ : G} (x : Nx α N H α' N' H') (h : Slots K H α N σ Γ) : Slots K H' α' N' σ Γ :=
  ⟨h.1, fun i d e => let ⟨v, h1, h2⟩ := h.2 i d e; ⟨v, h1, Rep.mono x _ _ h2⟩⟩
theorem Reps.length : ∀ {ds : List D} {vs : List V}, Reps K H α N ds vs → ds.length = vs.length
  | [], vs, h => by unfold Reps at h; rw [h]; rfl
  | d :: ds, vs, h => by
    unfold Reps at h
    obtain ⟨v, ws, rfl, _, h2⟩ := h
    rw [List.length_cons, List.length_cons, Reps.length h2]
theorem Reps.nil : Reps K H α N [] [] := by unfold Reps; rfl
theorem Reps.cons {d : D} {v : V} {ds : List D} {vs : List V} (a : Rep K H α N d v) (b : Reps K H α N ds vs) : Reps K H α N (d :: ds) (v :: vs) := by
  unfold Reps; exact ⟨v, vs, rfl, a, b⟩
theorem Reps.uncons {d : D} {ds : List D} {vs : List V} (h : Reps K H α N (d :: ds) vs) : ∃ v ws, vs = v :: ws ∧ Rep K H α N d v ∧ Reps K H α N ds ws := by
  unfold Reps at h; exact h
theorem Reps.get : ∀ {ds : List D} {vs : List V} {i : Nat} {d : D}, Reps K H α N ds vs → ds[i]? = some d → ∃ v, vs[i]? = some v ∧ Rep K H α N d v
  | [], _, _, _, _, e => by simp at e
  | d :: ds, vs, 0, d', h, e => by
    obtain ⟨v, ws, rfl, h1, h2⟩ := h.uncons
    simp at e; subst e; exact ⟨v, rfl, h1⟩
  | d :: ds, vs, i + 1, d', h, e => by
    obtain ⟨v, ws, rfl, h1, h2⟩ := h.uncons
    obtain ⟨u, q1, q2⟩ := Reps.get (i := i) h2 (by simpa using e)
    exact ⟨u, by simpa using q1, q2⟩
theorem Reps.append : ∀ {ds es : List D} {vs ws : List V}, Reps K H α N ds vs → Reps K H α N es ws → Reps K H α N (ds ++ es) (vs ++ ws)
  | [], es, vs, ws, h, g => by unfold Reps at h; subst h; exact g
  | d :: ds, es, vs, ws, h, g => by
    obtain ⟨v, us, rfl, h1, h2⟩ := h.uncons
    exact Reps.cons h1 (Reps.append h2 g)
theorem Reps.set : ∀ {ds : List D} {vs : List V} {d : D} {v : V} (i : Nat), Rep K H α N d v → Reps K H α N ds vs → Reps K H α N (ds.set i d) (vs.set i v)
  | [], vs, _, _, _, _, h => by unfold Reps at h; subst h; exact Reps.nil
  | d :: ds, vs, _, _, 0, r, h => by
    obtain ⟨v, us, rfl, h1, h2⟩ := h.uncons
    exact Reps.cons r h2
  | d :: ds, vs, _, _, i + 1, r, h => by
    obtain ⟨v, us, rfl, h1, h2⟩ := h.uncons
    exact Reps.cons h1 (Reps.set i r h2)
theorem Reps.take : ∀ {ds : List D} {vs : List V} (n : Nat), Reps K H α N ds vs → Reps K H α N (ds.take n) (vs.take n)
  | [], vs, n, h => by unfold Reps at h; subst h; rw [List.take_nil, List.take_nil]; exact Reps.nil
  | d :: ds, vs, 0, h => by rw [List.take_zero, List.take_zero]; exact Reps.nil
  | d :: ds, vs, n + 1, h => by
    obtain ⟨v, us, rfl, h1, h2⟩ := h.uncons
    exact Reps.cons h1 (Reps.take n h2)
theorem Reps.drop : ∀ {ds : List D} {vs : List V} (n : Nat), Reps K H α N ds vs → Reps K H α N (ds.drop n) (vs.drop n)
  | [], vs, n, h => by unfold Reps at h; subst h; rw [List.drop_nil, List.drop_nil]; exact Reps.nil
  | d :: ds, vs, 0, h => h
  | d :: ds, vs, n + 1, h => by
    obtain ⟨v, us, rfl, h1, h2⟩ := h.uncons
    exact Reps.drop n h2
theorem Reps.reverse {ds : List D} {vs : List V} (h : Reps K H α N ds vs) : Reps K H α N ds.reverse vs.reverse := by
  induction ds generalizing vs with
  | nil => unfold Reps at h; subst h; exact Reps.nil
  | cons d ds ih =>
    obtain ⟨v, us, rfl, h1, h2⟩ := h.uncons
    rw [List.reverse_cons, List.reverse_cons]
    exact (ih h2).append (Reps.cons h1 Reps.nil)
theorem reps_map (f : D → V) (h : ∀ d ∈ (ds : List D), Rep K H α N d (f d)) : Reps K H α N ds (ds.map f) := by
  induction ds with
  | nil => exact Reps.nil
  | cons d ds ih => exact Reps.cons (h d List.mem_cons_self) (ih fun e he => h e (List.mem_cons_of_mem _ he))
theorem reps_ints : ∀ (ns : List Int), Reps K H α N (ns.map D.int) (ns.map V.int)
  | [] => Reps.nil
  | n :: ns => Reps.cons (by unfold Rep; rfl) (reps_ints ns)
theorem reps_strs : ∀ (ns : List Str), Reps K H α N (ns.map D.str) (ns.map V.str)
  | [] => Reps.nil
  | n :: ns => Reps.cons (by unfold Rep; rfl) (reps_strs ns)
theorem of_ints : ∀ {ns : List Int} {vs : List V}, Reps K H α N (ns.map D.int) vs → vs = ns.map V.int
  | [], vs, h => by unfold List.map Reps at h; exact h
  | n :: ns, vs, h => by
    obtain ⟨v, us, rfl, h1, h2⟩ := h.uncons
    unfold Rep at h1
    rw [h1, of_ints h2]; rfl
theorem of_strs : ∀ {ns : List Str} {vs : List V}, Reps K H α N (ns.map D.str) vs → vs = ns.map V.str
  | [], vs, h => by unfold List.map Reps at h; exact h
  | n :: ns, vs, h => by
    obtain ⟨v, us, rfl, h1, h2⟩ := h.uncons
    unfold Rep at h1
    rw [h1, of_strs h2]; rfl
theorem of_bls : ∀ {ns : List Bool} {vs : List V}, Reps K H α N (ns.map D.bl) vs → vs = ns.map V.bl
  | [], vs, h => by unfold List.map Reps at h; exact h
  | n :: ns, vs, h => by
    obtain ⟨v, us, rfl, h1, h2⟩ := h.uncons
    unfold Rep at h1
    rw [h1, of_bls h2]; rfl
/-- nothing written: new things may have come -/
theorem Sta.same {θ : Th} (s : ∀ b o, H b = some o → H' b = some o) (h : Sta K H α θ) : Sta K H' α θ :=
  ⟨fun n e he => (h.ent n e he).mono (Nx.of α _ (Pers.same s)) fun o => s _ o, h.inj⟩
/-- the address of an entry is tracked -/
theorem EntAt.there {a : Addr} {e : Ent} (h : EntAt K H α N a e) : ∃ o, H a = some o := by
  cases e with
  | lst ds => obtain ⟨vs, h1, h2⟩ := h; exact ⟨_, h1⟩
  | dK kvs => obtain ⟨vs, h1, h2⟩ := h; exact ⟨_, h1⟩
  | lk kvs => obtain ⟨o, vs, h1, h2⟩ := h; exact ⟨_, h1⟩
  | dT kvs => obtain ⟨vs, h1, h2⟩ := h; exact ⟨_, h1⟩
  | ins C fs => obtain ⟨dx, vs, h1, h2⟩ := h; exact ⟨_, h1⟩
  | gone =>
    cases q : H a with
    | none => exact absurd q h
    | some o => exact ⟨o, rfl⟩
end
/-! ### how far references go -/
mutual
def D.lt (n : Nat) : D → Prop
  | .obj m => m < n
  | .tup ds => D.lts n ds
  | .lst ds => D.lts n ds
  | .lsk ds => D.lts n ds
  | _ => True
def D.lts (n : Nat) : List D → Prop
  | [] => True
  | d :: ds => D.lt n d ∧ D.lts n ds
end
def Ent.lt (n : Nat) : Ent → Prop
  | .lst ds => D.lts n ds
  | .dK kvs => D.lts n (kvs.map (·.2))
  | .lk kvs => D.lts n (kvs.map (·.2))
  | .dT kvs => D.lts n (kvs.map (·.2))
  | .ins _ fs => D.lts n (fs.map (·.2))
  | .gone => True
theorem D.lts_iff {n : Nat} : ∀ {ds : List D}, D.lts n ds ↔ ∀ d ∈ ds, D.lt n d
  | [] => by unfold D.lts; simp
  | d :: ds => by unfold D.lts; rw [D.lts_iff (ds := ds)]; simp
section
variable {K : PySem.W.Frag} {H H' : Hp} {α α' : Nat → Addr} {N N' : Nat}
mutual
theorem Rep.lt : ∀ (d : D) (v : V), Rep K H α N d v → D.lt N d
  | .non, _, _ => by unfold D.lt; trivial
  | .bl _, _, _ => by unfold D.lt; trivial
  | .int _, _, _ => by unfold D.lt; trivial
  | .str _, _, _ => by unfold D.lt; trivial
  | .tup ds, v, h => by
    unfold Rep at h; unfold D.lt
    obtain ⟨a, vs, e, h1, h2⟩ := h
    exact Reps.lt ds vs h2
  | .lst ds, v, h => by
    unfold Rep at h; unfold D.lt
    obtain ⟨a, vs, e, h1, h2⟩ := h
    exact Reps.lt ds vs h2
  | .lsk ds, v, h => by
    unfold Rep at h; unfold D.lt
    obtain ⟨a, vs, e, h1, h2⟩ := h
    exact Reps.lt ds vs h2
  | .obj n, v, h => by
    unfold Rep at h; unfold D.lt
    exact h.1
  | .raw _, _, _ => by unfold D.lt; trivial
theorem Reps.lt : ∀ (ds : List D) (vs : List V), Reps K H α N ds vs → D.lts N ds
  | [], _, _ => by unfold D.lts; trivial
  | d :: ds, vs, h => by
    unfold Reps at h; unfold D.lts
    obtain ⟨v, ws, e, h1, h2⟩ := h
    exact ⟨Rep.lt d v h1, Reps.lt ds ws h2⟩
end
mutual
theorem Rep.shrink : ∀ (d : D) (v : V), Rep K H α N d v → D.lt N' d → Rep K H α N' d v
  | .non, _, h, _ => h
  | .bl _, _, h, _ => h
  | .int _, _, h, _ => h
  | .str _, _, h, _ => h
  | .tup ds, v, h, l => by
    unfold Rep at h ⊢; unfold D.lt at l
    obtain ⟨a, vs, e, h1, h2⟩ := h
    exact ⟨a, vs, e, h1, Reps.shrink ds vs h2 l⟩
  | .lst ds, v, h, l => by
    unfold Rep at h ⊢; unfold D.lt at l
    obtain ⟨a, vs, e, h1, h2⟩ := h
    exact ⟨a, vs, e, h1, Reps.shrink ds vs h2 l⟩
  | .lsk ds, v, h, l => by
    unfold Rep at h ⊢; unfold D.lt at l
    obtain ⟨a, vs, e, h1, h2⟩ := h
    exact ⟨a, vs, e, h1, Reps.shrink ds vs h2 l⟩
  | .obj n, v, h, l => by
    unfold Rep at h ⊢; unfold D.lt at l
    exact ⟨l, h.2⟩
  | .raw _, _, h, _ => h
theorem Reps.shrink : ∀ (ds : List D) (vs : List V), Reps K H α N ds vs → D.lts N' ds → Reps K H α N' ds vs
  | [], _, h, _ => h
  | d :: ds, vs, h, l => by
    unfold Reps at h ⊢; unfold D.lts at l
    obtain ⟨v, ws, e, h1, h2⟩ := h
    exact ⟨v, ws, e, Rep.shrink d v h1 l.1, Reps.shrink ds ws h2 l.2⟩
end
theorem EntAt.lt {a : Addr} {e : Ent} (h : EntAt K H α N a e) : Ent.lt N e := by
  cases e with
  | lst ds => obtain ⟨vs, h1, h2⟩ := h; exact Reps.lt _ _ h2
  | dK kvs => obtain ⟨vs, h1, h2⟩ := h; exact Reps.lt _ _ h2.2
  | lk kvs => obtain ⟨o, vs, h1, h2⟩ := h; exact Reps.lt _ _ h2.2
  | dT kvs => obtain ⟨vs, h1, h2⟩ := h; exact Reps.lt _ _ h2.2
  | ins C fs => obtain ⟨dx, vs, h1, h2⟩ := h; exact Reps.lt _ _ h2.2
  | gone => trivial
theorem EntAt.shrink {a : Addr} {e : Ent} (h : EntAt K H α N a e) (l : Ent.lt N' e) : EntAt K H α N' a e := by
  cases e with
  | lst ds => obtain ⟨vs, h1, h2⟩ := h; exact ⟨vs, h1, Reps.shrink _ _ h2 l⟩
  | dK kvs => obtain ⟨vs, h1, h2⟩ := h; exact ⟨vs, h1, h2.1, Reps.shrink _ _ h2.2 l⟩
  | lk kvs => obtain ⟨o, vs, h1, h2⟩ := h; exact ⟨o, vs, h1, h2.1, Reps.shrink _ _ h2.2 l⟩
  | dT kvs => obtain ⟨vs, h1, h2⟩ := h; exact ⟨vs, h1, h2.1, Reps.shrink _ _ h2.2 l⟩
  | ins C fs => obtain ⟨dx, vs, h1, h2⟩ := h; exact ⟨dx, vs, h1, h2.1, Reps.shrink _ _ h2.2 l⟩
  | gone => exact h
theorem Sta.lt {θ : Th} (h : Sta K H α θ) : ∀ e ∈ θ, Ent.lt θ.length e := fun e he => by
  obtain ⟨n, hn, q⟩ := List.mem_iff_getElem.mp he
  exact (h.ent n e (by rw [List.getElem?_eq_getElem hn, q])).lt
/-- the entries from m on are forgotten -/
theorem Sta.take {θ : Th} (h : Sta K H α θ) {m : Nat} (l : ∀ e ∈ θ.take m, Ent.lt (θ.take m).length e) : Sta K H α (θ.take m) := by
  have hl : (θ.take m).length ≤ θ.length := by rw [List.length_take]; omega
  refine ⟨fun n e he => ?_, fun a b ha hb => h.inj a b (by omega) (by omega)⟩
  have he' : θ[n]? = some e := by
    rw [List.getElem?_take] at he
    split at he
    · exact he
    · cases he
  exact (h.ent n e he').shrink (l e (List.mem_of_getElem? he))
/-- a new entry, at a new address -/
def put (α : Nat → Addr) (n : Nat) (p : Addr) : Nat → Addr := fun m => if m = n then p else α m
theorem put_same (α : Nat → Addr) (n : Nat) (p : Addr) : put α n p n = p := if_pos rfl
theorem put_ne (α : Nat → Addr) {n m : Nat} (p : Addr) (h : m ≠ n) : put α n p m = α m := if_neg h
theorem Nx.put {θ : Th} {p : Addr} {e : Ent} (hs : ∀ b o, H b = some o → H' b = some o) : Nx α θ.length H (put α θ.length p) (θ ++ [e]).length H' :=
  ⟨fun m h => put_ne α p (Nat.ne_of_lt h), by rw [List.length_append]; exact Nat.le_add_right _ _, Pers.same hs⟩
theorem Sta.new {θ : Th} {p : Addr} {e : Ent} (h : Sta K H α θ) (hp : H p = none) (hs : ∀ b o, H b = some o → H' b = some o) (he : EntAt K H' (put α θ.length p) (θ ++ [e]).length p e) : Sta K H' (put α θ.length p) (θ ++ [e]) := by
  have nx : Nx α θ.length H (AB.put α θ.length p) (θ ++ [e]).length H' := Nx.put hs
  have fresh : ∀ n, n < θ.length → α n ≠ p := fun n hn z => by
    obtain ⟨o, ho⟩ := (h.ent n θ[n] (List.getElem?_eq_getElem hn)).there
    rw [z, hp] at ho; cases ho
  refine ⟨fun n e' he' => ?_, fun a b ha hb q => ?_⟩
  · by_cases hn : n < θ.length
    · rw [List.getElem?_append_left hn] at he'
      rw [put_ne α p (Nat.ne_of_lt hn)]
      exact (h.ent n e' he').mono nx fun o => hs _ o
    · have hn' : n < (θ ++ [e]).length := (List.getElem?_eq_some_iff.mp he').1
      rw [List.length_append] at hn'
      have e1 : n = θ.length := by simp at hn'; omega
      subst e1
      rw [List.getElem?_append_right (Nat.le_refl _), Nat.sub_self] at he'
      have : e = e' := by simpa using he'
      subst this
      rw [put_same]; exact he
  · rw [List.length_append] at ha hb
    have ha' : a < θ.length ∨ a = θ.length := by simp at ha; omega
    have hb' : b < θ.length ∨ b = θ.length := by simp at hb; omega
    rcases ha' with ha' | ha' <;> rcases hb' with hb' | hb'
    · rw [put_ne α p (Nat.ne_of_lt ha'), put_ne α p (Nat.ne_of_lt hb')] at q
      exact h.inj a b ha' hb' q
    · subst hb'
      rw [put_ne α p (Nat.ne_of_lt ha'), put_same] at q
      exact absurd q (fresh a ha')
    · subst ha'
      rw [put_ne α p (Nat.ne_of_lt hb'), put_same] at q
      exact absurd q.symm (fresh b hb')
    · rw [ha', hb']
/-- an entry is changed -/
theorem Sta.write {θ : Th} {n : Nat} {e' : Ent} {u o : HO} (h : Sta K H α θ) (hn : n < θ.length) (hu : H (α n) = some u) (mu : Mut (some u)) (he : EntAt K (upd H (α n) o) α (θ.set n e').length (α n) e') : Sta K (upd H (α n) o) α (θ.set n e') := by
  have nx : Nx α θ.length H α (θ.set n e').length (upd H (α n) o) := ⟨fun _ _ => rfl, by rw [List.length_set]; exact Nat.le_refl _, Pers.write hu mu⟩
  refine ⟨fun m e q => ?_, fun a b ha hb => h.inj a b (by rwa [List.length_set] at ha) (by rwa [List.length_set] at hb)⟩
  by_cases hm : m = n
  · subst hm
    rw [List.getElem?_set_self hn] at q
    cases q; exact he
  · rw [List.getElem?_set_ne (Ne.symm hm)] at q
    have hml : m < θ.length := (List.getElem?_eq_some_iff.mp q).1
    have hne : α m ≠ α n := fun z => hm (h.inj m n hml hn z)
    exact (h.ent m e q).mono nx fun o' ho => by rw [upd_ne hne]; exact ho
theorem Nx.write {θ : Th} {n : Nat} {e' : Ent} {u o : HO} (hu : H (α n) = some u) (mu : Mut (some u)) : Nx α θ.length H α (θ.set n e').length (upd H (α n) o) :=
  ⟨fun _ _ => rfl, by rw [List.length_set]; exact Nat.le_refl _, Pers.write hu mu⟩
end
end AB
namespace AB
open PySem L2
/-! ### what follows: abstract and lifted -/
abbrev AK := D → Th → Prop
abbrev AX := Value → Th → Prop
abbrev AR := G → Th → AK → AX → Prop
abbrev ATR := G → Th → (Bool → Th → Prop) → AX → Prop
abbrev AAR := G → Th → (List D → Th → Prop) → AX → Prop
structure AE where
  nx : G → Th → Prop
  rt : AK
  bk : G → Th → Prop
  ct : G → Th → Prop
  ex : Value → G → Th → Prop
abbrev ASR := AE → G → Th → Prop
/-- a def's promise -/
abbrev ASp := List D → Th → AK → AX → Prop

section
variable (K : PySem.W.Frag) (α : Nat → Addr) (n : Nat) (H : Hp)
def LkV (k : AK) (Q : VK) : Prop := ∀ (d : D) (θ' : Th) (α' : Nat → Addr) (H' : Hp) (v : V), Nx α n H α' θ'.length H' → Sta K H' α' θ' → Rep K H' α' θ'.length d v → k d θ' → Q v H'
def LkA (k : List D → Th → Prop) (Q : List V → Hp → Prop) : Prop := ∀ (d : List D) (θ' : Th) (α' : Nat → Addr) (H' : Hp) (v : List V), Nx α n H α' θ'.length H' → Sta K H' α' θ' → Reps K H' α' θ'.length d v → k d θ' → Q v H'
def LkT (k : Bool → Th → Prop) (Q : Bool → Hp → Prop) : Prop := ∀ (b : Bool) (θ' : Th) (α' : Nat → Addr) (H' : Hp), Nx α n H α' θ'.length H' → Sta K H' α' θ' → k b θ' → Q b H'
def LkX (k : AX) (E : XK) : Prop := ∀ (c : Value) (θ' : Th) (α' : Nat → Addr) (H' : Hp), Nx α n H α' θ'.length H' → Sta K H' α' θ' → k c θ' → E c none H'
def LkS (k : G → Th → Prop) (Q : L2.St → Hp → Prop) : Prop := ∀ (Γ' : G) (θ' : Th) (α' : Nat → Addr) (σ' : L2.St) (H' : Hp), Nx α n H α' θ'.length H' → Sta K H' α' θ' → Slots K H' α' θ'.length σ' Γ' → k Γ' θ' → Q σ' H'
def LkW (k : Value → G → Th → Prop) (W : WX) : Prop := ∀ (c : Value) (Γ' : G) (θ' : Th) (α' : Nat → Addr) (σ' : L2.St) (H' : Hp), Nx α n H α' θ'.length H' → Sta K H' α' θ' → Slots K H' α' θ'.length σ' Γ' → k c Γ' θ' → W c none σ' H'
end
section
variable {K : PySem.W.Frag} {α α1 : Nat → Addr} {n n1 : Nat} {H H1 : Hp}
theorem LkV.on {k : AK} {Q : VK} (h : LkV K α n H k Q) (x : Nx α n H α1 n1 H1) : LkV K α1 n1 H1 k Q := fun d θ' α' H' v y => h d θ' α' H' v (x.trans y)
theorem LkA.on {k : List D → Th → Prop} {Q : List V → Hp → Prop} (h : LkA K α n H k Q) (x : Nx α n H α1 n1 H1) : LkA K α1 n1 H1 k Q := fun d θ' α' H' v y => h d θ' α' H' v (x.trans y)
theorem LkT.on {k : Bool → Th → Prop} {Q : Bool → Hp → Prop} (h : LkT K α n H k Q) (x : Nx α n H α1 n1 H1) : LkT K α1 n1 H1 k Q := fun d θ' α' H' y => h d θ' α' H' (x.trans y)
theorem LkX.on {k : AX} {E : XK} (h : LkX K α n H k E) (x : Nx α n H α1 n1 H1) : LkX K α1 n1 H1 k E := fun d θ' α' H' y => h d θ' α' H' (x.trans y)
theorem LkS.on {k : G → Th → Prop} {Q : L2.St → Hp → Prop} (h : LkS K α n H k Q) (x : Nx α n H α1 n1 H1) : LkS K α1 n1 H1 k Q := fun d θ' α' σ' H' y => h d θ' α' σ' H' (x.trans y)
theorem LkW.on {k : Value → G → Th → Prop} {W : WX} (h : LkW K α n H k W) (x : Nx α n H α1 n1 H1) : LkW K α1 n1 H1 k W := fun c d θ' α' σ' H' y => h c d θ' α' σ' H' (x.trans y)
end
/-- the lifted readings -/
def LE (K : PySem.W.Frag) (W : WX) (a : AR) : TE := fun σ H Q => ∃ (α : Nat → Addr) (θ : Th) (Γ : G) (k : AK) (kx : AX), Sta K H α θ ∧ Slots K H α θ.length σ Γ ∧ a Γ θ k kx ∧ LkV K α θ.length H k Q ∧ LkX K α θ.length H kx (WE W σ)
def LT (K : PySem.W.Frag) (W : WX) (a : ATR) : TT := fun σ H Q => ∃ (α : Nat → Addr) (θ : Th) (Γ : G) (k : Bool → Th → Prop) (kx : AX), Sta K H α θ ∧ Slots K H α θ.length σ Γ ∧ a Γ θ k kx ∧ LkT K α θ.length H k Q ∧ LkX K α θ.length H kx (WE W σ)
def LA (K : PySem.W.Frag) (W : WX) (a : AAR) : TA := fun σ H Q => ∃ (α : Nat → Addr) (θ : Th) (Γ : G) (k : List D → Th → Prop) (kx : AX), Sta K H α θ ∧ Slots K H α θ.length σ Γ ∧ a Γ θ k kx ∧ LkA K α θ.length H k Q ∧ LkX K α θ.length H kx (WE W σ)
structure LkE (K : PySem.W.Frag) (α : Nat → Addr) (n : Nat) (H : Hp) (W : WX) (E : AE) (Dn : Ends) : Prop where
  nx : LkS K α n H E.nx Dn.nx
  rt : LkV K α n H E.rt Dn.rt
  bk : LkS K α n H E.bk Dn.bk
  ct : LkS K α n H E.ct Dn.ct
  ex : LkW K α n H E.ex W
theorem LkE.on {K : PySem.W.Frag} {α α1 : Nat → Addr} {n n1 : Nat} {H H1 : Hp} {W : WX} {E : AE} {Dn : Ends} (h : LkE K α n H W E Dn) (x : Nx α n H α1 n1 H1) : LkE K α1 n1 H1 W E Dn :=
  ⟨h.nx.on x, h.rt.on x, h.bk.on x, h.ct.on x, h.ex.on x⟩
def LS (K : PySem.W.Frag) (W : WX) (a : ASR) : TS := fun Dn σ H => ∃ (α : Nat → Addr) (θ : Th) (Γ : G) (E : AE), Sta K H α θ ∧ Slots K H α θ.length σ Γ ∧ a E Γ θ ∧ LkE K α θ.length H W E Dn
/-- a def's promise, lifted -/
def LF (K : PySem.W.Frag) (A : ASp) : Sp := fun vs H Q E => ∃ (α : Nat → Addr) (θ : Th) (ds : List D) (k : AK) (kx : AX), Sta K H α θ ∧ Reps K H α θ.length ds vs ∧ A ds θ k kx ∧ LkV K α θ.length H k Q ∧ LkX K α θ.length H kx E

abbrev XE' (X : Cx) (W : WX) (e : Expr) (a : AR) : Prop := PE X e (LE X.K W a)
abbrev XT (X : Cx) (W : WX) (e : Expr) (a : ATR) : Prop := PT X e (LT X.K W a)
abbrev XA (X : Cx) (W : WX) (es : List Expr) (a : AAR) : Prop := PA X es (LA X.K W a)
abbrev XS (X : Cx) (W : WX) (s : Stmt) (a : ASR) : Prop := PS X s (LS X.K W a)
abbrev XSs (X : Cx) (W : WX) (s : List Stmt) (a : ASR) : Prop := PSs X s (LS X.K W a)

section
variable {X : Cx} {e : Expr} {es : List Expr} {st : Stmt} {sts : List Stmt}
theorem pe_imp {t t' : TE} (h : PE X e t) (i : ∀ σ H Q, t' σ H Q → t σ H Q) : PE X e t' := ⟨fun pins s σ H Q I q => h.run pins s σ H Q I (i _ _ _ q)⟩
theorem pt_imp {t t' : TT} (h : PT X e t) (i : ∀ σ H Q, t' σ H Q → t σ H Q) : PT X e t' := ⟨fun pins s σ H Q I q => h.run pins s σ H Q I (i _ _ _ q)⟩
theorem pw_imp {t t' : TT} (h : PW X e t) (i : ∀ σ H Q, t' σ H Q → t σ H Q) : PW X e t' := ⟨fun wh pins s σ H Q I q => h.run wh pins s σ H Q I (i _ _ _ q)⟩
theorem pa_imp {t t' : TA} (h : PA X es t) (i : ∀ σ H Q, t' σ H Q → t σ H Q) : PA X es t' := ⟨fun p pins s σ H Q I q => h.run p pins s σ H Q I (i _ _ _ q)⟩
theorem ps_imp {t t' : TS} (h : PS X st t) (i : ∀ Dn σ H, t' Dn σ H → t Dn σ H) : PS X st t' := ⟨fun pins s σ H Dn I q => h.run pins s σ H Dn I (i _ _ _ q)⟩
theorem pss_imp {t t' : TS} (h : PSs X sts t) (i : ∀ Dn σ H, t' Dn σ H → t Dn σ H) : PSs X sts t' := ⟨fun pins s σ H Dn I q => h.run pins s σ H Dn I (i _ _ _ q)⟩
end

/-! ### expressions -/
section
variable {X : Cx} {W : WX} {a b c : Expr} {ra rb rc : AR} {pos : Pos}
@[reducible] def aVar (i : Nat) : AR := fun Γ θ k _ => ∃ d, Γ[i]? = some (some d) ∧ k d θ
theorem go_var {i : Nat} {Γ : G} {θ : Th} {k : AK} {kx : AX} {d : D} (h : Γ[i]? = some (some d)) (q : k d θ) : aVar i Γ θ k kx := ⟨d, h, q⟩
theorem xe_var {i : Nat} {x : Str} (h : PE X (.Name x pos) (tVar i)) : XE' X W (.Name x pos) (aVar i) := by
  refine pe_imp h ?_
  rintro σ H Q ⟨α, θ, Γ, k, kx, S, G, ⟨d, e, q⟩, lk, lx⟩
  obtain ⟨v, e2, r⟩ := G.2 i d e
  exact ⟨v, e2, lk d θ α H v (Nx.refl _ _ _) S r q⟩
/-- a constant -/
@[reducible] def aC (d : D) : AR := fun _ θ k _ => k d θ
theorem go_c {d : D} {Γ : G} {θ : Th} {k : AK} {kx : AX} (q : k d θ) : aC d Γ θ k kx := q
theorem xe_c {d : D} {v : V} (h : PE X a (tC v)) (r : ∀ K H α N, Rep K H α N d v) : XE' X W a (aC d) := by
  refine pe_imp h ?_
  rintro σ H Q ⟨α, θ, Γ, k, kx, S, G, q, lk, lx⟩
  exact lk d θ α H v (Nx.refl _ _ _) S (r _ _ _ _) q
theorem xe_int {i : Int} {j} : XE' X W (.Constant (.int i) j pos) (aC (.int i)) := xe_c pe_int fun _ _ _ _ => by unfold Rep; rfl
theorem xe_str {x : Str} {j} : XE' X W (.Constant (.str x) j pos) (aC (.str x)) := xe_c pe_str fun _ _ _ _ => by unfold Rep; rfl
theorem xe_bl {b : Bool} {j} : XE' X W (.Constant (.bool b) j pos) (aC (.bl b)) := xe_c pe_bl fun _ _ _ _ => by unfold Rep; rfl
theorem xe_non {j} : XE' X W (.Constant .none j pos) (aC .non) := xe_c pe_non fun _ _ _ _ => by unfold Rep; rfl

/-- two values, an operation -/
abbrev F2 := D → D → Th → AK → Prop
def Sim2 (K : PySem.W.Frag) (f : F2) (r : R2) : Prop := ∀ (α : Nat → Addr) (θ : Th) (H : Hp) (x y : D) (v u : V) (k : AK) (Q : VK), Sta K H α θ → Rep K H α θ.length x v → Rep K H α θ.length y u → f x y θ k → LkV K α θ.length H k Q → r v u H Q
@[reducible] def aBin (f : F2) (ra rb : AR) : AR := fun Γ θ k kx => ra Γ θ (fun x θ1 => rb Γ θ1 (fun y θ2 => f x y θ2 k) kx) kx
theorem go_bin {f : F2} {Γ : G} {θ : Th} {k : AK} {kx : AX} (q : ra Γ θ (fun x θ1 => rb Γ θ1 (fun y θ2 => f x y θ2 k) kx) kx) : aBin f ra rb Γ θ k kx := q
theorem bin_imp {f : F2} {r : R2} (s : Sim2 X.K f r) {σ : L2.St} {H : Hp} {Q : VK} (h : LE X.K W (aBin f ra rb) σ H Q) : tOp r (LE X.K W ra) (LE X.K W rb) σ H Q := by
  obtain ⟨α, θ, Γ, k, kx, S, G, q, lk, lx⟩ := h
  refine ⟨α, θ, Γ, _, kx, S, G, q, fun x θ1 α1 H1 v n1 S1 r1 q1 => ?_, lx⟩
  refine ⟨α1, θ1, Γ, _, kx, S1, G.mono n1, q1, fun y θ2 α2 H2 u n2 S2 r2 q2 => ?_, lx.on n1⟩
  exact s α2 θ2 H2 x y v u k Q S2 (Rep.mono n2 _ _ r1) r2 q2 (lk.on (n1.trans n2))
theorem xe_op {op : Operator} {f : F2} {r : R2} (ho : OpR X (binaryOp op) r) (s : Sim2 X.K f r) (ha : XE' X W a ra) (hb : XE' X W b rb) : XE' X W (.BinOp a op b pos) (aBin f ra rb) :=
  pe_imp (pe_op ho ha hb) fun _ _ _ h => bin_imp s h
theorem xe_cmp {op : CmpOp} {f : F2} {r : R2} (ho : OpR X (compareOp op) r) (s : Sim2 X.K f r) (ha : XE' X W a ra) (hb : XE' X W b rb) (hm : behindInMarks op b = false) : XE' X W (.Compare a [op] [b] pos) (aBin f ra rb) :=
  pe_imp (pe_cmpR ho ha hb hm) fun _ _ _ h => bin_imp s h
theorem xe_ix {f : F2} {r : R2} (ho : IxR X r) (s : Sim2 X.K f r) (ha : XE' X W a ra) (hb : XE' X W b rb) (hs : PlainIx b) : XE' X W (.Subscript a b pos) (aBin f ra rb) :=
  pe_imp (pe_ix ho ha hb hs) fun _ _ _ h => bin_imp s h
/-- a value as a test -/
@[reducible] def aTst (ra : AR) : ATR := fun Γ θ k kx => ra Γ θ (fun x θ1 => ∃ b, x = .bl b ∧ k b θ1) kx
theorem go_tst {Γ : G} {θ : Th} {k : Bool → Th → Prop} {kx : AX} (q : ra Γ θ (fun x θ1 => ∃ b, x = .bl b ∧ k b θ1) kx) : aTst ra Γ θ k kx := q
theorem tst_imp {σ : L2.St} {H : Hp} {Q : Bool → Hp → Prop} (h : LT X.K W (aTst ra) σ H Q) : (LE X.K W ra) σ H fun x H1 => ∃ c, x = .bl c ∧ Q c H1 := by
  obtain ⟨α, θ, Γ, k, kx, S, G, q, lk, lx⟩ := h
  refine ⟨α, θ, Γ, _, kx, S, G, q, fun x θ1 α1 H1 v n1 S1 r1 ⟨b, e, q1⟩ => ?_, lx⟩
  subst e
  unfold Rep at r1
  exact ⟨b, r1, lk b θ1 α1 H1 n1 S1 q1⟩
theorem xt_cmp {op : CmpOp} {f : F2} {r : R2} (ho : OpR X (compareOp op) r) (s : Sim2 X.K f r) (ha : XE' X W a ra) (hb : XE' X W b rb) (hm : behindInMarks op b = false) : XT X W (.Compare a [op] [b] pos) (aTst (aBin f ra rb)) :=
  pt_imp (pt_cmp (op := op) (t := LE X.K W (aBin f ra rb)) ⟨fun pins s' σ H Q I h => by
    have h2 := bin_imp s h
    exact binT ha hb I h2 fun v u s2 x y H2 I2 rx ry q => ho pins s2 σ H2 x y v u Q I2 rx ry q⟩ hm) fun _ _ _ h => tst_imp h
theorem xt_val (ha : XE' X W a ra) (he : ∀ whole, isTrue a X.env whole = (do let v ← whole; standAt a.pos; holding [v] (truthy v))) : XT X W a (aTst ra) :=
  pt_imp (pt_val ha he) fun _ _ _ h => tst_imp h
end
end AB
namespace AB
open PySem L2
/-! ### lists: frozen, or an entry -/
def asR (θ : Th) : D → Option (List D)
  | .lst ds => some ds
  | .obj n => match θ[n]? with
    | some (.lst ds) => some ds
    | _ => none
  | _ => none
def asL (θ : Th) : D → Option (List D)
  | .lst ds => some ds
  | .lsk ds => some ds
  | .obj n => match θ[n]? with
    | some (.lst ds) => some ds
    | _ => none
  | _ => none
section
variable {K : PySem.W.Frag} {H : Hp} {α : Nat → Addr} {θ : Th}
theorem asR_rd (S : Sta K H α θ) {d : D} {v : V} {ds : List D} (r : Rep K H α θ.length d v) (e : asR θ d = some ds) : ∃ a vs, v = .ref a ∧ Rd H a (.lst vs) ∧ Reps K H α θ.length ds vs := by
  cases d with
  | lst es =>
    have : es = ds := Option.some.inj e
    subst this
    unfold Rep at r
    obtain ⟨a, vs, h1, h2, h3⟩ := r
    exact ⟨a, vs, h1, h2.rd, h3⟩
  | obj n =>
    unfold Rep at r
    have e' : (match θ[n]? with | some (.lst ds) => some ds | _ => none) = some ds := e
    split at e'
    · rename_i es he
      have : es = ds := Option.some.inj e'
      subst this
      obtain ⟨vs, h1, h2⟩ := S.ent n _ he
      exact ⟨α n, vs, r.2, .inl h1, h2⟩
    · cases e'
  | _ => cases e
theorem asL_sq (S : Sta K H α θ) {d : D} {v : V} {ds : List D} (r : Rep K H α θ.length d v) (e : asL θ d = some ds) : ∃ a vs, v = .ref a ∧ SqL K H a vs ∧ Reps K H α θ.length ds vs := by
  cases d with
  | lst es =>
    obtain ⟨a, vs, h1, h2, h3⟩ := asR_rd S (d := .lst es) (ds := ds) r e
    exact ⟨a, vs, h1, .inl h2, h3⟩
  | obj n =>
    obtain ⟨a, vs, h1, h2, h3⟩ := asR_rd S (d := .obj n) (ds := ds) r e
    exact ⟨a, vs, h1, .inl h2, h3⟩
  | lsk es =>
    have : es = ds := Option.some.inj e
    subst this
    unfold Rep at r
    obtain ⟨a, vs, h1, h2, h3⟩ := r
    exact ⟨a, vs, h1, h2.sq, h3⟩
  | _ => cases e
theorem sz5 {n : Nat} (h : n ≤ 100000) : n ≤ sizeLine := Nat.le_trans h (by rw [sizeLine_eq]; decide)
/-! ### a new list is frozen where it is made -/
def FrQ (Q : VK) : VK := fun v H => Q v H ∨ ∃ p xs, v = .ref p ∧ H p = some (.lst xs) ∧ ∀ o, Q v (upd H p (.frz o (.lst xs)))
theorem pe_frz {X : Cx} {e : Expr} {t : TE} (h : PE X e t) : PE X e (fun σ H Q => t σ H (FrQ Q)) := by
  refine ⟨fun pins s σ H Q I q => ?_⟩
  refine thn (h.run pins s σ H _ I q) fun v s1 ⟨x, H1, I1, r1, q1⟩ => ?_
  rcases q1 with q1 | ⟨p, xs, rfl, hp, q1⟩
  · exact ⟨x, H1, I1, r1, q1⟩
  · obtain ⟨o, I2⟩ := I1.lock hp trivial
    exact ⟨_, _, I2, r1, q1 o⟩
/-- a new list at p, then frozen: what the state is -/
theorem frz_new {p : Addr} {o : Obj} {xs : List V} {ds : List D} {k : AK} {Q : VK} (S : Sta K H α θ) (hp : H p = none) (r : Reps K H α θ.length ds xs) (q : k (.lst ds) θ) (lk : LkV K α θ.length H k Q) :
    Q (.ref p) (upd (upd H p (.lst xs)) p (.frz o (.lst xs))) := by
  rw [upd_upd]
  have s := same_new (o := HO.frz o (.lst xs)) hp
  have n : Nx α θ.length H α θ.length (upd H p (.frz o (.lst xs))) := Nx.of α _ (Pers.new hp)
  refine lk (.lst ds) θ α _ (.ref p) n (S.same s) ?_ q
  unfold Rep
  exact ⟨p, xs, rfl, ⟨o, upd_same⟩, Reps.mono n _ _ r⟩
theorem frz_newQ {p : Addr} {xs : List V} {ds : List D} {k : AK} {Q : VK} (S : Sta K H α θ) (hp : H p = none) (r : Reps K H α θ.length ds xs) (q : k (.lst ds) θ) (lk : LkV K α θ.length H k Q) :
    FrQ Q (.ref p) (upd H p (.lst xs)) := .inr ⟨p, xs, rfl, upd_same, fun _ => frz_new S hp r q lk⟩
theorem tup_new {p : Addr} {xs : List V} {ds : List D} {k : AK} {Q : VK} (S : Sta K H α θ) (hp : H p = none) (r : Reps K H α θ.length ds xs) (q : k (.tup ds) θ) (lk : LkV K α θ.length H k Q) :
    Q (.ref p) (upd H p (.tup xs)) := by
  have s := same_new (o := HO.tup xs) hp
  have n : Nx α θ.length H α θ.length (upd H p (.tup xs)) := Nx.of α _ (Pers.new hp)
  refine lk (.tup ds) θ α _ (.ref p) n (S.same s) ?_ q
  unfold Rep
  exact ⟨p, xs, rfl, upd_same, Reps.mono n _ _ r⟩
theorem ent_new {p : Addr} {u : HO} {e : Ent} {k : AK} {Q : VK} (S : Sta K H α θ) (hp : H p = none) (r : EntAt K (upd H p u) (put α θ.length p) (θ ++ [e]).length p e) (q : k (.obj θ.length) (θ ++ [e])) (lk : LkV K α θ.length H k Q) :
    Q (.ref p) (upd H p u) := by
  have s := same_new (o := u) hp
  refine lk (.obj θ.length) (θ ++ [e]) _ _ (.ref p) (Nx.put s) (S.new hp s r) ?_ q
  unfold Rep
  exact ⟨by rw [List.length_append]; exact Nat.lt_succ_self _, by rw [put_same]⟩
/-- a flat value -/
theorem LkV.at {k : AK} {Q : VK} (lk : LkV K α θ.length H k Q) (S : Sta K H α θ) {d : D} {v : V} (r : Rep K H α θ.length d v) (q : k d θ) : Q v H := lk d θ α H v (Nx.refl _ _ _) S r q
end
/-! ### operators -/
def fAdd : F2 := fun x y θ k => match x, y with
  | .int i, .int j => k (.int (i + j)) θ
  | .str a, .str b => a.length + b.length ≤ 100000 ∧ k (.str (a ++ b)) θ
  | .tup xs, .tup ys => xs.length + ys.length ≤ 100000 ∧ k (.tup (xs ++ ys)) θ
  | x, y => ∃ xs ys, asR θ x = some xs ∧ asR θ y = some ys ∧ xs.length + ys.length ≤ 100000 ∧ k (.lst (xs ++ ys)) θ
/-- list + list, frozen or not -/
def rCatR : R2 := fun x y H Q => ∃ l b xs zs, x = .ref l ∧ y = .ref b ∧ Rd H l (.lst xs) ∧ Rd H b (.lst zs) ∧ xs.length + zs.length ≤ sizeLine ∧ ∀ p, H p = none → Q (.ref p) (upd H p (.lst (xs ++ zs)))
theorem op_catR {X : Cx} : OpR X (binaryOp .Add) rCatR := by
  intro pins s σ H x y v u Q I rx ry h
  obtain ⟨l, b, xs, zs, rfl, rfl, hH, hB, hz, q⟩ := h
  cases rx
  cases ry
  obtain ⟨z, its, n, r, e⟩ := hH.ok I.hok
  obtain ⟨z2, its2, n2, r2, e2⟩ := hB.ok I.hok
  have l1 := r.length
  have l2 := r2.length
  refine PySem.P.add_list e e2 ?_ (by rw [List.size_toArray, List.size_toArray]; omega)
  have ea : its.toArray ++ its2.toArray = (its ++ its2).toArray := by simp
  rw [ea]
  exact ⟨.ref _, _, I.lnew (t' := s.toks) (r.append r2) (by rw [List.length_append]; omega), rfl, q _ I.fresh⟩
def rAddI : R2 := rI0 fun i j => .int (i + j)
def rAddStr : R2 := fun x y H Q => ∃ i j, x = .str i ∧ y = .str j ∧ i.length + j.length ≤ sizeLine ∧ Q (.str (i ++ j)) H
def rAddAll (K : PySem.W.Frag) : R2 := fun x y H Q => rAddI x y H Q ∨ rAddStr x y H Q ∨ rCatA K x y H Q ∨ rCatR x y H Q
theorem op_addAll {X : Cx} : OpR X (binaryOp .Add) (rAddAll X.K) := by
  intro pins s σ H x y v u Q I rx ry h
  rcases h with h | h | h | h
  · exact op_add pins s σ H x y v u Q I rx ry h
  · exact op_add_str pins s σ H x y v u Q I rx ry h
  · exact op_catA pins s σ H x y v u Q I rx ry h
  · exact op_catR pins s σ H x y v u Q I rx ry h
/-- with the list, if it is one, frozen -/
theorem sim_add {K : PySem.W.Frag} : Sim2 K fAdd (fun x y H Q => rAddAll K x y H (FrQ Q)) := by
  intro α θ H x y v u k Q S rx ry h lk
  have fl : ∀ {d : D} {v : V}, Rep K H α θ.length d v → k d θ → FrQ Q v H := fun r q => .inl (lk.at S r q)
  unfold fAdd at h
  split at h
  · unfold Rep at rx ry
    exact .inl ⟨_, _, rx, ry, fl (by unfold Rep; rfl) h⟩
  · unfold Rep at rx ry
    exact .inr (.inl ⟨_, _, rx, ry, sz5 h.1, fl (by unfold Rep; rfl) h.2⟩)
  · rename_i xs ys
    unfold Rep at rx ry
    obtain ⟨a, vs, rfl, ha, ra⟩ := rx
    obtain ⟨b, us, rfl, hb, rb⟩ := ry
    obtain ⟨h2, h3⟩ := h
    have l1 := ra.length
    have l2 := rb.length
    refine .inr (.inr (.inl ⟨a, b, vs, us, rfl, rfl, SqT.of ha, SqT.of hb, sz5 (by omega), fun z => ?_, fun _ z => ?_, fun _ z p hp => ?_⟩))
    · have z' : xs = [] := List.eq_nil_of_length_eq_zero (by rw [l1, z]; rfl)
      rw [z', List.nil_append] at h3
      exact fl (d := .tup ys) (by unfold Rep; exact ⟨b, us, rfl, hb, rb⟩) h3
    · have z' : ys = [] := List.eq_nil_of_length_eq_zero (by rw [l2, z]; rfl)
      rw [z', List.append_nil] at h3
      exact fl (d := .tup xs) (by unfold Rep; exact ⟨a, vs, rfl, ha, ra⟩) h3
    · exact .inl (tup_new S hp (ra.append rb) h3 lk)
  · obtain ⟨xs, ys, e1, e2, h2, h3⟩ := h
    obtain ⟨a, vs, rfl, ha, ra⟩ := asR_rd S rx e1
    obtain ⟨b, us, rfl, hb, rb⟩ := asR_rd S ry e2
    have l1 := ra.length
    have l2 := rb.length
    exact .inr (.inr (.inr ⟨a, b, vs, us, rfl, rfl, ha, hb, sz5 (by omega), fun p hp => frz_newQ S hp (ra.append rb) h3 lk⟩))
section
variable {X : Cx} {W : WX} {a b : Expr} {ra rb : AR} {pos : Pos}
/-- an operation whose new list is frozen -/
theorem xe_opF {op : Operator} {f : F2} {r : R2} (ho : OpR X (binaryOp op) r) (s : Sim2 X.K f (fun x y H Q => r x y H (FrQ Q))) (ha : XE' X W a ra) (hb : XE' X W b rb) : XE' X W (.BinOp a op b pos) (aBin f ra rb) :=
  pe_imp (pe_frz (pe_op ho ha hb)) fun _ _ _ h => bin_imp (r := fun x y H Q => r x y H (FrQ Q)) s h
theorem xe_add (ha : XE' X W a ra) (hb : XE' X W b rb) : XE' X W (.BinOp a .Add b pos) (aBin fAdd ra rb) := xe_opF op_addAll sim_add ha hb
@[reducible] def fSub : F2 := fun x y θ k => match x, y with
  | .int i, .int j => k (.int (i - j)) θ
  | _, _ => False
theorem xe_sub (ha : XE' X W a ra) (hb : XE' X W b rb) : XE' X W (.BinOp a .Sub b pos) (aBin fSub ra rb) := xe_op op_sub (by
  intro α θ H x y v u k Q S rx ry h lk
  unfold fSub at h
  split at h
  · unfold Rep at rx ry
    exact ⟨_, _, rx, ry, lk.at S (by unfold Rep; rfl) h⟩
  · cases h) ha hb
@[reducible] def fMod : F2 := fun x y θ k => match x, y with
  | .int i, .int j => 0 < j ∧ k (.int (i % j)) θ
  | _, _ => False
theorem xe_mod (ha : XE' X W a ra) (hb : XE' X W b rb) : XE' X W (.BinOp a .Mod b pos) (aBin fMod ra rb) := xe_op op_mod (by
  intro α θ H x y v u k Q S rx ry h lk
  unfold fMod at h
  split at h
  · unfold Rep at rx ry
    exact ⟨_, _, rx, ry, h.1, lk.at S (by unfold Rep; rfl) h.2⟩
  · cases h) ha hb
end
end AB
namespace AB
open PySem L2
/-! ### products, comparisons -/
section
variable {X : Cx} {W : WX} {a b c : Expr} {ra rb rc : AR} {pos : Pos}
def strRep (x : Str) (n : Nat) : Str := ⟨(List.replicate n x.cps.toList).flatten.toArray⟩
theorem foldl_app (x : Array Nat) : ∀ (n : Nat) (acc : Array Nat), (List.replicate n x).foldl (· ++ ·) acc = acc ++ (List.replicate n x.toList).flatten.toArray
  | 0, acc => by simp
  | n + 1, acc => by
    rw [List.replicate_succ, List.foldl_cons, foldl_app x n, List.replicate_succ, List.flatten_cons]
    rw [Array.append_assoc]
    congr 1
    simp [← Array.toList_inj] 
def rMulS : R2 := fun x y H Q => ∃ z n, x = .str z ∧ y = .int n ∧ 0 ≤ n ∧ z.length * n.toNat ≤ 100000 ∧ n ≤ 100000 ∧ Q (.str (strRep z n.toNat)) H
theorem op_mulS : OpR X (binaryOp .Mult) rMulS := by
  intro pins s σ H x y v u Q I rx ry h
  obtain ⟨z, n, rfl, rfl, h0, hz, hn, q⟩ := h
  obtain ⟨t, rfl⟩ := rx
  obtain ⟨t', rfl⟩ := ry
  have fl : ∀ k, Builtin.Str.tooLong k = false ↔ ¬ (sizeLine < k) := fun k => by unfold Builtin.Str.tooLong; simp
  refine PySem.P.mul_str (by simp; omega) (fun h1 _ => ?_) (fun _ _ => (fl _).mpr (by rw [sizeLine_eq]; omega)) ?_
  · have h2 : 1 ≤ n := by omega
    have h3 : (z.length : Int) * n ≤ 100000 := by
      have : ((z.length * n.toNat : Nat) : Int) ≤ 100000 := by omega
      rw [Int.natCast_mul, Int.toNat_of_nonneg h0] at this
      exact this
    intro h4
    have h5 : (z.length : Int) ≤ 100000 := by
      have : (z.length : Int) * 1 ≤ (z.length : Int) * n := Int.mul_le_mul_of_nonneg_left h2 (by omega)
      omega
    have h6 : (100000 : Int) ≤ (2 ^ 63 - 1) / n := Int.le_ediv_of_mul_le (by omega) (by omega)
    omega
  · have e0 : strRep z 0 = Str.empty := rfl
    split
    · rename_i h1
      have e : n.toNat = 0 := by omega
      rw [e, e0] at q
      refine ⟨by rw [sizeLine_eq]; decide, ?_⟩
      exact ⟨.str Str.empty, H, I.tok _, ⟨_, rfl⟩, q⟩
    · split
      · rename_i h1 h2
        simp only [Bool.or_eq_true, beq_iff_eq] at h2
        have e1 : strRep z n.toNat = z := by
          rcases h2 with h2 | h2
          · have e : n.toNat = 1 := by omega
            rw [e]; unfold strRep; simp
          · have hz0 : z.cps = #[] := by
              have : z.cps.size = 0 := h2
              exact Array.eq_empty_of_size_eq_zero this
            obtain ⟨zc⟩ := z
            have hz0' : zc = #[] := hz0
            subst hz0'
            unfold strRep
            simp
        rw [e1] at q
        exact ⟨.str z, H, I, ⟨_, rfl⟩, q⟩
      · rename_i h1 h2
        refine ⟨?_, ?_⟩
        · show (Str.length _) ≤ sizeLine
          rw [foldl_app]
          have := sizeLine_eq
          show (#[] ++ (List.replicate n.toNat z.cps.toList).flatten.toArray).size ≤ sizeLine
          simp
          have hl : z.cps.size = z.length := rfl
          rw [hl, Nat.mul_comm]; omega
        · rw [foldl_app]
          refine ⟨.str _, H, I.tok _, ⟨_, rfl⟩, ?_⟩
          have : (⟨#[] ++ (List.replicate n.toNat z.cps.toList).flatten.toArray⟩ : Str) = strRep z n.toNat := by unfold strRep; simp
          rw [this]; exact q

def fMul : F2 := fun x y θ k => match x, y with
  | .int i, .int j => ((-(2 ^ 64) < i ∧ i < 2 ^ 64) ∨ (-(2 ^ 64) < j ∧ j < 2 ^ 64)) ∧ k (.int (i * j)) θ
  | .str z, .int n => 0 ≤ n ∧ z.length * n.toNat ≤ 100000 ∧ n ≤ 100000 ∧ k (.str (strRep z n.toNat)) θ
  | _, _ => False
theorem xe_mul (ha : XE' X W a ra) (hb : XE' X W b rb) : XE' X W (.BinOp a .Mult b pos) (aBin fMul ra rb) := xe_op (op_mul.or op_mulS) (by
  intro α θ H x y v u k Q S rx ry h lk
  unfold fMul at h
  split at h
  · unfold Rep at rx ry
    exact .inl ⟨_, _, rx, ry, h.1, lk.at S (by unfold Rep; rfl) h.2⟩
  · unfold Rep at rx ry
    exact .inr ⟨_, _, rx, ry, h.1, h.2.1, h.2.2.1, lk.at S (by unfold Rep; rfl) h.2.2.2⟩
  · cases h) ha hb
/-! ### order, is, in -/
def fLt : F2 := fun x y θ k => match x, y with
  | .int i, .int j => k (.bl (decide (i < j))) θ
  | .str i, .str j => k (.bl (decide (i.cps.toList < j.cps.toList))) θ
  | _, _ => False
def fGt : F2 := fun x y θ k => match x, y with
  | .int i, .int j => k (.bl (decide (j < i))) θ
  | .str i, .str j => k (.bl (decide (j.cps.toList < i.cps.toList))) θ
  | _, _ => False
@[reducible] def fLe : F2 := fun x y θ k => match x, y with
  | .int i, .int j => k (.bl (decide (i ≤ j))) θ
  | _, _ => False
@[reducible] def fGe : F2 := fun x y θ k => match x, y with
  | .int i, .int j => k (.bl (decide (j ≤ i))) θ
  | _, _ => False
theorem sim_lt {K : PySem.W.Frag} : Sim2 K fLt (fun x y H Q => rI0 (fun i j => .bl (decide (i < j))) x y H Q ∨ (∃ i j, x = .str i ∧ y = .str j ∧ Q (.bl (decide (i.cps.toList < j.cps.toList))) H)) := by
  intro α θ H x y v u k Q S rx ry h lk
  unfold fLt at h
  split at h
  · unfold Rep at rx ry
    exact .inl ⟨_, _, rx, ry, lk.at S (by unfold Rep; rfl) h⟩
  · unfold Rep at rx ry
    exact .inr ⟨_, _, rx, ry, lk.at S (by unfold Rep; rfl) h⟩
  · cases h
theorem sim_gt {K : PySem.W.Frag} : Sim2 K fGt (fun x y H Q => rI0 (fun i j => .bl (decide (j < i))) x y H Q ∨ (∃ i j, x = .str i ∧ y = .str j ∧ Q (.bl (decide (j.cps.toList < i.cps.toList))) H)) := by
  intro α θ H x y v u k Q S rx ry h lk
  unfold fGt at h
  split at h
  · unfold Rep at rx ry
    exact .inl ⟨_, _, rx, ry, lk.at S (by unfold Rep; rfl) h⟩
  · unfold Rep at rx ry
    exact .inr ⟨_, _, rx, ry, lk.at S (by unfold Rep; rfl) h⟩
  · cases h
theorem sim_le {K : PySem.W.Frag} : Sim2 K fLe (rI0 fun i j => .bl (decide (i ≤ j))) := by
  intro α θ H x y v u k Q S rx ry h lk
  unfold fLe at h
  split at h
  · unfold Rep at rx ry
    exact ⟨_, _, rx, ry, lk.at S (by unfold Rep; rfl) h⟩
  · cases h
theorem sim_ge {K : PySem.W.Frag} : Sim2 K fGe (rI0 fun i j => .bl (decide (j ≤ i))) := by
  intro α θ H x y v u k Q S rx ry h lk
  unfold fGe at h
  split at h
  · unfold Rep at rx ry
    exact ⟨_, _, rx, ry, lk.at S (by unfold Rep; rfl) h⟩
  · cases h
theorem op_ltA : OpR X (compareOp .Lt) (fun x y H Q => rI0 (fun i j => .bl (decide (i < j))) x y H Q ∨ (∃ i j, x = .str i ∧ y = .str j ∧ Q (.bl (decide (i.cps.toList < j.cps.toList))) H)) := op_lt.or op_lt_str
theorem op_gtA : OpR X (compareOp .Gt) (fun x y H Q => rI0 (fun i j => .bl (decide (j < i))) x y H Q ∨ (∃ i j, x = .str i ∧ y = .str j ∧ Q (.bl (decide (j.cps.toList < i.cps.toList))) H)) := op_gt.or op_gt_str
end
end AB
namespace AB
open PySem L2
/-! ### is, ==, in -/
def isD : D → D → Option Bool
  | .non, .non => some true
  | .bl a, .bl b => some (decide (a = b))
  | .bl _, .non => some false | .int _, .non => some false | .str _, .non => some false | .tup _, .non => some false | .lst _, .non => some false | .lsk _, .non => some false | .obj _, .non => some false
  | _, _ => none
@[reducible] def fIs : F2 := fun x y θ k => ∃ b, isD x y = some b ∧ k (.bl b) θ
@[reducible] def fIsN : F2 := fun x y θ k => ∃ b, isD x y = some b ∧ k (.bl (!b)) θ
def rIsAll : R2 := fun x y H Q => (y = .non ∧ Q (.bl (decide (x = .non))) H) ∨ rIsB x y H Q
def rIsNAll : R2 := fun x y H Q => (y = .non ∧ Q (.bl (!decide (x = .non))) H) ∨ rNotB x y H Q
theorem rep_isnon {K : PySem.W.Frag} {H : Hp} {α : Nat → Addr} {N : Nat} {x : D} {v : V} {b : Bool} (r : Rep K H α N x v) (e : isD x .non = some b) : decide (v = .non) = b := by
  cases x with
  | non => unfold Rep at r; subst r; cases e; rfl
  | bl _ => unfold Rep at r; subst r; cases e; rfl
  | int _ => unfold Rep at r; subst r; cases e; rfl
  | str _ => unfold Rep at r; subst r; cases e; rfl
  | tup _ => unfold Rep at r; obtain ⟨a, vs, rfl, _⟩ := r; cases e; rfl
  | lst _ => unfold Rep at r; obtain ⟨a, vs, rfl, _⟩ := r; cases e; rfl
  | lsk _ => unfold Rep at r; obtain ⟨a, vs, rfl, _⟩ := r; cases e; rfl
  | obj _ => unfold Rep at r; obtain ⟨_, rfl⟩ := r; cases e; rfl
  | raw _ => cases e
theorem sim_is {K : PySem.W.Frag} : Sim2 K fIs rIsAll := by
  intro α θ H x y v u k Q S rx ry ⟨b, e, h⟩ lk
  have q : Q (.bl b) H := lk.at S (by unfold Rep; rfl) h
  cases y with
  | non =>
    unfold Rep at ry
    exact .inl ⟨ry, by rw [rep_isnon rx e]; exact q⟩
  | bl c =>
    cases x with
    | bl a =>
      unfold Rep at rx ry
      cases e
      exact .inr ⟨a, c, rx, ry, q⟩
    | _ => cases e
  | _ => cases x <;> cases e
theorem sim_isN {K : PySem.W.Frag} : Sim2 K fIsN rIsNAll := by
  intro α θ H x y v u k Q S rx ry ⟨b, e, h⟩ lk
  have q : Q (.bl (!b)) H := lk.at S (by unfold Rep; rfl) h
  cases y with
  | non =>
    unfold Rep at ry
    exact .inl ⟨ry, by rw [rep_isnon rx e]; exact q⟩
  | bl c =>
    cases x with
    | bl a =>
      unfold Rep at rx ry
      cases e
      exact .inr ⟨a, c, rx, ry, q⟩
    | _ => cases e
  | _ => cases x <;> cases e
theorem op_isAll {X : Cx} : OpR X (compareOp .Is) rIsAll := op_isN.or op_isBl
theorem op_isNAll {X : Cx} : OpR X (compareOp .IsNot) rIsNAll := op_notN.or op_notBl
/- data that == looks into -/
mutual
def D.py : D → Option PyData
  | .non => some .none
  | .bl b => some (.bool b)
  | .int i => some (.int i)
  | .str x => some (.str x)
  | .tup ds => (D.pys ds).map .tuple
  | .lst ds => (D.pys ds).map .list
  | .lsk ds => (D.pys ds).map .list
  | .obj _ => none
  | .raw _ => none
def D.pys : List D → Option (List PyData)
  | [] => some []
  | d :: ds => (D.py d).bind fun p => (D.pys ds).map fun ps => p :: ps
end
section
variable {K : PySem.W.Frag} {H : Hp} {α : Nat → Addr} {N : Nat}
mutual
theorem D.py_dp : ∀ (d : D) (v : V) (p : PyData), Rep K H α N d v → D.py d = some p → Dp K H v p
  | .non, v, p, r, e => by unfold Rep at r; unfold D.py at e; cases e; subst r; exact .non
  | .bl b, v, p, r, e => by unfold Rep at r; unfold D.py at e; cases e; subst r; exact .bl b
  | .int b, v, p, r, e => by unfold Rep at r; unfold D.py at e; cases e; subst r; exact .int b
  | .str b, v, p, r, e => by unfold Rep at r; unfold D.py at e; cases e; subst r; exact .str b
  | .tup ds, v, p, r, e => by
    unfold Rep at r; unfold D.py at e
    obtain ⟨a, vs, rfl, h1, h2⟩ := r
    obtain ⟨ps, e1, e2⟩ := Option.map_eq_some_iff.mp e
    subst e2
    exact .tup (SqT.of h1) (D.pys_dp ds vs ps h2 e1)
  | .lst ds, v, p, r, e => by
    unfold Rep at r; unfold D.py at e
    obtain ⟨a, vs, rfl, h1, h2⟩ := r
    obtain ⟨ps, e1, e2⟩ := Option.map_eq_some_iff.mp e
    subst e2
    exact .lst (.inl h1.rd) (D.pys_dp ds vs ps h2 e1)
  | .lsk ds, v, p, r, e => by
    unfold Rep at r; unfold D.py at e
    obtain ⟨a, vs, rfl, h1, h2⟩ := r
    obtain ⟨ps, e1, e2⟩ := Option.map_eq_some_iff.mp e
    subst e2
    exact .lst h1.sq (D.pys_dp ds vs ps h2 e1)
  | .obj _, _, _, _, e => by unfold D.py at e; cases e
  | .raw _, _, _, _, e => by unfold D.py at e; cases e
theorem D.pys_dp : ∀ (ds : List D) (vs : List V) (ps : List PyData), Reps K H α N ds vs → D.pys ds = some ps → DpAll K H vs ps
  | [], vs, ps, r, e => by unfold Reps at r; unfold D.pys at e; cases e; subst r; exact .nil
  | d :: ds, vs, ps, r, e => by
    unfold Reps at r; unfold D.pys at e
    obtain ⟨v, ws, rfl, h1, h2⟩ := r
    obtain ⟨p, e1, e2⟩ := Option.bind_eq_some_iff.mp e
    obtain ⟨qs, e3, e4⟩ := Option.map_eq_some_iff.mp e2
    subst e4
    exact .cons (D.py_dp d v p h1 e1) (D.pys_dp ds ws qs h2 e3)
end
end
def pyD (θ : Th) : D → Option PyData
  | .obj n => match θ[n]? with
    | some (.lst ds) => (D.pys ds).map .list
    | _ => none
  | d => D.py d
theorem pyD_dp {K : PySem.W.Frag} {H : Hp} {α : Nat → Addr} {θ : Th} (S : Sta K H α θ) {d : D} {v : V} {p : PyData} (r : Rep K H α θ.length d v) (e : pyD θ d = some p) : Dp K H v p := by
  cases d with
  | obj n =>
    unfold Rep at r
    have e' : (match θ[n]? with | some (.lst ds) => (D.pys ds).map .list | _ => none) = some p := e
    split at e'
    · rename_i es he
      obtain ⟨ps, e1, e2⟩ := Option.map_eq_some_iff.mp e'
      subst e2
      obtain ⟨vs, h1, h2⟩ := S.ent n _ he
      rw [r.2]
      exact .lst (SqL.of h1) (D.pys_dp es vs ps h2 e1)
    · cases e'
  | _ => exact D.py_dp _ _ _ r e
def eqF : D → D → Option Bool
  | .int i, .int j => some (decide (i = j))
  | .str i, .str j => some (decide (i = j))
  | .bl i, .bl j => some (decide (i = j))
  | .non, .non => some true
  | .non, .int _ => some false | .int _, .non => some false | .non, .str _ => some false | .str _, .non => some false | .non, .bl _ => some false | .bl _, .non => some false
  | .int _, .str _ => some false | .str _, .int _ => some false | .bl _, .str _ => some false | .str _, .bl _ => some false
  | _, _ => none
def eqAns (θ : Th) (x y : D) (b : Bool) : Prop := eqF x y = some b ∨ ∃ p q, pyD θ x = some p ∧ pyD θ y = some q ∧ SeqAt.shaped p = true ∧ SeqAt.shaped q = true ∧ PyData.eqv p q = b
def fEq : F2 := fun x y θ k => ∃ b, eqAns θ x y b ∧ k (.bl b) θ
def fNe : F2 := fun x y θ k => ∃ b, eqAns θ x y b ∧ k (.bl (!b)) θ
theorem eqF_scal {K : PySem.W.Frag} {H : Hp} {α : Nat → Addr} {N : Nat} {x y : D} {v u : V} {b : Bool} (rx : Rep K H α N x v) (ry : Rep K H α N y u) (e : eqF x y = some b) : scal v u = true ∧ decide (v = u) = b := by
  unfold eqF at e
  split at e <;> (try cases e) <;> (unfold Rep at rx ry; subst rx ry; refine ⟨rfl, ?_⟩)
  · by_cases h : ‹Int› = ‹Int› <;> simp
  · simp
  · simp
  all_goals first | rfl | simp
theorem sim_eq {K : PySem.W.Frag} : Sim2 K fEq (fun x y H Q => rEq x y H Q ∨ rEqD K x y H Q) := by
  intro α θ H x y v u k Q S rx ry ⟨b, e, h⟩ lk
  have q : Q (.bl b) H := lk.at S (by unfold Rep; rfl) h
  rcases e with e | ⟨p, p', e1, e2, e3, e4, e5⟩
  · obtain ⟨h1, h2⟩ := eqF_scal rx ry e
    exact .inl ⟨h1, by rw [h2]; exact q⟩
  · exact .inr ⟨p, p', pyD_dp S rx e1, pyD_dp S ry e2, e3, e4, by rw [e5]; exact q⟩
theorem sim_ne {K : PySem.W.Frag} : Sim2 K fNe (fun x y H Q => rNe x y H Q ∨ rNeD K x y H Q) := by
  intro α θ H x y v u k Q S rx ry ⟨b, e, h⟩ lk
  have q : Q (.bl (!b)) H := lk.at S (by unfold Rep; rfl) h
  rcases e with e | ⟨p, p', e1, e2, e3, e4, e5⟩
  · obtain ⟨h1, h2⟩ := eqF_scal rx ry e
    exact .inl ⟨h1, by rw [h2]; exact q⟩
  · exact .inr ⟨p, p', pyD_dp S rx e1, pyD_dp S ry e2, e3, e4, by rw [e5]; exact q⟩
theorem op_eqA {X : Cx} (hu : X.A.units + 64 < cLine) : OpR X (compareOp .Eq) (fun x y H Q => rEq x y H Q ∨ rEqD X.K x y H Q) := op_eq.or (op_eqD hu)
theorem op_neA {X : Cx} (hu : X.A.units + 64 < cLine) : OpR X (compareOp .NotEq) (fun x y H Q => rNe x y H Q ∨ rNeD X.K x y H Q) := op_ne.or (op_neD hu)
/-! ### dicts, over any values -/
section
variable {κ β : Type} [DecidableEq κ]
def valG (kvs : List (κ × β)) (k : κ) : Option β := (kvs.find? fun kv => decide (kv.1 = k)).map (·.2)
def putG (kvs : List (κ × β)) (k : κ) (v : β) : List (κ × β) :=
  if (kvs.any fun kv => decide (kv.1 = k)) = true then kvs.map (fun kv => if kv.1 = k then (kv.1, v) else kv) else kvs ++ [(k, v)]
def dropG (kvs : List (κ × β)) (k : κ) : List (κ × β) := kvs.filter fun kv => decide (kv.1 ≠ k)
end
section
variable {K : PySem.W.Frag} {H : Hp} {α : Nat → Addr} {N : Nat} {κ : Type} [DecidableEq κ]
theorem KRep.nil : KRep K H α N ([] : List (κ × D)) [] := ⟨rfl, Reps.nil⟩
theorem KRep.cons {k : κ} {d : D} {v : V} {kvs : List (κ × D)} {ws : List (κ × V)} (r : Rep K H α N d v) (h : KRep K H α N kvs ws) : KRep K H α N ((k, d) :: kvs) ((k, v) :: ws) :=
  ⟨by rw [List.map_cons, List.map_cons, h.1], Reps.cons r h.2⟩
theorem KRep.cases {p : κ × D} {kvs : List (κ × D)} {ws : List (κ × V)} (h : KRep K H α N (p :: kvs) ws) : ∃ v us, ws = (p.1, v) :: us ∧ Rep K H α N p.2 v ∧ KRep K H α N kvs us := by
  obtain ⟨h1, h2⟩ := h
  cases ws with
  | nil => simp at h1
  | cons w us =>
    obtain ⟨k, v⟩ := w
    simp only [List.map_cons, List.cons.injEq] at h1
    obtain ⟨v', us', e, r1, r2⟩ := Reps.uncons h2
    simp only [List.map_cons, List.cons.injEq] at e
    obtain ⟨e1, e2⟩ := e
    subst e1 e2
    exact ⟨v, us, by rw [h1.1], r1, h1.2, r2⟩
theorem KRep.length {kvs : List (κ × D)} {ws : List (κ × V)} (h : KRep K H α N kvs ws) : kvs.length = ws.length := by
  have := congrArg List.length h.1
  simpa using this
theorem KRep.val : ∀ {kvs : List (κ × D)} {ws : List (κ × V)} (k : κ), KRep K H α N kvs ws → (valG kvs k = none ∧ valV ws k = none) ∨ ∃ d v, valG kvs k = some d ∧ valV ws k = some v ∧ Rep K H α N d v
  | [], ws, k, h => by
    have : ws = [] := List.eq_nil_of_length_eq_zero (by rw [← h.length]; rfl)
    subst this
    exact .inl ⟨rfl, rfl⟩
  | p :: kvs, ws, k, h => by
    obtain ⟨v, us, rfl, r, h'⟩ := h.cases
    by_cases e : p.1 = k
    · exact .inr ⟨p.2, v, by simp [valG, e], by simp [valV, e], r⟩
    · rcases KRep.val k h' with ⟨a, b⟩ | ⟨d, v', a, b, c⟩
      · exact .inl ⟨by unfold valG at a ⊢; simpa [e] using a, by unfold valV at b ⊢; simpa [e] using b⟩
      · exact .inr ⟨d, v', by unfold valG at a ⊢; simpa [e] using a, by unfold valV at b ⊢; simpa [e] using b, c⟩
theorem KRep.any {kvs : List (κ × D)} {ws : List (κ × V)} (k : κ) (h : KRep K H α N kvs ws) : (kvs.any fun kv => decide (kv.1 = k)) = ws.any fun kv => decide (kv.1 = k) := by
  have e : ∀ {β : Type} (l : List (κ × β)), (l.any fun kv => decide (kv.1 = k)) = (l.map (·.1)).any fun x => decide (x = k) := fun l => by rw [List.any_map]; rfl
  rw [e, e, h.1]
theorem KRep.append {kvs kvs' : List (κ × D)} {ws ws' : List (κ × V)} (h : KRep K H α N kvs ws) (h' : KRep K H α N kvs' ws') : KRep K H α N (kvs ++ kvs') (ws ++ ws') :=
  ⟨by rw [List.map_append, List.map_append, h.1, h'.1], by rw [List.map_append, List.map_append]; exact h.2.append h'.2⟩
theorem KRep.upd (k : κ) {d : D} {v : V} (r : Rep K H α N d v) : ∀ {kvs : List (κ × D)} {ws : List (κ × V)}, KRep K H α N kvs ws →
    KRep K H α N (kvs.map fun kv => if kv.1 = k then (kv.1, d) else kv) (ws.map fun kv => if kv.1 = k then (kv.1, v) else kv)
  | [], ws, h => by
    have : ws = [] := List.eq_nil_of_length_eq_zero (by rw [← h.length]; rfl)
    subst this
    exact KRep.nil
  | p :: kvs, ws, h => by
    obtain ⟨u, us, rfl, r', h'⟩ := h.cases
    rw [List.map_cons, List.map_cons]
    by_cases e : p.1 = k
    · rw [if_pos e, if_pos e]
      exact (KRep.upd k r h').cons r
    · rw [if_neg e, if_neg e]
      exact (KRep.upd k r h').cons r'
theorem KRep.put {kvs : List (κ × D)} {ws : List (κ × V)} (k : κ) {d : D} {v : V} (h : KRep K H α N kvs ws) (r : Rep K H α N d v) : KRep K H α N (putG kvs k d) (putK ws k v) := by
  unfold putG putK
  rw [h.any k]
  split
  · exact h.upd k r
  · exact h.append (KRep.nil.cons r)
theorem KRep.drop (k : κ) : ∀ {kvs : List (κ × D)} {ws : List (κ × V)}, KRep K H α N kvs ws → KRep K H α N (dropG kvs k) (dropK ws k)
  | [], ws, h => by
    have : ws = [] := List.eq_nil_of_length_eq_zero (by rw [← h.length]; rfl)
    subst this
    exact KRep.nil
  | p :: kvs, ws, h => by
    obtain ⟨u, us, rfl, r', h'⟩ := h.cases
    have ih := KRep.drop k h'
    unfold dropG dropK at ih ⊢
    rw [List.filter_cons, List.filter_cons]
    by_cases e : p.1 = k
    · rw [if_neg (by simp [e]), if_neg (by simp [e])]
      exact ih
    · rw [if_pos (by simp [e]), if_pos (by simp [e])]
      exact ih.cons r'
end
theorem length_putG {κ β : Type} [DecidableEq κ] (kvs : List (κ × β)) (k : κ) (v : β) : (putG kvs k v).length ≤ kvs.length + 1 := by
  unfold putG
  split
  · rw [List.length_map]; omega
  · rw [List.length_append]; exact Nat.le_refl _
/-- a key's datum -/
def keyD : D → Option Key
  | .int i => some (.inl i)
  | .str x => some (.inr x)
  | _ => none
def keysD : List D → Option (List Key)
  | [] => some []
  | d :: ds => (keyD d).bind fun k => (keysD ds).map fun ks => k :: ks
theorem keyD_v {K : PySem.W.Frag} {H : Hp} {α : Nat → Addr} {N : Nat} {d : D} {v : V} {k : Key} (r : Rep K H α N d v) (e : keyD d = some k) : v = kV k := by
  cases d <;> (try cases e) <;> (unfold Rep at r; exact r)
theorem keysD_v {K : PySem.W.Frag} {H : Hp} {α : Nat → Addr} {N : Nat} : ∀ {ds : List D} {vs : List V} {ks : List Key}, Reps K H α N ds vs → keysD ds = some ks → vs = ks.map kV
  | [], vs, ks, r, e => by unfold keysD at e; cases e; unfold Reps at r; exact r
  | d :: ds, vs, ks, r, e => by
    unfold keysD at e
    obtain ⟨k, e1, e2⟩ := Option.bind_eq_some_iff.mp e
    obtain ⟨ks', e3, e4⟩ := Option.map_eq_some_iff.mp e2
    subst e4
    obtain ⟨v, ws, rfl, h1, h2⟩ := Reps.uncons r
    rw [keyD_v h1 e1, keysD_v h2 e3]
    rfl
/-- what a look-up in the dict gives -/
def dGetE (e : Ent) (y : D) : Option (Option D) := match e with
  | .dK kvs => (keyD y).map (valG kvs)
  | .lk kvs => (keyD y).map (valG kvs)
  | .dT kvs => match y with
    | .tup ds => (keysD ds).map (valG kvs)
    | _ => none
  | _ => none
def dGet (θ : Th) (d y : D) : Option (Option D) := match d with
  | .obj n => θ[n]?.bind fun e => dGetE e y
  | _ => none
theorem dGet_get {K : PySem.W.Frag} {H : Hp} {α : Nat → Addr} {θ : Th} (S : Sta K H α θ) {d y : D} {v u : V} {r : Option D} (rd : Rep K H α θ.length d v) (ry : Rep K H α θ.length y u) (e : dGet θ d y = some r) :
    ∃ a o, v = .ref a ∧ DGet H a u o ∧ IsD H a ∧ ((r = none ∧ o = none) ∨ ∃ x w, r = some x ∧ o = some w ∧ Rep K H α θ.length x w) := by
  cases d with
  | obj n =>
    unfold Rep at rd
    obtain ⟨en, he, e'⟩ := Option.bind_eq_some_iff.mp (show θ[n]?.bind (fun e => dGetE e y) = some r from e)
    have ha := S.ent n _ he
    cases en with
    | dK kvs =>
      obtain ⟨k, e1, e2⟩ := Option.map_eq_some_iff.mp (show (keyD y).map (valG kvs) = some r from e')
      obtain ⟨ws, h1, h2⟩ := ha
      refine ⟨α n, valV ws k, rd.2, .inl ⟨ws, k, .inl h1, keyD_v ry e1, rfl⟩, .inl ⟨ws, .inl h1⟩, ?_⟩
      rw [← e2]
      rcases h2.val k with ⟨a, b⟩ | ⟨x, w, a, b, c⟩
      · exact .inl ⟨a, b⟩
      · exact .inr ⟨x, w, a, b, c⟩
    | lk kvs =>
      obtain ⟨k, e1, e2⟩ := Option.map_eq_some_iff.mp (show (keyD y).map (valG kvs) = some r from e')
      obtain ⟨o, ws, h1, h2⟩ := ha
      refine ⟨α n, valV ws k, rd.2, .inl ⟨ws, k, .inr ⟨o, h1⟩, keyD_v ry e1, rfl⟩, .inl ⟨ws, .inr ⟨o, h1⟩⟩, ?_⟩
      rw [← e2]
      rcases h2.val k with ⟨a, b⟩ | ⟨x, w, a, b, c⟩
      · exact .inl ⟨a, b⟩
      · exact .inr ⟨x, w, a, b, c⟩
    | dT kvs =>
      cases y with
      | tup ds =>
        obtain ⟨k, e1, e2⟩ := Option.map_eq_some_iff.mp (show (keysD ds).map (valG kvs) = some r from e')
        obtain ⟨ws, h1, h2⟩ := ha
        unfold Rep at ry
        obtain ⟨b, vs, rfl, hb, rb⟩ := ry
        rw [keysD_v rb e1] at hb
        refine ⟨α n, valV ws k, rd.2, .inr ⟨ws, k, b, .inl h1, rfl, hb, rfl⟩, .inr ⟨ws, .inl h1⟩, ?_⟩
        rw [← e2]
        rcases h2.val k with ⟨a, b⟩ | ⟨x, w, a, b, c⟩
        · exact .inl ⟨a, b⟩
        · exact .inr ⟨x, w, a, b, c⟩
      | _ => cases e'
    | _ => cases e'
  | _ => cases e
end AB
namespace AB
open PySem PySem.Spec PyProof.Rows L2
/-! ### in -/
def flatD : D → Bool
  | .non => true | .bl _ => true | .int _ => true | .str _ => true | _ => false
def eqD : D → D → Bool
  | .non, .non => true
  | .bl a, .bl b => a == b
  | .bl a, .int b => (if a then 1 else 0) == b
  | .int a, .bl b => a == (if b then 1 else 0)
  | .int a, .int b => a == b
  | .str a, .str b => a == b
  | _, _ => false
def inD (x : D) (xs : List D) : Bool := xs.any fun y => eqD y x
def asS (θ : Th) : D → Option (List D)
  | .tup ds => some ds
  | d => asL θ d
section
variable {K : PySem.W.Frag} {H : Hp} {α : Nat → Addr} {N : Nat} {θ : Th}
theorem flat_v {d : D} {v : V} (r : Rep K H α N d v) (f : flatD d = true) : flatV v = true := by
  cases d <;> first | (cases f; done) | (unfold Rep at r; subst r; rfl)
theorem flat_vs : ∀ {ds : List D} {vs : List V}, Reps K H α N ds vs → ds.all flatD = true → vs.all flatV = true
  | [], vs, r, _ => by unfold Reps at r; subst r; rfl
  | d :: ds, vs, r, f => by
    obtain ⟨v, ws, rfl, h1, h2⟩ := r.uncons
    rw [List.all_cons, Bool.and_eq_true] at f
    rw [List.all_cons, flat_v h1 f.1, flat_vs h2 f.2]; rfl
theorem eqD_v {x y : D} {v u : V} (rx : Rep K H α N x v) (ry : Rep K H α N y u) (fx : flatD x = true) (fy : flatD y = true) : eqV v u = eqD x y := by
  cases x <;> first | (cases fx; done) | (cases y <;> first | (cases fy; done) | (unfold Rep at rx ry; subst rx ry; rfl))
theorem inD_v {x : D} {v : V} (rx : Rep K H α N x v) (fx : flatD x = true) : ∀ {ds : List D} {vs : List V}, Reps K H α N ds vs → ds.all flatD = true → inV v vs = inD x ds
  | [], vs, r, _ => by unfold Reps at r; subst r; rfl
  | d :: ds, vs, r, f => by
    obtain ⟨u, ws, rfl, h1, h2⟩ := r.uncons
    rw [List.all_cons, Bool.and_eq_true] at f
    show (eqV u v || inV v ws) = (eqD d x || inD x ds)
    rw [eqD_v h1 rx f.1 fx, inD_v rx fx h2 f.2]
theorem asS_sq (S : Sta K H α θ) {d : D} {v : V} {ds : List D} (r : Rep K H α θ.length d v) (e : asS θ d = some ds) : ∃ a vs, v = .ref a ∧ (SqL K H a vs ∨ SqT K H a vs) ∧ Reps K H α θ.length ds vs := by
  cases d with
  | tup es =>
    have : es = ds := Option.some.inj e
    subst this
    unfold Rep at r
    obtain ⟨a, vs, h1, h2, h3⟩ := r
    exact ⟨a, vs, h1, .inr (SqT.of h2), h3⟩
  | _ =>
    obtain ⟨a, vs, h1, h2, h3⟩ := asL_sq S r e
    exact ⟨a, vs, h1, .inl h2, h3⟩
end
/-- the answer of x in y -/
def inAns (θ : Th) (x y : D) (b : Bool) : Prop :=
  (∃ n z, x = .str ⟨#[n]⟩ ∧ y = .str z ∧ b = decide (n ∈ z.cps.toList)) ∨ (∃ ys, asS θ y = some ys ∧ flatD x = true ∧ ys.all flatD = true ∧ b = inD x ys) ∨ ∃ r, dGet θ y x = some r ∧ b = r.isSome
def fIn : F2 := fun x y θ k => ∃ b, inAns θ x y b ∧ k (.bl b) θ
def fNotIn : F2 := fun x y θ k => ∃ b, inAns θ x y b ∧ k (.bl (!b)) θ
def rDIn (neg : Bool) : R2 := fun x y H Q => ∃ a o, y = .ref a ∧ DGet H a x o ∧ Q (.bl (if neg then !o.isSome else o.isSome)) H
def rInAll (K : PySem.W.Frag) : R2 := fun x y H Q => (∃ (c : Nat) (z : Str), x = .str ⟨#[c]⟩ ∧ y = .str z ∧ Q (.bl (decide (c ∈ z.cps.toList))) H) ∨ rIn K false x y H Q ∨ rDIn false x y H Q
def rNotInAll (K : PySem.W.Frag) : R2 := fun x y H Q => (∃ (c : Nat) (z : Str), x = .str ⟨#[c]⟩ ∧ y = .str z ∧ Q (.bl (!decide (c ∈ z.cps.toList))) H) ∨ rIn K true x y H Q ∨ rDIn true x y H Q
section
variable {X : Cx}
theorem op_dIn (hu : X.A.units + 1 < cLine) : OpR X (compareOp .In) (rDIn false) := by
  intro pins s σ H x y v u Q I rx ry h
  obtain ⟨a, o, rfl, g, q⟩ := h
  cases ry
  exact d_in hu I g rx fun s' I' => ⟨.bl o.isSome, H, I', rfl, q⟩
theorem op_dNotIn (hu : X.A.units + 1 < cLine) : OpR X (compareOp .NotIn) (rDIn true) := by
  intro pins s σ H x y v u Q I rx ry h
  obtain ⟨a, o, rfl, g, q⟩ := h
  cases ry
  exact d_notIn hu I g rx fun s' I' => ⟨.bl (!o.isSome), H, I', rfl, q⟩
theorem op_inAll (hu : X.A.units + 1 < cLine) : OpR X (compareOp .In) (rInAll X.K) := op_in_sign.or (op_in_seq.or (op_dIn hu))
theorem op_notInAll (hu : X.A.units + 1 < cLine) : OpR X (compareOp .NotIn) (rNotInAll X.K) := op_notIn_sign.or (op_notIn_seq.or (op_dNotIn hu))
end
theorem sim_in {K : PySem.W.Frag} : Sim2 K fIn (rInAll K) := by
  intro α θ H x y v u k Q S rx ry ⟨b, e, h⟩ lk
  have q : Q (.bl b) H := lk.at S (by unfold Rep; rfl) h
  rcases e with ⟨n, z, rfl, rfl, rfl⟩ | ⟨ys, e1, e2, e3, rfl⟩ | ⟨r, e1, rfl⟩
  · unfold Rep at rx ry
    exact .inl ⟨n, z, rx, ry, q⟩
  · obtain ⟨a, vs, rfl, h1, h2⟩ := asS_sq S ry e1
    exact .inr (.inl ⟨a, vs, rfl, h1, flat_v rx e2, flat_vs h2 e3, by rw [inD_v rx e2 h2 e3]; exact q⟩)
  · obtain ⟨a, o, rfl, g, _, c⟩ := dGet_get S ry rx e1
    refine .inr (.inr ⟨a, o, rfl, g, ?_⟩)
    rcases c with ⟨rfl, rfl⟩ | ⟨_, _, rfl, rfl, _⟩ <;> exact q
theorem sim_notIn {K : PySem.W.Frag} : Sim2 K fNotIn (rNotInAll K) := by
  intro α θ H x y v u k Q S rx ry ⟨b, e, h⟩ lk
  have q : Q (.bl (!b)) H := lk.at S (by unfold Rep; rfl) h
  rcases e with ⟨n, z, rfl, rfl, rfl⟩ | ⟨ys, e1, e2, e3, rfl⟩ | ⟨r, e1, rfl⟩
  · unfold Rep at rx ry
    exact .inl ⟨n, z, rx, ry, q⟩
  · obtain ⟨a, vs, rfl, h1, h2⟩ := asS_sq S ry e1
    refine .inr (.inl ⟨a, vs, rfl, h1, flat_v rx e2, flat_vs h2 e3, ?_⟩)
    rw [inD_v rx e2 h2 e3]; exact q
  · obtain ⟨a, o, rfl, g, _, c⟩ := dGet_get S ry rx e1
    refine .inr (.inr ⟨a, o, rfl, g, ?_⟩)
    rcases c with ⟨rfl, rfl⟩ | ⟨_, _, rfl, rfl, _⟩ <;> exact q
/-! ### items -/
def fIx : F2 := fun x y θ k => (∃ xs i d, asS θ x = some xs ∧ y = .int i ∧ atI xs i = some d ∧ k d θ) ∨
  (∃ z i c, x = .str z ∧ y = .int i ∧ z.length ≤ 100000 ∧ atI z.cps.toList i = some c ∧ k (.str ⟨#[c]⟩) θ) ∨ ∃ d, dGet θ x y = some (some d) ∧ k d θ
def rIxDict : R2 := fun x y H Q => ∃ a v, x = .ref a ∧ DGet H a y (some v) ∧ Q v H
theorem ix_dict {X : Cx} (hu : X.A.units + 1 < cLine) : IxR X rIxDict := by
  intro value slice pins s σ H x y v u Q I rx ry h hs
  obtain ⟨a, z, rfl, g, q⟩ := h
  cases rx
  exact tail_any (dict_typeIs I g) slot_dict_getitem.lookup (d_getItem hu I g ry fun w' s' I' r' => ⟨z, H, I', r', q⟩) hs
def rIxAll (K : PySem.W.Frag) : R2 := fun x y H Q => rIx K x y H Q ∨ rIxDict x y H Q
theorem ix_all {X : Cx} (hu : X.A.units + 1 < cLine) : IxR X (rIxAll X.K) := ix_seq.or (ix_dict hu)
theorem ixN_lt {n : Nat} {i : Int} {j : Nat} (h : ixN n i = some j) : j < n := (ixN_seq h).2.1
theorem atI_rep {K : PySem.W.Frag} {H : Hp} {α : Nat → Addr} {N : Nat} {ds : List D} {vs : List V} {i : Int} {d : D} (r : Reps K H α N ds vs) (e : atI ds i = some d) : ∃ v, atI vs i = some v ∧ Rep K H α N d v := by
  unfold atI at e ⊢
  obtain ⟨j, h1, h2⟩ := Option.bind_eq_some_iff.mp e
  obtain ⟨v, h3, h4⟩ := r.get h2
  exact ⟨v, by rw [← r.length, h1]; exact h3, h4⟩
theorem sim_ix {K : PySem.W.Frag} : Sim2 K fIx (rIxAll K) := by
  intro α θ H x y v u k Q S rx ry h lk
  rcases h with ⟨xs, i, d, e1, rfl, e2, h⟩ | ⟨z, i, c, rfl, rfl, e1, e2, h⟩ | ⟨d, e1, h⟩
  · obtain ⟨a, vs, rfl, h1, h2⟩ := asS_sq S rx e1
    obtain ⟨w, h3, h4⟩ := atI_rep h2 e2
    unfold Rep at ry
    rcases h1 with h1 | h1
    · exact .inl (.inl ⟨a, vs, i, w, rfl, ry, h1, h3, lk.at S h4 h⟩)
    · exact .inl (.inr (.inl ⟨a, vs, i, w, rfl, ry, h1, h3, lk.at S h4 h⟩))
  · unfold Rep at rx ry
    exact .inl (.inr (.inr ⟨z, i, c, rx, ry, sz5 e1, e2, lk.at S (by unfold Rep; rfl) h⟩))
  · obtain ⟨a, o, rfl, g, _, c⟩ := dGet_get S rx ry e1
    rcases c with ⟨q, _⟩ | ⟨x', w, q, rfl, r⟩
    · cases q
    · cases q
      exact .inr ⟨a, w, rfl, g, lk.at S r h⟩
/-! ### slices -/
def cutD (xs : List D) (lo hi : Option Int) : List D := (xs.drop (HT.sIx xs.length 0 lo)).take (HT.sIx xs.length xs.length hi - HT.sIx xs.length 0 lo)
abbrev AOR := G → Th → (Option Int → Th → Prop) → AX → Prop
def LO (K : PySem.W.Frag) (W : WX) (a : AOR) : TO := fun σ H Q => ∃ (α : Nat → Addr) (θ : Th) (Γ : G) (k : Option Int → Th → Prop) (kx : AX), Sta K H α θ ∧ Slots K H α θ.length σ Γ ∧ a Γ θ k kx ∧
  (∀ (o : Option Int) (θ' : Th) (α' : Nat → Addr) (H' : Hp), Nx α θ.length H α' θ'.length H' → Sta K H' α' θ' → k o θ' → Q o H') ∧ LkX K α θ.length H kx (WE W σ)
section
variable {X : Cx} {W : WX} {a b c e : Expr} {ra rb rc : AR} {rl rh : AOR} {pos p2 : Pos} {lo hi : Option Expr}
theorem po_imp {t t' : TO} {oe : Option Expr} (h : PO X oe t) (i : ∀ σ H Q, t' σ H Q → t σ H Q) : PO X oe t' := by
  first
    | exact ⟨fun pins s σ H Q I q => h.run pins s σ H Q I (i _ _ _ q)⟩
    | exact fun pins s σ H Q I q => h pins s σ H Q I (i _ _ _ q)
@[reducible] def oNone : AOR := fun _ θ k _ => k none θ
@[reducible] def oSome (ra : AR) : AOR := fun Γ θ k kx => ra Γ θ (fun x θ1 => ∃ i, x = .int i ∧ k (some i) θ1) kx
theorem xo_none : PO X none (LO X.K W oNone) := po_imp po_none (by
  rintro σ H Q ⟨α, θ, Γ, k, kx, S, G, q, lk, lx⟩
  exact lk none θ α H (Nx.refl _ _ _) S q)
theorem xo_some (ha : XE' X W a ra) : PO X (some a) (LO X.K W (oSome ra)) := po_imp (po_some ha) (by
  rintro σ H Q ⟨α, θ, Γ, k, kx, S, G, q, lk, lx⟩
  refine ⟨α, θ, Γ, _, kx, S, G, q, fun x θ1 α1 H1 v n1 S1 r1 ⟨i, e, q1⟩ => ?_, lx⟩
  subst e
  unfold Rep at r1
  exact ⟨i, r1, lk (some i) θ1 α1 H1 n1 S1 q1⟩)
def fSl (x : D) (l h : Option Int) (θ : Th) (k : AK) : Prop := (∃ z, x = .str z ∧ z.length ≤ 100000 ∧ k (.str (cutS z l h)) θ) ∨ (∃ xs, asL θ x = some xs ∧ k (.lst (cutD xs l h)) θ) ∨
  (∃ xs, x = .tup xs ∧ k (.tup (cutD xs l h)) θ)
@[reducible] def aSl (re : AR) (rl rh : AOR) : AR := fun Γ θ k kx => re Γ θ (fun x θ1 => rl Γ θ1 (fun l θ2 => rh Γ θ2 (fun h θ3 => fSl x l h θ3 k) kx) kx) kx
theorem go_sl {Γ : G} {θ : Th} {k : AK} {kx : AX} (q : ra Γ θ (fun x θ1 => rl Γ θ1 (fun l θ2 => rh Γ θ2 (fun h θ3 => fSl x l h θ3 k) kx) kx) kx) : aSl ra rl rh Γ θ k kx := q
theorem cut_rep {K : PySem.W.Frag} {H : Hp} {α : Nat → Addr} {N : Nat} {ds : List D} {vs : List V} (r : Reps K H α N ds vs) (l h : Option Int) : Reps K H α N (cutD ds l h) (cutV vs l h) := by
  unfold cutD cutV
  rw [← r.length]
  exact (r.drop _).take _
theorem xe_sl (ha : XE' X W a ra) (hl : PO X lo (LO X.K W rl)) (hh : PO X hi (LO X.K W rh)) : XE' X W (.Subscript a (.Slice lo hi none p2) pos) (aSl ra rl rh) := by
  refine pe_imp (pe_frz (pe_slice (sl_str.or (sl_list.or sl_tupA)) ha hl hh)) ?_
  rintro σ H Q ⟨α, θ, Γ, k, kx, S, G, q, lk, lx⟩
  refine ⟨α, θ, Γ, _, kx, S, G, q, fun x θ1 α1 H1 v n1 S1 r1 q1 => ?_, lx⟩
  refine ⟨α1, θ1, Γ, _, kx, S1, G.mono n1, q1, fun l θ2 α2 H2 n2 S2 q2 => ?_, lx.on n1⟩
  refine ⟨α2, θ2, Γ, _, kx, S2, G.mono (n1.trans n2), q2, fun h θ3 α3 H3 n3 S3 q3 => ?_, lx.on (n1.trans n2)⟩
  have r3 := Rep.mono (n2.trans n3) _ _ r1
  have lk3 := lk.on ((n1.trans n2).trans n3)
  rcases q3 with ⟨z, rfl, hz, q3⟩ | ⟨xs, e, q3⟩ | ⟨xs, rfl, q3⟩
  · unfold Rep at r3
    exact .inl ⟨z, r3, sz5 hz, .inl (lk3.at S3 (by unfold Rep; rfl) q3)⟩
  · obtain ⟨a', vs, rfl, h1, h2⟩ := asL_sq S3 r3 e
    exact .inr (.inl ⟨a', vs, rfl, h1, fun p hp => frz_newQ S3 hp (cut_rep h2 _ _) q3 lk3⟩)
  · unfold Rep at r3
    obtain ⟨a', vs, rfl, h1, h2⟩ := r3
    refine .inr (.inr ⟨a', vs, rfl, SqT.of h1, fun hw => .inl ?_, fun _ p hp => .inl (tup_new S3 hp (cut_rep h2 _ _) q3 lk3)⟩)
    rw [← h2.length] at hw
    have e : cutD xs l h = xs := by unfold cutD; rw [hw.1, hw.2]; simp
    rw [e] at q3
    exact lk3.at S3 (d := .tup xs) (by unfold Rep; exact ⟨a', vs, rfl, h1, h2⟩) q3
/-- xs[::-1] -/
@[reducible] def aRev (re : AR) : AR := fun Γ θ k kx => re Γ θ (fun x θ1 => ∃ xs, asL θ1 x = some xs ∧ k (.lst xs.reverse) θ1) kx
theorem xe_rev {k0 : Nat} {p1 p2 p3 : Pos} (ha : XE' X W a ra) : XE' X W (.Subscript a (.Slice none none (some (.UnaryOp .USub (.Constant (.int 1) k0 p1) p2)) p3) pos) (aRev ra) := by
  refine pe_imp (pe_frz (pe_revL ha)) ?_
  rintro σ H Q ⟨α, θ, Γ, k, kx, S, G, q, lk, lx⟩
  refine ⟨α, θ, Γ, _, kx, S, G, q, fun x θ1 α1 H1 v n1 S1 r1 ⟨xs, e, q1⟩ => ?_, lx⟩
  obtain ⟨a', vs, rfl, h1, h2⟩ := asL_sq S1 r1 e
  exact ⟨a', vs, rfl, h1, fun p hp => frz_newQ S1 hp h2.reverse q1 (lk.on n1)⟩
/-- -a -/
@[reducible] def fNeg (x : D) (θ : Th) (k : AK) : Prop := ∃ i, x = .int i ∧ k (.int (-i)) θ
@[reducible] def aUn (f : D → Th → AK → Prop) (re : AR) : AR := fun Γ θ k kx => re Γ θ (fun x θ1 => f x θ1 k) kx
theorem xe_neg (ha : XE' X W a ra) : XE' X W (.UnaryOp .USub a pos) (aUn fNeg ra) := by
  refine pe_imp (pe_un un_neg ha) ?_
  rintro σ H Q ⟨α, θ, Γ, k, kx, S, G, q, lk, lx⟩
  refine ⟨α, θ, Γ, _, kx, S, G, q, fun x θ1 α1 H1 v n1 S1 r1 ⟨i, e, q1⟩ => ?_, lx⟩
  subst e
  unfold Rep at r1
  exact ⟨i, r1, (lk.on n1).at S1 (by unfold Rep; rfl) q1⟩
/-! ### arguments, tuples, lists -/
@[reducible] def aNil : AAR := fun _ θ k _ => k [] θ
@[reducible] def aCons (ra : AR) (rs : AAR) : AAR := fun Γ θ k kx => ra Γ θ (fun x θ1 => rs Γ θ1 (fun xs θ2 => k (x :: xs) θ2) kx) kx
theorem xa_nil : XA X W [] aNil := pa_imp pa_nil (by
  rintro σ H Q ⟨α, θ, Γ, k, kx, S, G, q, lk, lx⟩
  exact lk [] θ α H [] (Nx.refl _ _ _) S Reps.nil q)
theorem args_imp {rs : AAR} {K : PySem.W.Frag} {σ : L2.St} {H : Hp} {Q : List V → Hp → Prop} (h : LA K W (aCons ra rs) σ H Q) : tCons (LE K W ra) (LA K W rs) σ H Q := by
  obtain ⟨α, θ, Γ, k, kx, S, G, q, lk, lx⟩ := h
  refine ⟨α, θ, Γ, _, kx, S, G, q, fun x θ1 α1 H1 v n1 S1 r1 q1 => ?_, lx⟩
  refine ⟨α1, θ1, Γ, _, kx, S1, G.mono n1, q1, fun xs θ2 α2 H2 vs n2 S2 r2 q2 => ?_, lx.on n1⟩
  exact lk (x :: xs) θ2 α2 H2 (v :: vs) (n1.trans n2) S2 (Reps.cons (Rep.mono n2 _ _ r1) r2) q2
theorem xa_cons {es : List Expr} {rs : AAR} (ha : XE' X W e ra) (hr : XA X W es rs) (hs : starEach (e :: es) X.env = (false, eval e X.env) :: starEach es X.env := by rfl) : XA X W (e :: es) (aCons ra rs) :=
  pa_imp (pa_cons ha hr hs) fun _ _ _ h => args_imp h
theorem go_nil {Γ : G} {θ : Th} {k : List D → Th → Prop} {kx : AX} (q : k [] θ) : aNil Γ θ k kx := q
theorem go_cons {rs : AAR} {Γ : G} {θ : Th} {k : List D → Th → Prop} {kx : AX} (q : ra Γ θ (fun x θ1 => rs Γ θ1 (fun xs θ2 => k (x :: xs) θ2) kx) kx) : aCons ra rs Γ θ k kx := q
@[reducible] def aTup (rs : AAR) : AR := fun Γ θ k kx => rs Γ θ (fun xs θ1 => xs.length ≤ 100000 ∧ k (.tup xs) θ1) kx
theorem xe_tup {es : List Expr} {rs : AAR} {x1} (h : XA X W es rs) : XE' X W (.Tuple es x1 pos) (aTup rs) := by
  refine pe_imp (pe_tup h) ?_
  rintro σ H Q ⟨α, θ, Γ, k, kx, S, G, q, lk, lx⟩
  refine ⟨α, θ, Γ, _, kx, S, G, q, fun xs θ1 α1 H1 vs n1 S1 r1 ⟨hl, q1⟩ => ?_, lx⟩
  exact ⟨by rw [← r1.length]; exact sz5 hl, fun p hp => tup_new S1 hp r1 q1 (lk.on n1)⟩
@[reducible] def aLst (rs : AAR) : AR := fun Γ θ k kx => rs Γ θ (fun xs θ1 => xs.length ≤ 100000 ∧ k (.lst xs) θ1) kx
theorem xe_lst {es : List Expr} {rs : AAR} (h : XA X W es rs) : XE' X W (.List es pos) (aLst rs) := by
  refine pe_imp (pe_frz (pe_lst h)) ?_
  rintro σ H Q ⟨α, θ, Γ, k, kx, S, G, q, lk, lx⟩
  refine ⟨α, θ, Γ, _, kx, S, G, q, fun xs θ1 α1 H1 vs n1 S1 r1 ⟨hl, q1⟩ => ?_, lx⟩
  exact ⟨by rw [← r1.length]; exact sz5 hl, fun p hp => frz_newQ S1 hp r1 q1 (lk.on n1)⟩
/-- a list that will change -/
@[reducible] def aLstM (rs : AAR) : AR := fun Γ θ k kx => rs Γ θ (fun xs θ1 => xs.length ≤ 100000 ∧ k (.obj θ1.length) (θ1 ++ [.lst xs])) kx
theorem xe_lstM {es : List Expr} {rs : AAR} (h : XA X W es rs) : XE' X W (.List es pos) (aLstM rs) := by
  refine pe_imp (pe_lst h) ?_
  rintro σ H Q ⟨α, θ, Γ, k, kx, S, G, q, lk, lx⟩
  refine ⟨α, θ, Γ, _, kx, S, G, q, fun xs θ1 α1 H1 vs n1 S1 r1 ⟨hl, q1⟩ => ?_, lx⟩
  refine ⟨by rw [← r1.length]; exact sz5 hl, fun p hp => ent_new S1 hp ?_ q1 (lk.on n1)⟩
  exact ⟨vs, upd_same, Reps.mono (Nx.put (same_new hp)) _ _ r1⟩
/-- {} -/
@[reducible] def aDicK : AR := fun _ θ k _ => k (.obj θ.length) (θ ++ [.dK []])
@[reducible] def aDicT : AR := fun _ θ k _ => k (.obj θ.length) (θ ++ [.dT []])
theorem xe_dicK : XE' X W (.Dict [] [] pos) aDicK := pe_imp pe_dnewK (by
  rintro σ H Q ⟨α, θ, Γ, k, kx, S, G, q, lk, lx⟩
  exact fun p hp => ent_new (e := .dK []) S hp ⟨[], upd_same, KRep.nil⟩ q lk)
theorem xe_dicT : XE' X W (.Dict [] [] pos) aDicT := pe_imp pe_dnewT (by
  rintro σ H Q ⟨α, θ, Γ, k, kx, S, G, q, lk, lx⟩
  exact fun p hp => ent_new (e := .dT []) S hp ⟨[], upd_same, KRep.nil⟩ q lk)
end
end AB
namespace AB
open PySem PySem.Spec PyProof.Rows L2
section
variable {X : Cx} {W : WX} {a b c e : Expr} {ra rb rc : AR} {ta tb tc : ATR} {pos p p2 : Pos} {rest : List Expr}
/-! ### truth, and, or, not -/
def truAns (θ : Th) : D → Bool → Prop
  | .non, b => b = false
  | .bl c, b => b = c
  | .int i, b => b = (i != 0)
  | .str y, b => y.length ≤ 100000 ∧ b = ((y.length : Int) != 0)
  | .tup xs, b => b = !xs.isEmpty
  | .obj n, b => (∃ xs, θ[n]? = some (.lst xs) ∧ b = !xs.isEmpty) ∨ ∃ kvs, θ[n]? = some (.dK kvs) ∧ b = !kvs.isEmpty
  | .lst xs, b => b = !xs.isEmpty
  | .lsk xs, b => b = !xs.isEmpty
  | .raw _, _ => False
theorem isEmpty_len {α β : Type} {xs : List α} {ys : List β} (h : xs.length = ys.length) : xs.isEmpty = ys.isEmpty := by
  cases xs <;> cases ys <;> first | rfl | (simp at h)
theorem tru_v {K : PySem.W.Frag} {H : Hp} {α : Nat → Addr} {θ : Th} (S : Sta K H α θ) {x : D} {v : V} {b : Bool} (r : Rep K H α θ.length x v) (t : truAns θ x b) : TruV K v H b := by
  cases x with
  | non => unfold Rep at r; subst r; exact t
  | bl _ => unfold Rep at r; subst r; exact t
  | int _ => unfold Rep at r; subst r; exact t
  | str _ => unfold Rep at r; subst r; exact ⟨sz5 t.1, t.2⟩
  | tup xs =>
    unfold Rep at r; obtain ⟨a, vs, rfl, h1, h2⟩ := r
    exact .inr (.inl ⟨vs, SqT.of h1, by rw [← isEmpty_len h2.length]; exact t⟩)
  | lst xs =>
    unfold Rep at r; obtain ⟨a, vs, rfl, h1, h2⟩ := r
    exact .inl ⟨vs, .inl h1.rd, by rw [← isEmpty_len h2.length]; exact t⟩
  | lsk xs =>
    unfold Rep at r; obtain ⟨a, vs, rfl, h1, h2⟩ := r
    exact .inl ⟨vs, h1.sq, by rw [← isEmpty_len h2.length]; exact t⟩
  | obj n =>
    unfold Rep at r; obtain ⟨_, rfl⟩ := r
    rcases t with ⟨xs, e, t⟩ | ⟨kvs, e, t⟩
    · obtain ⟨vs, h1, h2⟩ := S.ent n _ e
      exact .inl ⟨vs, SqL.of h1, by rw [← isEmpty_len h2.length]; exact t⟩
    · obtain ⟨ws, h1, h2⟩ := S.ent n _ e
      exact .inr (.inr ⟨ws, h1, by rw [← isEmpty_len h2.length]; exact t⟩)
  | raw _ => exact t.elim
@[reducible] def aTru (ra : AR) : ATR := fun Γ θ k kx => ra Γ θ (fun x θ1 => ∃ b, truAns θ1 x b ∧ k b θ1) kx
theorem xt_tru (ha : XE' X W a ra) (he : ∀ whole, isTrue a X.env whole = (do let v ← whole; standAt a.pos; holding [v] (truthy v))) : XT X W a (aTru ra) := pt_imp (pt_truth ha he) (by
  rintro σ H Q ⟨α, θ, Γ, k, kx, S, G, q, lk, lx⟩
  refine ⟨α, θ, Γ, _, kx, S, G, q, fun x θ1 α1 H1 v n1 S1 r1 ⟨b, t, q1⟩ => ?_, lx⟩
  exact ⟨b, tru_v S1 r1 t, lk b θ1 α1 H1 n1 S1 q1⟩)
abbrev XW (X : Cx) (W : WX) (e : Expr) (a : ATR) : Prop := PW X e (LT X.K W a)
/-- what follows by a test's answer -/
def ifB (b : Bool) (P Q : Prop) : Prop := (b = true → P) ∧ (b = false → Q)
@[reducible] def aAnd (t u : ATR) : ATR := fun Γ θ k kx => t Γ θ (fun c θ1 => ifB c (u Γ θ1 k kx) (k false θ1)) kx
@[reducible] def aOr (t u : ATR) : ATR := fun Γ θ k kx => t Γ θ (fun c θ1 => ifB c (k true θ1) (u Γ θ1 k kx)) kx
@[reducible] def aNot (t : ATR) : ATR := fun Γ θ k kx => t Γ θ (fun c θ1 => k (!c) θ1) kx
theorem and_imp {K : PySem.W.Frag} {σ : L2.St} {H : Hp} {Q : Bool → Hp → Prop} (h : LT K W (aAnd ta tb) σ H Q) : tAnd (LT K W ta) (LT K W tb) σ H Q := by
  obtain ⟨α, θ, Γ, k, kx, S, G, q, lk, lx⟩ := h
  refine ⟨α, θ, Γ, _, kx, S, G, q, fun b θ1 α1 H1 n1 S1 q1 => ?_, lx⟩
  cases b with
  | true => rw [if_pos rfl]; exact ⟨α1, θ1, Γ, k, kx, S1, G.mono n1, q1.1 rfl, lk.on n1, lx.on n1⟩
  | false => rw [if_neg Bool.false_ne_true]; exact lk false θ1 α1 H1 n1 S1 (q1.2 rfl)
theorem or_imp {K : PySem.W.Frag} {σ : L2.St} {H : Hp} {Q : Bool → Hp → Prop} (h : LT K W (aOr ta tb) σ H Q) : tOr (LT K W ta) (LT K W tb) σ H Q := by
  obtain ⟨α, θ, Γ, k, kx, S, G, q, lk, lx⟩ := h
  refine ⟨α, θ, Γ, _, kx, S, G, q, fun b θ1 α1 H1 n1 S1 q1 => ?_, lx⟩
  cases b with
  | true => rw [if_pos rfl]; exact lk true θ1 α1 H1 n1 S1 (q1.1 rfl)
  | false => rw [if_neg Bool.false_ne_true]; exact ⟨α1, θ1, Γ, k, kx, S1, G.mono n1, q1.2 rfl, lk.on n1, lx.on n1⟩
theorem xw_and1 (ha : XT X W a ta) : XW X W (.BoolOp .And [a] pos) ta := pw_and1 ha
theorem xw_or1 (ha : XT X W a ta) : XW X W (.BoolOp .Or [a] pos) ta := pw_or1 ha
theorem xw_and (ha : XT X W a ta) (hb : XW X W (.BoolOp .And (b :: rest) pos) tb) : XW X W (.BoolOp .And (a :: b :: rest) pos) (aAnd ta tb) := pw_imp (pw_and ha hb) fun _ _ _ h => and_imp h
theorem xw_or (ha : XT X W a ta) (hb : XW X W (.BoolOp .Or (b :: rest) pos) tb) : XW X W (.BoolOp .Or (a :: b :: rest) pos) (aOr ta tb) := pw_imp (pw_or ha hb) fun _ _ _ h => or_imp h
theorem XW.pt (h : XW X W e ta) : XT X W e ta := L2.PW.pt h
theorem xt_not (ha : XT X W a ta) : XT X W (.UnaryOp .Not a pos) (aNot ta) := pt_imp (pt_not ha) (by
  rintro σ H Q ⟨α, θ, Γ, k, kx, S, G, q, lk, lx⟩
  exact ⟨α, θ, Γ, _, kx, S, G, q, fun b θ1 α1 H1 n1 S1 q1 => lk (!b) θ1 α1 H1 n1 S1 q1, lx⟩)
/-- as values, all but the last bools -/
@[reducible] def aAndV (ra rb : AR) : AR := fun Γ θ k kx => ra Γ θ (fun x θ1 => ∃ c, x = .bl c ∧ ifB c (rb Γ θ1 k kx) (k (.bl false) θ1)) kx
@[reducible] def aOrV (ra rb : AR) : AR := fun Γ θ k kx => ra Γ θ (fun x θ1 => ∃ c, x = .bl c ∧ ifB c (k (.bl true) θ1) (rb Γ θ1 k kx)) kx
theorem xe_one {op} (h : XE' X W a ra) : XE' X W (.BoolOp op [a] pos) ra := pe_one h
theorem xe_and (ha : XE' X W a ra) (hb : XE' X W (.BoolOp .And (b :: rest) pos) rb) : XE' X W (.BoolOp .And (a :: b :: rest) pos) (aAndV ra rb) := pe_imp (pe_and ha hb) (by
  rintro σ H Q ⟨α, θ, Γ, k, kx, S, G, q, lk, lx⟩
  refine ⟨α, θ, Γ, _, kx, S, G, q, fun x θ1 α1 H1 v n1 S1 r1 ⟨c, e, q1⟩ => ?_, lx⟩
  subst e
  unfold Rep at r1
  refine ⟨c, r1, ?_⟩
  cases c with
  | true => rw [if_pos rfl]; exact ⟨α1, θ1, Γ, k, kx, S1, G.mono n1, q1.1 rfl, lk.on n1, lx.on n1⟩
  | false => rw [if_neg Bool.false_ne_true]; exact (lk.on n1).at S1 (by unfold Rep; rfl) (q1.2 rfl))
theorem xe_or (ha : XE' X W a ra) (hb : XE' X W (.BoolOp .Or (b :: rest) pos) rb) : XE' X W (.BoolOp .Or (a :: b :: rest) pos) (aOrV ra rb) := pe_imp (pe_or ha hb) (by
  rintro σ H Q ⟨α, θ, Γ, k, kx, S, G, q, lk, lx⟩
  refine ⟨α, θ, Γ, _, kx, S, G, q, fun x θ1 α1 H1 v n1 S1 r1 ⟨c, e, q1⟩ => ?_, lx⟩
  subst e
  unfold Rep at r1
  refine ⟨c, r1, ?_⟩
  cases c with
  | true => rw [if_pos rfl]; exact (lk.on n1).at S1 (by unfold Rep; rfl) (q1.1 rfl)
  | false => rw [if_neg Bool.false_ne_true]; exact ⟨α1, θ1, Γ, k, kx, S1, G.mono n1, q1.2 rfl, lk.on n1, lx.on n1⟩)
@[reducible] def aNotV (ra : AR) : AR := fun Γ θ k kx => ra Γ θ (fun x θ1 => ∃ c, x = .bl c ∧ k (.bl (!c)) θ1) kx
theorem xe_not (ha : XE' X W a ra) : XE' X W (.UnaryOp .Not a pos) (aNotV ra) := pe_imp (pe_not ha) (by
  rintro σ H Q ⟨α, θ, Γ, k, kx, S, G, q, lk, lx⟩
  refine ⟨α, θ, Γ, _, kx, S, G, q, fun x θ1 α1 H1 v n1 S1 r1 ⟨c, e, q1⟩ => ?_, lx⟩
  subst e
  unfold Rep at r1
  exact ⟨c, r1, (lk.on n1).at S1 (by unfold Rep; rfl) q1⟩)
@[reducible] def aIfE (t : ATR) (ra rb : AR) : AR := fun Γ θ k kx => t Γ θ (fun c θ1 => ifB c (ra Γ θ1 k kx) (rb Γ θ1 k kx)) kx
theorem xe_if (hc : XT X W c tc) (ha : XE' X W a ra) (hb : XE' X W b rb) : XE' X W (.IfExp c a b pos) (aIfE tc ra rb) := pe_imp (pe_ifExp hc ha hb) (by
  rintro σ H Q ⟨α, θ, Γ, k, kx, S, G, q, lk, lx⟩
  refine ⟨α, θ, Γ, _, kx, S, G, q, fun b θ1 α1 H1 n1 S1 q1 => ?_, lx⟩
  cases b with
  | true => rw [if_pos rfl]; exact ⟨α1, θ1, Γ, k, kx, S1, G.mono n1, q1.1 rfl, lk.on n1, lx.on n1⟩
  | false => rw [if_neg Bool.false_ne_true]; exact ⟨α1, θ1, Γ, k, kx, S1, G.mono n1, q1.2 rfl, lk.on n1, lx.on n1⟩)
/-- a op1 b op2 c -/
@[reducible] def aChain (f f' : F2) (ra rb rc : AR) : AR := fun Γ θ k kx => ra Γ θ (fun x θ1 => rb Γ θ1 (fun y θ2 => f x y θ2 fun z θ3 => ∃ c, z = .bl c ∧ ifB c (rc Γ θ3 (fun w θ4 => f' y w θ4 k) kx) (k (.bl false) θ3)) kx) kx
theorem chain_imp {f f' : F2} {r r' : R2} (s : Sim2 X.K f r) (s' : Sim2 X.K f' r') {σ : L2.St} {H : Hp} {Q : VK} (h : LE X.K W (aChain f f' ra rb rc) σ H Q) : tChain r r' (LE X.K W ra) (LE X.K W rb) (LE X.K W rc) σ H Q := by
  obtain ⟨α, θ, Γ, k, kx, S, G, q, lk, lx⟩ := h
  refine ⟨α, θ, Γ, _, kx, S, G, q, fun x θ1 α1 H1 v n1 S1 r1 q1 => ?_, lx⟩
  refine ⟨α1, θ1, Γ, _, kx, S1, G.mono n1, q1, fun y θ2 α2 H2 u n2 S2 r2 q2 => ?_, lx.on n1⟩
  refine s α2 θ2 H2 x y v u _ _ S2 (Rep.mono n2 _ _ r1) r2 q2 fun z θ3 α3 H3 w n3 S3 r3 ⟨c, e, q3⟩ => ?_
  subst e
  unfold Rep at r3
  refine ⟨c, r3, ?_⟩
  cases c with
  | true =>
    rw [if_pos rfl]
    refine ⟨α3, θ3, Γ, _, kx, S3, G.mono ((n1.trans n2).trans n3), q3.1 rfl, fun t θ4 α4 H4 t' n4 S4 r4 q4 => ?_, lx.on ((n1.trans n2).trans n3)⟩
    exact s' α4 θ4 H4 y t u t' k Q S4 (Rep.mono (n3.trans n4) _ _ r2) r4 q4 (lk.on (((n1.trans n2).trans n3).trans n4))
  | false => rw [if_neg Bool.false_ne_true]; exact (lk.on ((n1.trans n2).trans n3)).at S3 (by unfold Rep; rfl) (q3.2 rfl)
theorem xe_chain {op op' : CmpOp} {f f' : F2} {r r' : R2} (ho : OpR X (compareOp op) r) (s : Sim2 X.K f r) (ho' : OpR X (compareOp op') r') (s' : Sim2 X.K f' r') (ha : XE' X W a ra) (hb : XE' X W b rb) (hc : XE' X W c rc)
    (hm : lastMarks [op, op'] [b, c] = false := by with_unfolding_all rfl) : XE' X W (.Compare a [op, op'] [b, c] pos) (aChain f f' ra rb rc) := pe_imp (pe_chain ho ho' ha hb hc hm) fun _ _ _ h => chain_imp s s' h
theorem xt_chain {op op' : CmpOp} {f f' : F2} {r r' : R2} (ho : OpR X (compareOp op) r) (s : Sim2 X.K f r) (ho' : OpR X (compareOp op') r') (s' : Sim2 X.K f' r') (ha : XE' X W a ra) (hb : XE' X W b rb) (hc : XE' X W c rc)
    (hm : lastMarks [op, op'] [b, c] = false := by with_unfolding_all rfl) : XT X W (.Compare a [op, op'] [b, c] pos) (aTst (aChain f f' ra rb rc)) := pt_imp (pt_chain ho ho' ha hb hc hm) (by
  rintro σ H Q ⟨α, θ, Γ, k, kx, S, G, q, lk, lx⟩
  show tChain _ _ _ _ _ σ H _
  refine chain_imp s s' ⟨α, θ, Γ, _, kx, S, G, q, fun x θ1 α1 H1 v n1 S1 r1 ⟨b, e, q1⟩ => ?_, lx⟩
  subst e
  unfold Rep at r1
  exact ⟨b, r1, lk b θ1 α1 H1 n1 S1 q1⟩)
/-! ### built-ins called -/
abbrev FA := List D → Th → AK → Prop
def SimA (K : PySem.W.Frag) (f : FA) (r : List V → Hp → VK → Prop) : Prop := ∀ (α : Nat → Addr) (θ : Th) (H : Hp) (xs : List D) (vs : List V) (k : AK) (Q : VK), Sta K H α θ → Reps K H α θ.length xs vs → f xs θ k → LkV K α θ.length H k Q → r vs H Q
@[reducible] def aCB (f : FA) (rs : AAR) : AR := fun Γ θ k kx => rs Γ θ (fun xs θ1 => f xs θ1 k) kx
theorem go_cb {f : FA} {rs : AAR} {Γ : G} {θ : Th} {k : AK} {kx : AX} (q : rs Γ θ (fun xs θ1 => f xs θ1 k) kx) : aCB f rs Γ θ k kx := q
theorem cb_imp {K : PySem.W.Frag} {f : FA} {r : List V → Hp → VK → Prop} {rs : AAR} (s : SimA K f r) {σ : L2.St} {H : Hp} {Q : VK} (h : LE K W (aCB f rs) σ H Q) : tCB r (LA K W rs) σ H Q := by
  obtain ⟨α, θ, Γ, k, kx, S, G, q, lk, lx⟩ := h
  exact ⟨α, θ, Γ, _, kx, S, G, q, fun xs θ1 α1 H1 vs n1 S1 r1 q1 => s α1 θ1 H1 xs vs k Q S1 r1 q1 (lk.on n1), lx⟩
theorem xe_cb {f : FA} {r : List V → Hp → VK → Prop} {rs : AAR} {id : String} {es : List Expr} {x : Str} (hc : CallR X (.builtin id) r) (s : SimA X.K f r) (hg : Gl X x) (hm : X.mg x = none) (hv : bootBuiltins x = some (.builtin id)) (ha : XA X W (e :: es) rs) (hn : x ≠ "__name__" := by decide) (hdb : (x == ("__debug__" : Str)) = false := by decide)
    (he : starEach (e :: es) X.env = (false, eval e X.env) :: starEach es X.env := by rfl) (hpl : (backTo pos (starEach es X.env)).any (·.1) = false := by rfl) : XE' X W (.Call (.Name x p) (e :: es) [] pos) (aCB f rs) :=
  pe_imp (pe_callB hc hg hm hv ha hn hdb he hpl) fun _ _ _ h => cb_imp s h
theorem xe_cbT {f : FA} {r : List V → Hp → VK → Prop} {rs : AAR} {id : String} {es : List Expr} {x : Str} (hc : CallR X (.type id) r) (s : SimA X.K f r) (hg : Gl X x) (hm : X.mg x = none) (hv : bootBuiltins x = some (.type id)) (ha : XA X W (e :: es) rs) (hn : x ≠ "__name__" := by decide) (hdb : (x == ("__debug__" : Str)) = false := by decide)
    (he : starEach (e :: es) X.env = (false, eval e X.env) :: starEach es X.env := by rfl) (hpl : (backTo pos (starEach es X.env)).any (·.1) = false := by rfl) : XE' X W (.Call (.Name x p) (e :: es) [] pos) (aCB f rs) :=
  pe_imp (pe_callTy hc hg hm hv ha hn hdb he hpl) fun _ _ _ h => cb_imp s h
/-- .. whose new list is frozen -/
theorem xe_cbF {f : FA} {r : List V → Hp → VK → Prop} {rs : AAR} {id : String} {es : List Expr} {x : Str} (hc : CallR X (.builtin id) r) (s : SimA X.K f (fun vs H Q => r vs H (FrQ Q))) (hg : Gl X x) (hm : X.mg x = none) (hv : bootBuiltins x = some (.builtin id)) (ha : XA X W (e :: es) rs) (hn : x ≠ "__name__" := by decide) (hdb : (x == ("__debug__" : Str)) = false := by decide)
    (he : starEach (e :: es) X.env = (false, eval e X.env) :: starEach es X.env := by rfl) (hpl : (backTo pos (starEach es X.env)).any (·.1) = false := by rfl) : XE' X W (.Call (.Name x p) (e :: es) [] pos) (aCB f rs) :=
  pe_imp (pe_frz (pe_callB hc hg hm hv ha hn hdb he hpl)) fun _ _ _ h => cb_imp (r := fun vs H Q => r vs H (FrQ Q)) s h
theorem xe_cbTF {f : FA} {r : List V → Hp → VK → Prop} {rs : AAR} {id : String} {es : List Expr} {x : Str} (hc : CallR X (.type id) r) (s : SimA X.K f (fun vs H Q => r vs H (FrQ Q))) (hg : Gl X x) (hm : X.mg x = none) (hv : bootBuiltins x = some (.type id)) (ha : XA X W (e :: es) rs) (hn : x ≠ "__name__" := by decide) (hdb : (x == ("__debug__" : Str)) = false := by decide)
    (he : starEach (e :: es) X.env = (false, eval e X.env) :: starEach es X.env := by rfl) (hpl : (backTo pos (starEach es X.env)).any (·.1) = false := by rfl) : XE' X W (.Call (.Name x p) (e :: es) [] pos) (aCB f rs) :=
  pe_imp (pe_frz (pe_callTy hc hg hm hv ha hn hdb he hpl)) fun _ _ _ h => cb_imp (r := fun vs H Q => r vs H (FrQ Q)) s h
end
def fLen : FA := fun xs θ k => (∃ z, xs = [.str z] ∧ z.length ≤ 100000 ∧ k (.int (z.length : Nat)) θ) ∨ ∃ (d : D) (ys : List D), xs = [d] ∧ asS θ d = some ys ∧ k (.int (ys.length : Nat)) θ
@[reducible] def fStr : FA := fun xs θ k => ∃ i, xs = [.int i] ∧ i.natAbs < 2 ^ 1000 ∧ k (.str (toString i)) θ
def fInt : FA := fun xs θ k => (∃ i, xs = [.int i] ∧ k (.int i) θ) ∨ (∃ c : Bool, xs = [.bl c] ∧ k (.int (if c then 1 else 0)) θ) ∨ ∃ a n, xs = [.str a] ∧ PySem.intText? a = some n ∧ a.length ≤ 640 ∧ k (.int n) θ
@[reducible] def fOrd : FA := fun xs θ k => ∃ x, xs = [.str x] ∧ x.length = 1 ∧ k (.int (x.cps.getD 0 0 : Nat)) θ
def fSum : FA := fun xs θ k => ∃ (d : D) (ns : List Int), xs = [d] ∧ asL θ d = some (ns.map D.int) ∧ k (.int ns.sum) θ
def fAll : FA := fun xs θ k => ∃ (d : D) (bs : List Bool), xs = [d] ∧ asL θ d = some (bs.map D.bl) ∧ k (.bl (bs.all id)) θ
def fAny : FA := fun xs θ k => ∃ (d : D) (bs : List Bool), xs = [d] ∧ asL θ d = some (bs.map D.bl) ∧ k (.bl (bs.any id)) θ
def fTuple : FA := fun xs θ k => (∃ (d : D) (ys : List D), xs = [d] ∧ asL θ d = some ys ∧ k (.tup ys) θ) ∨ ∃ ys, xs = [.tup ys] ∧ k (.tup ys) θ
@[reducible] def fMax : FA := fun xs θ k => ∃ i j : Int, xs = [.int i, .int j] ∧ k (.int (if j > i then j else i)) θ
@[reducible] def fMin : FA := fun xs θ k => ∃ i j : Int, xs = [.int i, .int j] ∧ k (.int (if j < i then j else i)) θ
def fSortI : FA := fun xs θ k => ∃ (d : D) (ns : List Int), xs = [d] ∧ asL θ d = some (ns.map D.int) ∧ ∀ ns' : List Int, ns'.Perm ns → ns'.Pairwise (· ≤ ·) → k (.lst (ns'.map D.int)) θ
def fSortS : FA := fun xs θ k => ∃ (d : D) (ss : List Str), xs = [d] ∧ asL θ d = some (ss.map D.str) ∧ ss.length < 64 ∧ ∀ ss' : List Str, ss'.Perm ss → sortedS ss' = true → k (.lst (ss'.map D.str)) θ
def fSort : FA := fun xs θ k => fSortI xs θ k ∨ fSortS xs θ k
def tyNm (θ : Th) : D → Option String
  | .non => some "NoneType" | .bl _ => some "bool" | .int _ => some "int" | .str _ => some "str" | .tup _ => some "tuple" | .lst _ => some "list" | _ => none
def fIsi : FA := fun xs θ k => (∃ d c a b, xs = [d, .raw (.ty c)] ∧ tyNm θ d = some a ∧ kitB a c = some b ∧ k (.bl b) θ) ∨
  ∃ d c c' a b b', xs = [d, .tup [.raw (.ty c), .raw (.ty c')]] ∧ tyNm θ d = some a ∧ kitB a c = some b ∧ kitB a c' = some b' ∧ k (.bl (b || b')) θ
section
variable {K : PySem.W.Frag}
theorem rep1 {H : Hp} {α : Nat → Addr} {N : Nat} {d : D} {vs : List V} (r : Reps K H α N [d] vs) : ∃ v, vs = [v] ∧ Rep K H α N d v := by
  obtain ⟨v, ws, rfl, h1, h2⟩ := r.uncons
  unfold Reps at h2
  exact ⟨v, by rw [h2], h1⟩
theorem rep2 {H : Hp} {α : Nat → Addr} {N : Nat} {d e : D} {vs : List V} (r : Reps K H α N [d, e] vs) : ∃ v w, vs = [v, w] ∧ Rep K H α N d v ∧ Rep K H α N e w := by
  obtain ⟨v, ws, rfl, h1, h2⟩ := r.uncons
  obtain ⟨w, rfl, h3⟩ := rep1 h2
  exact ⟨v, w, rfl, h1, h3⟩
theorem sim_len : SimA K fLen (fun xs H Q => ∃ x n, xs = [x] ∧ LenV K x H n ∧ Q (.int n) H) := by
  intro α θ H xs vs k Q S r h lk
  rcases h with ⟨z, rfl, hz, h⟩ | ⟨d, ys, rfl, e, h⟩
  · obtain ⟨v, rfl, r1⟩ := rep1 r
    unfold Rep at r1; subst r1
    exact ⟨_, z.length, rfl, ⟨sz5 hz, rfl⟩, lk.at S (by unfold Rep; rfl) h⟩
  · obtain ⟨v, rfl, r1⟩ := rep1 r
    obtain ⟨a, ws, rfl, h1, h2⟩ := asS_sq S r1 e
    refine ⟨_, ys.length, rfl, ?_, lk.at S (by unfold Rep; rfl) h⟩
    rcases h1 with h1 | h1
    · exact .inl ⟨ws, h1, h2.length⟩
    · exact .inr ⟨ws, h1, h2.length⟩
theorem sim_str : SimA K fStr (fun xs H Q => ∃ i, xs = [.int i] ∧ i.natAbs.log2 < 1920 ∧ Q (.str (toString i)) H) := by
  intro α θ H xs vs k Q S r ⟨i, e, hi, h⟩ lk
  subst e
  obtain ⟨v, rfl, r1⟩ := rep1 r
  unfold Rep at r1; subst r1
  refine ⟨i, rfl, ?_, lk.at S (by unfold Rep; rfl) h⟩
  by_cases h0 : i.natAbs = 0
  · rw [h0]; decide
  · have := (Nat.log2_lt h0).mpr hi
    omega
theorem sim_int : SimA K fInt (fun xs H Q => ((∃ i, xs = [.int i] ∧ Q (.int i) H) ∨ ∃ k, xs = [.bl k] ∧ Q (.int (if k then 1 else 0)) H) ∨ ∃ a n, xs = [.str a] ∧ PySem.intText? a = some n ∧ a.length ≤ 640 ∧ Q (.int n) H) := by
  intro α θ H xs vs k Q S r h lk
  rcases h with ⟨i, rfl, h⟩ | ⟨i, rfl, h⟩ | ⟨i, n, rfl, h1, h2, h⟩
  · obtain ⟨v, rfl, r1⟩ := rep1 r
    unfold Rep at r1; subst r1
    exact .inl (.inl ⟨i, rfl, lk.at S (by unfold Rep; rfl) h⟩)
  · obtain ⟨v, rfl, r1⟩ := rep1 r
    unfold Rep at r1; subst r1
    exact .inl (.inr ⟨i, rfl, lk.at S (by unfold Rep; rfl) h⟩)
  · obtain ⟨v, rfl, r1⟩ := rep1 r
    unfold Rep at r1; subst r1
    exact .inr ⟨i, n, rfl, h1, h2, lk.at S (by unfold Rep; rfl) h⟩
theorem sim_ord : SimA K fOrd (fun xs H Q => ∃ x, xs = [.str x] ∧ x.length = 1 ∧ Q (.int (x.cps.getD 0 0 : Nat)) H) := by
  intro α θ H xs vs k Q S r ⟨x, e, h1, h⟩ lk
  subst e
  obtain ⟨v, rfl, r1⟩ := rep1 r
  unfold Rep at r1; subst r1
  exact ⟨x, rfl, h1, lk.at S (by unfold Rep; rfl) h⟩
theorem sim_sum : SimA K fSum (rSum K) := by
  intro α θ H xs vs k Q S r ⟨d, ns, e, e1, h⟩ lk
  subst e
  obtain ⟨v, rfl, r1⟩ := rep1 r
  obtain ⟨a, ws, rfl, h1, h2⟩ := asL_sq S r1 e1
  rw [of_ints h2] at h1
  exact ⟨a, ns, rfl, h1, lk.at S (by unfold Rep; rfl) h⟩
theorem sim_all : SimA K fAll (rAll K) := by
  intro α θ H xs vs k Q S r ⟨d, ns, e, e1, h⟩ lk
  subst e
  obtain ⟨v, rfl, r1⟩ := rep1 r
  obtain ⟨a, ws, rfl, h1, h2⟩ := asL_sq S r1 e1
  rw [of_bls h2] at h1
  exact ⟨a, ns, rfl, h1, lk.at S (by unfold Rep; rfl) h⟩
theorem sim_any : SimA K fAny (rAny K) := by
  intro α θ H xs vs k Q S r ⟨d, ns, e, e1, h⟩ lk
  subst e
  obtain ⟨v, rfl, r1⟩ := rep1 r
  obtain ⟨a, ws, rfl, h1, h2⟩ := asL_sq S r1 e1
  rw [of_bls h2] at h1
  exact ⟨a, ns, rfl, h1, lk.at S (by unfold Rep; rfl) h⟩
theorem sim_tuple : SimA K fTuple (fun xs H Q => ∃ p ys, xs = [.ref p] ∧ ((SqL K H p ys ∧ ∀ l, H l = none → Q (.ref l) (upd H l (.tup ys))) ∨ (SqT K H p ys ∧ Q (.ref p) H))) := by
  intro α θ H xs vs k Q S r h lk
  rcases h with ⟨d, ys, rfl, e1, h⟩ | ⟨ys, rfl, h⟩
  · obtain ⟨v, rfl, r1⟩ := rep1 r
    obtain ⟨a, ws, rfl, h1, h2⟩ := asL_sq S r1 e1
    exact ⟨a, ws, rfl, .inl ⟨h1, fun l hl => tup_new S hl h2 h lk⟩⟩
  · obtain ⟨v, rfl, r1⟩ := rep1 r
    have r1' := r1
    unfold Rep at r1
    obtain ⟨a, ws, rfl, h1, h2⟩ := r1
    exact ⟨a, ws, rfl, .inr ⟨SqT.of h1, lk.at S r1' h⟩⟩
theorem sim_max : SimA K fMax (fun xs H Q => ∃ i j, xs = [.int i, .int j] ∧ Q (.int (if j > i then j else i)) H) := by
  intro α θ H xs vs k Q S r ⟨i, j, e, h⟩ lk
  subst e
  obtain ⟨v, w, rfl, r1, r2⟩ := rep2 r
  unfold Rep at r1 r2; subst r1 r2
  exact ⟨i, j, rfl, lk.at S (by unfold Rep; rfl) h⟩
theorem sim_min : SimA K fMin (fun xs H Q => ∃ i j, xs = [.int i, .int j] ∧ Q (.int (if j < i then j else i)) H) := by
  intro α θ H xs vs k Q S r ⟨i, j, e, h⟩ lk
  subst e
  obtain ⟨v, w, rfl, r1, r2⟩ := rep2 r
  unfold Rep at r1 r2; subst r1 r2
  exact ⟨i, j, rfl, lk.at S (by unfold Rep; rfl) h⟩
theorem sim_sort : SimA K fSort (fun vs H Q => rSortedI K vs H (FrQ Q) ∨ rSortedS K vs H (FrQ Q)) := by
  intro α θ H xs vs k Q S r h lk
  rcases h with ⟨d, ns, rfl, e1, h⟩ | ⟨d, ns, rfl, e1, e2, h⟩
  · obtain ⟨v, rfl, r1⟩ := rep1 r
    obtain ⟨a, ws, rfl, h1, h2⟩ := asL_sq S r1 e1
    rw [of_ints h2] at h1
    refine .inl ⟨a, ns, rfl, h1, fun ns' p q1 q2 hp => frz_newQ S hp (reps_ints ns') (h ns' q1 q2) lk⟩
  · obtain ⟨v, rfl, r1⟩ := rep1 r
    obtain ⟨a, ws, rfl, h1, h2⟩ := asL_sq S r1 e1
    rw [of_strs h2] at h1
    refine .inr ⟨a, ns, rfl, h1, e2, fun ns' p q1 q2 hp => frz_newQ S hp (reps_strs ns') (h ns' q1 q2) lk⟩
theorem tyNm_x {H : Hp} {α : Nat → Addr} {θ : Th} (S : Sta K H α θ) {d : D} {v : V} {a : String} (r : Rep K H α θ.length d v) (e : tyNm θ d = some a) : TyX K H v (.type a) := by
  cases d with
  | non => unfold Rep at r; subst r; cases e; exact .base .non
  | bl _ => unfold Rep at r; subst r; cases e; exact .base (.bl _)
  | int _ => unfold Rep at r; subst r; cases e; exact .base (.int _)
  | str _ => unfold Rep at r; subst r; cases e; exact .base (.str _)
  | tup _ => unfold Rep at r; obtain ⟨p, vs, rfl, h1, _⟩ := r; cases e; exact .base (.tup h1)
  | lst _ => unfold Rep at r; obtain ⟨p, vs, rfl, ⟨o, h1⟩, _⟩ := r; cases e; exact .base (.frz h1)
  | _ => cases e
theorem sim_isi : SimA K fIsi (fun xs H Q => rIsi K xs H Q ∨ rIsiT K xs H Q) := by
  intro α θ H xs vs k Q S r h lk
  rcases h with ⟨d, c, a, b, rfl, e1, e2, h⟩ | ⟨d, c, c', a, b, b', rfl, e1, e2, e3, h⟩
  · obtain ⟨v, w, rfl, r1, r2⟩ := rep2 r
    unfold Rep at r2; subst r2
    exact .inl ⟨v, _, .type a, .type c, b, rfl, .ty c, tyNm_x S r1 e1, kit_ty e2, lk.at S (by unfold Rep; rfl) h⟩
  · obtain ⟨v, w, rfl, r1, r2⟩ := rep2 r
    unfold Rep at r2
    obtain ⟨p, ws, rfl, h1, h2⟩ := r2
    obtain ⟨u1, u2, rfl, r3, r4⟩ := rep2 h2
    unfold Rep at r3 r4; subst r3 r4
    refine .inr ⟨v, p, _, .type a, [.type c, .type c'], b || b', rfl, h1, .cons (.ty c) (.cons (.ty c') .nil), tyNm_x S r1 e1, ?_, lk.at S (by unfold Rep; rfl) h⟩
    refine kitAny_cons (kit_ty e2) (fun z => ?_) fun z => by rw [z]; rfl
    subst z
    refine kitAny_cons (kit_ty e3) (fun z => ?_) fun z => by rw [z]; rfl
    subst z
    exact kitAny_nil
end
end AB
namespace AB
open PySem PySem.Spec PyProof.Rows L2
/-! ### an entry changed -/
section
variable {K : PySem.W.Frag} {H : Hp} {α : Nat → Addr} {θ : Th}
theorem ent_set {n : Nat} {e e' : Ent} {u o : HO} {k : AK} {Q : VK} {d : D} {v : V} (S : Sta K H α θ) (hn : θ[n]? = some e) (hu : H (α n) = some u) (mu : Mut (some u)) (he : ∀ H', Nx α θ.length H α θ.length H' → H' (α n) = some o → EntAt K H' α θ.length (α n) e')
    (r : Rep K H α θ.length d v) (q : k d (θ.set n e')) (lk : LkV K α θ.length H k Q) : Q v (upd H (α n) o) := by
  have hl : n < θ.length := (List.getElem?_eq_some_iff.mp hn).1
  have hz : (θ.set n e').length = θ.length := List.length_set ..
  have nx : Nx α θ.length H α (θ.set n e').length (upd H (α n) o) := Nx.write hu mu
  refine lk d _ α _ v nx (S.write hl hu mu ?_) (Rep.mono nx _ _ r) q
  rw [hz] at nx ⊢
  exact he _ nx upd_same
end
/-! ### methods of texts and lists -/
abbrev FM := D → List D → Th → AK → Prop
def SimM (K : PySem.W.Frag) (f : FM) (r : V → List V → Hp → VK → Prop) : Prop := ∀ (α : Nat → Addr) (θ : Th) (H : Hp) (x : D) (xs : List D) (v : V) (vs : List V) (k : AK) (Q : VK), Sta K H α θ → Rep K H α θ.length x v → Reps K H α θ.length xs vs → f x xs θ k → LkV K α θ.length H k Q → r v vs H Q
def tyOk (T : String) (x : D) (θ : Th) : Prop := (T = "str" ∧ ∃ z, x = .str z) ∨ (T = "list" ∧ ∃ xs, asL θ x = some xs)
@[reducible] def aBM (T : String) (f : FM) (ro : AR) (rs : AAR) : AR := fun Γ θ k kx => ro Γ θ (fun x θ1 => tyOk T x θ1 ∧ rs Γ θ1 (fun xs θ2 => f x xs θ2 k) kx) kx
theorem tyOk_v {K : PySem.W.Frag} {H : Hp} {α : Nat → Addr} {θ : Th} (S : Sta K H α θ) {T : String} {x : D} {v : V} (r : Rep K H α θ.length x v) (t : tyOk T x θ) : tyV K T v H := by
  rcases t with ⟨rfl, z, rfl⟩ | ⟨rfl, xs, e⟩
  · unfold Rep at r; subst r; rfl
  · obtain ⟨a, vs, rfl, h1, _⟩ := asL_sq S r e
    exact .inl ⟨rfl, vs, h1⟩
section
variable {X : Cx} {W : WX} {o e f g : Expr} {ro re rf rg : AR} {pos apos cpos p : Pos} {es : List Expr} {rs : AAR}
theorem bm_imp {T : String} {fm : FM} {r : V → List V → Hp → VK → Prop} (s : SimM X.K fm r) {σ : L2.St} {H : Hp} {Q : VK} (h : LE X.K W (aBM T fm ro rs) σ H Q) : tBM X.K T r (LE X.K W ro) (LA X.K W rs) σ H Q := by
  obtain ⟨α, θ, Γ, k, kx, S, G, q, lk, lx⟩ := h
  refine ⟨α, θ, Γ, _, kx, S, G, q, fun x θ1 α1 H1 v n1 S1 r1 ⟨t, q1⟩ => ⟨tyOk_v S1 r1 t, ?_⟩, lx⟩
  refine ⟨α1, θ1, Γ, _, kx, S1, G.mono n1, q1, fun xs θ2 α2 H2 vs n2 S2 r2 q2 => ?_, lx.on n1⟩
  exact s α2 θ2 H2 x xs v vs k Q S2 (Rep.mono n2 _ _ r1) r2 q2 (lk.on (n1.trans n2))
theorem xe_bm {T id : String} {name : Str} {fm : FM} {r : V → List V → Hp → VK → Prop} (pa : PlainAttrs T) (slot : Slot T name id) (hty : typeOf (.builtin id) = pure (.type "method_descriptor")) (hm : MtR X id r) (s : SimM X.K fm r) (ho : XE' X W o ro) (ha : XA X W (e :: es) rs)
    (hbase : attributeBase o name X.env (eval o X.env) = eval o X.env := by rfl)
    (hfew : ((backTo cpos (starEach (e :: es) X.env)).all (fun x => !x.1) && (backToKw cpos (keywordEach [] X.env)).all (fun x => x.1.isSome)
      && decide ((e :: es).length + ([] : List Keyword).length + (if ([] : List Keyword).isEmpty then 0 else 1) < 30)) = true := by rfl)
    (hline : (apos.endLine == cpos.line) = true := by rfl) (hs : starEach (e :: es) X.env = (false, eval e X.env) :: starEach es X.env := by rfl) (hplain : (backTo cpos (starEach es X.env)).any (·.1) = false := by rfl) :
    XE' X W (.Call (.Attribute o name apos) (e :: es) [] cpos) (aBM T fm ro rs) := pe_imp (pe_bm pa slot hty hm ho ha hbase hfew hline hs hplain) fun _ _ _ h => bm_imp s h
theorem xe_bmF {T id : String} {name : Str} {fm : FM} {r : V → List V → Hp → VK → Prop} (pa : PlainAttrs T) (slot : Slot T name id) (hty : typeOf (.builtin id) = pure (.type "method_descriptor")) (hm : MtR X id r) (s : SimM X.K fm (fun v vs H Q => r v vs H (FrQ Q))) (ho : XE' X W o ro) (ha : XA X W (e :: es) rs)
    (hbase : attributeBase o name X.env (eval o X.env) = eval o X.env := by rfl)
    (hfew : ((backTo cpos (starEach (e :: es) X.env)).all (fun x => !x.1) && (backToKw cpos (keywordEach [] X.env)).all (fun x => x.1.isSome)
      && decide ((e :: es).length + ([] : List Keyword).length + (if ([] : List Keyword).isEmpty then 0 else 1) < 30)) = true := by rfl)
    (hline : (apos.endLine == cpos.line) = true := by rfl) (hs : starEach (e :: es) X.env = (false, eval e X.env) :: starEach es X.env := by rfl) (hplain : (backTo cpos (starEach es X.env)).any (·.1) = false := by rfl) :
    XE' X W (.Call (.Attribute o name apos) (e :: es) [] cpos) (aBM T fm ro rs) := pe_imp (pe_frz (pe_bm pa slot hty hm ho ha hbase hfew hline hs hplain)) fun _ _ _ h => bm_imp (r := fun v vs H Q => r v vs H (FrQ Q)) s h
def fAppend : FM := fun x xs θ k => ∃ n ds d, x = .obj n ∧ xs = [d] ∧ θ[n]? = some (.lst ds) ∧ ds.length < 100000 ∧ k .non (θ.set n (.lst (ds ++ [d])))
theorem sim_append {K : PySem.W.Frag} : SimM K fAppend rAppend := by
  intro α θ H x xs v vs k Q S rx rs ⟨n, ds, d, e1, e2, hn, hl, q⟩ lk
  subst e1 e2
  obtain ⟨w, rfl, rd⟩ := rep1 rs
  unfold Rep at rx
  obtain ⟨_, rfl⟩ := rx
  obtain ⟨us, h1, h2⟩ := S.ent n _ hn
  refine ⟨α n, us, w, rfl, rfl, h1, by rw [← h2.length]; exact Nat.lt_of_lt_of_le hl (sz5 (Nat.le_refl _)), ?_⟩
  exact ent_set (e' := .lst (ds ++ [d])) S hn h1 trivial (fun H' nx e => ⟨_, e, (Reps.mono nx _ _ h2).append (Reps.cons (Rep.mono nx _ _ rd) Reps.nil)⟩) (d := .non) (by unfold Rep; rfl) q lk
def fJoin : FM := fun x xs θ k => ∃ a d ys, x = .str a ∧ xs = [d] ∧ asS θ d = some (ys.map D.str) ∧ (ys.map (·.length)).sum + ys.length * a.length ≤ 100000 ∧ k (.str (Txt.join a ys)) θ
theorem sim_join {K : PySem.W.Frag} : SimM K fJoin (fun x xs H Q => ∃ a p, ∃ ys : List Str, x = .str a ∧ xs = [.ref p] ∧ (SqL K H p (ys.map V.str) ∨ SqT K H p (ys.map V.str)) ∧
    (ys.map (·.length)).sum + ys.length * a.length ≤ 16777216 ∧ Q (.str (Txt.join a ys)) H) := by
  intro α θ H x xs v vs k Q S rx rs ⟨a, d, ys, e1, e2, h1, h2, q⟩ lk
  subst e1 e2
  obtain ⟨w, rfl, rd⟩ := rep1 rs
  unfold Rep at rx; subst rx
  obtain ⟨p, us, rfl, h3, h4⟩ := asS_sq S rd h1
  rw [of_strs h4] at h3
  exact ⟨a, p, ys, rfl, rfl, h3, by omega, lk.at S (by unfold Rep; rfl) q⟩
@[reducible] def fZfill : FM := fun x xs θ k => ∃ a i, x = .str a ∧ xs = [.int i] ∧ PadOk i = true ∧ k (.str (Txt.zfill a i)) θ
theorem sim_zfill {K : PySem.W.Frag} : SimM K fZfill (fun x xs H Q => ∃ (a : Str) (i : Int), x = .str a ∧ xs = [.int i] ∧ PadOk i = true ∧ Q (.str (Txt.zfill a i)) H) := by
  intro α θ H x xs v vs k Q S rx rs ⟨a, i, e1, e2, h1, q⟩ lk
  subst e1 e2
  obtain ⟨w, rfl, rd⟩ := rep1 rs
  unfold Rep at rx rd; subst rx rd
  exact ⟨a, i, rfl, rfl, h1, lk.at S (by unfold Rep; rfl) q⟩
@[reducible] def fStarts : FM := fun x xs θ k => ∃ a b, x = .str a ∧ xs = [.str b] ∧ k (.bl (Txt.startswith a b)) θ
theorem sim_starts {K : PySem.W.Frag} : SimM K fStarts (fun x xs H Q => ∃ a b, x = .str a ∧ xs = [.str b] ∧ Q (.bl (Txt.startswith a b)) H) := by
  intro α θ H x xs v vs k Q S rx rs ⟨a, i, e1, e2, q⟩ lk
  subst e1 e2
  obtain ⟨w, rfl, rd⟩ := rep1 rs
  unfold Rep at rx rd; subst rx rd
  exact ⟨a, i, rfl, rfl, lk.at S (by unfold Rep; rfl) q⟩
@[reducible] def fCount : FM := fun x xs θ k => ∃ a b, x = .str a ∧ xs = [.str b] ∧ k (.int (Txt.count a b)) θ
theorem sim_count {K : PySem.W.Frag} : SimM K fCount (fun x xs H Q => ∃ a b, x = .str a ∧ xs = [.str b] ∧ Q (.int (Txt.count a b)) H) := by
  intro α θ H x xs v vs k Q S rx rs ⟨a, i, e1, e2, q⟩ lk
  subst e1 e2
  obtain ⟨w, rfl, rd⟩ := rep1 rs
  unfold Rep at rx rd; subst rx rd
  exact ⟨a, i, rfl, rfl, lk.at S (by unfold Rep; rfl) q⟩
@[reducible] def fFind3 : FM := fun x xs θ k => ∃ a b i, x = .str a ∧ xs = [.str b, .int i] ∧ k (.int (Txt.find3 a b i)) θ
theorem sim_find3 {K : PySem.W.Frag} : SimM K fFind3 (fun x xs H Q => ∃ (a b : Str) (i : Int), x = .str a ∧ xs = [.str b, .int i] ∧ Q (.int (Txt.find3 a b i)) H) := by
  intro α θ H x xs v vs k Q S rx rs ⟨a, b, i, e1, e2, q⟩ lk
  subst e1 e2
  obtain ⟨w, w', rfl, rd, rd'⟩ := rep2 rs
  unfold Rep at rx rd rd'; subst rx rd rd'
  exact ⟨a, b, i, rfl, rfl, lk.at S (by unfold Rep; rfl) q⟩
@[reducible] def fSplit : FM := fun x xs θ k => ∃ a b, x = .str a ∧ xs = [.str b] ∧ (b.length == 0) = false ∧ a.length ≤ 100000 ∧ k (.lst ((Txt.split a b).map D.str)) θ
theorem sim_split {K : PySem.W.Frag} : SimM K fSplit (fun x xs H Q => ∃ a b, x = .str a ∧ xs = [.str b] ∧ (b.length == 0) = false ∧ a.length + 2 ≤ sizeLine ∧ rNewStrs (Txt.split a b) H (FrQ Q)) := by
  intro α θ H x xs v vs k Q S rx rs ⟨a, i, e1, e2, h1, h2, q⟩ lk
  subst e1 e2
  obtain ⟨w, rfl, rd⟩ := rep1 rs
  unfold Rep at rx rd; subst rx rd
  exact ⟨a, i, rfl, rfl, h1, by rw [sizeLine_eq]; omega, fun p hp => frz_newQ S hp (reps_strs _) q lk⟩
/-! ### dicts: get, pop -/
def isDic (θ : Th) (d : D) : Prop := ∃ n e, d = .obj n ∧ θ[n]? = some e ∧ ((∃ kvs, e = .dK kvs) ∨ (∃ kvs, e = .lk kvs) ∨ ∃ kvs, e = .dT kvs)
theorem isDic_v {K : PySem.W.Frag} {H : Hp} {α : Nat → Addr} {θ : Th} (S : Sta K H α θ) {d : D} {v : V} (r : Rep K H α θ.length d v) (t : isDic θ d) : ∃ a, v = .ref a ∧ IsD H a := by
  obtain ⟨n, e, rfl, hn, he⟩ := t
  unfold Rep at r
  have h := S.ent n _ hn
  refine ⟨α n, r.2, ?_⟩
  rcases he with ⟨kvs, rfl⟩ | ⟨kvs, rfl⟩ | ⟨kvs, rfl⟩
  · obtain ⟨ws, h1, _⟩ := h; exact .inl ⟨ws, .inl h1⟩
  · obtain ⟨o, ws, h1, _⟩ := h; exact .inl ⟨ws, .inr ⟨o, h1⟩⟩
  · obtain ⟨ws, h1, _⟩ := h; exact .inr ⟨ws, .inl h1⟩
@[reducible] def aGet2 (ro re rf : AR) : AR := fun Γ θ k kx => ro Γ θ (fun x θ1 => isDic θ1 x ∧ re Γ θ1 (fun y θ2 => rf Γ θ2 (fun z θ3 => ∃ r, dGet θ3 x y = some r ∧ k (r.getD z) θ3) kx) kx) kx
theorem xe_get2 (hu : X.A.units + 1 < cLine) (ho : XE' X W o ro) (he : XE' X W e re) (hf : XE' X W f rf) (m : M2 X o "get" apos e f cpos) : XE' X W (.Call (.Attribute o "get" apos) [e, f] [] cpos) (aGet2 ro re rf) := pe_imp (pe_dget2 hu ho he hf m) (by
  rintro σ H Q ⟨α, θ, Γ, k, kx, S, G, q, lk, lx⟩
  refine ⟨α, θ, Γ, _, kx, S, G, q, fun x θ1 α1 H1 v n1 S1 r1 ⟨t, q1⟩ => ?_, lx⟩
  obtain ⟨a, rfl, hd⟩ := isDic_v S1 r1 t
  refine ⟨a, rfl, hd, α1, θ1, Γ, _, kx, S1, G.mono n1, q1, fun y θ2 α2 H2 u n2 S2 r2 q2 => ?_, lx.on n1⟩
  refine ⟨α2, θ2, Γ, _, kx, S2, G.mono (n1.trans n2), q2, fun z θ3 α3 H3 w n3 S3 r3 ⟨r, e3, q3⟩ => ?_, lx.on (n1.trans n2)⟩
  obtain ⟨a', ov, e4, g, _, c⟩ := dGet_get S3 (Rep.mono (n2.trans n3) _ _ r1) (Rep.mono n3 _ _ r2) e3
  cases e4
  refine ⟨ov, g, ?_⟩
  have lk3 := lk.on ((n1.trans n2).trans n3)
  rcases c with ⟨rfl, rfl⟩ | ⟨x', w', rfl, rfl, r4⟩
  · exact lk3.at S3 r3 q3
  · exact lk3.at S3 r4 q3)
/-- d.pop(k), it is there -/
@[reducible] def aPop1 (ro re : AR) : AR := fun Γ θ k kx => ro Γ θ (fun x θ1 => isDic θ1 x ∧ re Γ θ1 (fun y θ2 => ∃ n kvs kk v, x = .obj n ∧ θ2[n]? = some (.dK kvs) ∧ keyD y = some kk ∧ valG kvs kk = some v ∧ k v (θ2.set n (.dK (dropG kvs kk)))) kx) kx
theorem xe_pop1 (ho : XE' X W o ro) (he : XE' X W e re) (m : M1 X o "pop" apos e cpos) : XE' X W (.Call (.Attribute o "pop" apos) [e] [] cpos) (aPop1 ro re) := pe_imp (pe_dpop1 ho he m) (by
  rintro σ H Q ⟨α, θ, Γ, k, kx, S, G, q, lk, lx⟩
  refine ⟨α, θ, Γ, _, kx, S, G, q, fun x θ1 α1 H1 v n1 S1 r1 ⟨t, q1⟩ => ?_, lx⟩
  obtain ⟨a, rfl, hd⟩ := isDic_v S1 r1 t
  refine ⟨a, rfl, hd, α1, θ1, Γ, _, kx, S1, G.mono n1, q1, fun y θ2 α2 H2 u n2 S2 r2 ⟨n, kvs, kk, d, e1, hn, e2, e3, q2⟩ => ?_, lx.on n1⟩
  subst e1
  have r1' := Rep.mono n2 _ _ r1
  unfold Rep at r1'
  obtain ⟨_, ea⟩ := r1'
  cases ea
  obtain ⟨ws, h1, h2⟩ := S2.ent n _ hn
  rcases h2.val kk with ⟨z, _⟩ | ⟨d', w, z1, z2, z3⟩
  · rw [e3] at z; cases z
  · rw [e3] at z1; cases z1
    refine ⟨ws, kk, w, h1, keyD_v r2 e2, z2, ?_⟩
    exact ent_set (e' := .dK (dropG kvs kk)) S2 hn h1 trivial (fun H' nx e => ⟨_, e, (KRep.mono nx h2).drop kk⟩) z3 q2 (lk.on (n1.trans n2)))
/-! ### attributes -/
@[reducible] def aFld (K : PySem.W.Frag) (f : Str) (ro : AR) : AR := fun Γ θ k kx => ro Γ θ (fun x θ1 => ∃ n C fs d, x = .obj n ∧ θ1[n]? = some (.ins C fs) ∧ Cls K C ∧ NoAttr K C f ∧ fs.lookup f = some d ∧ k d θ1) kx
theorem KRep.lookup {K : PySem.W.Frag} {H : Hp} {α : Nat → Addr} {N : Nat} {f : Str} : ∀ {fs : List (Str × D)} {ws : List (Str × V)}, KRep K H α N fs ws →
    (fs.lookup f = none ∧ ws.lookup f = none) ∨ ∃ d v, fs.lookup f = some d ∧ ws.lookup f = some v ∧ Rep K H α N d v
  | [], ws, h => by
    have : ws = [] := List.eq_nil_of_length_eq_zero (by rw [← h.length]; rfl)
    subst this
    exact .inl ⟨rfl, rfl⟩
  | p :: fs, ws, h => by
    obtain ⟨v, us, rfl, r, h'⟩ := h.cases
    obtain ⟨g, d⟩ := p
    by_cases e : f = g
    · subst e
      exact .inr ⟨d, v, by simp [List.lookup], by simp [List.lookup], r⟩
    · have e' : (f == g) = false := by simpa using e
      rcases KRep.lookup (f := f) h' with ⟨a, b⟩ | ⟨d', v', a, b, c⟩
      · exact .inl ⟨by simp [List.lookup, e', a], by simp [List.lookup, e', b]⟩
      · exact .inr ⟨d', v', by simp [List.lookup, e', a], by simp [List.lookup, e', b], c⟩
theorem xe_fld {fl : Str} (ho : XE' X W o ro) (hb : attributeBase o fl X.env (eval o X.env) = eval o X.env) : XE' X W (.Attribute o fl pos) (aFld X.K fl ro) := pe_imp (pe_fld ho hb) (by
  rintro σ H Q ⟨α, θ, Γ, k, kx, S, G, q, lk, lx⟩
  refine ⟨α, θ, Γ, _, kx, S, G, q, fun x θ1 α1 H1 v n1 S1 r1 ⟨n, C, fs, d, e1, hn, c, na, e2, q1⟩ => ?_, lx⟩
  subst e1
  unfold Rep at r1
  obtain ⟨_, rfl⟩ := r1
  obtain ⟨dx, ws, h1, h2⟩ := S1.ent n _ hn
  rcases h2.lookup (f := fl) with ⟨z, _⟩ | ⟨d', w, z1, z2, z3⟩
  · rw [e2] at z; cases z
  · rw [e2] at z1; cases z1
    exact ⟨α1 n, C, dx, ws, w, rfl, h1, c, na, z2, (lk.on n1).at S1 z3 q1⟩)
end
/-! ### defs called -/
section
variable (P : Program) (w : World) (K : PySem.W.Frag) (mg : Str → Option Value) (base : Heap)
structure GF (k : Nat) (x : Str) (A : ASp) : Prop where
  ex : ∃ f fd ps, FnOk P w K mg base (L2.CX P w) k f fd ps (LF K A) ∧ Binds K fd ps [] ∧ mg x = some (.ref f) ∧ PySem.W.keepIn K (.ref f) = true
structure GM (k : Nat) (C : Addr) (m : Str) (A : ASp) : Prop where
  ex : ∃ f fd ps, FnOk P w K mg base (L2.CX P w) k f fd ps (LF K A) ∧ Binds K fd ps [] ∧ Meth K C m f
  cl : Cls K C
structure GC (k : Nat) (x : Str) (C : Addr) (A : ASp) : Prop where
  ex : ∃ f fd ps, FnOk P w K mg base (L2.CX P w) k f fd ps (LF K A) ∧ Binds K fd ps [] ∧ mg x = some (.ref C) ∧ Mk K C f
end
@[reducible] def aCall (A : ASp) (rs : AAR) : AR := fun Γ θ k kx => rs Γ θ (fun ds θ1 => A ds θ1 k kx) kx
@[reducible] def aMeth (P : Program) (w : World) (K : PySem.W.Frag) (mg : Str → Option Value) (base : Heap) (lv : Nat) (m : Str) (ro : AR) (rs : AAR) : AR := fun Γ θ k kx => ro Γ θ (fun x θ1 => ∃ n C fs A, x = .obj n ∧ θ1[n]? = some (.ins C fs) ∧ GM P w K mg base lv C m A ∧ fs.lookup m = none ∧
  rs Γ θ1 (fun ds θ2 => A (x :: ds) θ2 k kx) kx) kx
@[reducible] def aMake (C : Addr) (A : ASp) (rs : AAR) : AR := fun Γ θ k kx => rs Γ θ (fun ds θ1 => A (.obj θ1.length :: ds) (θ1 ++ [.ins C []]) (fun v θ2 => v = .non ∧ k (.obj θ1.length) θ2) (fun _ _ => False)) kx
section
variable {X : Cx} {W : WX} {o e f g : Expr} {ro re rf rg : AR} {pos apos cpos p : Pos} {es : List Expr} {rs : AAR} {lv : Nat} {A : ASp} {x m : Str} {C : Addr}
theorem call_lf {K : PySem.W.Frag} {σ : L2.St} {H : Hp} {Q : VK} (h : LE K W (aCall A rs) σ H Q) : tCallS (LF K A) (WE W) (LA K W rs) σ H Q := by
  obtain ⟨α, θ, Γ, k, kx, S, G, q, lk, lx⟩ := h
  exact ⟨α, θ, Γ, _, kx, S, G, q, fun ds θ1 α1 H1 vs n1 S1 r1 q1 => ⟨α1, θ1, ds, k, kx, S1, r1, q1, lk.on n1, lx.on n1⟩, lx⟩
theorem xe_call (F : GF X.prog X.w X.K X.mg X.base lv x A) (hr : Room lv X.A) (tk : Takes X W) (hg : Gl X x) (ha : XA X W (e :: es) rs) (hdb : (x == ("__debug__" : Str)) = false := by decide)
    (he : starEach (e :: es) X.env = (false, eval e X.env) :: starEach es X.env := by rfl) (hpl : (backTo pos (starEach es X.env)).any (·.1) = false := by rfl) : XE' X W (.Call (.Name x p) (e :: es) [] pos) (aCall A rs) := by
  obtain ⟨f, fd, ps, hF, hb, hm, hk⟩ := F.ex
  exact pe_imp (pe_callS hF hr hg hm hk hb (fun σ => passAt tk σ) ha hdb he hpl) fun _ _ _ h => call_lf h
/-- o.m(..) -/
theorem xe_meth {pl : Sem Bool} (hr : Room lv X.A) (tk : Takes X W) (ho : XE' X W o ro) (ha : XA X W (e :: es) rs)
    (hst : starEach (e :: es) X.env = (false, eval e X.env) :: starEach es X.env := by rfl) (hpl : (backTo pos (starEach es X.env)).any (·.1) = false := by rfl)
    (ht : eval (.Call (.Attribute o m apos) (e :: es) [] pos) X.env = (do
      let ov ← eval o X.env
      standAt apos.atName
      let (f, first) ← holding [ov] (getMethod ov m pl)
      callWith pos f first (backTo pos (starEach (e :: es) X.env)) (backToKw pos (keywordEach [] X.env))) := by rfl) :
    XE' X W (.Call (.Attribute o m apos) (e :: es) [] pos) (aMeth X.prog X.w X.K X.mg X.base lv m ro rs) := by
  refine ⟨fun pins s σ H Q I h => ?_⟩
  obtain ⟨α, θ, Γ, k, kx, S, G, q, lk, lx⟩ := h
  refine methcall_of (te := LE X.K W ro) ho I ⟨α, θ, Γ, _, kx, S, G, q, fun x θ1 α1 H1 v n1 S1 r1 ⟨n, C, fs, A, e1, hn, gm, hl, q1⟩ => ?_, lx⟩ ht
  have r1' := r1
  rw [e1] at r1'
  unfold Rep at r1'
  obtain ⟨_, ev⟩ := r1'
  obtain ⟨dx, ws, h1, h2⟩ := S1.ent n _ hn
  obtain ⟨f, fd, ps, hF, hb, hm⟩ := gm.ex
  have hl' : ws.lookup m = none := by
    rcases h2.lookup (f := m) with ⟨_, z⟩ | ⟨_, _, z, _⟩
    · exact z
    · rw [hl] at z; cases z
  refine ⟨α1 n, C, dx, ws, f, ev, h1, gm.cl, hm, hl', fun s1 I1 => ?_⟩
  have I0 := I1.ok.mod.kin
  refine PySem.W.callWith_K (first := [.ref (α1 n)]) (h₀ := X.base) I0 hm.kp (thn (ha.run pos pins s1 σ H1 (fun vs H2 => LF X.K A (v :: vs) H2 Q (WE W σ)) I1 ?_) fun us s2 ⟨vs, H2, I2, r, q2⟩ => ⟨I2.kIn, ?_⟩) hst hpl
  · exact ⟨α1, θ1, Γ, _, kx, S1, G.mono n1, q1, fun ds θ2 α2 H2 vs n2 S2 r2 q2 => ⟨α2, θ2, x :: ds, k, kx, S2, Reps.cons (Rep.mono n2 _ _ r1) r2, q2, lk.on (n1.trans n2), lx.on (n1.trans n2)⟩, lx.on n1⟩
  · refine run_fnS (us := .ref (α1 n) :: us) (vs := v :: vs) hF hr hb (passAt tk σ) I2 (.cons (by rw [ev]; rfl) r) q2
/-- o.m() -/
theorem xe_meth0 {pl : Sem Bool} (hr : Room lv X.A) (tk : Takes X W) (ho : XE' X W o ro)
    (ht : eval (.Call (.Attribute o m apos) [] [] pos) X.env = (do
      let ov ← eval o X.env
      standAt apos.atName
      let (f, first) ← holding [ov] (getMethod ov m pl)
      callWith pos f first (backTo pos (starEach [] X.env)) (backToKw pos (keywordEach [] X.env))) := by rfl) :
    XE' X W (.Call (.Attribute o m apos) [] [] pos) (aMeth X.prog X.w X.K X.mg X.base lv m ro aNil) := by
  refine ⟨fun pins s σ H Q I h => ?_⟩
  obtain ⟨α, θ, Γ, k, kx, S, G, q, lk, lx⟩ := h
  refine methcall_of (te := LE X.K W ro) ho I ⟨α, θ, Γ, _, kx, S, G, q, fun x θ1 α1 H1 v n1 S1 r1 ⟨n, C, fs, A, e1, hn, gm, hl, q1⟩ => ?_, lx⟩ ht
  have r1' := r1
  rw [e1] at r1'
  unfold Rep at r1'
  obtain ⟨_, ev⟩ := r1'
  obtain ⟨dx, ws, h1, h2⟩ := S1.ent n _ hn
  obtain ⟨f, fd, ps, hF, hb, hm⟩ := gm.ex
  have hl' : ws.lookup m = none := by
    rcases h2.lookup (f := m) with ⟨_, z⟩ | ⟨_, _, z, _⟩
    · exact z
    · rw [hl] at z; cases z
  refine ⟨α1 n, C, dx, ws, f, ev, h1, gm.cl, hm, hl', fun s1 I1 => ?_⟩
  refine PySem.W.callWith_K0 (first := [.ref (α1 n)]) I1.kIn hm.kp (run_fnS (us := [.ref (α1 n)]) (vs := [v]) hF hr hb (passAt tk σ) I1 (.cons (by rw [ev]; rfl) .nil) ?_)
  exact ⟨α1, θ1, [x], k, kx, S1, Reps.cons r1 Reps.nil, q1, lk.on n1, lx.on n1⟩
theorem make_lf {K : PySem.W.Frag} {σ : L2.St} {H : Hp} {Q : VK} (h : LE K W (aMake C A rs) σ H Q) : tMake C (LF K A) [] E0 (LA K W rs) σ H Q := by
  obtain ⟨α, θ, Γ, k, kx, S, G, q, lk, lx⟩ := h
  refine ⟨α, θ, Γ, _, kx, S, G, q, fun ds θ1 α1 H1 vs n1 S1 r1 q1 => fun x dx hx hdx hne => ?_, lx⟩
  have hx' : upd H1 dx (.own x) x = none := by rw [upd_ne (Ne.symm hne)]; exact hx
  have s1 : ∀ b o, H1 b = some o → upd (upd H1 dx (.own x)) x (.ins C dx []) b = some o := fun b o e => same_new hx' b o (same_new hdx b o e)
  have S2 : Sta K (upd (upd H1 dx (.own x)) x (.ins C dx [])) (put α1 θ1.length x) (θ1 ++ [.ins C []]) := S1.new hx s1 ⟨dx, [], upd_same, KRep.nil⟩
  have n2 : Nx α1 θ1.length H1 (put α1 θ1.length x) (θ1 ++ [Ent.ins C []]).length (upd (upd H1 dx (.own x)) x (.ins C dx [])) := Nx.put s1
  rw [List.append_nil]
  refine ⟨_, _, .obj θ1.length :: ds, _, _, S2, Reps.cons ?_ (Reps.mono n2 _ _ r1), q1, fun d θ3 α3 H3 v n3 S3 r3 ⟨e3, q3⟩ => ?_, fun _ _ _ _ _ _ z => z.elim⟩
  · unfold Rep
    exact ⟨by rw [List.length_append]; exact Nat.lt_succ_self _, by rw [put_same]⟩
  · subst e3
    unfold Rep at r3
    refine ⟨r3, lk (.obj θ1.length) θ3 α3 H3 _ ((n1.trans n2).trans n3) S3 ?_ q3⟩
    unfold Rep
    have hl : θ1.length < (θ1 ++ [Ent.ins C []]).length := by rw [List.length_append]; exact Nat.lt_succ_self _
    exact ⟨Nat.lt_of_lt_of_le hl n3.le, by rw [n3.ag _ hl, put_same]⟩
theorem xe_make (F : GC X.prog X.w X.K X.mg X.base lv x C A) (hr : Room (lv + 1) X.A) (hg : Gl X x) (ha : XA X W (e :: es) rs) (hdb : (x == ("__debug__" : Str)) = false := by decide)
    (he : starEach (e :: es) X.env = (false, eval e X.env) :: starEach es X.env := by rfl) (hpl : (backTo pos (starEach es X.env)).any (·.1) = false := by rfl) : XE' X W (.Call (.Name x p) (e :: es) [] pos) (aMake C A rs) := by
  obtain ⟨f, fd, ps, hF, hb, hm, mk⟩ := F.ex
  exact pe_imp (pe_make mk hF hr hg hm hb .nil passL ha hdb he hpl) fun _ _ _ h => make_lf h
theorem xe_make0 (F : GC X.prog X.w X.K X.mg X.base lv x C A) (hr : Room (lv + 1) X.A) (hg : Gl X x) (hdb : (x == ("__debug__" : Str)) = false := by decide) : XE' X W (.Call (.Name x p) [] [] pos) (aMake C A aNil) := by
  obtain ⟨f, fd, ps, hF, hb, hm, mk⟩ := F.ex
  refine pe_imp (pe_make0 mk hF hr hg hm hb .nil passL hdb) fun σ H Q h => ?_
  obtain ⟨α, θ, Γ, k, kx, S, G, q, lk, lx⟩ := make_lf h
  exact lk [] θ α H [] (Nx.refl _ _ _) S Reps.nil q
end
end AB
namespace AB
open PySem PySem.Spec PyProof.Rows L2
theorem LkW.atG {K : PySem.W.Frag} {α : Nat → Addr} {n : Nat} {H : Hp} {k : Value → G → Th → Prop} {W : WX} {σ : L2.St} {Γ : G} (h : LkW K α n H k W) (G : Slots K H α n σ Γ) : LkX K α n H (fun c θ' => k c Γ θ') (WE W σ) :=
  fun c θ' α' H' nx S q => h c Γ θ' α' σ H' nx S (G.mono nx) q
section
variable {X : Cx} {W : WX} {a b c e o : Expr} {ra rb ro re rv : AR} {tc : ATR} {pos pos' tpos : Pos} {st : Stmt} {rest sts : List Stmt} {s t u : ASR}
@[reducible] def aNext : ASR := fun E Γ θ => E.nx Γ θ
@[reducible] def aSeq (s t : ASR) : ASR := fun E Γ θ => s { E with nx := fun Γ' θ' => t E Γ' θ' } Γ θ
theorem go_seq {E : AE} {Γ : G} {θ : Th} (q : s { E with nx := fun Γ' θ' => t E Γ' θ' } Γ θ) : aSeq s t E Γ θ := q
theorem xss_nil : XSs X W [] aNext := pss_imp pss_nil (by
  rintro Dn σ H ⟨α, θ, Γ, E, S, G, q, lk⟩
  exact lk.nx Γ θ α σ H (Nx.refl _ _ _) S G q)
theorem xss_cons (h1 : XS X W st s) (h2 : XSs X W rest t) : XSs X W (st :: rest) (aSeq s t) := pss_imp (pss_cons h1 h2) (by
  rintro Dn σ H ⟨α, θ, Γ, E, S, G, q, lk⟩
  exact ⟨α, θ, Γ, _, S, G, q, fun Γ' θ' α' σ' H' nx S' G' q' => ⟨α', θ', Γ', E, S', G', q', lk.on nx⟩, lk.rt, lk.bk, lk.ct, lk.ex⟩)
theorem xss_one (h1 : XS X W st s) : XSs X W [st] s := pss_one h1
@[reducible] def aBreak : ASR := fun E Γ θ => E.bk Γ θ
@[reducible] def aCont : ASR := fun E Γ θ => E.ct Γ θ
theorem xs_break : XS X W (.Break pos) aBreak := ps_imp ps_break (by
  rintro Dn σ H ⟨α, θ, Γ, E, S, G, q, lk⟩
  exact lk.bk Γ θ α σ H (Nx.refl _ _ _) S G q)
theorem xs_continue : XS X W (.Continue pos) aCont := ps_imp ps_continue (by
  rintro Dn σ H ⟨α, θ, Γ, E, S, G, q, lk⟩
  exact lk.ct Γ θ α σ H (Nx.refl _ _ _) S G q)
theorem xs_pass : XS X W (.Pass pos) aNext := ps_imp ps_pass (by
  rintro Dn σ H ⟨α, θ, Γ, E, S, G, q, lk⟩
  exact lk.nx Γ θ α σ H (Nx.refl _ _ _) S G q)
@[reducible] def aDrop (ra : AR) : ASR := fun E Γ θ => ra Γ θ (fun _ θ1 => E.nx Γ θ1) (fun c θ1 => E.ex c Γ θ1)
theorem xs_expr (he : XE' X W e re) (hs : swapsWith e none pos.line X.env = pure false := by rfl) : XS X W (.Expr e pos) (aDrop re) := ps_imp (ps_expr he hs) (by
  rintro Dn σ H ⟨α, θ, Γ, E, S, G, q, lk⟩
  exact ⟨α, θ, Γ, _, _, S, G, q, fun d θ1 α1 H1 v n1 S1 r1 q1 => lk.nx Γ θ1 α1 σ H1 n1 S1 (G.mono n1) q1, lk.ex.atG G⟩)
@[reducible] def aRet (ra : AR) : ASR := fun E Γ θ => ra Γ θ E.rt (fun c θ1 => E.ex c Γ θ1)
theorem xs_ret (he : XE' X W e re) : XS X W (.Return (some e) pos) (aRet re) := ps_imp (ps_ret he) (by
  rintro Dn σ H ⟨α, θ, Γ, E, S, G, q, lk⟩
  exact ⟨α, θ, Γ, _, _, S, G, q, lk.rt, lk.ex.atG G⟩)
@[reducible] def aIfS (tc : ATR) (s t : ASR) : ASR := fun E Γ θ => tc Γ θ (fun b θ1 => ifB b (s E Γ θ1) (t E Γ θ1)) (fun c θ1 => E.ex c Γ θ1)
theorem xs_if {ss ts : List Stmt} (hc : XT X W c tc) (ha : XSs X W ss s) (hb : XSs X W ts t) : XS X W (.If c ss ts pos) (aIfS tc s t) := ps_imp (ps_if hc ha hb) (by
  rintro Dn σ H ⟨α, θ, Γ, E, S, G, q, lk⟩
  refine ⟨α, θ, Γ, _, _, S, G, q, fun b θ1 α1 H1 n1 S1 q1 => ?_, lk.ex.atG G⟩
  cases b with
  | true => rw [if_pos rfl]; exact ⟨α1, θ1, Γ, E, S1, G.mono n1, q1.1 rfl, lk.on n1⟩
  | false => rw [if_neg Bool.false_ne_true]; exact ⟨α1, θ1, Γ, E, S1, G.mono n1, q1.2 rfl, lk.on n1⟩)
/-! ### targets -/
abbrev ATG := D → G → Th → (G → Th → Prop) → Prop
abbrev ATGs := List D → G → Th → (G → Th → Prop) → Prop
def LG (K : PySem.W.Frag) (g : ATG) : TG := fun v σ H Q => ∃ (α : Nat → Addr) (θ : Th) (Γ : G) (d : D) (k : G → Th → Prop), Sta K H α θ ∧ Slots K H α θ.length σ Γ ∧ Rep K H α θ.length d v ∧ g d Γ θ k ∧ LkS K α θ.length H k Q
def LGs (K : PySem.W.Frag) (g : ATGs) : TGs := fun vs σ H Q => ∃ (α : Nat → Addr) (θ : Th) (Γ : G) (ds : List D) (k : G → Th → Prop), Sta K H α θ ∧ Slots K H α θ.length σ Γ ∧ Reps K H α θ.length ds vs ∧ g ds Γ θ k ∧ LkS K α θ.length H k Q
abbrev XG (X : Cx) (tg : Expr) (g : ATG) : Prop := PG X tg (LG X.K g)
abbrev XGs (X : Cx) (tg : List Expr) (g : ATGs) : Prop := PGs X tg (LGs X.K g)
theorem pg_imp {tg : Expr} {t t' : TG} (h : PG X tg t) (i : ∀ v σ H Q, t' v σ H Q → t v σ H Q) : PG X tg t' := ⟨fun pins s σ H v u Q I r q => h.run pins s σ H v u Q I r (i _ _ _ _ q)⟩
theorem pgs_imp {tg : List Expr} {t t' : TGs} (h : PGs X tg t) (i : ∀ v σ H Q, t' v σ H Q → t v σ H Q) : PGs X tg t' := ⟨fun pins s σ H v u Q I r q => h.run pins s σ H v u Q I r (i _ _ _ _ q)⟩
theorem pg_or {tg : Expr} {t t' : TG} (h : PG X tg t) (h' : PG X tg t') : PG X tg (fun v σ H Q => t v σ H Q ∨ t' v σ H Q) := ⟨fun pins s σ H v u Q I r q => q.elim (h.run pins s σ H v u Q I r) (h'.run pins s σ H v u Q I r)⟩
theorem Slots.set {K : PySem.W.Frag} {H : Hp} {α : Nat → Addr} {N : Nat} {σ : L2.St} {Γ : G} {d : D} {v : V} (i : Nat) (h : Slots K H α N σ Γ) (r : Rep K H α N d v) : Slots K H α N (σ.set i (some v)) (Γ.set i (some d)) := by
  refine ⟨by rw [List.length_set, List.length_set]; exact h.1, fun j e q => ?_⟩
  by_cases hj : i = j
  · subst hj
    have hl : i < Γ.length := by
      have := (List.getElem?_eq_some_iff.mp q).1
      rwa [List.length_set] at this
    rw [List.getElem?_set_self hl] at q
    cases q
    exact ⟨v, List.getElem?_set_self (by rw [← h.1]; exact hl), r⟩
  · rw [List.getElem?_set_ne hj] at q
    obtain ⟨w, h1, h2⟩ := h.2 j e q
    exact ⟨w, by rw [List.getElem?_set_ne hj]; exact h1, h2⟩
def gN (i : Nat) : ATG := fun d Γ θ k => k (Γ.set i (some d)) θ
theorem xg_name {i : Nat} {x : Str} (h : PG X (.Name x pos) (gName i)) : XG X (.Name x pos) (gN i) := pg_imp h (by
  rintro v σ H Q ⟨α, θ, Γ, d, k, S, G, r, q, lk⟩
  exact lk _ θ α _ H (Nx.refl _ _ _) S (G.set i r) q)
@[reducible] def gsNil : ATGs := fun ds Γ θ k => ds = [] ∧ k Γ θ
@[reducible] def gsCons (g : ATG) (gs : ATGs) : ATGs := fun ds Γ θ k => ∃ d r, ds = d :: r ∧ g d Γ θ fun Γ' θ' => gs r Γ' θ' k
theorem xgs_nil : XGs X [] gsNil := pgs_imp pgs_nil (by
  rintro v σ H Q ⟨α, θ, Γ, d, k, S, G, r, ⟨e, q⟩, lk⟩
  subst e
  unfold Reps at r
  exact ⟨r, lk _ θ α _ H (Nx.refl _ _ _) S G q⟩)
theorem xgs_cons {es : List Expr} {g : ATG} {gs : ATGs} (h1 : XG X e g) (h2 : XGs X es gs) (hs : (assignEach (e :: es) X.env).map (·.2) = assign e X.env :: (assignEach es X.env).map (·.2) := by rfl) : XGs X (e :: es) (gsCons g gs) := pgs_imp (pgs_cons h1 h2 hs) (by
  rintro v σ H Q ⟨α, θ, Γ, ds, k, S, G, r, ⟨d, dr, e, q⟩, lk⟩
  subst e
  obtain ⟨w, ws, rfl, r1, r2⟩ := r.uncons
  exact ⟨w, ws, rfl, α, θ, Γ, d, _, S, G, r1, q, fun Γ' θ' α' σ' H' nx S' G' q' => ⟨α', θ', Γ', dr, k, S', G', Reps.mono nx _ _ r2, q', lk.on nx⟩⟩)
@[reducible] def gTupA (n : Nat) (gs : ATGs) : ATG := fun d Γ θ k => ∃ ds, asS θ d = some ds ∧ ds.length = n ∧ gs ds Γ θ k
theorem xg_tup {es : List Expr} {k0 : Nat} {gs : ATGs} {n : Nat} (hc : X.calm = true) (h : XGs X es gs) (hn : (assignEach es X.env).length = n := by rfl) (hst : (assignEach es X.env).findIdx? (·.1) = none := by rfl) : XG X (.Tuple es k0 pos) (gTupA n gs) :=
  pg_imp (pg_or (pg_tup hc h hn hst) (pg_lst hc h hn hst)) (by
  rintro v σ H Q ⟨α, θ, Γ, d, k, S, G, r, ⟨ds, e, hl, q⟩, lk⟩
  obtain ⟨a, vs, rfl, h1, h2⟩ := asS_sq S r e
  rcases h1 with h1 | h1
  · exact .inr ⟨a, vs, rfl, h1, by rw [← h2.length]; exact hl, α, θ, Γ, ds, k, S, G, h2, q, lk⟩
  · exact .inl ⟨a, vs, rfl, h1, by rw [← h2.length]; exact hl, α, θ, Γ, ds, k, S, G, h2, q, lk⟩)
/-! ### assignments -/
@[reducible] def aAsg (re : AR) (g : ATG) : ASR := fun E Γ θ => re Γ θ (fun d θ1 => g d Γ θ1 E.nx) (fun c θ1 => E.ex c Γ θ1)
theorem asg_imp {g : ATG} {K : PySem.W.Frag} {tg : TG} (hg : ∀ v σ H Q, LG K g v σ H Q → tg v σ H Q) {Dn : Ends} {σ : L2.St} {H : Hp} (h : LS K W (aAsg re g) Dn σ H) : tAsg (LE K W re) tg Dn σ H := by
  obtain ⟨α, θ, Γ, E, S, G, q, lk⟩ := h
  exact ⟨α, θ, Γ, _, _, S, G, q, fun d θ1 α1 H1 v n1 S1 r1 q1 => hg _ _ _ _ ⟨α1, θ1, Γ, d, _, S1, G.mono n1, r1, q1, lk.nx.on n1⟩, lk.ex.atG G⟩
theorem gName_imp {K : PySem.W.Frag} {i : Nat} : ∀ v σ H Q, LG K (gN i) v σ H Q → gName i v σ H Q := by
  rintro v σ H Q ⟨α, θ, Γ, d, k, S, G, r, q, lk⟩
  exact lk _ θ α _ H (Nx.refl _ _ _) S (G.set i r) q
theorem xs_asg {tg : Expr} {g : ATG} (he : XE' X W e re) (hg : XG X tg g) (hs : swapsWithSole [tg] e pos.line X.env = pure false := by rfl) (hw : swappedStores [tg] e X.env = pure none := by rfl)
    (h1 : (assignEach [tg] X.env).map (·.2) = [assign tg X.env] := by rfl) : XS X W (.Assign [tg] e pos) (aAsg re g) := ps_imp (ps_asg he hg hs hw h1) fun _ _ _ h => asg_imp (fun _ _ _ _ z => z) h
theorem xs_set {i : Nat} {x : Str} (hN : X.N.Nodup) (hi : X.N[i]? = some x) (hx : Loc X.env.scope x) (he : XE' X W e re) (hs : swapsWith e (some (.Name x pos')) pos.line X.env = pure false := by rfl) (hf : X.fn x = true ∨ X.env.scope.names.lookup x = some .local := by first | exact .inl rfl | exact .inr rfl | assumption) :
    XS X W (.Assign [.Name x pos'] e pos) (aAsg re (gN i)) := ps_imp (ps_set hN hi hx he hs hf) fun _ _ _ h => asg_imp gName_imp h
/-- a, b = x, y -/
@[reducible] def aPar (i j : Nat) (rs : AAR) : ASR := fun E Γ θ => rs Γ θ (fun ds θ1 => ∃ d d', ds = [d, d'] ∧ E.nx ((Γ.set i (some d)).set j (some d')) θ1) (fun c θ1 => E.ex c Γ θ1)
theorem xs_par {i j : Nat} {x y : Str} {rs : AAR} {px py pt : Pos} {kt k2 pt2} (hc : X.calm = true) (hN : X.N.Nodup) (hi : X.N[i]? = some x) (hj : X.N[j]? = some y) (hij : i ≠ j)
    (hx : X.env.scope.names.lookup x = some .local) (hy : X.env.scope.names.lookup y = some .local) (ha : XA X W [a, b] rs)
    (hw : swappedStores [.Tuple [.Name x px, .Name y py] kt pt] (.Tuple [a, b] k2 pt2) X.env = pure (some [x, y]))
    (hs : swapsWithSole [.Tuple [.Name x px, .Name y py] kt pt] (.Tuple [a, b] k2 pt2) pos.line X.env = pure false := by rfl) :
    XS X W (.Assign [.Tuple [.Name x px, .Name y py] kt pt] (.Tuple [a, b] k2 pt2) pos) (aPar i j rs) := ps_imp (ps_par hc hN hi hj hij hx hy ha hw hs) (by
  rintro Dn σ H ⟨α, θ, Γ, E, S, G, q, lk⟩
  refine ⟨α, θ, Γ, _, _, S, G, q, fun ds θ1 α1 H1 vs n1 S1 r1 ⟨d, d', e, q1⟩ => ?_, lk.ex.atG G⟩
  subst e
  obtain ⟨v, w, rfl, r2, r3⟩ := rep2 r1
  exact ⟨v, w, rfl, lk.nx _ θ1 α1 _ H1 n1 S1 (((G.mono n1).set i r2).set j r3) q1⟩)
/-- o.f = e -/
def putFG (f : Str) (d : D) : List (Str × D) → List (Str × D)
  | [] => [(f, d)]
  | (g, x) :: r => if g = f then (g, d) :: r else (g, x) :: putFG f d r
theorem KRep.putF {K : PySem.W.Frag} {H : Hp} {α : Nat → Addr} {N : Nat} {f : Str} {d : D} {v : V} (r : Rep K H α N d v) : ∀ {fs : List (Str × D)} {ws : List (Str × V)}, KRep K H α N fs ws → KRep K H α N (putFG f d fs) (L2.putF f v ws)
  | [], ws, h => by
    have : ws = [] := List.eq_nil_of_length_eq_zero (by rw [← h.length]; rfl)
    subst this
    exact KRep.nil.cons r
  | (g, x) :: fs, ws, h => by
    obtain ⟨u, us, rfl, r', h'⟩ := h.cases
    show KRep K H α N (if g = f then (g, d) :: fs else (g, x) :: putFG f d fs) (if g = f then (g, v) :: us else (g, u) :: L2.putF f v us)
    by_cases e : g = f
    · rw [if_pos e, if_pos e]; exact h'.cons r
    · rw [if_neg e, if_neg e]; exact (KRep.putF r h').cons r'
theorem st_set {n : Nat} {e' : Ent} {e : Ent} {u o : HO} {K : PySem.W.Frag} {H : Hp} {α : Nat → Addr} {θ : Th} {E : AE} {Dn : Ends} {σ : L2.St} {Γ : G} (S : Sta K H α θ) (G : Slots K H α θ.length σ Γ) (hn : θ[n]? = some e) (hu : H (α n) = some u) (mu : Mut (some u))
    (he : ∀ H', Nx α θ.length H α θ.length H' → H' (α n) = some o → EntAt K H' α θ.length (α n) e') (q : E.nx Γ (θ.set n e')) (lk : LkE K α θ.length H W E Dn) : Dn.nx σ (upd H (α n) o) :=
  ent_set (k := fun _ θ' => E.nx Γ θ') (Q := fun _ H' => Dn.nx σ H') (d := .non) (v := .non) S hn hu mu he (by unfold Rep; rfl) q fun d θ' α' H' v nx S' _ q' => lk.nx Γ θ' α' σ H' nx S' (G.mono nx) q'
@[reducible] def aFldS (K : PySem.W.Frag) (f : Str) (ro rv : AR) : ASR := fun E Γ θ => rv Γ θ (fun y θ1 => ro Γ θ1 (fun x θ2 => ∃ n C fs, x = .obj n ∧ θ2[n]? = some (.ins C fs) ∧ Cls K C ∧ NoAttr K C f ∧ fs.length < 1000 ∧ E.nx Γ (θ2.set n (.ins C (putFG f y fs)))) (fun c θ2 => E.ex c Γ θ2)) (fun c θ1 => E.ex c Γ θ1)
theorem xs_fld {f : Str} (ho : XE' X W o ro) (hv : XE' X W e rv) (hs : swapsWith e (some (.Attribute o f pos')) pos.line X.env = pure false := by rfl) : XS X W (.Assign [.Attribute o f pos'] e pos) (aFldS X.K f ro rv) := ps_imp (ps_fld ho hv hs) (by
  rintro Dn σ H ⟨α, θ, Γ, E, S, G, q, lk⟩
  refine ⟨α, θ, Γ, _, _, S, G, q, fun y θ1 α1 H1 v n1 S1 r1 q1 => ?_, lk.ex.atG G⟩
  refine ⟨α1, θ1, Γ, _, _, S1, G.mono n1, q1, fun x θ2 α2 H2 u n2 S2 r2 ⟨n, C, fs, e1, hn, c, na, hl, q2⟩ => ?_, (lk.ex.on n1).atG (G.mono n1)⟩
  subst e1
  unfold Rep at r2
  obtain ⟨_, rfl⟩ := r2
  obtain ⟨dx, ws, h1, h2⟩ := S2.ent n _ hn
  refine ⟨α2 n, C, dx, ws, rfl, h1, c, na, by rw [← h2.length]; exact hl, ?_⟩
  exact st_set (e' := .ins C (putFG f y fs)) S2 (G.mono (n1.trans n2)) hn h1 trivial (fun H' nx e => ⟨dx, _, e, (KRep.mono nx h2).putF (Rep.mono (n2.trans nx) _ _ r1)⟩) q2 (lk.on (n1.trans n2)))
/-- d[k] = v -/
def dPutE (e : Ent) (y v : D) : Option Ent := match e with
  | .dK kvs => if kvs.length < 100000 then (keyD y).map fun k => .dK (putG kvs k v) else none
  | .dT kvs => match y with
    | .tup ds => if kvs.length < 100000 then (keysD ds).map fun k => .dT (putG kvs k v) else none
    | _ => none
  | .lst xs => match y with
    | .int i => (ixN xs.length i).map fun j => .lst (xs.set j v)
    | _ => none
  | _ => none
@[reducible] def aPutS (ro ri rv : AR) : ASR := fun E Γ θ => rv Γ θ (fun v θ1 => ro Γ θ1 (fun x θ2 => ri Γ θ2 (fun y θ3 => ∃ n e e', x = .obj n ∧ θ3[n]? = some e ∧ (∀ xs, e ≠ .lst xs) ∧ dPutE e y v = some e' ∧ E.nx Γ (θ3.set n e')) (fun c θ3 => E.ex c Γ θ3)) (fun c θ2 => E.ex c Γ θ2)) (fun c θ1 => E.ex c Γ θ1)
theorem xs_put {i : Expr} {ri : AR} (hu : X.A.units + 1 < cLine) (ho : XE' X W o ro) (hi : XE' X W i ri) (hv : XE' X W e rv) (hs : swapsWith e (some (.Subscript o i pos')) pos.line X.env = pure false := by rfl) :
    XS X W (.Assign [.Subscript o i pos'] e pos) (aPutS ro ri rv) := ps_imp (ps_dput hu ho hi hv hs) (by
  rintro Dn σ H ⟨α, θ, Γ, E, S, G, q, lk⟩
  refine ⟨α, θ, Γ, _, _, S, G, q, fun w θ1 α1 H1 v n1 S1 r1 q1 => ?_, lk.ex.atG G⟩
  refine ⟨α1, θ1, Γ, _, _, S1, G.mono n1, q1, fun x θ2 α2 H2 u n2 S2 r2 q2 => ?_, (lk.ex.on n1).atG (G.mono n1)⟩
  refine ⟨α2, θ2, Γ, _, _, S2, G.mono (n1.trans n2), q2, fun y θ3 α3 H3 z n3 S3 r3 ⟨n, e, e', e1, hn, hne, hp, q3⟩ => ?_, (lk.ex.on (n1.trans n2)).atG (G.mono (n1.trans n2))⟩
  subst e1
  have rx := Rep.mono n3 _ _ r2
  have rw' := Rep.mono (n2.trans n3) _ _ r1
  unfold Rep at rx
  obtain ⟨_, rfl⟩ := rx
  have he := S3.ent n _ hn
  have G3 := G.mono ((n1.trans n2).trans n3)
  have lk3 := lk.on ((n1.trans n2).trans n3)
  have h5 : 100000 < sizeLine := by rw [sizeLine_eq]; decide
  cases e with
  | dK kvs =>
    have hp' : (if kvs.length < 100000 then (keyD y).map fun k => Ent.dK (putG kvs k w) else none) = some e' := hp
    split at hp'
    · rename_i hl
      obtain ⟨k, e2, e3⟩ := Option.map_eq_some_iff.mp hp'
      subst e3
      obtain ⟨ws, h1, h2⟩ := he
      refine ⟨α3 n, upd H3 (α3 n) (.dK (putK ws k v)), rfl, .inl ⟨ws, k, h1, keyD_v r3 e2, by rw [← h2.length]; omega, rfl⟩, ?_⟩
      exact st_set (e' := .dK (putG kvs k w)) S3 G3 hn h1 trivial (fun H' nx e => ⟨_, e, (KRep.mono nx h2).put k (Rep.mono nx _ _ rw')⟩) q3 lk3
    · cases hp'
  | dT kvs =>
    cases y with
    | tup ds =>
      have hp' : (if kvs.length < 100000 then (keysD ds).map fun k => Ent.dT (putG kvs k w) else none) = some e' := hp
      split at hp'
      · rename_i hl
        obtain ⟨k, e2, e3⟩ := Option.map_eq_some_iff.mp hp'
        subst e3
        obtain ⟨ws, h1, h2⟩ := he
        unfold Rep at r3
        obtain ⟨b, vs, rfl, hb, rb⟩ := r3
        rw [keysD_v rb e2] at hb
        refine ⟨α3 n, upd H3 (α3 n) (.dT (putK ws k v)), rfl, .inr ⟨ws, k, b, h1, rfl, hb, by rw [← h2.length]; omega, rfl⟩, ?_⟩
        exact st_set (e' := .dT (putG kvs k w)) S3 G3 hn h1 trivial (fun H' nx e => ⟨_, e, (KRep.mono nx h2).put k (Rep.mono nx _ _ rw')⟩) q3 lk3
      · cases hp'
    | _ => cases hp
  | lst xs => exact absurd rfl (hne xs)
  | _ => cases hp)
/-- xs[i] = v -/
@[reducible] def aPutL (ro ri rv : AR) : ASR := fun E Γ θ => rv Γ θ (fun v θ1 => ro Γ θ1 (fun x θ2 => ri Γ θ2 (fun y θ3 => ∃ n xs i j, x = .obj n ∧ θ3[n]? = some (.lst xs) ∧ y = .int i ∧ ixN xs.length i = some j ∧ E.nx Γ (θ3.set n (.lst (xs.set j v)))) (fun c θ3 => E.ex c Γ θ3)) (fun c θ2 => E.ex c Γ θ2)) (fun c θ1 => E.ex c Γ θ1)
end
end AB
namespace AB
open PySem PySem.Spec PyProof.Rows L2
/-! ### what is walked: its items -/
def ItSim (K : PySem.W.Frag) (J : It) (α : Nat → Addr) (n : Nat) (H : Hp) (ds : List D) (still : Th → Prop) : Prop :=
  ∀ (i : Nat) (α' : Nat → Addr) (θ' : Th) (H' : Hp), Nx α n H α' θ'.length H' → Sta K H' α' θ' → still θ' →
    (∀ d, ds[i]? = some d → J.go i H' ∧ ∀ x H'', J.yld i H' x H'' → (∀ b o, H' b = some o → H'' b = some o) ∧ Rep K H'' α' θ'.length d x) ∧ (ds.length ≤ i → J.stop i H')
theorem ItSim.on {K : PySem.W.Frag} {J : It} {α α1 : Nat → Addr} {n n1 : Nat} {H H1 : Hp} {ds : List D} {still : Th → Prop} (h : ItSim K J α n H ds still) (x : Nx α n H α1 n1 H1) : ItSim K J α1 n1 H1 ds still :=
  fun i α' θ' H' nx => h i α' θ' H' (x.trans nx)
abbrev AIR := G → Th → (List D → (Th → Prop) → Th → Prop) → AX → Prop
def LI (K : PySem.W.Frag) (W : WX) (a : AIR) : TI := fun σ H R => ∃ (α : Nat → Addr) (θ : Th) (Γ : G) (k : List D → (Th → Prop) → Th → Prop) (kx : AX), Sta K H α θ ∧ Slots K H α θ.length σ Γ ∧ a Γ θ k kx ∧
  (∀ ds still θ' α' H' J, Nx α θ.length H α' θ'.length H' → Sta K H' α' θ' → ItSim K J α' θ'.length H' ds still → k ds still θ' → R J H') ∧ LkX K α θ.length H kx (WE W σ)
abbrev XI (X : Cx) (W : WX) (tg it : Expr) (a : AIR) : Prop := PI X tg it (LI X.K W a)
section
variable {X : Cx} {W : WX} {tg a b c e o it : Expr} {ra rb ro re rv : AR} {ai : AIR} {pos p : Pos} {es : List Expr} {rs : AAR}
theorem pi_imp {t t' : TI} (h : PI X tg it t) (i : ∀ σ H R, t' σ H R → t σ H R) : PI X tg it t' := ⟨fun pins s σ H R I q => h.run pins s σ H R I (i _ _ _ q)⟩
theorem pi_or {t t' : TI} (h : PI X tg it t) (h' : PI X tg it t') : PI X tg it (fun σ H R => t σ H R ∨ t' σ H R) := ⟨fun pins s σ H R I q => q.elim (h.run pins s σ H R I) (h'.run pins s σ H R I)⟩
theorem sim_list {K : PySem.W.Frag} {α : Nat → Addr} {n : Nat} {H : Hp} {θ : Th} {x : D} {a : Addr} {ds : List D} (hn : n = θ.length) (S : Sta K H α θ) (r : Rep K H α n x (.ref a)) (e : asL θ x = some ds) : ItSim K (Itl K a) α n H ds (fun θ' => asL θ' x = some ds) := by
  intro i α' θ' H' nx S' st
  obtain ⟨a', vs, ea, h1, h2⟩ := asL_sq S' (Rep.mono nx _ _ r) st
  cases ea
  refine ⟨fun d hd => ?_, fun hl => ⟨vs, h1, by rw [← h2.length]; exact hl⟩⟩
  obtain ⟨v, hv, rv⟩ := h2.get hd
  exact ⟨⟨vs, v, h1, hv⟩, fun y H'' ⟨e1, e2⟩ => by
    subst e1
    have := e2 vs h1
    rw [hv] at this
    cases this
    exact ⟨fun _ _ z => z, rv⟩⟩
theorem sim_tup {K : PySem.W.Frag} {α : Nat → Addr} {n : Nat} {H : Hp} {a : Addr} {ds : List D} (r : Rep K H α n (.tup ds) (.ref a)) : ItSim K (Itt K a) α n H ds (fun _ => True) := by
  intro i α' θ' H' nx S' st
  have r' := Rep.mono nx _ _ r
  unfold Rep at r'
  obtain ⟨a', vs, ea, h1, h2⟩ := r'
  cases ea
  have h1 := SqT.of (K := K) h1
  refine ⟨fun d hd => ?_, fun hl => ⟨vs, h1, by rw [← h2.length]; exact hl⟩⟩
  obtain ⟨v, hv, rv⟩ := h2.get hd
  exact ⟨⟨vs, v, h1, hv⟩, fun y H'' ⟨e1, e2⟩ => by
    subst e1
    have := e2 vs h1
    rw [hv] at this
    cases this
    exact ⟨fun _ _ z => z, rv⟩⟩
def signs (z : Str) : List D := z.cps.toList.map fun c => .str ⟨#[c]⟩
/-- a tuple, a list, a text: which one is told ahead -/
@[reducible] def aItT (ra : AR) : AIR := fun Γ θ k kx => ra Γ θ (fun x θ1 => ∃ ds, x = .tup ds ∧ k ds (fun _ => True) θ1) kx
@[reducible] def aItL (ra : AR) : AIR := fun Γ θ k kx => ra Γ θ (fun x θ1 => ∃ ds, asL θ1 x = some ds ∧ k ds (fun θ' => asL θ' x = some ds) θ1) kx
@[reducible] def aItS (ra : AR) : AIR := fun Γ θ k kx => ra Γ θ (fun x θ1 => ∃ z, x = .str z ∧ k (signs z) (fun _ => True) θ1) kx
def aIt (ra : AR) : AIR := fun Γ θ k kx => aItT ra Γ θ k kx ∨ aItL ra Γ θ k kx ∨ aItS ra Γ θ k kx
theorem xi_tup (ha : XE' X W a ra) : XI X W tg a (aItT ra) := pi_imp (pi_tup ha) (by
  rintro σ H R ⟨α, θ, Γ, k, kx, S, G, q, lk, lx⟩
  refine ⟨α, θ, Γ, _, kx, S, G, q, fun x θ1 α1 H1 v n1 S1 r1 ⟨ds, e, q1⟩ => ?_, lx⟩
  subst e
  have r1' := r1
  unfold Rep at r1'
  obtain ⟨a', vs, rfl, h1, h2⟩ := r1'
  exact ⟨a', rfl, ⟨vs, SqT.of h1⟩, lk ds _ θ1 α1 H1 _ n1 S1 (sim_tup r1) q1⟩)
theorem xi_list (ha : XE' X W a ra) : XI X W tg a (aItL ra) := pi_imp (pi_list ha) (by
  rintro σ H R ⟨α, θ, Γ, k, kx, S, G, q, lk, lx⟩
  refine ⟨α, θ, Γ, _, kx, S, G, q, fun x θ1 α1 H1 v n1 S1 r1 ⟨ds, e, q1⟩ => ?_, lx⟩
  obtain ⟨a', vs, rfl, h1, h2⟩ := asL_sq S1 r1 e
  exact ⟨a', rfl, ⟨vs, h1⟩, lk ds _ θ1 α1 H1 _ n1 S1 (sim_list rfl S1 r1 e) q1⟩)
theorem sim_sign {K : PySem.W.Frag} {α : Nat → Addr} {n : Nat} {H : Hp} {z : Str} : ItSim K (Its z) α n H (signs z) (fun _ => True) := by
  intro i α' θ' H' nx S' st
  have hl : (signs z).length = z.cps.size := by unfold signs; simp
  refine ⟨fun d hd => ?_, fun h => by rw [hl] at h; exact h⟩
  unfold signs at hd
  rw [List.getElem?_map] at hd
  obtain ⟨c, hc, e⟩ := Option.map_eq_some_iff.mp hd
  subst e
  have hc' : z.cps[i]? = some c := by simpa using hc
  refine ⟨?_, fun y H'' ⟨e1, c', e2, e3⟩ => ?_⟩
  · show i < z.cps.size
    exact (Array.getElem?_eq_some_iff.mp hc').1
  · subst e1
    rw [hc'] at e2
    cases e2
    exact ⟨fun _ _ q => q, by unfold Rep; exact e3⟩
theorem xi_str (ha : XE' X W a ra) : XI X W tg a (aItS ra) := pi_imp (pi_str ha) (by
  rintro σ H R ⟨α, θ, Γ, k, kx, S, G, q, lk, lx⟩
  refine ⟨α, θ, Γ, _, kx, S, G, q, fun x θ1 α1 H1 v n1 S1 r1 ⟨z, e, q1⟩ => ?_, lx⟩
  subst e
  unfold Rep at r1
  exact ⟨z, r1, lk _ _ θ1 α1 H1 _ n1 S1 sim_sign q1⟩)
theorem xi_any (ha : XE' X W a ra) : XI X W tg a (aIt ra) := pi_imp (pi_or (xi_tup ha) (pi_or (xi_list ha) (xi_str ha))) (by
  rintro σ H R ⟨α, θ, Γ, k, kx, S, G, q, lk, lx⟩
  rcases q with q | q | q
  · exact .inl ⟨α, θ, Γ, k, kx, S, G, q, lk, lx⟩
  · exact .inr (.inl ⟨α, θ, Γ, k, kx, S, G, q, lk, lx⟩)
  · exact .inr (.inr ⟨α, θ, Γ, k, kx, S, G, q, lk, lx⟩))
/-- range(n), range(lo, hi) -/
def nums (lo : Int) (n : Nat) : List D := (List.range n).map fun i => .int (lo + (i : Nat))
theorem sim_range {K : PySem.W.Frag} {α : Nat → Addr} {n : Nat} {H : Hp} {lo : Int} {m : Nat} : ItSim K (Itr lo m) α n H (nums lo m) (fun _ => True) := by
  intro i α' θ' H' nx S' st
  have hl : (nums lo m).length = m := by unfold nums; simp
  refine ⟨fun d hd => ?_, fun h => by rw [hl] at h; exact h⟩
  have hi : i < m := by rw [← hl]; exact (List.getElem?_eq_some_iff.mp hd).1
  have e : d = .int (lo + (i : Nat)) := by
    unfold nums at hd
    rw [List.getElem?_map, List.getElem?_range hi] at hd
    exact (Option.some.inj hd).symm
  subst e
  exact ⟨hi, fun y H'' ⟨e1, e3⟩ => by subst e1; exact ⟨fun _ _ q => q, by unfold Rep; exact e3⟩⟩
@[reducible] def aRng (rs : AAR) : AIR := fun Γ θ k kx => rs Γ θ (fun xs θ1 => ∃ n, xs = [.int n] ∧ -100000 ≤ n ∧ n ≤ 100000 ∧ k (nums 0 n.toNat) (fun _ => True) θ1) kx
@[reducible] def aRng2 (rs : AAR) : AIR := fun Γ θ k kx => rs Γ θ (fun xs θ1 => ∃ l n, xs = [.int l, .int n] ∧ (-100000 ≤ l ∧ l ≤ 100000 ∧ -100000 ≤ n ∧ n ≤ 100000) ∧ k (nums l (n - l).toNat) (fun _ => True) θ1) kx
theorem xi_rng (hg : Gl X "range") (hm : X.mg "range" = none) (ha : XA X W [a] rs) (hs : starEach [a] X.env = [(false, eval a X.env)] := by rfl) : XI X W tg (.Call (.Name "range" p) [a] [] pos) (aRng rs) := pi_imp (pi_range1 hg hm ha hs) (by
  rintro σ H R ⟨α, θ, Γ, k, kx, S, G, q, lk, lx⟩
  refine ⟨α, θ, Γ, _, kx, S, G, q, fun x θ1 α1 H1 v n1 S1 r1 ⟨n, e, h1, h2, q1⟩ => ?_, lx⟩
  subst e
  obtain ⟨w, rfl, r2⟩ := rep1 r1
  unfold Rep at r2; subst r2
  exact ⟨n, rfl, by omega, by omega, lk _ _ θ1 α1 H1 _ n1 S1 sim_range q1⟩)
theorem xi_rng2 (hg : Gl X "range") (hm : X.mg "range" = none) (ha : XA X W [a, b] rs) (hs : starEach [a, b] X.env = [(false, eval a X.env), (false, eval b X.env)] := by rfl) (hs2 : starEach [b] X.env = [(false, eval b X.env)] := by rfl) :
    XI X W tg (.Call (.Name "range" p) [a, b] [] pos) (aRng2 rs) := pi_imp (pi_range2 hg hm ha hs hs2) (by
  rintro σ H R ⟨α, θ, Γ, k, kx, S, G, q, lk, lx⟩
  refine ⟨α, θ, Γ, _, kx, S, G, q, fun x θ1 α1 H1 v n1 S1 r1 ⟨l, n, e, h1, q1⟩ => ?_, lx⟩
  subst e
  obtain ⟨w, w', rfl, r2, r3⟩ := rep2 r1
  unfold Rep at r2 r3; subst r2 r3
  exact ⟨l, n, rfl, ⟨by omega, by omega, by omega, by omega⟩, lk _ _ θ1 α1 H1 _ n1 S1 sim_range q1⟩)
/-- reversed(list) -/
@[reducible] def aRevI (rs : AAR) : AIR := fun Γ θ k kx => rs Γ θ (fun xs θ1 => ∃ x ds, xs = [x] ∧ asL θ1 x = some ds ∧ k ds.reverse (fun θ' => asL θ' x = some ds) θ1) kx
theorem xi_rev (hg : Gl X "reversed") (hm : X.mg "reversed" = none) (ha : XA X W [a] rs) (hs : starEach [a] X.env = [(false, eval a X.env)] := by rfl) : XI X W tg (.Call (.Name "reversed" p) [a] [] pos) (aRevI rs) := pi_imp (pi_reversed hg hm ha hs) (by
  rintro σ H R ⟨α, θ, Γ, k, kx, S, G, q, lk, lx⟩
  refine ⟨α, θ, Γ, _, kx, S, G, q, fun xs θ1 α1 H1 v n1 S1 r1 ⟨x, ds, e, e1, q1⟩ => ?_, lx⟩
  subst e
  obtain ⟨w, rfl, r2⟩ := rep1 r1
  obtain ⟨a', vs, rfl, h1, h2⟩ := asL_sq S1 r2 e1
  refine ⟨a', vs, rfl, h1, lk _ _ θ1 α1 H1 _ n1 S1 ?_ q1⟩
  intro i α' θ' H' nx S' st
  obtain ⟨a2, vs', ea, h3, h4⟩ := asL_sq S' (Rep.mono nx _ _ r2) st
  cases ea
  have hl : vs.length = ds.length := h2.length.symm
  refine ⟨fun d hd => ?_, fun h => by rw [List.length_reverse] at h; show vs.length ≤ i; omega⟩
  have hi : i < ds.length := by have := (List.getElem?_eq_some_iff.mp hd).1; rwa [List.length_reverse] at this
  rw [List.getElem?_reverse hi] at hd
  obtain ⟨v, hv, rv⟩ := h4.get hd
  have hv' : vs'[vs.length - 1 - i]? = some v := by rw [hl]; exact hv
  exact ⟨⟨by omega, vs', v, h3, hv'⟩, fun y H'' ⟨e1, e2⟩ => by
    subst e1
    have := e2 vs' h3
    rw [hv'] at this
    cases this
    exact ⟨fun _ _ z => z, rv⟩⟩)
/-- zip of two lists or two tuples -/
def zipD (xs ys : List D) : List D := (xs.zip ys).map fun p => .tup [p.1, p.2]
theorem zipD_get {xs ys : List D} {i : Nat} {d : D} (h : (zipD xs ys)[i]? = some d) : ∃ x y, xs[i]? = some x ∧ ys[i]? = some y ∧ d = .tup [x, y] := by
  unfold zipD at h
  rw [List.getElem?_map] at h
  obtain ⟨⟨x, y⟩, h1, h2⟩ := Option.map_eq_some_iff.mp h
  rw [List.getElem?_zip_eq_some] at h1
  exact ⟨x, y, h1.1, h1.2, h2.symm⟩
theorem zipD_len {xs ys : List D} : (zipD xs ys).length = min xs.length ys.length := by unfold zipD; rw [List.length_map, List.length_zip]
theorem pair_new {K : PySem.W.Frag} {α : Nat → Addr} {n : Nat} {H : Hp} {T : Addr} {x y : D} {v w : V} (hT : H T = none) (r1 : Rep K H α n x v) (r2 : Rep K H α n y w) : Rep K (upd H T (.tup [v, w])) α n (.tup [x, y]) (.ref T) := by
  have nx : Nx α n H α n (upd H T (.tup [v, w])) := Nx.of α n (Pers.new hT)
  unfold Rep
  exact ⟨T, [v, w], rfl, upd_same, Reps.cons (Rep.mono nx _ _ r1) (Reps.cons (Rep.mono nx _ _ r2) Reps.nil)⟩
@[reducible] def aZip (rs : AAR) : AIR := fun Γ θ k kx => rs Γ θ (fun xs θ1 => ∃ x y, xs = [x, y] ∧ ((∃ ds es, x = .tup ds ∧ y = .tup es ∧ k (zipD ds es) (fun _ => True) θ1) ∨
  ∃ ds es, asL θ1 x = some ds ∧ asL θ1 y = some es ∧ k (zipD ds es) (fun θ' => asL θ' x = some ds ∧ asL θ' y = some es) θ1)) kx
theorem xi_zip {elts : List Expr} {kk : Nat} {tp : Pos} (hg : Gl X "zip") (hm : X.mg "zip" = none) (ha : XA X W [a, b] rs) (hs : starEach [a, b] X.env = (false, eval a X.env) :: starEach [b] X.env := by rfl) (hpl : (backTo pos (starEach [b] X.env)).any (·.1) = false := by rfl) :
    XI X W (.Tuple elts kk tp) (.Call (.Name "zip" p) [a, b] [] pos) (aZip rs) := pi_imp (RZ.pi_zipA hg hm ha hs hpl) (by
  rintro σ H R ⟨α, θ, Γ, k, kx, S, G, q, lk, lx⟩
  refine ⟨α, θ, Γ, _, kx, S, G, q, fun xs θ1 α1 H1 v n1 S1 r1 ⟨x, y, e, c⟩ => ?_, lx⟩
  subst e
  obtain ⟨w, w', rfl, r2, r3⟩ := rep2 r1
  rcases c with ⟨ds, es, rfl, rfl, q1⟩ | ⟨ds, es, e1, e2, q1⟩
  · have r2' := r2
    have r3' := r3
    unfold Rep at r2' r3'
    obtain ⟨p1, vs, rfl, h1, h2⟩ := r2'
    obtain ⟨p2, us, rfl, h3, h4⟩ := r3'
    refine ⟨p1, p2, vs, us, rfl, .inr ⟨SqT.of h1, SqT.of h3, lk _ _ θ1 α1 H1 _ n1 S1 ?_ q1⟩⟩
    intro i α' θ' H' nx S' st
    have t1 := Rep.mono nx _ _ r2
    have t2 := Rep.mono nx _ _ r3
    unfold Rep at t1 t2
    obtain ⟨_, vs', ea, g1, g2⟩ := t1
    cases ea
    obtain ⟨_, us', ea, g3, g4⟩ := t2
    cases ea
    refine ⟨fun d hd => ?_, fun hl => ⟨vs', us', SqT.of g1, SqT.of g3, ?_⟩⟩
    · obtain ⟨x, y, hx, hy, rfl⟩ := zipD_get hd
      obtain ⟨v1, hv1, rv1⟩ := g2.get hx
      obtain ⟨v2, hv2, rv2⟩ := g4.get hy
      refine ⟨⟨vs', us', v1, v2, SqT.of g1, SqT.of g3, hv1, hv2⟩, ?_⟩
      rintro z H'' ⟨T, y1, y2, e1, hT, e2, e3, e4⟩
      have k1 := e3 vs' (SqT.of g1)
      have k2 := e4 us' (SqT.of g3)
      rw [hv1] at k1; rw [hv2] at k2
      cases k1; cases k2
      rw [e1, e2]
      exact ⟨same_new hT, pair_new hT rv1 rv2⟩
    · rw [zipD_len, g2.length, g4.length] at hl
      omega
  · obtain ⟨p1, vs, rfl, h1, h2⟩ := asL_sq S1 r2 e1
    obtain ⟨p2, us, rfl, h3, h4⟩ := asL_sq S1 r3 e2
    refine ⟨p1, p2, vs, us, rfl, .inl ⟨h1, h3, lk _ _ θ1 α1 H1 _ n1 S1 ?_ q1⟩⟩
    intro i α' θ' H' nx S' ⟨st1, st2⟩
    obtain ⟨_, vs', ea, g1, g2⟩ := asL_sq S' (Rep.mono nx _ _ r2) st1
    cases ea
    obtain ⟨_, us', ea, g3, g4⟩ := asL_sq S' (Rep.mono nx _ _ r3) st2
    cases ea
    refine ⟨fun d hd => ?_, fun hl => ⟨vs', us', g1, g3, ?_⟩⟩
    · obtain ⟨x', y', hx, hy, rfl⟩ := zipD_get hd
      obtain ⟨v1, hv1, rv1⟩ := g2.get hx
      obtain ⟨v2, hv2, rv2⟩ := g4.get hy
      refine ⟨⟨vs', us', v1, v2, g1, g3, hv1, hv2⟩, ?_⟩
      rintro z H'' ⟨T, y1, y2, e1, hT, e2, e3, e4⟩
      have k1 := e3 vs' g1
      have k2 := e4 us' g3
      rw [hv1] at k1; rw [hv2] at k2
      cases k1; cases k2
      rw [e1, e2]
      exact ⟨same_new hT, pair_new hT rv1 rv2⟩
    · rw [zipD_len, g2.length, g4.length] at hl
      omega)
end
/-! ### for -/
def aLoop (still : Th → Prop) (g : ATG) (tb : ASR) (E : AE) : List D → G → Th → Prop
  | [], Γ, θ => still θ ∧ E.nx Γ θ
  | d :: ds, Γ, θ => still θ ∧ g d Γ θ fun Γ1 θ1 => tb { E with nx := aLoop still g tb E ds, ct := aLoop still g tb E ds, bk := E.nx } Γ1 θ1
@[reducible] def aFor (ai : AIR) (g : ATG) (tb : ASR) : ASR := fun E Γ θ => ai Γ θ (fun ds still θ1 => aLoop still g tb E ds Γ θ1) (fun c θ1 => E.ex c Γ θ1)
section
variable {X : Cx} {W : WX} {tg it : Expr} {ai : AIR} {g : ATG} {s : ASR} {pos : Pos} {body : List Stmt}
theorem Slots.rfl' {K : PySem.W.Frag} {H : Hp} {α : Nat → Addr} {N : Nat} {σ : L2.St} {Γ : G} (h : Slots K H α N σ Γ) : Slots K H α N σ Γ := h
theorem aLoop_still {still : Th → Prop} {g : ATG} {tb : ASR} {E : AE} {ds : List D} {Γ : G} {θ : Th} (h : aLoop still g tb E ds Γ θ) : still θ := by
  cases ds with
  | nil => exact h.1
  | cons d ds => exact h.1
theorem xs_for (hp : PassesOwn (model X.prog X.w) X.A X.env X.xe) (hc : X.calm = true) (hi : XI X W tg it ai) (hg : XG X tg g) (hb : XSs X W body s) (hs : ∀ x, foldedSetIterable it X.env x = pure x := by intro _; rfl) :
    XS X W (.For tg it body [] pos) (aFor ai g s) := ps_imp (ps_for hp hc hi hg hb hs) (by
  rintro Dn σ H ⟨α, θ, Γ, E, S, G, q, lk⟩
  refine ⟨α, θ, Γ, _, _, S, G, q, fun ds still θ1 α1 H1 J n1 S1 sim q1 => ?_, lk.ex.atG G⟩
  refine ⟨fun i m σ' H' => m = ds.length - i ∧ i ≤ ds.length ∧ ∃ (α' : Nat → Addr) (θ' : Th) (Γ' : AB.G), Nx α1 θ1.length H1 α' θ'.length H' ∧ Sta X.K H' α' θ' ∧ Slots X.K H' α' θ'.length σ' Γ' ∧ aLoop still g s E (ds.drop i) Γ' θ',
    ⟨ds.length, by simp, Nat.zero_le _, α1, θ1, Γ, Nx.refl _ _ _, S1, G.mono n1, q1⟩, ?_⟩
  rintro i m σ' H' ⟨rfl, hi, α', θ', Γ', nx, S', G', q'⟩
  obtain ⟨h1, h2⟩ := sim i α' θ' H' nx S' (aLoop_still q')
  by_cases hlt : i < ds.length
  · have hd : ds[i]? = some ds[i] := List.getElem?_eq_getElem hlt
    rw [List.drop_eq_getElem_cons hlt] at q'
    obtain ⟨hgo, hy⟩ := h1 _ hd
    refine .inr ⟨hgo, fun σ2 H2 => ∃ (α2 : Nat → Addr) (θ2 : Th) (Γ2 : AB.G), Nx α1 θ1.length H1 α2 θ2.length H2 ∧ Sta X.K H2 α2 θ2 ∧ Slots X.K H2 α2 θ2.length σ2 Γ2 ∧ aLoop still g s E (ds.drop (i + 1)) Γ2 θ2, ?_, ?_⟩
    · rintro σ2 H2 ⟨α2, θ2, Γ2, p1, p2, p3, p4⟩
      exact ⟨_, by omega, rfl, hlt, α2, θ2, Γ2, p1, p2, p3, p4⟩
    · intro x H'' y
      obtain ⟨sm, rx⟩ := hy x H'' y
      have ny : Nx α' θ'.length H' α' θ'.length H'' := Nx.of _ _ (Pers.same sm)
      refine ⟨α', θ', Γ', ds[i], _, S'.same sm, G'.mono ny, rx, q'.2, fun Γ3 θ3 α3 σ3 H3 n3 S3 G3 q3 => ?_⟩
      have nn := (nx.trans ny).trans n3
      have lk3 := lk.on (n1.trans nn)
      refine ⟨α3, θ3, Γ3, _, S3, G3, q3, fun Γ4 θ4 α4 σ4 H4 n4 S4 G4 q4 => ?_, lk3.rt, lk3.nx, fun Γ4 θ4 α4 σ4 H4 n4 S4 G4 q4 => ?_, lk3.ex⟩
      · exact ⟨α4, θ4, Γ4, nn.trans n4, S4, G4, q4⟩
      · exact ⟨α4, θ4, Γ4, nn.trans n4, S4, G4, q4⟩
  · have e : i = ds.length := by omega
    subst e
    rw [List.drop_length] at q'
    exact .inl ⟨h2 (Nat.le_refl _), lk.nx Γ' θ' α' σ' H' (n1.trans nx) S' G' q'.2⟩)
end
end AB
namespace AB
open PySem PySem.Spec PyProof.Rows L2
/-! ### comprehensions -/
abbrev W0 : WX := fun _ _ _ _ => False
abbrev noX : AX := fun _ _ => False
inductive Tgt where
  | one (i : Nat) | tup (is : List Nat)
def setLG : AB.G → List Nat → List D → AB.G
  | Γ, i :: is, d :: ds => setLG (Γ.set i (some d)) is ds
  | Γ, _, _ => Γ
def setLs : L2.St → List Nat → List V → L2.St
  | σ, i :: is, d :: ds => setLs (σ.set i (some d)) is ds
  | σ, _, _ => σ
def gNames : List Nat → TGs
  | [] => gNil
  | i :: is => gCons (gName i) (gNames is)
theorem gNames_run : ∀ {is : List Nat} {vs : List V} {σ : L2.St} {H : Hp} {Q : L2.St → Hp → Prop}, vs.length = is.length → Q (setLs σ is vs) H → gNames is vs σ H Q
  | [], vs, σ, H, Q, hl, q => by
    have : vs = [] := List.eq_nil_of_length_eq_zero hl
    subst this
    exact ⟨rfl, q⟩
  | i :: is, [], σ, H, Q, hl, q => by cases hl
  | i :: is, v :: vs, σ, H, Q, hl, q => ⟨v, vs, rfl, gNames_run (is := is) (by simpa using hl) q⟩
theorem Slots.setL {K : PySem.W.Frag} {H : Hp} {α : Nat → Addr} {N : Nat} : ∀ {is : List Nat} {ds : List D} {vs : List V} {σ : L2.St} {Γ : AB.G}, Slots K H α N σ Γ → Reps K H α N ds vs → Slots K H α N (setLs σ is vs) (setLG Γ is ds)
  | [], ds, vs, σ, Γ, h, r => by unfold setLs setLG; exact h
  | i :: is, [], vs, σ, Γ, h, r => by unfold Reps at r; subst r; unfold setLs setLG; exact h
  | i :: is, d :: ds, vs, σ, Γ, h, r => by
    obtain ⟨v, ws, rfl, h1, h2⟩ := r.uncons
    exact Slots.setL (is := is) (h.set i h1) h2
def Tgt.slots : Tgt → List Nat
  | .one i => [i]
  | .tup is => is
def tgC (K : PySem.W.Frag) : Tgt → TG
  | .one i => gName i
  | .tup is => gTup K is.length (gNames is)
def cTg (t : Tgt) (d : D) (Γ : AB.G) (k : AB.G → Prop) : Prop := match t with
  | .one i => k (Γ.set i (some d))
  | .tup is => ∃ xs, d = .tup xs ∧ xs.length = is.length ∧ k (setLG Γ is xs)
def wipeG (Γ : AB.G) : List Nat → AB.G
  | [] => Γ
  | v :: vs => (wipeG Γ vs).set v none
theorem Slots.wipe {K : PySem.W.Frag} {H : Hp} {α : Nat → Addr} {N : Nat} {σ : L2.St} {Γ : AB.G} (h : Slots K H α N σ Γ) : ∀ vs : List Nat, Slots K H α N (L2.wipe σ vs) (wipeG Γ vs)
  | [] => h
  | v :: vs => by
    have ih := Slots.wipe h vs
    refine ⟨by show ((wipeG Γ vs).set v none).length = ((L2.wipe σ vs).set v none).length; rw [List.length_set, List.length_set]; exact ih.1, fun j e q => ?_⟩
    have q' : ((wipeG Γ vs).set v none)[j]? = some (some e) := q
    by_cases hj : v = j
    · subst hj
      have hl : v < (wipeG Γ vs).length := by
        have := (List.getElem?_eq_some_iff.mp q').1
        rwa [List.length_set] at this
      rw [List.getElem?_set_self hl] at q'
      cases q'
    · rw [List.getElem?_set_ne hj] at q'
      obtain ⟨w, h1, h2⟩ := ih.2 j e q'
      exact ⟨w, by show ((L2.wipe σ vs).set v none)[j]? = _; rw [List.getElem?_set_ne hj]; exact h1, h2⟩
theorem wipe_set {σ : L2.St} {i : Nat} {x : Option V} : ∀ {vs : List Nat}, i ∈ vs → L2.wipe (σ.set i x) vs = L2.wipe σ vs
  | v :: vs, h => by
    show (L2.wipe (σ.set i x) vs).set v none = (L2.wipe σ vs).set v none
    by_cases e : i = v
    · subst e
      by_cases h2 : i ∈ vs
      · rw [wipe_set h2]
      · have : ∀ {us : List Nat}, i ∉ us → L2.wipe (σ.set i x) us = (L2.wipe σ us).set i x := by
          intro us
          induction us with
          | nil => intro _; rfl
          | cons u us ih =>
            intro hn
            show (L2.wipe (σ.set i x) us).set u none = ((L2.wipe σ us).set u none).set i x
            rw [ih (fun z => hn (List.mem_cons_of_mem _ z)), List.set_comm _ _ (fun z => hn (by rw [z]; exact List.mem_cons_self))]
        rw [this h2, List.set_set]
    · have h2 : i ∈ vs := by
        rcases List.mem_cons.mp h with z | z
        · exact absurd z e
        · exact z
      rw [wipe_set h2]
theorem wipe_wipe {σ : L2.St} : ∀ {us vs : List Nat}, (∀ i ∈ us, i ∈ vs) → L2.wipe (L2.wipe σ us) vs = L2.wipe σ vs
  | [], vs, _ => rfl
  | u :: us, vs, h => by
    show L2.wipe ((L2.wipe σ us).set u none) vs = _
    rw [wipe_set (h u List.mem_cons_self), wipe_wipe fun i hi => h i (List.mem_cons_of_mem _ hi)]
theorem wipe_setLs : ∀ {is vs : List Nat} {xs : List V} {σ : L2.St}, (∀ i ∈ is, i ∈ vs) → L2.wipe (setLs σ is xs) vs = L2.wipe σ vs
  | [], vs, xs, σ, _ => by unfold setLs; rfl
  | i :: is, vs, [], σ, _ => by unfold setLs; rfl
  | i :: is, vs, x :: xs, σ, h => by
    show L2.wipe (setLs (σ.set i (some x)) is xs) vs = _
    rw [wipe_setLs fun j hj => h j (List.mem_cons_of_mem _ hj), wipe_set (h i List.mem_cons_self)]
theorem tg_run {K : PySem.W.Frag} {H : Hp} {α : Nat → Addr} {N : Nat} {t : Tgt} {d : D} {v : V} {σ : L2.St} {Γ : AB.G} {k : AB.G → Prop} {vs : List Nat} {Q : L2.St → Hp → Prop} (hv : ∀ i ∈ t.slots, i ∈ vs) (Gs : Slots K H α N (L2.wipe σ vs) Γ) (r : Rep K H α N d v)
    (h : cTg t d Γ k) (q : ∀ Γ1 σ1, Slots K H α N σ1 Γ1 → L2.wipe σ1 vs = L2.wipe σ vs → k Γ1 → Q σ1 H) : tgC K t v (L2.wipe σ vs) H Q := by
  cases t with
  | one i => exact q _ _ (Gs.set i r) (by rw [wipe_set (hv i List.mem_cons_self), wipe_wipe fun _ z => z]) h
  | tup is =>
    obtain ⟨xs, rfl, hl, h⟩ := h
    unfold Rep at r
    obtain ⟨a, us, rfl, h1, h2⟩ := r
    refine ⟨a, us, rfl, SqT.of h1, by rw [← h2.length]; exact hl, gNames_run (by rw [← h2.length]; exact hl) ?_⟩
    exact q _ _ (Gs.setL h2) (by rw [wipe_setLs (is := is) (vs := vs) (fun i hi => hv i hi), wipe_wipe fun _ z => z]) h
def cEl (t : Tgt) (tt : ATR) (te : AR) (Γ : AB.G) (θ : Th) (acc : List D) (d : D) (k : Option D → Prop) : Prop :=
  cTg t d Γ fun Γ1 => tt Γ1 (θ ++ [.lst acc]) (fun b θ2 => θ2 = θ ++ [.lst acc] ∧ ifB b (te Γ1 (θ ++ [.lst acc]) (fun e θ3 => θ3 = θ ++ [.lst acc] ∧ k (some e)) noX) (k none)) noX
def cLoop (t : Tgt) (tt : ATR) (te : AR) (Γ : AB.G) (θ : Th) : List D → List D → (List D → Prop) → Prop
  | [], acc, k => k acc
  | d :: ds, acc, k => cEl t tt te Γ θ acc d fun o => cLoop t tt te Γ θ ds (acc ++ o.toList) k
def aLc (ai : AIR) (t : Tgt) (tt : ATR) (te : AR) (vs : List Nat) : AR := fun Γ θ k kx => ai Γ θ (fun ds still θ1 => ds.length ≤ 100000 ∧ (∀ x, still (θ1 ++ [.lst x])) ∧ cLoop t tt te (wipeG Γ vs) θ1 ds [] fun acc => D.lts θ1.length acc ∧ k (.lst acc) θ1) kx
abbrev XTs (X : Cx) (W : WX) (e : List Expr) (a : ATR) : Prop := PTs X e (LT X.K W a)
@[reducible] def aYes : ATR := fun _ θ k _ => k true θ
section
variable {X : Cx} {W : WX} {tg it elt : Expr} {ai : AIR} {tt : ATR} {te : AR} {pos : Pos} {ifs : List Expr} {scope : Scope} {own : List (Str × Nat)} {t : Tgt}
theorem pts_imp {u u' : TT} (h : PTs X ifs u) (i : ∀ σ H Q, u' σ H Q → u σ H Q) : PTs X ifs u' := by
  first
    | exact ⟨fun pins s σ H Q I q => h.run pins s σ H Q I (i _ _ _ q)⟩
    | exact fun pins s σ H Q I q => h pins s σ H Q I (i _ _ _ q)
theorem xts_nil : XTs X W [] aYes := pts_imp pts_nil (by
  rintro σ H Q ⟨α, θ, Γ, k, kx, S, G, q, lk, lx⟩
  exact lk true θ α H (Nx.refl _ _ _) S q)
theorem xts_one {c : Expr} (h : XT X W c tt) : XTs X W [c] tt := pts_one h
theorem Sta.congr {K : PySem.W.Frag} {H : Hp} {α α' : Nat → Addr} {θ : Th} (h : Sta K H α θ) (e : ∀ m, m < θ.length → α' m = α m) : Sta K H α' θ := by
  refine ⟨fun n en hn => ?_, fun a b ha hb q => h.inj a b ha hb (by rw [← e a ha, ← e b hb]; exact q)⟩
  have hl : n < θ.length := (List.getElem?_eq_some_iff.mp hn).1
  rw [e n hl]
  exact (h.ent n en hn).mono ⟨e, Nat.le_refl _, Pers.refl H⟩ fun _ z => z
theorem lc_imp (hv : ∀ i ∈ t.slots, i ∈ own.map (·.2)) {σ : L2.St} {H : Hp} {Q Q' : VK} (hQ : ∀ v H, FrQ Q v H → Q' v H) (h : LE X.K W (aLc ai t tt te (own.map (·.2))) σ H Q) :
    tLc (LI X.K W ai) (tgC X.K t) (LT X.K W0 tt) (LE X.K W0 te) (own.map (·.2)) σ H Q' := by
  obtain ⟨α, θ, Γ, k, kx, S, G, q, lk, lx⟩ := h
  refine ⟨α, θ, Γ, _, _, S, G, q, fun ds still θ1 α1 H1 J n1 S1 sim ⟨hlen, hst, q1⟩ => fun Dl hD => ?_, lx⟩
  have lk1 := lk.on n1
  have G1 := (G.mono n1).wipe (own.map (·.2))
  generalize hβ : put α1 θ1.length Dl = β
  have hβ0 : β θ1.length = Dl := by rw [← hβ]; exact put_same _ _ _
  have hlen1 : ∀ x : List D, (θ1 ++ [Ent.lst x]).length = θ1.length + 1 := fun x => by rw [List.length_append]; rfl
  have n2 : Nx α1 θ1.length H1 β (θ1.length + 1) (upd H1 Dl (.lst [])) := by
    have := Nx.put (α := α1) (H := H1) (H' := upd H1 Dl (.lst [])) (θ := θ1) (p := Dl) (e := .lst []) (same_new hD)
    rw [hβ, hlen1] at this
    exact this
  have S2 : Sta X.K (upd H1 Dl (.lst [])) β (θ1 ++ [.lst []]) := by
    have := S1.new (p := Dl) (e := .lst []) hD (same_new hD) ⟨[], upd_same, Reps.nil⟩
    rw [hβ] at this
    exact this
  refine ⟨fun i m H' => m = ds.length - i ∧ i ≤ ds.length ∧ ∃ acc : List D, Nx β (θ1.length + 1) (upd H1 Dl (.lst [])) β (θ1.length + 1) H' ∧ Sta X.K H' β (θ1 ++ [.lst acc]) ∧ acc.length ≤ i ∧
    cLoop t tt te (wipeG Γ (own.map (·.2))) θ1 (ds.drop i) acc (fun acc => D.lts θ1.length acc ∧ k (.lst acc) θ1), ⟨ds.length, by simp, Nat.zero_le _, [], Nx.refl _ _ _, S2, Nat.zero_le _, q1⟩, ?_⟩
  rintro i m H' ⟨rfl, hi, acc, nx, S', hacc, q'⟩
  obtain ⟨h1, h2⟩ := sim i β (θ1 ++ [.lst acc]) H' (by rw [hlen1]; exact n2.trans nx) S' (hst acc)
  by_cases hlt : i < ds.length
  · have hd : ds[i]? = some ds[i] := List.getElem?_eq_getElem hlt
    rw [List.drop_eq_getElem_cons hlt] at q'
    obtain ⟨hgo, hy⟩ := h1 _ hd
    have q'' : cTg t ds[i] (wipeG Γ (own.map (·.2))) fun Γ1 => tt Γ1 (θ1 ++ [.lst acc]) (fun b θ2 => θ2 = θ1 ++ [.lst acc] ∧ ifB b (te Γ1 (θ1 ++ [.lst acc]) (fun e θ3 => θ3 = θ1 ++ [.lst acc] ∧ cLoop t tt te (wipeG Γ (own.map (·.2))) θ1 (ds.drop (i + 1)) (acc ++ (some e).toList) (fun acc => D.lts θ1.length acc ∧ k (.lst acc) θ1)) noX) (cLoop t tt te (wipeG Γ (own.map (·.2))) θ1 (ds.drop (i + 1)) (acc ++ (none : Option D).toList) (fun acc => D.lts θ1.length acc ∧ k (.lst acc) θ1))) noX := q'
    refine .inr ⟨hgo, fun H2 => ∃ acc' : List D, Nx β (θ1.length + 1) (upd H1 Dl (.lst [])) β (θ1.length + 1) H2 ∧ Sta X.K H2 β (θ1 ++ [.lst acc']) ∧ acc'.length ≤ i + 1 ∧
      cLoop t tt te (wipeG Γ (own.map (·.2))) θ1 (ds.drop (i + 1)) acc' (fun acc => D.lts θ1.length acc ∧ k (.lst acc) θ1), ?_, ?_⟩
    · rintro H2 ⟨acc', p1, p2, p3, p4⟩
      exact ⟨_, by omega, rfl, hlt, acc', p1, p2, p3, p4⟩
    · intro x H'' y
      obtain ⟨sm, rx⟩ := hy x H'' y
      rw [hlen1] at rx
      have ny : Nx β (θ1.length + 1) H' β (θ1.length + 1) H'' := Nx.of _ _ (Pers.same sm)
      have nn := nx.trans ny
      have S'' := S'.same sm
      refine tg_run hv (α := β) (N := θ1.length + 1) (Γ := wipeG Γ (own.map (·.2))) (G1.mono (n2.trans nn)) rx q'' fun Γ1 σ1 Gs hw q3 => ⟨hw, ?_⟩
      refine ⟨β, _, Γ1, _, _, S'', by rw [hlen1]; exact Gs, q3, fun b θ2 α2 H2 m2 T2 ⟨e2, q4⟩ => ?_, fun _ _ _ _ _ _ z => z.elim⟩
      subst e2
      rw [hlen1] at m2
      have T2' := T2.congr (α' := β) fun m hm => (m2.ag m (by rw [hlen1] at hm; exact hm)).symm
      have m2' : Nx β (θ1.length + 1) H'' β (θ1.length + 1) H2 := Nx.of _ _ m2.per
      cases b with
      | false =>
        rw [if_neg Bool.false_ne_true]
        have q5 := q4.2 rfl
        refine ⟨acc, nn.trans m2', T2', by omega, ?_⟩
        have e0 : acc ++ (none : Option D).toList = acc := List.append_nil _
        rw [e0] at q5
        exact q5
      | true =>
        rw [if_pos rfl]
        refine ⟨β, _, Γ1, _, _, T2', by rw [hlen1]; exact Gs.mono m2', q4.1 rfl, fun d θ3 α3 H3 v m3 T3 r3 ⟨e3, q5⟩ => ?_, fun _ _ _ _ _ _ z => z.elim⟩
        subst e3
        rw [hlen1] at m3 r3
        have T3' := T3.congr (α' := β) fun m hm => (m3.ag m (by rw [hlen1] at hm; exact hm)).symm
        have m3' : Nx β (θ1.length + 1) H2 β (θ1.length + 1) H3 := Nx.of _ _ m3.per
        have r3' : Rep X.K H3 β (θ1.length + 1) d v := Rep.mono (α := α3) ⟨fun m hm => (m3.ag m hm).symm, Nat.le_refl _, Pers.refl _⟩ _ _ r3
        have hget : (θ1 ++ [Ent.lst acc])[θ1.length]? = some (.lst acc) := by simp
        have hnl : θ1.length < (θ1 ++ [Ent.lst acc]).length := by rw [hlen1]; exact Nat.lt_succ_self _
        have hset : (θ1 ++ [Ent.lst acc]).set θ1.length (.lst (acc ++ [d])) = θ1 ++ [.lst (acc ++ [d])] := by simp
        obtain ⟨us, hu, ru⟩ := T3'.ent _ _ hget
        rw [hβ0] at hu
        rw [hlen1] at ru
        refine ⟨us, hu, by rw [← ru.length]; exact Nat.lt_of_lt_of_le (by omega : acc.length < 100000 + 1) (by rw [sizeLine_eq]; decide), acc ++ [d], ?_, ?_, by simp; omega, ?_⟩
        · refine (nn.trans (m2'.trans m3')).trans ⟨fun _ _ => rfl, Nat.le_refl _, Pers.write hu trivial⟩
        · have n9 : Nx β (θ1.length + 1) H3 β (θ1.length + 1) (upd H3 Dl (.lst (us ++ [v]))) := ⟨fun _ _ => rfl, Nat.le_refl _, Pers.write hu trivial⟩
          have := T3'.write (n := θ1.length) (e' := .lst (acc ++ [d])) (u := .lst us) (o := .lst (us ++ [v])) hnl (by rw [hβ0]; exact hu) trivial (by
            rw [hβ0, List.length_set, hlen1]
            exact ⟨_, upd_same, (Reps.mono n9 _ _ ru).append (Reps.cons (Rep.mono n9 _ _ r3') Reps.nil)⟩)
          rw [hset, hβ0] at this
          exact this
        · exact q5
  · have e : i = ds.length := by omega
    subst e
    rw [List.drop_length] at q'
    obtain ⟨hlts, hk⟩ := q'
    refine .inl ⟨h2 (Nat.le_refl _), hQ _ _ ?_⟩
    have hget : (θ1 ++ [Ent.lst acc])[θ1.length]? = some (.lst acc) := by simp
    obtain ⟨us, hu, ru⟩ := S'.ent _ _ hget
    rw [hβ0] at hu
    have htk : (θ1 ++ [Ent.lst acc]).take θ1.length = θ1 := by simp
    have S9 : Sta X.K H' β θ1 := by
      have := S'.take (m := θ1.length) (by rw [htk]; exact S1.lt)
      rw [htk] at this
      exact this
    have ru' := Reps.shrink (N' := θ1.length) _ _ ru hlts
    refine .inr ⟨Dl, us, rfl, hu, fun o => ?_⟩
    have off : ∀ n, n < θ1.length → β n ≠ Dl := fun n hn z => by
      have := S'.inj n θ1.length (by rw [hlen1]; omega) (by rw [hlen1]; omega) (by rw [z, hβ0])
      omega
    have pw : Pers H' (upd H' Dl (.frz o (.lst us))) := Pers.write hu trivial
    have n8 : Nx β θ1.length H' β θ1.length (upd H' Dl (.frz o (.lst us))) := Nx.of _ _ pw
    have S8 : Sta X.K (upd H' Dl (.frz o (.lst us))) β θ1 := ⟨fun n en hn => (S9.ent n en hn).mono n8 fun o' ho => by
      have hl : n < θ1.length := (List.getElem?_eq_some_iff.mp hn).1
      rw [upd_ne (off n hl)]; exact ho, S9.inj⟩
    have nfull : Nx α1 θ1.length H1 β θ1.length (upd H' Dl (.frz o (.lst us))) :=
      ⟨fun m hm => n2.ag m hm, Nat.le_refl _, (n2.per.trans nx.per).trans pw⟩
    refine lk1 (.lst acc) θ1 β _ (.ref Dl) nfull S8 ?_ hk
    unfold Rep
    exact ⟨Dl, us, rfl, ⟨o, upd_same⟩, Reps.mono n8 _ _ ru'⟩
theorem xe_lc (hc : X.calm = true) (hN : X.N.Nodup) (hi : XI X W tg it ai) (ok : BlkOk X.N X.env.scope scope own) (hv : ∀ i ∈ t.slots, i ∈ own.map (·.2))
    (hg : ∀ (s : Shared) (H : Hp) (C : Addr) (cl : List (Str × Addr)) (fp : List Addr), PG (X.blk s H scope (compEnvC scope cl C X.env) fp) tg (tgC X.K t))
    (ht : ∀ (s : Shared) (H : Hp) (C : Addr) (cl : List (Str × Addr)) (fp : List Addr), XTs (X.blk s H scope (compEnvC scope cl C X.env) fp) W0 ifs tt)
    (he : ∀ (s : Shared) (H : Hp) (C : Addr) (cl : List (Str × Addr)) (fp : List Addr), XE' (X.blk s H scope (compEnvC scope cl C X.env) fp) W0 elt te) (hs : ∀ x, foldedSetIterable it X.env x = pure x := by intro _; rfl) :
    XE' X W (.ListComp elt [⟨tg, it, ifs, 0⟩] scope pos) (aLc ai t tt te (own.map (·.2))) :=
  pe_imp (pe_frz (pe_lc hc hN hi ok hg ht he hs)) fun _ _ _ h => lc_imp hv (fun _ _ z => z) h
/-! ### name = [..] on one line -/
def FrN (Q : L2.St → Hp → Prop) : L2.St → Hp → Prop := fun σ H => Q σ H ∨ ∃ p xs, H p = some (.lst xs) ∧ ∀ o, Q σ (upd H p (.frz o (.lst xs)))
theorem ps_frz {st : Stmt} {s : TS} (h : PS X st s) : PS X st (fun Dn σ H => s { Dn with nx := FrN Dn.nx } σ H) := by
  refine ⟨fun pins s0 σ H Dn I q => ?_⟩
  refine thn (h.run pins s0 σ H _ I q) fun f s1 h1 => ?_
  cases f with
  | next =>
    obtain ⟨σ1, H1, I1, q1 | ⟨p, xs, hp, q1⟩⟩ := h1
    · exact ⟨σ1, H1, I1, q1⟩
    · obtain ⟨o, I2⟩ := I1.lock hp trivial
      exact ⟨σ1, _, I2, q1 o⟩
  | brk => exact h1
  | cont => exact h1
  | ret u => exact h1
theorem xs_setLc {i : Nat} {y : Str} {py spos : Pos} (hc : X.calm = true) (hN : X.N.Nodup) (hy : X.N[i]? = some y) (hyl : X.env.scope.names.lookup y = some .local)
    (hsw : swapsWith (.ListComp elt [⟨tg, it, ifs, 0⟩] scope pos) (some (.Name y py)) spos.line X.env = pure true) (hi : XI X W tg it ai) (ok : BlkOk X.N X.env.scope scope own) (hv : ∀ i ∈ t.slots, i ∈ own.map (·.2))
    (hg : ∀ (s : Shared) (H : Hp) (C : Addr) (cl : List (Str × Addr)) (fp : List Addr), PG (X.blk s H scope (compEnvC scope cl C X.env) fp) tg (tgC X.K t))
    (ht : ∀ (s : Shared) (H : Hp) (C : Addr) (cl : List (Str × Addr)) (fp : List Addr), XTs (X.blk s H scope (compEnvC scope cl C X.env) fp) W0 ifs tt)
    (he : ∀ (s : Shared) (H : Hp) (C : Addr) (cl : List (Str × Addr)) (fp : List Addr), XE' (X.blk s H scope (compEnvC scope cl C X.env) fp) W0 elt te) (hs : ∀ x, foldedSetIterable it X.env x = pure x := by intro _; rfl) :
    XS X W (.Assign [.Name y py] (.ListComp elt [⟨tg, it, ifs, 0⟩] scope pos) spos) (aAsg (aLc ai t tt te (own.map (·.2))) (gN i)) :=
  ps_imp (ps_frz (ps_setLc hc hN hy hyl hsw hi ok hg ht he hs)) (by
    rintro Dn σ H ⟨α, θ, Γ, E, S, G, q, lk⟩
    refine lc_imp (Q := fun v H1 => gName i v σ H1 Dn.nx) hv (fun v H1 z => ?_) ⟨α, θ, Γ, _, _, S, G, q, fun d θ1 α1 H1 v n1 S1 r1 q1 => gName_imp _ _ _ _ ⟨α1, θ1, Γ, d, _, S1, G.mono n1, r1, q1, lk.nx.on n1⟩, lk.ex.atG G⟩
    rcases z with z | ⟨p, xs, rfl, hp, z⟩
    · exact .inl z
    · exact .inr ⟨p, xs, hp, z⟩)
end
end AB
namespace AB
open PySem PySem.Spec PyProof.Rows L2
/-! ### a def of the text -/
abbrev EW (E : XK) : WX := fun c d _ H => E c d H
/-- what lies behind the state's first entries may be forgotten -/
def aBack (n : Nat) (k : AK) : AK := fun d θ => k d θ ∨ ∃ θ' ex, θ = θ' ++ ex ∧ n ≤ θ'.length ∧ D.lt θ'.length d ∧ (∀ e ∈ θ', Ent.lt θ'.length e) ∧ k d θ'
def aBackX (n : Nat) (k : AX) : Value → AB.G → Th → Prop := fun c _ θ => k c θ ∨ ∃ θ' ex, θ = θ' ++ ex ∧ n ≤ θ'.length ∧ (∀ e ∈ θ', Ent.lt θ'.length e) ∧ k c θ'
def startG (n : Nat) (ds : List D) : AB.G := ds.map some ++ List.replicate (n - ds.length) none
abbrev eBody (n : Nat) (k : AK) (kx : AX) : AE := ⟨fun _ θ => aBack n k .non θ, aBack n k, fun _ _ => False, fun _ _ => False, aBackX n kx⟩
theorem slots_start {K : PySem.W.Frag} {H : Hp} {α : Nat → Addr} {M : Nat} {N : List Str} {ds : List D} {vs : List V} (r : Reps K H α M ds vs) : Slots K H α M (L2.start N vs) (startG N.length ds) := by
  refine ⟨by unfold startG L2.start; simp [r.length], fun i d h => ?_⟩
  unfold startG at h
  have hi : i < ds.length := by
    by_cases hi : i < ds.length
    · exact hi
    · rw [List.getElem?_append_right (by simpa using Nat.le_of_not_lt hi)] at h
      have := List.mem_of_getElem? h
      have := List.eq_of_mem_replicate this
      cases this
  rw [List.getElem?_append_left (by simpa using hi), List.getElem?_map] at h
  have hd : ds[i]? = some d := by
    cases e : ds[i]? with
    | none => rw [e] at h; cases h
    | some z => rw [e] at h; cases h; rfl
  obtain ⟨v, h1, h2⟩ := r.get hd
  refine ⟨v, ?_, h2⟩
  have hv : i < vs.length := by rw [← r.length]; exact hi
  unfold L2.start
  rw [List.getElem?_append_left (by simpa using hv), List.getElem?_map, h1]
  rfl
theorem sta_back {K : PySem.W.Frag} {α : Nat → Addr} {H : Hp} {θ' ex : Th} (S : Sta K H α (θ' ++ ex)) (he : ∀ e ∈ θ', Ent.lt θ'.length e) : Sta K H α θ' := by
  have htk : (θ' ++ ex).take θ'.length = θ' := by simp
  have := S.take (m := θ'.length) (by rw [htk]; exact he)
  rw [htk] at this
  exact this
theorem LkV.back {K : PySem.W.Frag} {α : Nat → Addr} {n : Nat} {H : Hp} {k : AK} {Q : VK} (h : LkV K α n H k Q) : LkV K α n H (aBack n k) Q := by
  intro d θ2 α2 H2 v n2 S2 r2 q
  rcases q with q | ⟨θ', ex, rfl, hle, hd, he, q⟩
  · exact h d θ2 α2 H2 v n2 S2 r2 q
  · exact h d θ' α2 H2 v ⟨n2.ag, hle, n2.per⟩ (sta_back S2 he) (Rep.shrink _ _ r2 hd) q
theorem LkX.back {K : PySem.W.Frag} {α : Nat → Addr} {n : Nat} {H : Hp} {k : AX} {E : XK} (h : LkX K α n H k E) : LkW K α n H (aBackX n k) (EW E) := by
  intro c Γ θ2 α2 σ2 H2 n2 S2 G2 q
  rcases q with q | ⟨θ', ex, rfl, hle, he, q⟩
  · exact h c θ2 α2 H2 n2 S2 q
  · exact h c θ' α2 H2 ⟨n2.ag, hle, n2.per⟩ (sta_back S2 he) q
section
variable {P : Program} {w : World} {K : PySem.W.Frag} {mg : Str → Option Value} {base : Heap}
theorem okA {A : ASp} {t : ASR} {x qual : Str} {st : Stmt} {f : Addr} {fd : FuncData} {N ps : List Str} {lv : Nat} (F : Fun K x qual st f fd) (S : FnScope N ps (defScope st)) (len : ∀ ds θ k kx, A ds θ k kx → ds.length = ps.length)
    (hb : ∀ (cdv : Value) (A0 : Around) (outer : List Env) (s : Shared) (H : Hp) (E : XK), Room lv (A0.deeper (envOfC qual (defScope st) s.heap.objs.size f cdv)) →
      XSs (cxOf (L2.CX P w) P w K mg base N qual (defScope st) f cdv A0 outer s H E) (EW E) (defBody st) t)
    (hr : ∀ ds θ k kx, (∀ e ∈ θ, Ent.lt θ.length e) → A ds θ k kx → t (eBody θ.length k kx) (startG N.length ds) θ) : FnOk P w K mg base (L2.CX P w) (lv + 1) f fd ps (LF K A) := by
  refine F.okX S (fun vs H Q E h => ?_) (fun cdv A0 outer s H vs Q E hrm h => ?_)
  · obtain ⟨α, θ, ds, k, kx, Sa, r, q, _, _⟩ := h
    rw [← r.length]
    exact len ds θ k kx q
  · refine ⟨_, hb cdv A0 outer s H E hrm, ?_⟩
    obtain ⟨α, θ, ds, k, kx, Sa, r, q, lk, lx⟩ := h
    exact ⟨α, θ, startG N.length ds, eBody θ.length k kx, Sa, slots_start r, hr ds θ k kx Sa.lt q, ⟨fun Γ θ' α' σ' H' nx S' G' q' => lk.back .non θ' α' H' .non nx S' (by unfold Rep; rfl) q', lk.back, fun _ _ _ _ _ _ _ _ z => z.elim, fun _ _ _ _ _ _ _ _ z => z.elim, lx.back⟩⟩
/-- the promise of a law: a list of at most 63 ints in, True out -/
def aLaw : ASp := fun ds θ k _ => ∃ ns : List Int, ds = [.lsk (ns.map D.int)] ∧ ns.length ≤ 63 ∧ θ = [] ∧ ∀ θ', k (.bl true) θ'
theorem sqL_fk {K : PySem.W.Frag} {H : Hp} {a : Addr} {xs : List V} (h : SqL K H a xs) (ho : Only H) : FkL K H a xs := by
  rcases h with h | h
  · rcases h with h | h
    · rcases ho a with z | ⟨o, ys, z⟩
      · rw [z] at h; cases h
      · rw [z] at h; cases h
    · exact .inl h
  · exact .inr h
theorem law_sp {K : PySem.W.Frag} {H : Hp} {a : Addr} {ns : List Int} (hl : ns.length ≤ 63) (ho : Only H) (hS : SqL K H a (ns.map V.int)) : LF K aLaw [.ref a] H (fun v _ => v = .bl true) fun _ _ _ => False := by
  refine ⟨fun _ => 0, [], [.lsk (ns.map D.int)], fun d _ => d = .bl true, fun _ _ => False, ⟨fun n e h => (by cases h), fun n m h => absurd h (Nat.not_lt_zero _)⟩, Reps.cons ?_ Reps.nil, ⟨ns, rfl, hl, rfl, fun _ => rfl⟩, ?_, ?_⟩
  · unfold Rep
    exact ⟨a, _, rfl, sqL_fk hS ho, reps_ints ns⟩
  · intro d θ' α' H' v n S r e
    subst e
    unfold Rep at r
    exact r
  · intro c θ' α' H' n S z
    exact z
theorem walkA {l : PySem.W.OpenLaw} {q : Program} {loose : List Str} {XP : (Str → Option Value) → Heap → Prop} {YP : World → Heap → Prop} {d : DefRec} {K : Params → PySem.W.Frag} {k : Nat} {x : Str} (hn : l.most = some 63) (hdf : d.params.defaults = []) (hr : Room k callerA)
    (hY : ∀ (w : World) (h : Heap), YP w h → (K w.params).In h)
    (F : ∀ (w : World) (mg : Str → Option Value) (fa : Addr) (h : Heap), (K w.params).In h → h.Ns mainGlobals mg → mg d.name = some (.ref fa) →
      ∃ fd : FuncData, (∀ (s : Shared) (u : Value), BindsTo s fd ⟨[u], []⟩ [(x, u)]) ∧ ∀ base : Heap, (K w.params).In base → base.Ns mainGlobals mg → FnOk l.prog w (K w.params) mg base (L2.CX l.prog w) k fa fd [x] (LF (K w.params) aLaw)) :
    PySem.W.WalkO q loose XP YP l.row.toRowW d [] (fun f vs => PySem.call f vs) :=
  L2.walk_of (n := 63) (k := k) (x := x) (CX := fun w => L2.CX l.prog w) (sp := fun w => LF (K w.params) aLaw) hn (by decide) hdf hr hY F (fun _ _ a ns hl ho hS => law_sp hl ho hS) (fun w H s e s' z => by
    obtain ⟨_, _, _, _, _, _, _, _, _, _, _, _, z⟩ := z
    exact z.elim)
end
/-! ### raise X('..') -/
section
variable {X : Cx} {W : WX} {pos : Pos}
@[reducible] def aRaise (C : Addr) : ASR := fun E Γ θ => E.ex (.ref C) Γ θ
theorem xs_raise {e : Expr} {C : Addr} (hc : X.calm = true) (tk : Takes X W) (he : PMk X e (fun _ H Q => Q (.ref C) none H)) : XS X W (.Raise (some e) none pos) (aRaise C) := ps_imp (ps_raise hc tk he) (by
  rintro Dn σ H ⟨α, θ, Γ, E, S, G, q, lk⟩
  exact lk.ex _ Γ θ α σ H (Nx.refl _ _ _) S G q)
/-- a name of the module that holds a text, a class, a type -/
theorem xe_glob {x : Str} {d : D} {v : V} (hg : Gl X x) (h : ∃ u, X.mg x = some u ∧ RelV v u) (r : ∀ H α N, Rep X.K H α N d v) (hd : (x == ("__debug__" : Str)) = false := by decide) : XE' X W (.Name x pos) (aC d) := by
  obtain ⟨u, hm, rv⟩ := h
  refine pe_imp (pe_glob hg hm rv hd) ?_
  rintro σ H Q ⟨α, θ, Γ, k, kx, S, G, q, lk, lx⟩
  exact lk d θ α H v (Nx.refl _ _ _) S (r _ _ _) q
theorem xe_gstr {x z : Str} (hg : Gl X x) (h : ∃ t, X.mg x = some (.str z t)) (hd : (x == ("__debug__" : Str)) = false := by decide) : XE' X W (.Name x pos) (aC (.str z)) :=
  xe_glob (v := .str z) hg (by obtain ⟨t, h⟩ := h; exact ⟨_, h, t, rfl⟩) (fun _ _ _ => by unfold Rep; rfl) hd
theorem xe_gint {x : Str} {z : Int} (hg : Gl X x) (h : ∃ t, X.mg x = some (.int z t)) (hd : (x == ("__debug__" : Str)) = false := by decide) : XE' X W (.Name x pos) (aC (.int z)) :=
  xe_glob (v := .int z) hg (by obtain ⟨t, h⟩ := h; exact ⟨_, h, t, rfl⟩) (fun _ _ _ => by unfold Rep; rfl) hd
theorem xe_ty {x : Str} {T : String} (hg : Gl X x) (hm : X.mg x = none) (hv : bootBuiltins x = some (.type T)) (hn : x ≠ "__name__" := by decide) (hd : (x == ("__debug__" : Str)) = false := by decide) : XE' X W (.Name x pos) (aC (.raw (.ty T))) :=
  xe_c (v := .ty T) (pe_bltn hg hm hv rfl hn hd) fun _ _ _ _ => by unfold Rep; rfl
end
end AB
namespace AB
open PySem PySem.Spec PyProof.Rows L2
theorem bt_len : bootBuiltins "len" = some (.builtin "len") := by decide +kernel
theorem bt_str : bootBuiltins "str" = some (.type "str") := by decide +kernel
theorem bt_int : bootBuiltins "int" = some (.type "int") := by decide +kernel
theorem bt_tuple : bootBuiltins "tuple" = some (.type "tuple") := by decide +kernel
theorem bt_list : bootBuiltins "list" = some (.type "list") := by decide +kernel
theorem bt_dict : bootBuiltins "dict" = some (.type "dict") := by decide +kernel
theorem bt_set : bootBuiltins "set" = some (.type "set") := by decide +kernel
theorem bt_bool : bootBuiltins "bool" = some (.type "bool") := by decide +kernel
theorem bt_ord : bootBuiltins "ord" = some (.builtin "ord") := by decide +kernel
theorem bt_sum : bootBuiltins "sum" = some (.builtin "sum") := by decide +kernel
theorem bt_all : bootBuiltins "all" = some (.builtin "all") := by decide +kernel
theorem bt_any : bootBuiltins "any" = some (.builtin "any") := by decide +kernel
theorem bt_max : bootBuiltins "max" = some (.builtin "max") := by decide +kernel
theorem bt_min : bootBuiltins "min" = some (.builtin "min") := by decide +kernel
theorem bt_sorted : bootBuiltins "sorted" = some (.builtin "sorted") := by decide +kernel
theorem bt_isinstance : bootBuiltins "isinstance" = some (.builtin "isinstance") := by decide +kernel
section
variable {X : Cx} {W : WX} {a b o e : Expr} {es : List Expr} {ra ro : AR} {rs : AAR} {pos p apos cpos : Pos}
abbrev NoN (X : Cx) (x : Str) : Prop := X.mg x = none
theorem xf_len (hg : Gl X "len") (hm : NoN X "len") (ha : XA X W (e :: es) rs) (he : starEach (e :: es) X.env = (false, eval e X.env) :: starEach es X.env := by rfl) (hpl : (backTo pos (starEach es X.env)).any (·.1) = false := by rfl) :
    XE' X W (.Call (.Name "len" p) (e :: es) [] pos) (aCB fLen rs) := xe_cb call_len sim_len hg hm bt_len ha (by decide) (by decide) he hpl
theorem xf_str (hg : Gl X "str") (hm : NoN X "str") (ha : XA X W (e :: es) rs) (he : starEach (e :: es) X.env = (false, eval e X.env) :: starEach es X.env := by rfl) (hpl : (backTo pos (starEach es X.env)).any (·.1) = false := by rfl) :
    XE' X W (.Call (.Name "str" p) (e :: es) [] pos) (aCB fStr rs) := xe_cbT call_str_int sim_str hg hm bt_str ha (by decide) (by decide) he hpl
theorem xf_int (hg : Gl X "int") (hm : NoN X "int") (ha : XA X W (e :: es) rs) (he : starEach (e :: es) X.env = (false, eval e X.env) :: starEach es X.env := by rfl) (hpl : (backTo pos (starEach es X.env)).any (·.1) = false := by rfl) :
    XE' X W (.Call (.Name "int" p) (e :: es) [] pos) (aCB fInt rs) := xe_cbT (call_int1.or call_int_str) sim_int hg hm bt_int ha (by decide) (by decide) he hpl
theorem xf_ord (hg : Gl X "ord") (hm : NoN X "ord") (ha : XA X W (e :: es) rs) (he : starEach (e :: es) X.env = (false, eval e X.env) :: starEach es X.env := by rfl) (hpl : (backTo pos (starEach es X.env)).any (·.1) = false := by rfl) :
    XE' X W (.Call (.Name "ord" p) (e :: es) [] pos) (aCB fOrd rs) := xe_cb call_ord sim_ord hg hm bt_ord ha (by decide) (by decide) he hpl
theorem xf_sum (hcm : X.calm = true) (hg : Gl X "sum") (hm : NoN X "sum") (ha : XA X W (e :: es) rs) (he : starEach (e :: es) X.env = (false, eval e X.env) :: starEach es X.env := by rfl) (hpl : (backTo pos (starEach es X.env)).any (·.1) = false := by rfl) :
    XE' X W (.Call (.Name "sum" p) (e :: es) [] pos) (aCB fSum rs) := xe_cb (cr_sum hcm) sim_sum hg hm bt_sum ha (by decide) (by decide) he hpl
theorem xf_all (hcm : X.calm = true) (hg : Gl X "all") (hm : NoN X "all") (ha : XA X W (e :: es) rs) (he : starEach (e :: es) X.env = (false, eval e X.env) :: starEach es X.env := by rfl) (hpl : (backTo pos (starEach es X.env)).any (·.1) = false := by rfl) :
    XE' X W (.Call (.Name "all" p) (e :: es) [] pos) (aCB fAll rs) := xe_cb (cr_all hcm) sim_all hg hm bt_all ha (by decide) (by decide) he hpl
theorem xf_any (hcm : X.calm = true) (hg : Gl X "any") (hm : NoN X "any") (ha : XA X W (e :: es) rs) (he : starEach (e :: es) X.env = (false, eval e X.env) :: starEach es X.env := by rfl) (hpl : (backTo pos (starEach es X.env)).any (·.1) = false := by rfl) :
    XE' X W (.Call (.Name "any" p) (e :: es) [] pos) (aCB fAny rs) := xe_cb (cr_any hcm) sim_any hg hm bt_any ha (by decide) (by decide) he hpl
theorem xf_tuple (hg : Gl X "tuple") (hm : NoN X "tuple") (ha : XA X W (e :: es) rs) (he : starEach (e :: es) X.env = (false, eval e X.env) :: starEach es X.env := by rfl) (hpl : (backTo pos (starEach es X.env)).any (·.1) = false := by rfl) :
    XE' X W (.Call (.Name "tuple" p) (e :: es) [] pos) (aCB fTuple rs) := xe_cbT call_tuple_of sim_tuple hg hm bt_tuple ha (by decide) (by decide) he hpl
theorem xf_max (hcm : X.calm = true) (hg : Gl X "max") (hm : NoN X "max") (ha : XA X W (e :: es) rs) (he : starEach (e :: es) X.env = (false, eval e X.env) :: starEach es X.env := by rfl) (hpl : (backTo pos (starEach es X.env)).any (·.1) = false := by rfl) :
    XE' X W (.Call (.Name "max" p) (e :: es) [] pos) (aCB fMax rs) := xe_cb (call_max2 hcm) sim_max hg hm bt_max ha (by decide) (by decide) he hpl
theorem xf_min (hcm : X.calm = true) (hg : Gl X "min") (hm : NoN X "min") (ha : XA X W (e :: es) rs) (he : starEach (e :: es) X.env = (false, eval e X.env) :: starEach es X.env := by rfl) (hpl : (backTo pos (starEach es X.env)).any (·.1) = false := by rfl) :
    XE' X W (.Call (.Name "min" p) (e :: es) [] pos) (aCB fMin rs) := xe_cb (call_min2 hcm) sim_min hg hm bt_min ha (by decide) (by decide) he hpl
theorem xf_sorted (hg : Gl X "sorted") (hm : NoN X "sorted") (ha : XA X W (e :: es) rs) (he : starEach (e :: es) X.env = (false, eval e X.env) :: starEach es X.env := by rfl) (hpl : (backTo pos (starEach es X.env)).any (·.1) = false := by rfl) :
    XE' X W (.Call (.Name "sorted" p) (e :: es) [] pos) (aCB fSort rs) := xe_cbF (cr_sortedI.or cr_sortedS) sim_sort hg hm bt_sorted ha (by decide) (by decide) he hpl
theorem xf_isinstance (hg : Gl X "isinstance") (hm : NoN X "isinstance") (ha : XA X W (e :: es) rs) (he : starEach (e :: es) X.env = (false, eval e X.env) :: starEach es X.env := by rfl) (hpl : (backTo pos (starEach es X.env)).any (·.1) = false := by rfl) :
    XE' X W (.Call (.Name "isinstance" p) (e :: es) [] pos) (aCB fIsi rs) := xe_cb (call_isi.or call_isiT) sim_isi hg hm bt_isinstance ha (by decide) (by decide) he hpl
theorem xm_join (ho : XE' X W o ro) (ha : XA X W (e :: es) rs)
    (hbase : attributeBase o "join" X.env (eval o X.env) = eval o X.env := by rfl)
    (hfew : ((backTo cpos (starEach (e :: es) X.env)).all (fun x => !x.1) && (backToKw cpos (keywordEach [] X.env)).all (fun x => x.1.isSome)
      && decide ((e :: es).length + ([] : List Keyword).length + (if ([] : List Keyword).isEmpty then 0 else 1) < 30)) = true := by rfl)
    (hline : (apos.endLine == cpos.line) = true := by rfl) (hs : starEach (e :: es) X.env = (false, eval e X.env) :: starEach es X.env := by rfl) (hplain : (backTo cpos (starEach es X.env)).any (·.1) = false := by rfl) :
    XE' X W (.Call (.Attribute o "join" apos) (e :: es) [] cpos) (aBM "str" fJoin ro rs) := xe_bm PySem.F.plainAttrs_str PySem.F.slot_str_join PySem.F.type_str_join mt_join sim_join ho ha hbase hfew hline hs hplain
theorem xm_zfill (ho : XE' X W o ro) (ha : XA X W (e :: es) rs)
    (hbase : attributeBase o "zfill" X.env (eval o X.env) = eval o X.env := by rfl)
    (hfew : ((backTo cpos (starEach (e :: es) X.env)).all (fun x => !x.1) && (backToKw cpos (keywordEach [] X.env)).all (fun x => x.1.isSome)
      && decide ((e :: es).length + ([] : List Keyword).length + (if ([] : List Keyword).isEmpty then 0 else 1) < 30)) = true := by rfl)
    (hline : (apos.endLine == cpos.line) = true := by rfl) (hs : starEach (e :: es) X.env = (false, eval e X.env) :: starEach es X.env := by rfl) (hplain : (backTo cpos (starEach es X.env)).any (·.1) = false := by rfl) :
    XE' X W (.Call (.Attribute o "zfill" apos) (e :: es) [] cpos) (aBM "str" fZfill ro rs) := xe_bm PySem.F.plainAttrs_str PySem.F.slot_str_zfill PySem.F.type_str_zfill mt_zfill sim_zfill ho ha hbase hfew hline hs hplain
theorem xm_startswith (ho : XE' X W o ro) (ha : XA X W (e :: es) rs)
    (hbase : attributeBase o "startswith" X.env (eval o X.env) = eval o X.env := by rfl)
    (hfew : ((backTo cpos (starEach (e :: es) X.env)).all (fun x => !x.1) && (backToKw cpos (keywordEach [] X.env)).all (fun x => x.1.isSome)
      && decide ((e :: es).length + ([] : List Keyword).length + (if ([] : List Keyword).isEmpty then 0 else 1) < 30)) = true := by rfl)
    (hline : (apos.endLine == cpos.line) = true := by rfl) (hs : starEach (e :: es) X.env = (false, eval e X.env) :: starEach es X.env := by rfl) (hplain : (backTo cpos (starEach es X.env)).any (·.1) = false := by rfl) :
    XE' X W (.Call (.Attribute o "startswith" apos) (e :: es) [] cpos) (aBM "str" fStarts ro rs) := xe_bm PySem.F.plainAttrs_str PySem.F.slot_str_startswith PySem.F.type_str_startswith mt_startswith sim_starts ho ha hbase hfew hline hs hplain
theorem xm_count (ho : XE' X W o ro) (ha : XA X W (e :: es) rs)
    (hbase : attributeBase o "count" X.env (eval o X.env) = eval o X.env := by rfl)
    (hfew : ((backTo cpos (starEach (e :: es) X.env)).all (fun x => !x.1) && (backToKw cpos (keywordEach [] X.env)).all (fun x => x.1.isSome)
      && decide ((e :: es).length + ([] : List Keyword).length + (if ([] : List Keyword).isEmpty then 0 else 1) < 30)) = true := by rfl)
    (hline : (apos.endLine == cpos.line) = true := by rfl) (hs : starEach (e :: es) X.env = (false, eval e X.env) :: starEach es X.env := by rfl) (hplain : (backTo cpos (starEach es X.env)).any (·.1) = false := by rfl) :
    XE' X W (.Call (.Attribute o "count" apos) (e :: es) [] cpos) (aBM "str" fCount ro rs) := xe_bm PySem.F.plainAttrs_str PySem.F.slot_str_count PySem.F.type_str_count mt_count sim_count ho ha hbase hfew hline hs hplain
theorem xm_split (ho : XE' X W o ro) (ha : XA X W (e :: es) rs)
    (hbase : attributeBase o "split" X.env (eval o X.env) = eval o X.env := by rfl)
    (hfew : ((backTo cpos (starEach (e :: es) X.env)).all (fun x => !x.1) && (backToKw cpos (keywordEach [] X.env)).all (fun x => x.1.isSome)
      && decide ((e :: es).length + ([] : List Keyword).length + (if ([] : List Keyword).isEmpty then 0 else 1) < 30)) = true := by rfl)
    (hline : (apos.endLine == cpos.line) = true := by rfl) (hs : starEach (e :: es) X.env = (false, eval e X.env) :: starEach es X.env := by rfl) (hplain : (backTo cpos (starEach es X.env)).any (·.1) = false := by rfl) :
    XE' X W (.Call (.Attribute o "split" apos) (e :: es) [] cpos) (aBM "str" fSplit ro rs) := xe_bmF PySem.F.plainAttrs_str PySem.F.slot_str_split PySem.F.type_str_split mt_split sim_split ho ha hbase hfew hline hs hplain
theorem xm_append (ho : XE' X W o ro) (ha : XA X W (e :: es) rs)
    (hbase : attributeBase o "append" X.env (eval o X.env) = eval o X.env := by rfl)
    (hfew : ((backTo cpos (starEach (e :: es) X.env)).all (fun x => !x.1) && (backToKw cpos (keywordEach [] X.env)).all (fun x => x.1.isSome)
      && decide ((e :: es).length + ([] : List Keyword).length + (if ([] : List Keyword).isEmpty then 0 else 1) < 30)) = true := by rfl)
    (hline : (apos.endLine == cpos.line) = true := by rfl) (hs : starEach (e :: es) X.env = (false, eval e X.env) :: starEach es X.env := by rfl) (hplain : (backTo cpos (starEach es X.env)).any (·.1) = false := by rfl) :
    XE' X W (.Call (.Attribute o "append" apos) (e :: es) [] cpos) (aBM "list" fAppend ro rs) := xe_bm PySem.F.plainAttrs_list PySem.F.slot_list_append PySem.F.type_list_append mt_append sim_append ho ha hbase hfew hline hs hplain
theorem xm_find3 (ho : XE' X W o ro) (ha : XA X W (e :: es) rs)
    (hbase : attributeBase o "find" X.env (eval o X.env) = eval o X.env := by rfl)
    (hfew : ((backTo cpos (starEach (e :: es) X.env)).all (fun x => !x.1) && (backToKw cpos (keywordEach [] X.env)).all (fun x => x.1.isSome)
      && decide ((e :: es).length + ([] : List Keyword).length + (if ([] : List Keyword).isEmpty then 0 else 1) < 30)) = true := by rfl)
    (hline : (apos.endLine == cpos.line) = true := by rfl) (hs : starEach (e :: es) X.env = (false, eval e X.env) :: starEach es X.env := by rfl) (hplain : (backTo cpos (starEach es X.env)).any (·.1) = false := by rfl) :
    XE' X W (.Call (.Attribute o "find" apos) (e :: es) [] cpos) (aBM "str" fFind3 ro rs) := xe_bm PySem.F.plainAttrs_str PySem.F.slot_str_find PySem.F.type_str_find mt_find3 sim_find3 ho ha hbase hfew hline hs hplain
end
end AB
namespace AB
open PySem PySem.Spec PyProof.Rows L2
/-! ### readings walked: one lemma a construct -/
section
variable {Γ Γ1 : AB.G} {θ : Th} {k : AK} {kt : Bool → Th → Prop} {ks : List D → Th → Prop} {kx : AX} {ra rb rc : AR} {rs : AAR} {d : D} {i j : Nat} {t u : ATR} {f g : F2} {p : Prop} [Decidable p] {b : Bool} {A B : Prop}
theorem w_var (h : Γ[i]? = some (some d)) (q : k d θ) : aVar i Γ θ k kx := ⟨d, h, q⟩
theorem w_c (q : k d θ) : aC d Γ θ k kx := q
theorem w_bin (q : ra Γ θ (fun x θ1 => rb Γ θ1 (fun y θ2 => f x y θ2 k) kx) kx) : aBin f ra rb Γ θ k kx := q
theorem w_un {f : D → Th → AK → Prop} (q : ra Γ θ (fun x θ1 => f x θ1 k) kx) : aUn f ra Γ θ k kx := q
theorem w_tst (q : ra Γ θ (fun x θ1 => ∃ b, x = .bl b ∧ kt b θ1) kx) : aTst ra Γ θ kt kx := q
theorem w_tru (q : ra Γ θ (fun x θ1 => ∃ b, truAns θ1 x b ∧ kt b θ1) kx) : aTru ra Γ θ kt kx := q
theorem w_tst1 (q : kt b θ) : ∃ c, D.bl b = .bl c ∧ kt c θ := ⟨b, rfl, q⟩
theorem w_truB (q : kt b θ) : ∃ c, truAns θ (.bl b) c ∧ kt c θ := ⟨b, rfl, q⟩
theorem w_truL {xs : List D} (q : kt (!xs.isEmpty) θ) : ∃ c, truAns θ (.lst xs) c ∧ kt c θ := ⟨_, rfl, q⟩
theorem w_truO {n : Nat} {xs : List D} (h : θ[n]? = some (.lst xs)) (q : kt (!xs.isEmpty) θ) : ∃ c, truAns θ (.obj n) c ∧ kt c θ := ⟨_, .inl ⟨_, h, rfl⟩, q⟩
theorem w_truT {xs : List D} (q : kt (!xs.isEmpty) θ) : ∃ c, truAns θ (.tup xs) c ∧ kt c θ := ⟨_, rfl, q⟩
theorem w_truI {z : Int} (q : kt (z != 0) θ) : ∃ c, truAns θ (.int z) c ∧ kt c θ := ⟨_, rfl, q⟩
theorem w_truN (q : kt false θ) : ∃ c, truAns θ .non c ∧ kt c θ := ⟨_, rfl, q⟩
theorem w_nil (q : ks [] θ) : aNil Γ θ ks kx := q
theorem w_cons (q : ra Γ θ (fun x θ1 => rs Γ θ1 (fun xs θ2 => ks (x :: xs) θ2) kx) kx) : aCons ra rs Γ θ ks kx := q
theorem w_tup (q : rs Γ θ (fun xs θ1 => xs.length ≤ 100000 ∧ k (.tup xs) θ1) kx) : aTup rs Γ θ k kx := q
theorem w_lst (q : rs Γ θ (fun xs θ1 => xs.length ≤ 100000 ∧ k (.lst xs) θ1) kx) : aLst rs Γ θ k kx := q
theorem w_lstM (q : rs Γ θ (fun xs θ1 => xs.length ≤ 100000 ∧ k (.obj θ1.length) (θ1 ++ [.lst xs])) kx) : aLstM rs Γ θ k kx := q
theorem w_dicK (q : k (.obj θ.length) (θ ++ [.dK []])) : aDicK Γ θ k kx := q
theorem w_dicT (q : k (.obj θ.length) (θ ++ [.dT []])) : aDicT Γ θ k kx := q
theorem w_and (q : t Γ θ (fun c θ1 => ifB c (u Γ θ1 kt kx) (kt false θ1)) kx) : aAnd t u Γ θ kt kx := q
theorem w_or (q : t Γ θ (fun c θ1 => ifB c (kt true θ1) (u Γ θ1 kt kx)) kx) : aOr t u Γ θ kt kx := q
theorem w_not (q : t Γ θ (fun c θ1 => kt (!c) θ1) kx) : aNot t Γ θ kt kx := q
theorem w_yes (q : kt true θ) : aYes Γ θ kt kx := q
theorem w_andV (q : ra Γ θ (fun x θ1 => ∃ c, x = .bl c ∧ ifB c (rb Γ θ1 k kx) (k (.bl false) θ1)) kx) : aAndV ra rb Γ θ k kx := q
theorem w_orV (q : ra Γ θ (fun x θ1 => ∃ c, x = .bl c ∧ ifB c (k (.bl true) θ1) (rb Γ θ1 k kx)) kx) : aOrV ra rb Γ θ k kx := q
theorem w_notV (q : ra Γ θ (fun x θ1 => ∃ c, x = .bl c ∧ k (.bl (!c)) θ1) kx) : aNotV ra Γ θ k kx := q
theorem w_ifE (q : t Γ θ (fun c θ1 => ifB c (ra Γ θ1 k kx) (rb Γ θ1 k kx)) kx) : aIfE t ra rb Γ θ k kx := q
theorem w_chain (q : ra Γ θ (fun x θ1 => rb Γ θ1 (fun y θ2 => f x y θ2 fun z θ3 => ∃ c, z = .bl c ∧ ifB c (rc Γ θ3 (fun w θ4 => g y w θ4 k) kx) (k (.bl false) θ3)) kx) kx) : aChain f g ra rb rc Γ θ k kx := q
theorem w_bl (q : ifB b A B) : ∃ c, D.bl b = .bl c ∧ ifB c A B := ⟨b, rfl, q⟩
theorem w_blN (q : k (.bl (!b)) θ) : ∃ c, D.bl b = .bl c ∧ k (.bl (!c)) θ := ⟨b, rfl, q⟩
theorem w_cb {f : FA} (q : rs Γ θ (fun xs θ1 => f xs θ1 k) kx) : aCB f rs Γ θ k kx := q
theorem w_bm {T : String} {f : FM} (q : ra Γ θ (fun x θ1 => tyOk T x θ1 ∧ rs Γ θ1 (fun xs θ2 => f x xs θ2 k) kx) kx) : aBM T f ra rs Γ θ k kx := q
theorem w_call {A : ASp} (q : rs Γ θ (fun ds θ1 => A ds θ1 k kx) kx) : aCall A rs Γ θ k kx := q
theorem w_get2 (q : ra Γ θ (fun x θ1 => isDic θ1 x ∧ rb Γ θ1 (fun y θ2 => rc Γ θ2 (fun z θ3 => ∃ r, dGet θ3 x y = some r ∧ k (r.getD z) θ3) kx) kx) kx) : aGet2 ra rb rc Γ θ k kx := q
theorem w_ite (h1 : b = true → A) (h2 : b = false → B) : ifB b A B := ⟨h1, h2⟩
theorem w_if (h1 : p → A) (h2 : ¬ p → B) : ifB (decide p) A B := ⟨fun h => h1 (of_decide_eq_true h), fun h => h2 (of_decide_eq_false h)⟩
theorem w_ifN (h : ifB b B A) : ifB (!b) A B := by
  cases b
  · exact ⟨fun _ => h.2 rfl, fun z => nomatch z⟩
  · exact ⟨fun z => (nomatch z), fun _ => h.1 rfl⟩
theorem w_ifT (h : A) : ifB true A B := ⟨fun _ => h, fun z => nomatch z⟩
theorem w_ifF (h : B) : ifB false A B := ⟨fun z => (nomatch z), fun _ => h⟩
theorem w_ifP (hp : p) (h : A) : ifB (decide p) A B := w_if (fun _ => h) fun z => absurd hp z
theorem w_ifQ (hp : ¬ p) (h : B) : ifB (decide p) A B := w_if (fun z => absurd z hp) fun _ => h
end
/-! values -/
section
variable {θ : Th} {k : AK} {i j : Int} {z y : Str} {xs ys : List D} {a b : Bool} {x d : D}
theorem v_addI (q : k (.int (i + j)) θ) : fAdd (.int i) (.int j) θ k := q
theorem v_addS (h : z.length + y.length ≤ 100000) (q : k (.str (z ++ y)) θ) : fAdd (.str z) (.str y) θ k := ⟨h, q⟩
theorem v_addT (h0 : xs ≠ []) (h : xs.length + ys.length ≤ 100000) (q : k (.tup (xs ++ ys)) θ) : fAdd (.tup xs) (.tup ys) θ k := ⟨h, q⟩
theorem v_addT2 (h : xs.length + ys.length ≤ 100000) (q : k (.tup (xs ++ ys)) θ) : fAdd (.tup xs) (.tup ys) θ k := ⟨h, q⟩
theorem v_addL (h : xs.length + ys.length ≤ 100000) (q : k (.lst (xs ++ ys)) θ) : fAdd (.lst xs) (.lst ys) θ k := ⟨xs, ys, rfl, rfl, h, q⟩
theorem v_addOL {n : Nat} (e : θ[n]? = some (.lst xs)) (h : xs.length + ys.length ≤ 100000) (q : k (.lst (xs ++ ys)) θ) : fAdd (.obj n) (.lst ys) θ k := ⟨xs, ys, by show (match θ[n]? with | some (.lst ds) => some ds | _ => none) = _; rw [e], rfl, h, q⟩
theorem v_sub (q : k (.int (i - j)) θ) : fSub (.int i) (.int j) θ k := q
theorem v_mod (h : 0 < j) (q : k (.int (i % j)) θ) : fMod (.int i) (.int j) θ k := ⟨h, q⟩
theorem v_mul (h : (-(2 ^ 64) < i ∧ i < 2 ^ 64) ∨ (-(2 ^ 64) < j ∧ j < 2 ^ 64)) (q : k (.int (i * j)) θ) : fMul (.int i) (.int j) θ k := ⟨h, q⟩
theorem v_mulS (h0 : 0 ≤ i) (h1 : z.length * i.toNat ≤ 100000) (h2 : i ≤ 100000) (q : k (.str (strRep z i.toNat)) θ) : fMul (.str z) (.int i) θ k := ⟨h0, h1, h2, q⟩
theorem v_lt (q : k (.bl (decide (i < j))) θ) : fLt (.int i) (.int j) θ k := q
theorem v_gt (q : k (.bl (decide (j < i))) θ) : fGt (.int i) (.int j) θ k := q
theorem v_le (q : k (.bl (decide (i ≤ j))) θ) : fLe (.int i) (.int j) θ k := q
theorem v_ge (q : k (.bl (decide (j ≤ i))) θ) : fGe (.int i) (.int j) θ k := q
theorem v_ltS (q : k (.bl (decide (z.cps.toList < y.cps.toList))) θ) : fLt (.str z) (.str y) θ k := q
theorem v_gtS (q : k (.bl (decide (y.cps.toList < z.cps.toList))) θ) : fGt (.str z) (.str y) θ k := q
theorem v_is (h : isD x d = some a) (q : k (.bl a) θ) : fIs x d θ k := ⟨a, h, q⟩
theorem v_isN (h : isD x d = some a) (q : k (.bl (!a)) θ) : fIsN x d θ k := ⟨a, h, q⟩
theorem v_eqI (q : k (.bl (decide (i = j))) θ) : fEq (.int i) (.int j) θ k := ⟨_, .inl rfl, q⟩
theorem v_eqS (q : k (.bl (decide (z = y))) θ) : fEq (.str z) (.str y) θ k := ⟨_, .inl rfl, q⟩
theorem v_eqB (q : k (.bl (decide (a = b))) θ) : fEq (.bl a) (.bl b) θ k := ⟨_, .inl rfl, q⟩
theorem v_eqSI (q : k (.bl false) θ) : fEq (.str z) (.int i) θ k := ⟨_, .inl rfl, q⟩
theorem v_eqIS (q : k (.bl false) θ) : fEq (.int i) (.str z) θ k := ⟨_, .inl rfl, q⟩
theorem v_neI (q : k (.bl (!decide (i = j))) θ) : fNe (.int i) (.int j) θ k := ⟨_, .inl rfl, q⟩
theorem v_neS (q : k (.bl (!decide (z = y))) θ) : fNe (.str z) (.str y) θ k := ⟨_, .inl rfl, q⟩
theorem v_inS {n : Nat} (q : k (.bl (decide (n ∈ y.cps.toList))) θ) : fIn (.str ⟨#[n]⟩) (.str y) θ k := ⟨_, .inl ⟨_, _, rfl, rfl, rfl⟩, q⟩
theorem v_ninS {n : Nat} (q : k (.bl (!decide (n ∈ y.cps.toList))) θ) : fNotIn (.str ⟨#[n]⟩) (.str y) θ k := ⟨_, .inl ⟨_, _, rfl, rfl, rfl⟩, q⟩
theorem v_ixT (h : atI xs i = some d) (q : k d θ) : fIx (.tup xs) (.int i) θ k := .inl ⟨xs, i, d, rfl, rfl, h, q⟩
theorem v_ixL (h : atI xs i = some d) (q : k d θ) : fIx (.lst xs) (.int i) θ k := .inl ⟨xs, i, d, rfl, rfl, h, q⟩
theorem v_ixK (h : atI xs i = some d) (q : k d θ) : fIx (.lsk xs) (.int i) θ k := .inl ⟨xs, i, d, rfl, rfl, h, q⟩
theorem asS_obj {n : Nat} (e : θ[n]? = some (.lst xs)) : asS θ (.obj n) = some xs := by show (match θ[n]? with | some (.lst ds) => some ds | _ => none) = _; rw [e]
theorem asL_obj {n : Nat} (e : θ[n]? = some (.lst xs)) : asL θ (.obj n) = some xs := asS_obj e
theorem v_ixO {n : Nat} (e : θ[n]? = some (.lst xs)) (h : atI xs i = some d) (q : k d θ) : fIx (.obj n) (.int i) θ k := .inl ⟨xs, i, d, asS_obj e, rfl, h, q⟩
theorem v_ixS {c : Nat} (h : z.length ≤ 100000) (hc : atI z.cps.toList i = some c) (q : k (.str ⟨#[c]⟩) θ) : fIx (.str z) (.int i) θ k := .inr (.inl ⟨z, i, c, rfl, rfl, h, hc, q⟩)
theorem v_neg (q : k (.int (-i)) θ) : fNeg (.int i) θ k := ⟨i, rfl, q⟩
theorem v_lenS (h : z.length ≤ 100000) (q : k (.int (z.length : Nat)) θ) : fLen [.str z] θ k := .inl ⟨z, rfl, h, q⟩
theorem v_lenT (q : k (.int (xs.length : Nat)) θ) : fLen [.tup xs] θ k := .inr ⟨_, xs, rfl, rfl, q⟩
theorem v_lenL (q : k (.int (xs.length : Nat)) θ) : fLen [.lst xs] θ k := .inr ⟨_, xs, rfl, rfl, q⟩
theorem v_lenK (q : k (.int (xs.length : Nat)) θ) : fLen [.lsk xs] θ k := .inr ⟨_, xs, rfl, rfl, q⟩
theorem v_lenO {n : Nat} (e : θ[n]? = some (.lst xs)) (q : k (.int (xs.length : Nat)) θ) : fLen [.obj n] θ k := .inr ⟨_, xs, rfl, asS_obj e, q⟩
theorem v_str (h : i.natAbs < 2 ^ 1000) (q : k (.str (toString i)) θ) : fStr [.int i] θ k := ⟨i, rfl, h, q⟩
theorem v_intI (q : k (.int i) θ) : fInt [.int i] θ k := .inl ⟨i, rfl, q⟩
theorem v_intB (q : k (.int (if a then 1 else 0)) θ) : fInt [.bl a] θ k := .inr (.inl ⟨a, rfl, q⟩)
theorem v_intS {n : Int} (h : PySem.intText? z = some n) (hl : z.length ≤ 640) (q : k (.int n) θ) : fInt [.str z] θ k := .inr (.inr ⟨z, n, rfl, h, hl, q⟩)
theorem v_ord (h : z.length = 1) (q : k (.int (z.cps.getD 0 0 : Nat)) θ) : fOrd [.str z] θ k := ⟨z, rfl, h, q⟩
theorem v_sum {ns : List Int} (h : asL θ x = some (ns.map D.int)) (q : k (.int ns.sum) θ) : fSum [x] θ k := ⟨x, ns, rfl, h, q⟩
theorem v_all {bs : List Bool} (h : asL θ x = some (bs.map D.bl)) (q : k (.bl (bs.all id)) θ) : fAll [x] θ k := ⟨x, bs, rfl, h, q⟩
theorem v_any {bs : List Bool} (h : asL θ x = some (bs.map D.bl)) (q : k (.bl (bs.any id)) θ) : fAny [x] θ k := ⟨x, bs, rfl, h, q⟩
theorem v_allL {α : Type} {xs : List α} {g : α → Bool} (q : k (.bl (xs.all g)) θ) : fAll [.lst (xs.map fun a => .bl (g a))] θ k := ⟨_, xs.map g, rfl, by show some _ = some _; rw [List.map_map]; rfl, by rw [List.all_map]; exact q⟩
theorem v_anyL {α : Type} {xs : List α} {g : α → Bool} (q : k (.bl (xs.any g)) θ) : fAny [.lst (xs.map fun a => .bl (g a))] θ k := ⟨_, xs.map g, rfl, by show some _ = some _; rw [List.map_map]; rfl, by rw [List.any_map]; exact q⟩
theorem v_sumL {α : Type} {xs : List α} {g : α → Int} (q : k (.int (xs.map g).sum) θ) : fSum [.lst (xs.map fun a => .int (g a))] θ k := ⟨_, xs.map g, rfl, by show some _ = some _; rw [List.map_map]; rfl, q⟩
theorem v_tupL (q : k (.tup xs) θ) : fTuple [.lst xs] θ k := .inl ⟨_, xs, rfl, rfl, q⟩
theorem v_tupO {n : Nat} (e : θ[n]? = some (.lst xs)) (q : k (.tup xs) θ) : fTuple [.obj n] θ k := .inl ⟨_, xs, rfl, asL_obj e, q⟩
theorem v_tupT (q : k (.tup xs) θ) : fTuple [.tup xs] θ k := .inr ⟨xs, rfl, q⟩
theorem v_max (q : k (.int (if j > i then j else i)) θ) : fMax [.int i, .int j] θ k := ⟨i, j, rfl, q⟩
theorem v_min (q : k (.int (if j < i then j else i)) θ) : fMin [.int i, .int j] θ k := ⟨i, j, rfl, q⟩
theorem v_isi {c e : String} (h : tyNm θ x = some e) (h2 : kitB e c = some a) (q : k (.bl a) θ) : fIsi [x, .raw (.ty c)] θ k := .inl ⟨x, c, e, a, rfl, h, h2, q⟩
theorem v_isi2 {c c' e : String} (h : tyNm θ x = some e) (h2 : kitB e c = some a) (h3 : kitB e c' = some b) {ab : Bool} (h4 : (a || b) = ab) (q : k (.bl ab) θ) : fIsi [x, .tup [.raw (.ty c), .raw (.ty c')]] θ k := .inr ⟨x, c, c', e, a, b, rfl, h, h2, h3, by rw [h4]; exact q⟩
theorem v_append {n : Nat} {θ2 : Th} (h : θ[n]? = some (.lst xs)) (hl : xs.length < 100000) (h2 : θ.set n (.lst (xs ++ [d])) = θ2) (q : k .non θ2) : fAppend (.obj n) [d] θ k := ⟨n, xs, d, rfl, rfl, h, hl, by rw [h2]; exact q⟩
theorem v_tyS : tyOk "str" (.str z) θ := .inl ⟨rfl, z, rfl⟩
theorem v_tyL : tyOk "list" (.lst xs) θ := .inr ⟨rfl, xs, rfl⟩
theorem v_tyO {n : Nat} (e : θ[n]? = some (.lst xs)) : tyOk "list" (.obj n) θ := .inr ⟨rfl, xs, asL_obj e⟩
end
end AB
namespace AB
open PySem PySem.Spec PyProof.Rows L2
section
variable {Γ Γ1 : AB.G} {θ : Th} {k : AK} {kx : AX} {ra rb rc : AR} {rs : AAR} {d : D} {i j n : Nat} {tc : ATR} {s t tb : ASR} {g : ATG} {gs : ATGs} {nx bk ct : AB.G → Th → Prop} {rt : AK} {ex : Value → AB.G → Th → Prop} {kk : AB.G → Th → Prop} {ai : AIR} {ki : List D → (Th → Prop) → Th → Prop} {ds xs ys : List D}
theorem w_start {m : Nat} {t : ASR} {E : AE} (h : startG m ds = Γ1) (q : t E Γ1 θ) : t E (startG m ds) θ := by subst h; exact q
theorem w_seq (q : s ⟨fun Γ' θ' => t ⟨nx, rt, bk, ct, ex⟩ Γ' θ', rt, bk, ct, ex⟩ Γ θ) : aSeq s t ⟨nx, rt, bk, ct, ex⟩ Γ θ := q
theorem w_next (q : nx Γ θ) : aNext ⟨nx, rt, bk, ct, ex⟩ Γ θ := q
theorem w_break (q : bk Γ θ) : aBreak ⟨nx, rt, bk, ct, ex⟩ Γ θ := q
theorem w_cont (q : ct Γ θ) : aCont ⟨nx, rt, bk, ct, ex⟩ Γ θ := q
theorem w_asg (q : ra Γ θ (fun d θ1 => g d Γ θ1 nx) (fun c θ1 => ex c Γ θ1)) : aAsg ra g ⟨nx, rt, bk, ct, ex⟩ Γ θ := q
theorem w_gN (h : Γ.set i (some d) = Γ1) (q : kk Γ1 θ) : gN i d Γ θ kk := by subst h; exact q
theorem w_ret (q : ra Γ θ rt (fun c θ1 => ex c Γ θ1)) : aRet ra ⟨nx, rt, bk, ct, ex⟩ Γ θ := q
theorem w_drop (q : ra Γ θ (fun _ θ1 => nx Γ θ1) (fun c θ1 => ex c Γ θ1)) : aDrop ra ⟨nx, rt, bk, ct, ex⟩ Γ θ := q
theorem w_ifS (q : tc Γ θ (fun b θ1 => ifB b (s ⟨nx, rt, bk, ct, ex⟩ Γ θ1) (t ⟨nx, rt, bk, ct, ex⟩ Γ θ1)) (fun c θ1 => ex c Γ θ1)) : aIfS tc s t ⟨nx, rt, bk, ct, ex⟩ Γ θ := q
theorem w_raise {C : Addr} (q : ex (.ref C) Γ θ) : aRaise C ⟨nx, rt, bk, ct, ex⟩ Γ θ := q
theorem w_for (q : ai Γ θ (fun ds still θ1 => aLoop still g tb ⟨nx, rt, bk, ct, ex⟩ ds Γ θ1) (fun c θ1 => ex c Γ θ1)) : aFor ai g tb ⟨nx, rt, bk, ct, ex⟩ Γ θ := q
theorem w_back (q : k d θ) : aBack n k d θ := .inl q
theorem w_gTup (h : asS θ d = some ds) (hl : ds.length = n) (q : gs ds Γ θ kk) : gTupA n gs d Γ θ kk := ⟨ds, h, hl, q⟩
theorem w_gCons (q : g d Γ θ fun Γ' θ' => gs ds Γ' θ' kk) : gsCons g gs (d :: ds) Γ θ kk := ⟨d, ds, rfl, q⟩
theorem w_gNil (q : kk Γ θ) : gsNil [] Γ θ kk := ⟨rfl, q⟩
theorem w_itT (q : ra Γ θ (fun x θ1 => ∃ ds, x = .tup ds ∧ ki ds (fun _ => True) θ1) kx) : aItT ra Γ θ ki kx := q
theorem w_itL (q : ra Γ θ (fun x θ1 => ∃ ds, asL θ1 x = some ds ∧ ki ds (fun θ' => asL θ' x = some ds) θ1) kx) : aItL ra Γ θ ki kx := q
theorem w_itS (q : ra Γ θ (fun x θ1 => ∃ z, x = .str z ∧ ki (signs z) (fun _ => True) θ1) kx) : aItS ra Γ θ ki kx := q
theorem w_it1 (q : aItT ra Γ θ ki kx) : aIt ra Γ θ ki kx := .inl q
theorem w_it2 (q : aItL ra Γ θ ki kx) : aIt ra Γ θ ki kx := .inr (.inl q)
theorem w_it3 (q : aItS ra Γ θ ki kx) : aIt ra Γ θ ki kx := .inr (.inr q)
theorem w_exT (q : ki xs (fun _ => True) θ) : ∃ ds, D.tup xs = .tup ds ∧ ki ds (fun _ => True) θ := ⟨_, rfl, q⟩
theorem w_exS {z : Str} (q : ki (signs z) (fun _ => True) θ) : ∃ y, D.str z = .str y ∧ ki (signs y) (fun _ => True) θ := ⟨_, rfl, q⟩
theorem w_exL (q : ki xs (fun _ => True) θ) (mono : ∀ {ds} {a b : Th → Prop} {θ}, (∀ θ, a θ → b θ) → ki ds a θ → ki ds b θ) : ∃ ds, asL θ (.lst xs) = some ds ∧ ki ds (fun θ' => asL θ' (.lst xs) = some ds) θ := ⟨xs, rfl, mono (fun _ _ => rfl) q⟩
theorem w_exL' (q : ki xs (fun θ' => asL θ' (.lst xs) = some xs) θ) : ∃ ds, asL θ (.lst xs) = some ds ∧ ki ds (fun θ' => asL θ' (.lst xs) = some ds) θ := ⟨xs, rfl, q⟩
theorem w_exK' (q : ki xs (fun θ' => asL θ' (.lsk xs) = some xs) θ) : ∃ ds, asL θ (.lsk xs) = some ds ∧ ki ds (fun θ' => asL θ' (.lsk xs) = some ds) θ := ⟨xs, rfl, q⟩
theorem w_exO {m : Nat} (e : θ[m]? = some (.lst xs)) (q : ki xs (fun θ' => asL θ' (.obj m) = some xs) θ) : ∃ ds, asL θ (.obj m) = some ds ∧ ki ds (fun θ' => asL θ' (.obj m) = some ds) θ := ⟨xs, asL_obj e, q⟩
theorem w_rng (q : rs Γ θ (fun xs θ1 => ∃ n, xs = [.int n] ∧ -100000 ≤ n ∧ n ≤ 100000 ∧ ki (nums 0 n.toNat) (fun _ => True) θ1) kx) : aRng rs Γ θ ki kx := q
theorem w_rng2 (q : rs Γ θ (fun xs θ1 => ∃ l n, xs = [.int l, .int n] ∧ (-100000 ≤ l ∧ l ≤ 100000 ∧ -100000 ≤ n ∧ n ≤ 100000) ∧ ki (nums l (n - l).toNat) (fun _ => True) θ1) kx) : aRng2 rs Γ θ ki kx := q
theorem w_exR {z : Int} (h1 : -100000 ≤ z) (h2 : z ≤ 100000) (q : ki (nums 0 z.toNat) (fun _ => True) θ) : ∃ n, [D.int z] = [.int n] ∧ -100000 ≤ n ∧ n ≤ 100000 ∧ ki (nums 0 n.toNat) (fun _ => True) θ := ⟨z, rfl, h1, h2, q⟩
theorem w_exR2 {l z : Int} (h1 : -100000 ≤ l) (h2 : l ≤ 100000) (h3 : -100000 ≤ z) (h4 : z ≤ 100000) (q : ki (nums l (z - l).toNat) (fun _ => True) θ) : ∃ l' n, [D.int l, D.int z] = [.int l', .int n] ∧ (-100000 ≤ l' ∧ l' ≤ 100000 ∧ -100000 ≤ n ∧ n ≤ 100000) ∧ ki (nums l' (n - l').toNat) (fun _ => True) θ := ⟨l, z, rfl, ⟨h1, h2, h3, h4⟩, q⟩
theorem w_rev (q : rs Γ θ (fun xs θ1 => ∃ x ds, xs = [x] ∧ asL θ1 x = some ds ∧ ki ds.reverse (fun θ' => asL θ' x = some ds) θ1) kx) : aRevI rs Γ θ ki kx := q
theorem w_zip (q : rs Γ θ (fun xs θ1 => ∃ x y, xs = [x, y] ∧ ((∃ ds es, x = .tup ds ∧ y = .tup es ∧ ki (zipD ds es) (fun _ => True) θ1) ∨
  ∃ ds es, asL θ1 x = some ds ∧ asL θ1 y = some es ∧ ki (zipD ds es) (fun θ' => asL θ' x = some ds ∧ asL θ' y = some es) θ1)) kx) : aZip rs Γ θ ki kx := q
/-- a loop, by what holds ahead of each turn -/
theorem loop_inv {still : Th → Prop} (I : Nat → AB.G → Th → Prop) (h0 : I 0 Γ θ) (hs : ∀ i Γ θ, I i Γ θ → still θ)
    (turn : ∀ i d Γ θ (kk : AB.G → Th → Prop), ds[i]? = some d → I i Γ θ → (∀ Γ' θ', I (i + 1) Γ' θ' → kk Γ' θ') → g d Γ θ (fun Γ1 θ1 => tb ⟨kk, rt, nx, kk, ex⟩ Γ1 θ1))
    (fin : ∀ Γ θ, I ds.length Γ θ → nx Γ θ) : aLoop still g tb ⟨nx, rt, bk, ct, ex⟩ ds Γ θ := by
  have go : ∀ (es : List D) (i : Nat) (Γ : AB.G) (θ : Th), ds.drop i = es → i + es.length = ds.length → I i Γ θ → aLoop still g tb ⟨nx, rt, bk, ct, ex⟩ es Γ θ := by
    intro es
    induction es with
    | nil => intro i Γ θ _ hl hi; exact ⟨hs i Γ θ hi, fin Γ θ (by simp at hl; rw [← hl]; exact hi)⟩
    | cons e es ih =>
      intro i Γ θ hd hl hi
      refine ⟨hs i Γ θ hi, ?_⟩
      have he : ds[i]? = some e := by
        have := congrArg List.head? hd
        rw [List.head?_drop] at this
        exact this
      have hd' : ds.drop (i + 1) = es := by
        have := congrArg List.tail hd
        rw [List.tail_drop] at this
        exact this
      exact turn i e Γ θ _ he hi fun Γ' θ' q => ih (i + 1) Γ' θ' hd' (by simp at hl; omega) q
  exact go ds 0 Γ θ rfl (by simp) h0
end
/-! comprehensions -/
section
variable {Γ Γw Γ1 : AB.G} {θ : Th} {k : AK} {kx : AX} {d : D} {i : Nat} {ai : AIR} {t : Tgt} {tt : ATR} {te : AR} {vs is : List Nat} {kl : List D → Prop} {acc xs : List D} {ko : Option D → Prop}
theorem w_lc (hw : wipeG Γ vs = Γw) (q : ai Γ θ (fun ds still θ1 => ds.length ≤ 100000 ∧ (∀ x, still (θ1 ++ [.lst x])) ∧ cLoop t tt te Γw θ1 ds [] fun acc => D.lts θ1.length acc ∧ k (.lst acc) θ1) kx) : aLc ai t tt te vs Γ θ k kx := by subst hw; exact q
theorem w_el (h : Γ.set i (some d) = Γ1) (q : tt Γ1 (θ ++ [.lst acc]) (fun b θ2 => θ2 = θ ++ [.lst acc] ∧ ifB b (te Γ1 (θ ++ [.lst acc]) (fun e θ3 => θ3 = θ ++ [.lst acc] ∧ ko (some e)) noX) (ko none)) noX) : cEl (.one i) tt te Γ θ acc d ko := by subst h; exact q
theorem w_elY (h : Γ.set i (some d) = Γ1) (q : te Γ1 (θ ++ [.lst acc]) (fun e θ3 => θ3 = θ ++ [.lst acc] ∧ ko (some e)) noX) : cEl (.one i) aYes te Γ θ acc d ko := by subst h; exact ⟨rfl, w_ifT q⟩
theorem w_elT (h : setLG Γ is xs = Γ1) (hl : xs.length = is.length) (q : tt Γ1 (θ ++ [.lst acc]) (fun b θ2 => θ2 = θ ++ [.lst acc] ∧ ifB b (te Γ1 (θ ++ [.lst acc]) (fun e θ3 => θ3 = θ ++ [.lst acc] ∧ ko (some e)) noX) (ko none)) noX) : cEl (.tup is) tt te Γ θ acc (.tup xs) ko := by subst h; exact ⟨xs, rfl, hl, q⟩
theorem w_elTY (h : setLG Γ is xs = Γ1) (hl : xs.length = is.length) (q : te Γ1 (θ ++ [.lst acc]) (fun e θ3 => θ3 = θ ++ [.lst acc] ∧ ko (some e)) noX) : cEl (.tup is) aYes te Γ θ acc (.tup xs) ko := by subst h; exact ⟨xs, rfl, hl, rfl, w_ifT q⟩
theorem cl_fm {β : Type} {xs : List β} {φ : β → D} (f : β → Option D) (hf : ∀ x, x ∈ xs → ∀ acc (ko : Option D → Prop), ko (f x) → cEl t tt te Γ θ acc (φ x) ko) (q : kl (xs.filterMap f)) : cLoop t tt te Γ θ (xs.map φ) [] kl := by
  have go : ∀ (ys : List β) (acc : List D), (∀ x ∈ ys, x ∈ xs) → kl (acc ++ ys.filterMap f) → cLoop t tt te Γ θ (ys.map φ) acc kl := by
    intro ys
    induction ys with
    | nil => intro acc _ h; rw [List.filterMap_nil, List.append_nil] at h; exact h
    | cons y ys ih =>
      intro acc hm h
      refine hf y (hm y List.mem_cons_self) acc _ (ih _ (fun x hx => hm x (List.mem_cons_of_mem _ hx)) ?_)
      rw [List.filterMap_cons] at h
      cases e : f y with
      | none => rw [e] at h; simpa using h
      | some z => rw [e] at h; simpa using h
  exact go xs [] (fun _ z => z) (by simpa using q)
theorem cl_map {β : Type} {xs : List β} {φ : β → D} (g : β → D) (hf : ∀ x, x ∈ xs → ∀ acc (ko : Option D → Prop), ko (some (g x)) → cEl t tt te Γ θ acc (φ x) ko) (q : kl (xs.map g)) : cLoop t tt te Γ θ (xs.map φ) [] kl :=
  cl_fm (fun x => some (g x)) hf (by rw [List.filterMap_eq_map']; exact q)
theorem cl_filter {β : Type} {xs : List β} {φ : β → D} (p : β → Bool) (g : β → D) (hf : ∀ x, x ∈ xs → ∀ acc (ko : Option D → Prop), ko (if p x then some (g x) else none) → cEl t tt te Γ θ acc (φ x) ko) (q : kl ((xs.filter p).map g)) : cLoop t tt te Γ θ (xs.map φ) [] kl :=
  cl_fm (fun x => if p x then some (g x) else none) hf (by
    have : ∀ xs : List β, xs.filterMap (fun x => if p x then some (g x) else none) = (xs.filter p).map g := by
      intro xs
      induction xs with
      | nil => rfl
      | cons x xs ih => by_cases e : p x <;> simp [List.filterMap_cons, e, ih]
    rw [this]; exact q)
theorem w_elEnd (q : ko (some d)) : θ = θ ∧ ko (some d) := ⟨rfl, q⟩
end
end AB
namespace AB
open PySem PySem.Spec PyProof.Rows L2 TL
/-! ### texts as lists of signs -/
abbrev S (l : List Nat) : Str := ⟨l.toArray⟩
theorem S_tl (x : Str) : S x.cps.toList = x := rfl
theorem S_len (l : List Nat) : (S l).length = l.length := by show l.toArray.size = _; simp
theorem S_inj {a b : List Nat} : S a = S b ↔ a = b := ⟨fun h => by have := congrArg (fun z : Str => z.cps.toList) h; exact this, fun h => by rw [h]⟩
theorem S_app (a b : List Nat) : S a ++ S b = S (a ++ b) := ext_tl (tl_append _ _)
def cutL {α : Type} (l : List α) (lo hi : Option Int) : List α := (l.drop (HT.sIx l.length 0 lo)).take (HT.sIx l.length l.length hi - HT.sIx l.length 0 lo)
theorem S_cut (l : List Nat) (lo hi : Option Int) : cutS (S l) lo hi = S (cutL l lo hi) := by
  unfold cutS cutL
  rw [S_len]
theorem S_rep (l : List Nat) (n : Nat) : strRep (S l) n = S (List.replicate n l).flatten := rfl
theorem joinL_nil : ∀ ps : List (List Nat), joinL [] ps = ps.flatten
  | [] => rfl
  | [p] => by simp [joinL]
  | p :: q :: r => by
    show p ++ ([] ++ joinL [] (q :: r)) = _
    rw [joinL_nil (q :: r)]
    simp
theorem join_S (y : List Nat) (ps : List Str) : Txt.join (S y) ps = S (joinL y (ps.map tl)) := by
  rw [join_eq]
  exact ext_tl (tl_join (S y) ps)
theorem cutL_take {α : Type} {l : List α} {i : Int} (h : 0 ≤ i) : cutL l none (some i) = l.take i.toNat := by
  obtain ⟨n, rfl⟩ := Int.eq_ofNat_of_zero_le h
  unfold cutL
  show (l.drop 0).take (HT.sIx l.length l.length (some (n : Int)) - 0) = _
  rw [HT.sIx_nat, List.drop_zero, Nat.sub_zero, Int.toNat_natCast, Nat.min_def]
  split
  · rfl
  · rw [List.take_of_length_le (Nat.le_refl _), List.take_of_length_le (by omega)]
theorem cutL_drop {α : Type} {l : List α} {i : Int} (h : 0 ≤ i) : cutL l (some i) none = l.drop i.toNat := by
  obtain ⟨n, rfl⟩ := Int.eq_ofNat_of_zero_le h
  unfold cutL
  show (l.drop (HT.sIx l.length 0 (some (n : Int)))).take (l.length - HT.sIx l.length 0 (some (n : Int))) = _
  rw [HT.sIx_nat, Int.toNat_natCast, List.take_of_length_le (by simp)]
  rw [Nat.min_def]
  split
  · rfl
  · rw [List.drop_of_length_le (Nat.le_refl _), List.drop_of_length_le (by omega)]
theorem cutL_last {α : Type} {l : List α} {i : Int} (h : i < 0) : cutL l (some i) none = l.drop (i + l.length).toNat := by
  unfold cutL
  have e : HT.sIx l.length 0 (some i) = (i + l.length).toNat := by show (if i < 0 then _ else _) = _; rw [if_pos h]
  show (l.drop (HT.sIx l.length 0 (some i))).take (l.length - HT.sIx l.length 0 (some i)) = _
  rw [e, List.take_of_length_le (by simp)]
theorem cutL_init {α : Type} {l : List α} {i : Int} (h : i < 0) : cutL l none (some i) = l.take (i + l.length).toNat := by
  unfold cutL
  have e : HT.sIx l.length l.length (some i) = (i + l.length).toNat := by show (if i < 0 then _ else _) = _; rw [if_pos h]
  show (l.drop 0).take (HT.sIx l.length l.length (some i) - 0) = _
  rw [e, List.drop_zero, Nat.sub_zero]
theorem cutL_mid {α : Type} {l : List α} {i j : Int} (h : 0 ≤ i) (hj : 0 ≤ j) : cutL l (some i) (some j) = (l.take j.toNat).drop i.toNat := by
  obtain ⟨n, rfl⟩ := Int.eq_ofNat_of_zero_le h
  obtain ⟨m, rfl⟩ := Int.eq_ofNat_of_zero_le hj
  unfold cutL
  rw [HT.sIx_nat, HT.sIx_nat, Int.toNat_natCast, Int.toNat_natCast, List.drop_take]
  by_cases h1 : n ≤ l.length
  · rw [Nat.min_eq_left h1]
    by_cases h2 : m ≤ l.length
    · rw [Nat.min_eq_left h2]
    · rw [Nat.min_eq_right (by omega), List.take_of_length_le (by simp), List.take_of_length_le (by simp; omega)]
  · rw [List.drop_of_length_le (by omega), List.drop_of_length_le (by omega)]; simp
theorem cutL_len {α : Type} {l : List α} {lo hi : Option Int} : (cutL l lo hi).length ≤ l.length := by unfold cutL; simp; omega
theorem cutL_map {α β : Type} {f : α → β} {l : List α} {lo hi : Option Int} : cutL (l.map f) lo hi = (cutL l lo hi).map f := by
  unfold cutL
  rw [List.length_map, ← List.map_drop, ← List.map_take]
theorem cutL_mem {α : Type} {l : List α} {lo hi : Option Int} {x : α} (h : x ∈ cutL l lo hi) : x ∈ l := List.mem_of_mem_drop (List.mem_of_mem_take h)
theorem cutD_eq (xs : List D) (lo hi : Option Int) : cutD xs lo hi = cutL xs lo hi := rfl
abbrev kO := Option Int → Th → Prop
section
variable {Γ : AB.G} {θ : Th} {k : AK} {kx : AX} {ko : kO} {ra : AR} {rl rh : AOR} {i j : Int} {lo hi : Option Int} {xs ys : List D} {a b : List Nat} {c n : Nat}
theorem w_sl (q : ra Γ θ (fun x θ1 => rl Γ θ1 (fun l θ2 => rh Γ θ2 (fun h θ3 => fSl x l h θ3 k) kx) kx) kx) : aSl ra rl rh Γ θ k kx := q
theorem w_oN (q : ko none θ) : oNone Γ θ ko kx := q
theorem w_oS (q : ra Γ θ (fun x θ1 => ∃ i, x = .int i ∧ ko (some i) θ1) kx) : oSome ra Γ θ ko kx := q
theorem w_oI (q : ko (some i) θ) : ∃ j, D.int i = .int j ∧ ko (some j) θ := ⟨i, rfl, q⟩
theorem v_slS (h : a.length ≤ 100000) (q : k (.str (S (cutL a lo hi))) θ) : fSl (.str (S a)) lo hi θ k := .inl ⟨_, rfl, by rw [S_len]; exact h, by rw [S_cut]; exact q⟩
theorem v_slL (q : k (.lst (cutL xs lo hi)) θ) : fSl (.lst xs) lo hi θ k := .inr (.inl ⟨xs, rfl, q⟩)
theorem v_slK (q : k (.lst (cutL xs lo hi)) θ) : fSl (.lsk xs) lo hi θ k := .inr (.inl ⟨xs, rfl, q⟩)
theorem v_slO {m : Nat} (e : θ[m]? = some (.lst xs)) (q : k (.lst (cutL xs lo hi)) θ) : fSl (.obj m) lo hi θ k := .inr (.inl ⟨xs, asL_obj e, q⟩)
theorem v_slT (h : ¬ (HT.sIx xs.length 0 lo = 0 ∧ HT.sIx xs.length xs.length hi = xs.length)) (q : k (.tup (cutL xs lo hi)) θ) : fSl (.tup xs) lo hi θ k := .inr (.inr ⟨xs, rfl, q⟩)
theorem v_slT2 (q : k (.tup (cutL xs lo hi)) θ) : fSl (.tup xs) lo hi θ k := .inr (.inr ⟨xs, rfl, q⟩)
theorem v_addSS (h : a.length + b.length ≤ 100000) (q : k (.str (S (a ++ b))) θ) : fAdd (.str (S a)) (.str (S b)) θ k := v_addS (by rw [S_len, S_len]; exact h) (by rw [S_app]; exact q)
theorem v_mulSS (h0 : 0 ≤ i) (h1 : a.length * i.toNat ≤ 100000) (h2 : i ≤ 100000) (q : k (.str (S (List.replicate i.toNat a).flatten)) θ) : fMul (.str (S a)) (.int i) θ k := v_mulS h0 (by rw [S_len]; exact h1) h2 q
theorem v_eqSS (q : k (.bl (decide (a = b))) θ) : fEq (.str (S a)) (.str (S b)) θ k := v_eqS (by have : decide (S a = S b) = decide (a = b) := decide_eq_decide.mpr S_inj; rw [this]; exact q)
theorem v_neSS (q : k (.bl (!decide (a = b))) θ) : fNe (.str (S a)) (.str (S b)) θ k := v_neS (by have : decide (S a = S b) = decide (a = b) := decide_eq_decide.mpr S_inj; rw [this]; exact q)
theorem v_ltSS (q : k (.bl (decide (a < b))) θ) : fLt (.str (S a)) (.str (S b)) θ k := q
theorem v_gtSS (q : k (.bl (decide (b < a))) θ) : fGt (.str (S a)) (.str (S b)) θ k := q
theorem v_inSS (q : k (.bl (decide (n ∈ b))) θ) : fIn (.str (S [n])) (.str (S b)) θ k := v_inS q
theorem v_ninSS (q : k (.bl (!decide (n ∈ b))) θ) : fNotIn (.str (S [n])) (.str (S b)) θ k := v_ninS q
theorem v_lenSS (h : a.length ≤ 100000) (q : k (.int (a.length : Nat)) θ) : fLen [.str (S a)] θ k := v_lenS (by rw [S_len]; exact h) (by rw [S_len]; exact q)
theorem v_ixSS (h : a.length ≤ 100000) (hc : atI a i = some c) (q : k (.str (S [c])) θ) : fIx (.str (S a)) (.int i) θ k := v_ixS (by rw [S_len]; exact h) hc q
theorem v_ordSS (q : k (.int (c : Nat)) θ) : fOrd [.str (S [c])] θ k := v_ord rfl q
theorem v_joinL {α : Type} {zs : List α} {f : α → List Nat} (h : (zs.map fun z => (f z).length).sum ≤ 100000) (q : k (.str (S (zs.flatMap f))) θ) : fJoin (.str (S [])) [.lst (zs.map fun z => .str (S (f z)))] θ k := by
  refine ⟨_, _, zs.map fun z => S (f z), rfl, rfl, by show some _ = some _; rw [List.map_map]; rfl, ?_, ?_⟩
  · rw [List.map_map, List.length_map]
    have : (S []).length = 0 := rfl
    rw [this, Nat.mul_zero, Nat.add_zero]
    have e : (Str.length ∘ fun z => S (f z)) = fun z => (f z).length := funext fun z => S_len _
    rw [e]; exact h
  · rw [join_S, joinL_nil, show (zs.map fun z => S (f z)).map tl = zs.map f from by rw [List.map_map]; rfl, ← List.flatMap_def]; exact q
theorem sum_ones {α : Type} : ∀ zs : List α, (zs.map fun _ => 1).sum = zs.length
  | [] => rfl
  | z :: zs => by rw [List.map_cons, List.sum_cons, sum_ones zs, List.length_cons]; omega
theorem flat_ones {α β : Type} {f : α → β} : ∀ zs : List α, zs.flatMap (fun z => [f z]) = zs.map f
  | [] => rfl
  | z :: zs => by rw [List.flatMap_cons, flat_ones zs]; rfl
theorem v_join1 {α : Type} {zs : List α} {f : α → Nat} (h : zs.length ≤ 100000) (q : k (.str (S (zs.map f))) θ) : fJoin (.str (S [])) [.lst (zs.map fun z => .str (S [f z]))] θ k :=
  v_joinL (f := fun z => [f z]) (by
    show (zs.map fun _ => 1).sum ≤ _
    rw [sum_ones]; exact h) (by rw [flat_ones]; exact q)
theorem v_joinT {α : Type} {zs : List α} {f : α → List Nat} (h : (zs.map fun z => (f z).length).sum ≤ 100000) (q : k (.str (S (zs.flatMap f))) θ) : fJoin (.str (S [])) [.tup (zs.map fun z => .str (S (f z)))] θ k := by
  refine ⟨_, _, zs.map fun z => S (f z), rfl, rfl, by show some _ = some _; rw [List.map_map]; rfl, ?_, ?_⟩
  · rw [List.map_map, List.length_map]
    have : (S []).length = 0 := rfl
    rw [this, Nat.mul_zero, Nat.add_zero]
    have e : (Str.length ∘ fun z => S (f z)) = fun z => (f z).length := funext fun z => S_len _
    rw [e]; exact h
  · rw [join_S, joinL_nil, show (zs.map fun z => S (f z)).map tl = zs.map f from by rw [List.map_map]; rfl, ← List.flatMap_def]; exact q
theorem w_exSS (ki : List D → (Th → Prop) → Th → Prop) (q : ki (a.map fun c => .str (S [c])) (fun _ => True) θ) : ∃ y, D.str (S a) = .str y ∧ ki (signs y) (fun _ => True) θ := ⟨_, rfl, q⟩
end
theorem atI_ofNat {α : Type} {xs : List α} {i : Int} (h0 : 0 ≤ i) (h1 : i < xs.length) (d : α) : atI xs i = some (xs.getD i.toNat d) := by
  obtain ⟨n, rfl⟩ := Int.eq_ofNat_of_zero_le h0
  rw [Int.toNat_natCast]
  have hn : n < xs.length := by omega
  refine atI_nat ?_
  rw [List.getD_eq_getElem?_getD, List.getElem?_eq_getElem hn]
  rfl
theorem nums_eq (lo : Int) (n : Nat) : nums lo n = (List.range n).map fun i => .int (lo + (i : Nat)) := rfl
theorem nums_get {lo : Int} {n i : Nat} {d : D} (h : (nums lo n)[i]? = some d) : i < n ∧ d = .int (lo + (i : Nat)) := by
  unfold nums at h
  rw [List.getElem?_map] at h
  obtain ⟨j, h1, rfl⟩ := Option.map_eq_some_iff.mp h
  have hi : i < n := by have := (List.getElem?_eq_some_iff.mp h1).1; simpa using this
  rw [List.getElem?_range hi] at h1
  cases h1
  exact ⟨hi, rfl⟩
theorem natAbs_small {i : Int} (h0 : 0 ≤ i) (h1 : i < 2 ^ 64) : i.natAbs < 2 ^ 1000 := by
  have : i.natAbs < 2 ^ 64 := by omega
  exact Nat.lt_of_lt_of_le this (Nat.pow_le_pow_right (by decide) (by decide))
theorem rep_len {α : Type} (n : Nat) (a : List α) : (List.replicate n a).flatten.length = n * a.length := by
  induction n with
  | zero => simp
  | succ n ih => rw [List.replicate_succ, List.flatten_cons, List.length_append, ih, Nat.succ_mul]; omega
theorem signs_len (l : List Nat) : (AB.signs (S l)).length = l.length := by unfold AB.signs; simp
theorem nums_len (lo : Int) (n : Nat) : (nums lo n).length = n := by unfold nums; simp
end AB
namespace AB
open PySem PySem.Spec PyProof.Rows L2 TL
/-! ### equality of values by structure -/
def SOk (l : List Nat) : Prop := ∀ x ∈ l, x < 1114112
mutual
def D.ok : D → Nat → Prop
  | .non, _ => True
  | .bl _, _ => True
  | .int _, _ => True
  | .str x, _ => SOk x.cps.toList
  | .tup ds, n => 0 < n ∧ D.oks ds (n - 1)
  | .lst ds, n => 0 < n ∧ D.oks ds (n - 1)
  | .lsk ds, n => 0 < n ∧ D.oks ds (n - 1)
  | .obj _, _ => False
  | .raw _, _ => False
def D.oks : List D → Nat → Prop
  | [], _ => True
  | d :: ds, n => D.ok d n ∧ D.oks ds n
end
mutual
def D.eqv : D → D → Bool
  | .non, .non => true
  | .bl a, .bl b => decide (a = b)
  | .bl a, .int j => decide ((if a then 1 else 0) = j)
  | .int i, .bl b => decide (i = (if b then 1 else 0))
  | .int i, .int j => decide (i = j)
  | .str x, .str y => decide (x = y)
  | .tup xs, .tup ys => D.eqvs xs ys
  | .lst xs, .lst ys => D.eqvs xs ys
  | .lst xs, .lsk ys => D.eqvs xs ys
  | .lsk xs, .lst ys => D.eqvs xs ys
  | .lsk xs, .lsk ys => D.eqvs xs ys
  | _, _ => false
def D.eqvs : List D → List D → Bool
  | [], [] => true
  | x :: xs, y :: ys => D.eqv x y && D.eqvs xs ys
  | _, _ => false
end
theorem strOk_of {x : Str} (h : SOk x.cps.toList) : PyData.strOk x = true := by
  unfold PyData.strOk
  rw [Array.all_eq_true]
  intro i hi
  have := h x.cps[i] (by simp)
  simpa using this
mutual
theorem D.ok_py : ∀ (d : D) (n : Nat), D.ok d n → ∃ p, D.py d = some p ∧ p.canLay0 = true ∧ p.depth ≤ n
  | .non, n, _ => ⟨_, by unfold D.py; rfl, by unfold PyData.canLay0; rfl, by unfold PyData.depth; omega⟩
  | .bl b, n, _ => ⟨_, by unfold D.py; rfl, by unfold PyData.canLay0; rfl, by unfold PyData.depth; omega⟩
  | .int b, n, _ => ⟨_, by unfold D.py; rfl, by unfold PyData.canLay0; rfl, by unfold PyData.depth; omega⟩
  | .str b, n, h => by
    unfold D.ok at h
    exact ⟨_, by unfold D.py; rfl, by unfold PyData.canLay0; exact strOk_of h, by unfold PyData.depth; omega⟩
  | .tup ds, n, h => by
    unfold D.ok at h
    obtain ⟨ps, e, h1, h2⟩ := D.oks_py ds _ h.2
    refine ⟨.tuple ps, by unfold D.py; rw [e]; rfl, by unfold PyData.canLay0; exact h1, ?_⟩
    unfold PyData.depth
    omega
  | .lst ds, n, h => by
    unfold D.ok at h
    obtain ⟨ps, e, h1, h2⟩ := D.oks_py ds _ h.2
    refine ⟨.list ps, by unfold D.py; rw [e]; rfl, by unfold PyData.canLay0; exact h1, ?_⟩
    unfold PyData.depth
    omega
  | .lsk ds, n, h => by
    unfold D.ok at h
    obtain ⟨ps, e, h1, h2⟩ := D.oks_py ds _ h.2
    refine ⟨.list ps, by unfold D.py; rw [e]; rfl, by unfold PyData.canLay0; exact h1, ?_⟩
    unfold PyData.depth
    omega
  | .obj _, n, h => by unfold D.ok at h; exact h.elim
  | .raw _, n, h => by unfold D.ok at h; exact h.elim
theorem D.oks_py : ∀ (ds : List D) (n : Nat), D.oks ds n → ∃ ps, D.pys ds = some ps ∧ PyData.canLayAll0 ps = true ∧ PyData.depthAll ps ≤ n
  | [], n, _ => ⟨[], by unfold D.pys; rfl, by unfold PyData.canLayAll0; rfl, by unfold PyData.depthAll; omega⟩
  | d :: ds, n, h => by
    unfold D.oks at h
    obtain ⟨p, e1, c1, h1⟩ := D.ok_py d n h.1
    obtain ⟨ps, e2, c2, h2⟩ := D.oks_py ds n h.2
    refine ⟨p :: ps, by unfold D.pys; rw [e1, e2]; rfl, by unfold PyData.canLayAll0; rw [c1, c2]; rfl, ?_⟩
    unfold PyData.depthAll
    omega
end
theorem bool_int (a : Bool) (j : Int) : ((if a then 1 else 0 : Int) == j) = decide ((if a then 1 else 0) = j) := by
  cases a <;> simp [BEq.beq]
mutual
theorem D.eqv_py : ∀ (d e : D) (p q : PyData), D.py d = some p → D.py e = some q → PyData.eqv p q = D.eqv d e
  | d, e, p, q, h1, h2 => by
    cases d <;> cases e <;> unfold D.py at h1 h2 <;> first | (cases h1; done) | (cases h2; done) | skip
    all_goals first
      | (cases h1; cases h2; unfold PyData.eqv D.eqv; first | rfl | (simp; done))
      | (obtain ⟨ps, e1, rfl⟩ := Option.map_eq_some_iff.mp h1; cases h2; unfold PyData.eqv D.eqv; rfl)
      | (obtain ⟨ps, e1, rfl⟩ := Option.map_eq_some_iff.mp h2; cases h1; unfold PyData.eqv D.eqv; rfl)
      | (obtain ⟨ps, e1, rfl⟩ := Option.map_eq_some_iff.mp h1; obtain ⟨qs, e2, rfl⟩ := Option.map_eq_some_iff.mp h2; unfold PyData.eqv D.eqv; first | rfl | exact D.eqvs_py _ _ ps qs e1 e2)
theorem D.eqvs_py : ∀ (ds es : List D) (ps qs : List PyData), D.pys ds = some ps → D.pys es = some qs → PyData.eqvAll ps qs = D.eqvs ds es
  | [], [], ps, qs, h1, h2 => by unfold D.pys at h1 h2; cases h1; cases h2; unfold PyData.eqvAll D.eqvs; rfl
  | [], e :: es, ps, qs, h1, h2 => by
    unfold D.pys at h1 h2; cases h1
    obtain ⟨q, e3, e4⟩ := Option.bind_eq_some_iff.mp h2
    obtain ⟨rs, e5, rfl⟩ := Option.map_eq_some_iff.mp e4
    unfold PyData.eqvAll D.eqvs; rfl
  | d :: ds, [], ps, qs, h1, h2 => by
    unfold D.pys at h1 h2; cases h2
    obtain ⟨q, e3, e4⟩ := Option.bind_eq_some_iff.mp h1
    obtain ⟨rs, e5, rfl⟩ := Option.map_eq_some_iff.mp e4
    unfold PyData.eqvAll D.eqvs; rfl
  | d :: ds, e :: es, ps, qs, h1, h2 => by
    unfold D.pys at h1 h2
    obtain ⟨p, e1, e2⟩ := Option.bind_eq_some_iff.mp h1
    obtain ⟨ps', e3, rfl⟩ := Option.map_eq_some_iff.mp e2
    obtain ⟨q, e4, e5⟩ := Option.bind_eq_some_iff.mp h2
    obtain ⟨qs', e6, rfl⟩ := Option.map_eq_some_iff.mp e5
    unfold PyData.eqvAll D.eqvs
    rw [D.eqv_py d e p q e1 e4, D.eqvs_py ds es ps' qs' e3 e6]
end
theorem shaped_of {p : PyData} (h1 : p.canLay0 = true) (h2 : p.depth ≤ 64) : SeqAt.shaped p = true := by
  unfold SeqAt.shaped
  rw [h1, decide_eq_true h2]; rfl
theorem pyD_py {θ : Th} {d : D} {p : PyData} (h : D.py d = some p) : pyD θ d = some p := by
  cases d with
  | obj n => unfold D.py at h; cases h
  | _ => exact h
theorem eqAns_ok {θ : Th} {x y : D} (hx : D.ok x 64) (hy : D.ok y 64) : eqAns θ x y (D.eqv x y) := by
  obtain ⟨p, e1, c1, d1⟩ := D.ok_py x 64 hx
  obtain ⟨q, e2, c2, d2⟩ := D.ok_py y 64 hy
  exact .inr ⟨p, q, pyD_py e1, pyD_py e2, shaped_of c1 d1, shaped_of c2 d2, D.eqv_py x y p q e1 e2⟩
/-- what a value with a list of the state in place of its name is -/
def seeD (θ : Th) : D → D
  | .obj n => match θ[n]? with
    | some (.lst ds) => .lst ds
    | _ => .obj n
  | d => d
theorem eqAns_see {θ : Th} {x y : D} (hx : D.ok (seeD θ x) 64) (hy : D.ok (seeD θ y) 64) : eqAns θ x y (D.eqv (seeD θ x) (seeD θ y)) := by
  obtain ⟨p, e1, c1, d1⟩ := D.ok_py _ 64 hx
  obtain ⟨q, e2, c2, d2⟩ := D.ok_py _ 64 hy
  have see : ∀ {x : D} {p : PyData}, D.py (seeD θ x) = some p → pyD θ x = some p := by
    intro x p e
    cases x with
    | obj n =>
      unfold seeD at e
      show (match θ[n]? with | some (.lst ds) => (D.pys ds).map PyData.list | _ => none) = some p
      dsimp only at e
      split at e
      · unfold D.py at e; exact e
      · unfold D.py at e; cases e
    | _ => exact e
  exact .inr ⟨p, q, see e1, see e2, shaped_of c1 d1, shaped_of c2 d2, D.eqv_py _ _ p q e1 e2⟩
section
variable {θ : Th} {k : AK} {x y : D}
theorem v_eqG (hx : D.ok x 64) (hy : D.ok y 64) (q : k (.bl (D.eqv x y)) θ) : fEq x y θ k := ⟨_, eqAns_ok hx hy, q⟩
theorem v_neG (hx : D.ok x 64) (hy : D.ok y 64) (q : k (.bl (!D.eqv x y)) θ) : fNe x y θ k := ⟨_, eqAns_ok hx hy, q⟩
theorem v_eqO (hx : D.ok (seeD θ x) 64) (hy : D.ok (seeD θ y) 64) (q : k (.bl (D.eqv (seeD θ x) (seeD θ y))) θ) : fEq x y θ k := ⟨_, eqAns_see hx hy, q⟩
theorem v_neO (hx : D.ok (seeD θ x) 64) (hy : D.ok (seeD θ y) 64) (q : k (.bl (!D.eqv (seeD θ x) (seeD θ y))) θ) : fNe x y θ k := ⟨_, eqAns_see hx hy, q⟩
end
theorem seeD_obj {θ : Th} {n : Nat} {ds : List D} (h : θ[n]? = some (.lst ds)) : seeD θ (.obj n) = .lst ds := by show (match θ[n]? with | some (.lst ds) => D.lst ds | _ => .obj n) = _; rw [h]
theorem oks_iff {ds : List D} {n : Nat} : D.oks ds n ↔ ∀ d ∈ ds, D.ok d n := by
  induction ds with
  | nil => unfold D.oks; simp
  | cons d ds ih => unfold D.oks; rw [ih]; simp
theorem D.ok_mono : ∀ (d : D) {m n : Nat}, m ≤ n → D.ok d m → D.ok d n := by
  have go : ∀ (k : Nat) (d : D) (m n : Nat), m ≤ n → m = k → D.ok d m → D.ok d n := by
    intro k
    induction k with
    | zero =>
      intro d m n h e ho
      subst e
      cases d <;> unfold D.ok at ho ⊢ <;> first | exact ho | exact absurd ho.1 (Nat.lt_irrefl 0)
    | succ k ih =>
      intro d m n h e ho
      subst e
      cases d <;> unfold D.ok at ho ⊢ <;> first
        | exact ho
        | (refine ⟨by omega, oks_iff.mpr fun x hx => ih x k (n - 1) (by omega) rfl ?_⟩; exact oks_iff.mp ho.2 x hx)
  intro d m n h ho
  exact go m d m n h rfl ho
theorem eqvs_map {α : Type} {f : α → D} (hf : ∀ a b, D.eqv (f a) (f b) = true ↔ a = b) : ∀ xs ys : List α, D.eqvs (xs.map f) (ys.map f) = true ↔ xs = ys
  | [], [] => by unfold D.eqvs; simp
  | [], y :: ys => by show D.eqvs [] (f y :: ys.map f) = true ↔ _; unfold D.eqvs; simp
  | x :: xs, [] => by show D.eqvs (f x :: xs.map f) [] = true ↔ _; unfold D.eqvs; simp
  | x :: xs, y :: ys => by
    show D.eqvs (f x :: xs.map f) (f y :: ys.map f) = true ↔ _
    unfold D.eqvs
    rw [Bool.and_eq_true, hf, eqvs_map hf xs ys, List.cons.injEq]
theorem eqvs_nil {xs : List D} : D.eqvs xs [] = xs.isEmpty := by
  cases xs <;> unfold D.eqvs <;> rfl
mutual
theorem D.eqv_refl : ∀ (d : D) (n : Nat), D.ok d n → D.eqv d d = true
  | .non, n, _ => by unfold D.eqv; rfl
  | .bl b, n, _ => by unfold D.eqv; simp
  | .int b, n, _ => by unfold D.eqv; simp
  | .str b, n, h => by unfold D.eqv; simp
  | .tup ds, n, h => by unfold D.ok at h; unfold D.eqv; exact D.eqvs_refl ds _ h.2
  | .lst ds, n, h => by unfold D.ok at h; unfold D.eqv; exact D.eqvs_refl ds _ h.2
  | .lsk ds, n, h => by unfold D.ok at h; unfold D.eqv; exact D.eqvs_refl ds _ h.2
  | .obj _, n, h => by unfold D.ok at h; exact h.elim
  | .raw _, n, h => by unfold D.ok at h; exact h.elim
theorem D.eqvs_refl : ∀ (ds : List D) (n : Nat), D.oks ds n → D.eqvs ds ds = true
  | [], n, _ => by unfold D.eqvs; rfl
  | d :: ds, n, h => by unfold D.oks at h; unfold D.eqvs; rw [D.eqv_refl d n h.1, D.eqvs_refl ds n h.2]; rfl
end
theorem ok_strs {α : Type} {n : Nat} {f : α → List Nat} (xs : List α) (h : ∀ x ∈ xs, SOk (f x)) : D.oks (xs.map fun x => .str (S (f x))) n := oks_iff.mpr fun d hd => by
  obtain ⟨x, hx, rfl⟩ := List.mem_map.mp hd
  unfold D.ok
  exact h x hx
theorem ok_ints {α : Type} {n : Nat} {f : α → Int} (xs : List α) : D.oks (xs.map fun x => .int (f x)) n := oks_iff.mpr fun d hd => by
  obtain ⟨x, hx, rfl⟩ := List.mem_map.mp hd
  unfold D.ok
  trivial
theorem kb_NoneType_str : kitB "NoneType" "str" = some false := by decide +kernel
theorem kb_NoneType_int : kitB "NoneType" "int" = some false := by decide +kernel
theorem kb_NoneType_bool : kitB "NoneType" "bool" = some false := by decide +kernel
theorem kb_NoneType_tuple : kitB "NoneType" "tuple" = some false := by decide +kernel
theorem kb_NoneType_list : kitB "NoneType" "list" = some false := by decide +kernel
theorem kb_bool_str : kitB "bool" "str" = some false := by decide +kernel
theorem kb_bool_int : kitB "bool" "int" = some true := by decide +kernel
theorem kb_bool_bool : kitB "bool" "bool" = some true := by decide +kernel
theorem kb_bool_tuple : kitB "bool" "tuple" = some false := by decide +kernel
theorem kb_bool_list : kitB "bool" "list" = some false := by decide +kernel
theorem kb_int_str : kitB "int" "str" = some false := by decide +kernel
theorem kb_int_int : kitB "int" "int" = some true := by decide +kernel
theorem kb_int_bool : kitB "int" "bool" = some false := by decide +kernel
theorem kb_int_tuple : kitB "int" "tuple" = some false := by decide +kernel
theorem kb_int_list : kitB "int" "list" = some false := by decide +kernel
theorem kb_str_str : kitB "str" "str" = some true := by decide +kernel
theorem kb_str_int : kitB "str" "int" = some false := by decide +kernel
theorem kb_str_bool : kitB "str" "bool" = some false := by decide +kernel
theorem kb_str_tuple : kitB "str" "tuple" = some false := by decide +kernel
theorem kb_str_list : kitB "str" "list" = some false := by decide +kernel
theorem kb_tuple_str : kitB "tuple" "str" = some false := by decide +kernel
theorem kb_tuple_int : kitB "tuple" "int" = some false := by decide +kernel
theorem kb_tuple_bool : kitB "tuple" "bool" = some false := by decide +kernel
theorem kb_tuple_tuple : kitB "tuple" "tuple" = some true := by decide +kernel
theorem kb_tuple_list : kitB "tuple" "list" = some false := by decide +kernel
theorem kb_list_str : kitB "list" "str" = some false := by decide +kernel
theorem kb_list_int : kitB "list" "int" = some false := by decide +kernel
theorem kb_list_bool : kitB "list" "bool" = some false := by decide +kernel
theorem kb_list_tuple : kitB "list" "tuple" = some false := by decide +kernel
theorem kb_list_list : kitB "list" "list" = some true := by decide +kernel
end AB
namespace AB
open PySem PySem.Spec PyProof.Rows L2 TL
/-! ### a dict walked: it is locked meanwhile -/
def keyV : Key → D
  | .inl i => .int i
  | .inr s => .str s
def aLkE (re : AR) : AR := fun Γ θ k _ => ∃ n kvs, θ[n]? = some (.dK kvs) ∧ re Γ (θ.set n (.lk kvs)) (fun d θ1 => θ1[n]? = some (.lk kvs) ∧ k d (θ1.set n (.dK kvs))) noX
def aLkS (s : ASR) : ASR := fun E Γ θ => ∃ n kvs, θ[n]? = some (.dK kvs) ∧ s ⟨fun Γ' θ1 => θ1[n]? = some (.lk kvs) ∧ E.nx Γ' (θ1.set n (.dK kvs)), fun d θ1 => θ1[n]? = some (.lk kvs) ∧ E.rt d (θ1.set n (.dK kvs)),
  fun Γ' θ1 => θ1[n]? = some (.lk kvs) ∧ E.bk Γ' (θ1.set n (.dK kvs)), fun Γ' θ1 => θ1[n]? = some (.lk kvs) ∧ E.ct Γ' (θ1.set n (.dK kvs)), fun _ _ _ => False⟩ Γ (θ.set n (.lk kvs))
theorem KRep.kV {K : PySem.W.Frag} {H : Hp} {α : Nat → Addr} {N : Nat} {kvs : List (Key × D)} {ws : List (Key × V)} (h : KRep K H α N kvs ws) : ws.map (·.1) = kvs.map (·.1) := h.1.symm
section
variable {K : PySem.W.Frag} {H : Hp} {α : Nat → Addr} {N : Nat} {p : Addr} {od : Obj} {ws : List (Key × V)}
mutual
theorem rep_unlock (e : H p = some (.frz od (.dK ws))) : ∀ (d : D) (v : V), Rep K H α N d v → Rep K (upd H p (.dK ws)) α N d v
  | .non, _, h => h
  | .bl _, _, h => h
  | .int _, _, h => h
  | .str _, _, h => h
  | .tup ds, v, h => by
    unfold Rep at h ⊢
    obtain ⟨a, vs, e1, h1, h2⟩ := h
    exact ⟨a, vs, e1, by rw [upd_ne (fun z => by rw [z, e] at h1; cases h1)]; exact h1, reps_unlock e ds vs h2⟩
  | .lst ds, v, h => by
    unfold Rep at h ⊢
    obtain ⟨a, vs, e1, ⟨o, h1⟩, h2⟩ := h
    exact ⟨a, vs, e1, ⟨o, by rw [upd_ne (fun z => by rw [z, e] at h1; cases h1)]; exact h1⟩, reps_unlock e ds vs h2⟩
  | .lsk ds, v, h => by
    unfold Rep at h ⊢
    obtain ⟨a, vs, e1, h1, h2⟩ := h
    refine ⟨a, vs, e1, ?_, reps_unlock e ds vs h2⟩
    rcases h1 with ⟨o, h1⟩ | h1
    · exact .inl ⟨o, by rw [upd_ne (fun z => by rw [z, e] at h1; cases h1)]; exact h1⟩
    · exact .inr h1
  | .obj _, _, h => h
  | .raw _, _, h => h
theorem reps_unlock (e : H p = some (.frz od (.dK ws))) : ∀ (ds : List D) (vs : List V), Reps K H α N ds vs → Reps K (upd H p (.dK ws)) α N ds vs
  | [], _, h => h
  | d :: ds, vs, h => by
    unfold Reps at h ⊢
    obtain ⟨v, us, e1, h1, h2⟩ := h
    exact ⟨v, us, e1, rep_unlock e d v h1, reps_unlock e ds us h2⟩
end
theorem krep_unlock {κ : Type} {kvs : List (κ × D)} {us : List (κ × V)} (e : H p = some (.frz od (.dK ws))) (h : KRep K H α N kvs us) : KRep K (upd H p (.dK ws)) α N kvs us := ⟨h.1, reps_unlock e _ _ h.2⟩
theorem ent_unlock {a : Addr} {en : Ent} (e : H p = some (.frz od (.dK ws))) (hne : a ≠ p) (h : EntAt K H α N a en) : EntAt K (upd H p (.dK ws)) α N a en := by
  cases en with
  | lst ds => obtain ⟨vs, h1, h2⟩ := h; exact ⟨vs, by rw [upd_ne hne]; exact h1, reps_unlock e _ _ h2⟩
  | dK kvs => obtain ⟨vs, h1, h2⟩ := h; exact ⟨vs, by rw [upd_ne hne]; exact h1, krep_unlock e h2⟩
  | lk kvs => obtain ⟨o, vs, h1, h2⟩ := h; exact ⟨o, vs, by rw [upd_ne hne]; exact h1, krep_unlock e h2⟩
  | dT kvs => obtain ⟨vs, h1, h2⟩ := h; exact ⟨vs, by rw [upd_ne hne]; exact h1, krep_unlock e h2⟩
  | ins C fs => obtain ⟨dx, vs, h1, h2⟩ := h; exact ⟨dx, vs, by rw [upd_ne hne]; exact h1, krep_unlock e h2⟩
  | gone => show upd H p _ a ≠ none; rw [upd_ne hne]; exact h
end
section
variable {X : Cx} {W : WX} {e : Expr} {re : AR} {st : Stmt} {s : ASR}
theorem lock_sta {K : PySem.W.Frag} {H : Hp} {α : Nat → Addr} {θ : Th} {n : Nat} {kvs : List (Key × D)} {ws : List (Key × V)} {od : Obj} (S : Sta K H α θ) (hn : θ[n]? = some (.dK kvs)) (hw : H (α n) = some (.dK ws)) (hr : KRep K H α θ.length kvs ws) :
    Sta K (upd H (α n) (.frz od (.dK ws))) α (θ.set n (.lk kvs)) ∧ Nx α θ.length H α (θ.set n (.lk kvs)).length (upd H (α n) (.frz od (.dK ws))) := by
  have hl : n < θ.length := (List.getElem?_eq_some_iff.mp hn).1
  have nx : Nx α θ.length H α (θ.set n (.lk kvs)).length (upd H (α n) (.frz od (.dK ws))) := Nx.write hw trivial
  refine ⟨S.write hl hw trivial ?_, nx⟩
  rw [List.length_set] at nx ⊢
  exact ⟨od, ws, upd_same, KRep.mono nx hr⟩
/-- unlocked again -/
theorem unlock_sta {K : PySem.W.Frag} {H H2 : Hp} {α α2 : Nat → Addr} {θ θ2 : Th} {n : Nat} {kvs : List (Key × D)} {ws : List (Key × V)} {od : Obj} (S : Sta K H α θ) (hn : θ[n]? = some (.dK kvs)) (hw : H (α n) = some (.dK ws)) (hr : KRep K H α θ.length kvs ws)
    (nx : Nx α (θ.set n (.lk kvs)).length (upd H (α n) (.frz od (.dK ws))) α2 θ2.length H2) (S2 : Sta K H2 α2 θ2) (h2 : θ2[n]? = some (.lk kvs)) :
    H2 (α n) = some (.frz od (.dK ws)) ∧ Sta K (upd H2 (α n) (.dK ws)) α2 (θ2.set n (.dK kvs)) ∧ Nx α θ.length H α2 (θ2.set n (.dK kvs)).length (upd H2 (α n) (.dK ws)) ∧
      ∀ d v, Rep K H2 α2 θ2.length d v → Rep K (upd H2 (α n) (.dK ws)) α2 (θ2.set n (.dK kvs)).length d v := by
  have hl : n < θ.length := (List.getElem?_eq_some_iff.mp hn).1
  have hl2 : n < θ2.length := (List.getElem?_eq_some_iff.mp h2).1
  have ea : α2 n = α n := nx.ag n (by rw [List.length_set]; exact hl)
  have e2 : H2 (α n) = some (.frz od (.dK ws)) := nx.per.frz _ _ _ upd_same
  obtain ⟨o', ws', h3, h4⟩ := S2.ent n _ h2
  rw [ea, e2] at h3
  cases h3
  -- what is tracked elsewhere stays
  have mono : ∀ d v, Rep K H2 α2 θ2.length d v → Rep K (upd H2 (α n) (.dK ws)) α2 θ2.length d v := rep_unlock e2
  have hz : (θ2.set n (.dK kvs)).length = θ2.length := List.length_set ..
  refine ⟨e2, ⟨fun m en hm => ?_, fun a b ha hb => S2.inj a b (by rwa [hz] at ha) (by rwa [hz] at hb)⟩, ⟨fun m hm => nx.ag m (by rw [List.length_set]; exact hm), by rw [hz]; have := nx.le; rw [List.length_set] at this; exact this, ?_⟩, fun d v r => by rw [hz]; exact mono d v r⟩
  · by_cases hmn : m = n
    · subst hmn
      rw [List.getElem?_set_self hl2] at hm
      cases hm
      rw [ea, hz]
      exact ⟨ws, upd_same, krep_unlock e2 h4⟩
    · rw [List.getElem?_set_ne (Ne.symm hmn)] at hm
      have hml : m < θ2.length := (List.getElem?_eq_some_iff.mp hm).1
      have hne : α2 m ≠ α n := fun z => hmn (S2.inj m n hml hl2 (by rw [z, ea]))
      rw [hz]
      exact ent_unlock e2 hne (S2.ent m en hm)
  · refine ⟨fun a vs h => ?_, fun a o u h => ?_⟩
    · have hne : a ≠ α n := fun z => by rw [z, hw] at h; cases h
      rw [upd_ne hne]
      exact nx.per.tup a vs (by rw [upd_ne hne]; exact h)
    · have hne : a ≠ α n := fun z => by rw [z, hw] at h; cases h
      rw [upd_ne hne]
      exact nx.per.frz a o u (by rw [upd_ne hne]; exact h)
theorem xe_lk (h : XE' X W0 e re) : XE' X W e (aLkE re) := pe_imp (pe_lock h) (by
  rintro σ H Q ⟨α, θ, Γ, k, kx, S, G, ⟨n, kvs, hn, q⟩, lk, lx⟩
  obtain ⟨ws, hw, hr⟩ := S.ent n _ hn
  refine ⟨α n, .dK ws, hw, trivial, fun od => ?_⟩
  obtain ⟨S1, n1⟩ := lock_sta (od := od) S hn hw hr
  refine ⟨α, _, Γ, _, _, S1, G.mono n1, q, fun d θ2 α2 H2 v n2 S2 r2 ⟨h2, q2⟩ => ?_, fun _ _ _ _ _ _ z => z.elim⟩
  obtain ⟨e2, S3, n3, mono⟩ := unlock_sta S hn hw hr n2 S2 h2
  exact ⟨e2, lk d _ α2 _ v n3 S3 (mono _ _ r2) q2⟩)
theorem xs_lk (h : XS X W0 st s) : XS X W st (aLkS s) := ps_imp (ps_lock h) (by
  rintro Dn σ H ⟨α, θ, Γ, E, S, G, ⟨n, kvs, hn, q⟩, lk⟩
  obtain ⟨ws, hw, hr⟩ := S.ent n _ hn
  refine ⟨α n, .dK ws, hw, trivial, fun od => ?_⟩
  obtain ⟨S1, n1⟩ := lock_sta (od := od) S hn hw hr
  have fr : ∀ {k : AB.G → Th → Prop} {Q : L2.St → Hp → Prop}, LkS X.K α θ.length H k Q → LkS X.K α (θ.set n (.lk kvs)).length (upd H (α n) (.frz od (.dK ws))) (fun Γ' θ1 => θ1[n]? = some (.lk kvs) ∧ k Γ' (θ1.set n (.dK kvs))) (fun σ' H' => H' (α n) = some (.frz od (.dK ws)) ∧ Q σ' (upd H' (α n) (.dK ws))) := by
    intro k Q l Γ2 θ2 α2 σ2 H2 n2 S2 G2 ⟨h2, q2⟩
    obtain ⟨e2, S3, n3, mono⟩ := unlock_sta S hn hw hr n2 S2 h2
    exact ⟨e2, l Γ2 _ α2 σ2 _ n3 S3 ⟨G2.1, fun i d hd => by obtain ⟨v, h1, h2⟩ := G2.2 i d hd; exact ⟨v, h1, mono _ _ h2⟩⟩ q2⟩
  refine ⟨α, _, Γ, _, S1, G.mono n1, q, ⟨fr lk.nx, ?_, fr lk.bk, fr lk.ct, fun _ _ _ _ _ _ _ _ _ z => z.elim⟩⟩
  intro d θ2 α2 H2 v n2 S2 r2 ⟨h2, q2⟩
  obtain ⟨e2, S3, n3, mono⟩ := unlock_sta S hn hw hr n2 S2 h2
  exact ⟨e2, lk.rt d _ α2 _ v n3 S3 (mono _ _ r2) q2⟩)
/-- the keys of a locked dict -/
@[reducible] def aItD (ra : AR) : AIR := fun Γ θ k kx => ra Γ θ (fun x θ1 => ∃ n kvs, x = .obj n ∧ θ1[n]? = some (.lk kvs) ∧ k (kvs.map fun p => keyV p.1) (fun θ' => θ'[n]? = some (.lk kvs)) θ1) kx
theorem rep_key {K : PySem.W.Frag} {H : Hp} {α : Nat → Addr} {N : Nat} (k : Key) : Rep K H α N (keyV k) (kV k) := by
  cases k <;> (unfold keyV Rep; rfl)
theorem xi_dict {tg a : Expr} {ra : AR} (ha : XE' X W a ra) : XI X W tg a (aItD ra) := pi_imp (pi_keys ha) (by
  rintro σ H R ⟨α, θ, Γ, k, kx, S, G, q, lk, lx⟩
  refine ⟨α, θ, Γ, _, kx, S, G, q, fun x θ1 α1 H1 v n1 S1 r1 ⟨n, kvs, e1, hn, q1⟩ => ?_, lx⟩
  subst e1
  unfold Rep at r1
  obtain ⟨_, rfl⟩ := r1
  obtain ⟨o, ws, hw, hr⟩ := S1.ent n _ hn
  refine ⟨_, o, rfl, .inl ⟨ws, hw, lk _ _ θ1 α1 H1 _ n1 S1 ?_ q1⟩⟩
  intro i α' θ' H' nx S' st
  have hl : n < θ1.length := (List.getElem?_eq_some_iff.mp hn).1
  have e2 : H' (α1 n) = some (.frz o (.dK ws)) := nx.per.frz _ _ _ hw
  have hk : kvs.map (·.1) = ws.map (·.1) := hr.1
  have hlen : kvs.length = ws.length := by have := congrArg List.length hk; simpa using this
  refine ⟨fun d hd => ?_, fun h => ⟨e2, by rw [List.length_map] at h; omega⟩⟩
  rw [List.getElem?_map] at hd
  obtain ⟨p, hp, rfl⟩ := Option.map_eq_some_iff.mp hd
  have hi : i < kvs.length := (List.getElem?_eq_some_iff.mp hp).1
  refine ⟨⟨e2, by omega⟩, fun y H'' ⟨e3, kk, vv, h4, h5⟩ => ?_⟩
  subst e3 h5
  refine ⟨fun _ _ z => z, ?_⟩
  have : (kvs.map (·.1))[i]? = (ws.map (·.1))[i]? := by rw [hk]
  rw [List.getElem?_map, List.getElem?_map, hp, h4] at this
  have e6 : p.1 = kk := Option.some.inj this
  rw [e6]
  exact rep_key kk)
end
/-! ### sorted(dict): its keys, rising -/
def dicK (θ : Th) (d : D) (kvs : List (Key × D)) : Prop := ∃ n, d = .obj n ∧ (θ[n]? = some (.dK kvs) ∨ θ[n]? = some (.lk kvs))
def fSortD : FA := fun xs θ k => ∃ d kvs, xs = [d] ∧ dicK θ d kvs ∧ ((∃ ks : List Str, kvs.map (·.1) = ks.map Sum.inr ∧ ks.length < 64 ∧ ∀ ys : List Str, ys.Perm ks → sortedS ys = true → k (.lst (ys.map D.str)) θ) ∨
  ∃ ks : List Int, kvs.map (·.1) = ks.map Sum.inl ∧ ks.length < 64 ∧ ∀ ys : List Int, ys.Perm ks → ys.Pairwise (· ≤ ·) → k (.lst (ys.map D.int)) θ)
theorem dicK_rd {K : PySem.W.Frag} {H : Hp} {α : Nat → Addr} {θ : Th} (S : Sta K H α θ) {d : D} {v : V} {kvs : List (Key × D)} (r : Rep K H α θ.length d v) (h : dicK θ d kvs) : ∃ a ws, v = .ref a ∧ Rd H a (.dK ws) ∧ kvs.map (·.1) = ws.map (·.1) ∧ Reps K H α θ.length (kvs.map (·.2)) (ws.map (·.2)) := by
  obtain ⟨n, rfl, h⟩ := h
  unfold Rep at r
  obtain ⟨_, rfl⟩ := r
  rcases h with h | h
  · obtain ⟨ws, h1, h2⟩ := S.ent n _ h
    exact ⟨_, ws, rfl, .inl h1, h2.1, h2.2⟩
  · obtain ⟨o, ws, h1, h2⟩ := S.ent n _ h
    exact ⟨_, ws, rfl, .inr ⟨o, h1⟩, h2.1, h2.2⟩
end AB
namespace DT
open PySem PySem.W PySem.Calls PyProof.Rows PyProof.V PySem.Spec
section
variable {K : Type} [DecidableEq K] {prog : Program} {w : World} {knd : HeapKind prog w K}
/-- d.pop(k), the key there -/
theorem popThere {d b : Addr} {k : K} (hd : (d == sysModules) = false) : MeetsIn prog w (Builtin.«dict.pop» ⟨[.ref d, .ref b], []⟩) (fun A R s => ∃ xs p, knd.room A.in1 ∧ knd.is s.heap k b ∧ s.heap.DictOfH knd d xs ∧ xs.length ≤ sizeLine ∧ atKey xs k = some p ∧
      ∀ h' tk, h'.DictOfH knd d (dropH xs k) → Heap.SameBut d s.heap h' → R (.ok (.ret p.2)) { s with heap := h', toks := tk }) :=
  .of_wp fun A R s ⟨xs, p0, hu, hkey, hm, hsz, hp0, hsome⟩ => by
    obtain ⟨o, es, ep, ho, hc, hdat, he, his, hn⟩ := id hm; have hes : es.size = xs.length := size_of_entries he
    have hne : es.isEmpty = false := by
      cases q : es.isEmpty
      · rfl
      · have h0 : xs = [] := List.length_eq_zero_iff.mp (by have z : es.size = 0 := by simpa using q
                                                            omega)
        rw [h0] at hp0; cases hp0
    have hpart : (keyPart (Value.ref b)).isSome = false := rfl; unfold Builtin.«dict.pop»
    refine wpAny_bind ?_; unfold Builtin.Dict.keyAndDefault; refine wpAny_bind (wpAny_notOrdered_dict hm.typeIs ?_)
    show wpAny _ _ (pure (d, Value.ref b, none)) _ _ s
    refine wpAny_pure ?_; simp only [hpart, Bool.false_eq_true, if_false]
    refine wpAny_bind (wpAny_dictEntries ho hdat (wpAny_bind (wpAny_pure ?_))); rw [hne]
    simp only [Bool.false_eq_true, if_false]
    refine wpAny_bind (takeH hu hkey hm hsz (fun hno => ?_) fun p e hp hev h' hm' hs' => ?_)
    · rw [hp0] at hno; cases hno
    · rw [hp0] at hp; cases hp; simp only [Option.isNone_some, Bool.false_eq_true, if_false]
      exact wpAny_bind (wpAny_letGo (wpAny_pure ⟨e.val, rfl, by rw [hev]; exact hsome h' _ hm' hs'⟩))
end
end DT
namespace L2.DX
open PySem PySem.Spec PyProof.Rows
section
variable {X : Cx}
def rPopT1 : V → List V → Hp → VK → Prop := fun x xs H Q => ∃ (a : Addr) (kvs : List (List L2.Key × V)) (k : List L2.Key) (b : Addr) (v : V), x = .ref a ∧ xs = [.ref b] ∧ H a = some (.dT kvs) ∧ H b = some (.tup (k.map kV)) ∧ valV kvs k = some v ∧ Q v (upd H a (.dT (dropK kvs k)))
theorem mt_popT1 (hu : X.A.units + 1 < cLine) : MtR X "dict.pop" rPopT1 := by
  intro pins s σ H x xs v us Q I rx rxs ⟨a, kvs, k, b, v0, e1, e2, ha, hb, hv, q⟩
  subst e1 e2
  cases rx
  obtain ⟨u, e3, r1⟩ := vals1 rxs
  subst e3
  cases r1
  obtain ⟨z, hd, xs', rel, dd⟩ := dt_of I.hok ha
  have r := rel.val k
  rw [hv] at r
  obtain ⟨p, hp, rv⟩ : ∃ p, atKey xs' k = some p ∧ RelV v0 p.2 := by
    cases ep : atKey xs' k with
    | none => rw [ep] at r; exact (show False from r).elim
    | some p => rw [ep] at r; exact ⟨p, rfl, r⟩
  refine call_meetsIn PySem.F.slot_dict_pop dd.typeIs PySem.F.entry_dict_pop (PySem.F.args_dict_pop_2 _ _) (DT.popThere (knd := tupleKind (mixKind X.prog X.w)) (k := k) hd) ⟨xs', p, tupleKind_room_in1 hu, key_of I.hok hb, dd, by rw [← Paired.length rel]; exact z, hp, fun h' tk dd' hs => ?_⟩
  obtain ⟨o, es, ep, hq, h2, h3, h4, _, h5⟩ := dd'
  have hok2 := (KT_drop k rel).keeps (H' := upd H a (.dT (dropK kvs k))) fun c ys ec => (by rw [upd_ne (ne_of ec ha (fun z => nomatch z))]; exact ec)
  have I2 : Inv X pins σ (upd H a (.dT (dropK kvs k))) { s with heap := h', toks := tk } := d_write I (by rw [ha]; exact True.intro) hs ⟨o, hq⟩ ⟨Nat.le_trans (dropK_le kvs k) z, hd, _, hok2, o, es, ep, hq, h2, h3, h4, h5⟩
  show EP X pins σ Q p.2 _
  exact ⟨v0, _, I2, rv, q⟩
end
end L2.DX
namespace AB
open PySem PySem.Spec PyProof.Rows L2 TL
/-! ### d.pop((a, b)), the key there -/
@[reducible] def aPopT (ro : AR) (rs : AAR) : AR := fun Γ θ k kx => ro Γ θ (fun x θ1 => (∃ n kvs, x = .obj n ∧ θ1[n]? = some (.dT kvs)) ∧ rs Γ θ1 (fun xs θ2 => ∃ n kvs ds ks v, x = .obj n ∧ xs = [.tup ds] ∧ θ2[n]? = some (.dT kvs) ∧ keysD ds = some ks ∧ valG kvs ks = some v ∧ k v (θ2.set n (.dT (dropG kvs ks)))) kx) kx
section
variable {X : Cx} {W : WX} {o e : Expr} {ro : AR} {rs : AAR} {apos cpos : Pos}
theorem xe_popT (hu : X.A.units + 1 < cLine) (ho : XE' X W o ro) (ha : XA X W [e] rs)
    (hbase : attributeBase o "pop" X.env (eval o X.env) = eval o X.env := by rfl)
    (hfew : ((backTo cpos (starEach [e] X.env)).all (fun x => !x.1) && (backToKw cpos (keywordEach [] X.env)).all (fun x => x.1.isSome)
      && decide (([e] : List Expr).length + ([] : List Keyword).length + (if ([] : List Keyword).isEmpty then 0 else 1) < 30)) = true := by rfl)
    (hline : (apos.endLine == cpos.line) = true := by rfl) (hs : starEach [e] X.env = (false, eval e X.env) :: starEach [] X.env := by rfl) (hplain : (backTo cpos (starEach [] X.env)).any (·.1) = false := by rfl) :
    XE' X W (.Call (.Attribute o "pop" apos) [e] [] cpos) (aPopT ro rs) := pe_imp (pe_bm PySem.F.plainAttrs_dict PySem.F.slot_dict_pop PySem.F.type_dict_pop (L2.DX.mt_popT1 hu) ho ha hbase hfew hline hs hplain) (by
  rintro σ H Q ⟨α, θ, Γ, k, kx, S, G, q, lk, lx⟩
  refine ⟨α, θ, Γ, _, kx, S, G, q, fun x θ1 α1 H1 v n1 S1 r1 ⟨⟨n, kvs, e1, hn⟩, q1⟩ => ⟨?_, ?_⟩, lx⟩
  · subst e1
    unfold Rep at r1
    obtain ⟨_, rfl⟩ := r1
    obtain ⟨ws, h1, _⟩ := S1.ent n _ hn
    exact .inr (.inr (.inl ⟨rfl, .inr ⟨ws, h1⟩⟩))
  · refine ⟨α1, θ1, Γ, _, kx, S1, G.mono n1, q1, fun xs θ2 α2 H2 vs n2 S2 r2 ⟨n', kvs', ds, ks, w, e1', e2, hn', e3, e4, q2⟩ => ?_, lx.on n1⟩
    subst e1' e2
    have r1' := Rep.mono n2 _ _ r1
    unfold Rep at r1'
    obtain ⟨_, rfl⟩ := r1'
    obtain ⟨ws, h1, h2⟩ := S2.ent n' _ hn'
    obtain ⟨u, rfl, ru⟩ := rep1 r2
    unfold Rep at ru
    obtain ⟨b, us, rfl, h3, h4⟩ := ru
    rw [keysD_v h4 e3] at h3
    rcases h2.val ks with ⟨z, _⟩ | ⟨d', w', z1, z2, z3⟩
    · rw [e4] at z; cases z
    · rw [e4] at z1; cases z1
      refine ⟨_, ws, ks, b, w', rfl, rfl, h1, h3, z2, ?_⟩
      exact ent_set (e' := .dT (dropG kvs' ks)) S2 hn' h1 trivial (fun H' nx e => ⟨_, e, (KRep.mono nx h2).drop ks⟩) z3 q2 (lk.on (n1.trans n2)))
end
/-! ### sorted(..): a list, a dict's keys -/
def fSortA : FA := fun xs θ k => fSort xs θ k ∨ fSortD xs θ k
section
variable {K : PySem.W.Frag}
def rSortD1 : List V → Hp → VK → Prop := fun xs H Q => ∃ (a : Addr) (kvs : List (Key × V)) (ks : List Str), xs = [.ref a] ∧ Rd H a (.dK kvs) ∧ kvs.map (·.1) = ks.map Sum.inr ∧ ks.length < 64 ∧ ∀ ys p, ys.Perm ks → sortedS ys = true → H p = none → Q (.ref p) (upd H p (.lst (ys.map V.str)))
def rSortD2 : List V → Hp → VK → Prop := fun xs H Q => ∃ (a : Addr) (kvs : List (Key × V)) (ks : List Int), xs = [.ref a] ∧ Rd H a (.dK kvs) ∧ kvs.map (·.1) = ks.map Sum.inl ∧ ks.length < 64 ∧ ∀ (ys : List Int) (p : Addr), ys.Perm ks → ys.Pairwise (· ≤ ·) → H p = none → Q (.ref p) (upd H p (.lst (ys.map V.int)))
theorem sim_sortA : SimA K fSortA (fun vs H Q => (rSortedI K vs H (FrQ Q) ∨ rSortedS K vs H (FrQ Q)) ∨ (rSortD1 vs H (FrQ Q) ∨ rSortD2 vs H (FrQ Q))) := by
  intro α θ H xs vs k Q S r h lk
  rcases h with h | ⟨d, kvs, rfl, hd, h⟩
  · exact .inl (sim_sort α θ H xs vs k Q S r h lk)
  · obtain ⟨v, rfl, r1⟩ := rep1 r
    obtain ⟨a, ws, rfl, h1, h2, h3⟩ := dicK_rd S r1 hd
    refine .inr ?_
    rcases h with ⟨ks, e1, e2, q⟩ | ⟨ks, e1, e2, q⟩
    · exact .inl ⟨a, ws, ks, rfl, h1, h2.symm.trans e1, e2, fun ys p q1 q2 hp => frz_newQ S hp (reps_strs ys) (q ys q1 q2) lk⟩
    · exact .inr ⟨a, ws, ks, rfl, h1, h2.symm.trans e1, e2, fun ys p q1 q2 hp => frz_newQ S hp (reps_ints ys) (q ys q1 q2) lk⟩
end
section
variable {X : Cx} {W : WX} {e : Expr} {es : List Expr} {rs : AAR} {pos p : Pos}
theorem xf_sortedA (hcm : X.calm = true) (hg : Gl X "sorted") (hm : NoN X "sorted") (ha : XA X W (e :: es) rs) (he : starEach (e :: es) X.env = (false, eval e X.env) :: starEach es X.env := by rfl) (hpl : (backTo pos (starEach es X.env)).any (·.1) = false := by rfl) :
    XE' X W (.Call (.Name "sorted" p) (e :: es) [] pos) (aCB fSortA rs) := xe_cbF ((cr_sortedI.or cr_sortedS).or ((call_sortedD hcm).or (call_sortedDI hcm))) sim_sortA hg hm bt_sorted ha (by decide) (by decide) he hpl
/-- list(xs) -/
def fList : FA := fun xs θ k => ∃ d ds, xs = [d] ∧ asS θ d = some ds ∧ k (.lst ds) θ
theorem sim_list_ {K : PySem.W.Frag} : SimA K fList (fun xs H Q => ∃ p ys, xs = [.ref p] ∧ (SqL K H p ys ∨ SqT K H p ys) ∧ ∀ l, H l = none → FrQ Q (.ref l) (upd H l (.lst ys))) := by
  intro α θ H xs vs k Q S r ⟨d, ds, e1, e2, q⟩ lk
  subst e1
  obtain ⟨v, rfl, r1⟩ := rep1 r
  obtain ⟨a, ws, rfl, h1, h2⟩ := asS_sq S r1 e2
  exact ⟨a, ws, rfl, h1, fun l hl => frz_newQ S hl h2 q lk⟩
theorem xf_list (hg : Gl X "list") (hm : NoN X "list") (ha : XA X W (e :: es) rs) (he : starEach (e :: es) X.env = (false, eval e X.env) :: starEach es X.env := by rfl) (hpl : (backTo pos (starEach es X.env)).any (·.1) = false := by rfl) :
    XE' X W (.Call (.Name "list" p) (e :: es) [] pos) (aCB fList rs) := xe_cbTF call_list_of sim_list_ hg hm bt_list ha (by decide) (by decide) he hpl
end
/-! ### promises at higher levels -/
section
variable {P : Program} {w : World} {K : PySem.W.Frag} {mg : Str → Option Value} {base : Heap} {k k' : Nat} {x m : Str} {C : Addr} {A : ASp}
theorem FnOk.up {CX : CXT} {f : Addr} {fd : FuncData} {ps : List Str} {sp : Sp} (h : FnOk P w K mg base CX k f fd ps sp) (hk : k ≤ k') : FnOk P w K mg base CX k' f fd ps sp :=
  ⟨h.len, fun A outer s H args us vs Q E hr => h.run A outer s H args us vs Q E (hr.mono hk)⟩
theorem GM.up (h : GM P w K mg base k C m A) (hk : k ≤ k') : GM P w K mg base k' C m A := by
  obtain ⟨⟨f, fd, ps, h1, h2, h3⟩, h4⟩ := h
  exact ⟨⟨f, fd, ps, FnOk.up h1 hk, h2, h3⟩, h4⟩
end
/-! ### objects walked -/
section
variable {θ : Th} {k : AK} {kx : AX} {K : PySem.W.Frag} {Γ : AB.G} {n : Nat} {C : Addr} {fs : List (Str × D)} {f : Str} {d : D}
theorem v_fld (h : θ[n]? = some (.ins C fs)) (hc : Cls K C) (hn : NoAttr K C f) (hl : fs.lookup f = some d) (q : k d θ) : ∃ n' C' fs' d', D.obj n = .obj n' ∧ θ[n']? = some (.ins C' fs') ∧ Cls K C' ∧ NoAttr K C' f ∧ fs'.lookup f = some d' ∧ k d' θ := ⟨n, C, fs, d, rfl, h, hc, hn, hl, q⟩
theorem v_fldS {nx : AB.G → Th → Prop} {y : D} {θ2 : Th} (h : θ[n]? = some (.ins C fs)) (hc : Cls K C) (hn : NoAttr K C f) (hl : fs.length < 1000) (h2 : θ.set n (.ins C (putFG f y fs)) = θ2) (q : nx Γ θ2) :
    ∃ n' C' fs', D.obj n = .obj n' ∧ θ[n']? = some (.ins C' fs') ∧ Cls K C' ∧ NoAttr K C' f ∧ fs'.length < 1000 ∧ nx Γ (θ.set n' (.ins C' (putFG f y fs'))) := ⟨n, C, fs, rfl, h, hc, hn, hl, by rw [h2]; exact q⟩
theorem v_meth {P : Program} {w : World} {mg : Str → Option Value} {base : Heap} {lv : Nat} {rs : AAR} {A : ASp} (h : θ[n]? = some (.ins C fs)) (g : GM P w K mg base lv C f A) (hl : fs.lookup f = none) (q : rs Γ θ (fun ds θ2 => A (.obj n :: ds) θ2 k kx) kx) :
    ∃ n' C' fs' A', D.obj n = .obj n' ∧ θ[n']? = some (.ins C' fs') ∧ GM P w K mg base lv C' f A' ∧ fs'.lookup f = none ∧ rs Γ θ (fun ds θ2 => A' (D.obj n :: ds) θ2 k kx) kx := ⟨n, C, fs, A, rfl, h, g, hl, q⟩
theorem v_put {nx : AB.G → Th → Prop} {e e' : Ent} {y v : D} {θ2 : Th} (h : θ[n]? = some e) (hx : ∀ xs, e ≠ .lst xs) (hp : dPutE e y v = some e') (h2 : θ.set n e' = θ2) (q : nx Γ θ2) :
    ∃ n' e1 e1', D.obj n = .obj n' ∧ θ[n']? = some e1 ∧ (∀ xs, e1 ≠ .lst xs) ∧ dPutE e1 y v = some e1' ∧ nx Γ (θ.set n' e1') := ⟨n, e, e', rfl, h, hx, hp, by rw [h2]; exact q⟩
theorem v_pop1 {kvs : List (Key × D)} {kk : Key} {y v : D} {θ2 : Th} (h : θ[n]? = some (.dK kvs)) (hk : keyD y = some kk) (hv : valG kvs kk = some v) (h2 : θ.set n (.dK (dropG kvs kk)) = θ2) (q : k v θ2) :
    ∃ n' kvs' kk' v', D.obj n = .obj n' ∧ θ[n']? = some (.dK kvs') ∧ keyD y = some kk' ∧ valG kvs' kk' = some v' ∧ k v' (θ.set n' (.dK (dropG kvs' kk'))) := ⟨n, kvs, kk, v, rfl, h, hk, hv, by rw [h2]; exact q⟩
theorem v_popT {kvs : List (List Key × D)} {ds : List D} {ks : List Key} {v : D} {θ2 : Th} (h : θ[n]? = some (.dT kvs)) (hk : keysD ds = some ks) (hv : valG kvs ks = some v) (h2 : θ.set n (.dT (dropG kvs ks)) = θ2) (q : k v θ2) :
    ∃ n' kvs' ds' ks' v', D.obj n = .obj n' ∧ [D.tup ds] = [.tup ds'] ∧ θ[n']? = some (.dT kvs') ∧ keysD ds' = some ks' ∧ valG kvs' ks' = some v' ∧ k v' (θ.set n' (.dT (dropG kvs' ks'))) := ⟨n, kvs, ds, ks, v, rfl, rfl, h, hk, hv, by rw [h2]; exact q⟩
theorem v_isT {kvs : List (List Key × D)} (h : θ[n]? = some (.dT kvs)) : ∃ n' kvs', D.obj n = .obj n' ∧ θ[n']? = some (.dT kvs') := ⟨n, kvs, rfl, h⟩
theorem v_isDK {kvs : List (Key × D)} (h : θ[n]? = some (.dK kvs)) : isDic θ (.obj n) := ⟨n, _, rfl, h, .inl ⟨kvs, rfl⟩⟩
theorem v_isDT {kvs : List (List Key × D)} (h : θ[n]? = some (.dT kvs)) : isDic θ (.obj n) := ⟨n, _, rfl, h, .inr (.inr ⟨kvs, rfl⟩)⟩
theorem v_isDL {kvs : List (Key × D)} (h : θ[n]? = some (.lk kvs)) : isDic θ (.obj n) := ⟨n, _, rfl, h, .inr (.inl ⟨kvs, rfl⟩)⟩
theorem dGet_K {kvs : List (Key × D)} {y : D} {kk : Key} (h : θ[n]? = some (.dK kvs)) (hk : keyD y = some kk) : dGet θ (.obj n) y = some (valG kvs kk) := by
  show θ[n]?.bind (fun e => dGetE e y) = _
  rw [h]
  show (keyD y).map (valG kvs) = _
  rw [hk]; rfl
theorem dGet_L {kvs : List (Key × D)} {y : D} {kk : Key} (h : θ[n]? = some (.lk kvs)) (hk : keyD y = some kk) : dGet θ (.obj n) y = some (valG kvs kk) := by
  show θ[n]?.bind (fun e => dGetE e y) = _
  rw [h]
  show (keyD y).map (valG kvs) = _
  rw [hk]; rfl
theorem dGet_T {kvs : List (List Key × D)} {ds : List D} {ks : List Key} (h : θ[n]? = some (.dT kvs)) (hk : keysD ds = some ks) : dGet θ (.obj n) (.tup ds) = some (valG kvs ks) := by
  show θ[n]?.bind (fun e => dGetE e (.tup ds)) = _
  rw [h]
  show (keysD ds).map (valG kvs) = _
  rw [hk]; rfl
theorem v_inD {x : D} {r : Option D} (h : dGet θ (.obj n) x = some r) (q : k (.bl r.isSome) θ) : fIn x (.obj n) θ k := ⟨_, .inr (.inr ⟨r, h, rfl⟩), q⟩
theorem v_ninD {x : D} {r : Option D} (h : dGet θ (.obj n) x = some r) (q : k (.bl (!r.isSome)) θ) : fNotIn x (.obj n) θ k := ⟨_, .inr (.inr ⟨r, h, rfl⟩), q⟩
theorem v_ixD {x : D} (h : dGet θ (.obj n) x = some (some d)) (q : k d θ) : fIx (.obj n) x θ k := .inr (.inr ⟨d, h, q⟩)
theorem v_get {x z : D} {r : Option D} (h : dGet θ (.obj n) x = some r) (q : k (r.getD z) θ) : ∃ r', dGet θ (.obj n) x = some r' ∧ k (r'.getD z) θ := ⟨r, h, q⟩
end
theorem th_app {θ : Th} {n : Nat} {e : Ent} {es : Th} (h : θ[n]? = some e) : (θ ++ es)[n]? = some e := by
  rw [List.getElem?_append_left (List.getElem?_eq_some_iff.mp h).1]; exact h
theorem th_set {θ : Th} {n m : Nat} {e e' : Ent} (h : θ[n]? = some e) (hne : m ≠ n) : (θ.set m e')[n]? = some e := by rw [List.getElem?_set_ne hne]; exact h
theorem th_same {θ : Th} {n : Nat} {e e' : Ent} (h : θ[n]? = some e) : (θ.set n e')[n]? = some e' := List.getElem?_set_self (List.getElem?_eq_some_iff.mp h).1
end AB
namespace AB
open PySem PySem.Spec PyProof.Rows L2 TL
/-! ### try .. except -/
/-- the suite's ends: nothing raised -/
abbrev eSuite (E : AE) : AE := ⟨E.nx, E.rt, E.bk, E.ct, fun _ _ _ => False⟩
abbrev eSuiteAs (E : AE) (i : Nat) : AE := ⟨fun Γ θ => E.nx (Γ.set i none) θ, E.rt, fun Γ θ => E.bk (Γ.set i none) θ, fun Γ θ => E.ct (Γ.set i none) θ, fun _ _ _ => False⟩
def aTryOnly (K : PySem.W.Frag) (c : Value) (s : ASR) (h : Value → ASR) : ASR := fun E Γ θ => s { E with ex := fun cls Γ1 θ1 => ∃ b, PySem.W.exmOne K cls c = some b ∧ ifB b (h cls (eSuite E) Γ1 θ1) (E.ex cls Γ1 θ1) } Γ θ
def aTryAs (K : PySem.W.Frag) (c : Value) (i : Nat) (s : ASR) (h : Addr → Value → ASR) : ASR := fun E Γ θ => s { E with ex := fun cls Γ1 θ1 => ∃ b, PySem.W.exmOne K cls c = some b ∧ ifB b (∀ a, h a cls (eSuiteAs E i) (Γ1.set i (some (.raw (.ref a)))) θ1) (E.ex cls Γ1 θ1) } Γ θ
section
variable {X : Cx} {W : WX} {x n : Str} {c : Value} {i : Nat} {body suite : List Stmt} {b₀ : Stmt} {np pos pos' : Pos} {s : ASR}
theorem LkE.forSuite {K : PySem.W.Frag} {α : Nat → Addr} {m : Nat} {H : Hp} {W : WX} {E : AE} {Dn : Ends} (lk : LkE K α m H W E Dn) : LkE K α m H W0 (eSuite E) Dn := ⟨lk.nx, lk.rt, lk.bk, lk.ct, fun _ _ _ _ _ _ _ _ _ z => z.elim⟩
theorem Slots.unset {K : PySem.W.Frag} {H : Hp} {α : Nat → Addr} {N : Nat} {σ : L2.St} {Γ : AB.G} (i : Nat) (h : Slots K H α N σ Γ) : Slots K H α N (σ.set i none) (Γ.set i none) := by
  refine ⟨by rw [List.length_set, List.length_set]; exact h.1, fun j e q => ?_⟩
  by_cases hj : i = j
  · subst hj
    have hl : i < Γ.length := by
      have := (List.getElem?_eq_some_iff.mp q).1
      rwa [List.length_set] at this
    rw [List.getElem?_set_self hl] at q
    cases q
  · rw [List.getElem?_set_ne hj] at q
    obtain ⟨v, h1, h2⟩ := h.2 j e q
    exact ⟨v, by rw [List.getElem?_set_ne hj]; exact h1, h2⟩
theorem xs_try_only {h : Value → ASR} (hs : X.stack = X.env :: X.outer) (hf : X.env.frame = some X.env.locals) (hc : Names X x c) (tk : Takes X W)
    (hb : ∀ (W' : WX) (pn : List (Addr × Obj)) (xe : Value → Shared → Prop), Takes (X.tr pn xe) W' → PassesOwn (model X.prog X.w) X.A X.env xe → XSs (X.tr pn xe) W' body s)
    (hsu : ∀ (a : Addr) (oe : Obj) (cls : Value) (d : Option Addr) (pn : List (Addr × Obj)), Zc cls d oe → (∃ vs, oe.data = .fields vs) → XSs (X.suite a ((a, oe) :: pn)) W0 (b₀ :: suite) (h cls)) :
    XS X W (.Try body [.ExceptHandler (some (.Name x np)) none (b₀ :: suite) pos'] [] [] pos) (aTryOnly X.K c s h) :=
  ps_imp (ps_try_only (tb := fun W' => LS X.K W' s) (ts := fun _ cls _ => LS X.K W0 (h cls)) (Wout := W) hs hf hc tk hb hsu) (by
    rintro Dn σ H ⟨α, θ, Γ, E, S, G, q, lk⟩
    refine ⟨α, θ, Γ, _, S, G, q, ⟨lk.nx, lk.rt, lk.bk, lk.ct, fun cls Γ1 θ1 α1 σ1 H1 n1 S1 G1 ⟨b, e, q1⟩ => ⟨b, e, fun hb => ?_, fun hb => ?_⟩⟩⟩
    · intro a _
      exact ⟨α1, θ1, Γ1, _, S1, G1, q1.1 hb, (lk.on n1).forSuite⟩
    · exact lk.ex cls Γ1 θ1 α1 σ1 H1 n1 S1 G1 (q1.2 hb))
theorem xs_try_as {h : Addr → Value → ASR} (hs : X.stack = X.env :: X.outer) (hf : X.env.frame = some X.env.locals) (hN : X.N.Nodup) (hi : X.N[i]? = some n) (hln : X.env.kindOf n = some .local) (hc : Names X x c) (tk : Takes X W)
    (hb : ∀ (W' : WX) (pn : List (Addr × Obj)) (xe : Value → Shared → Prop), Takes (X.tr pn xe) W' → PassesOwn (model X.prog X.w) X.A X.env xe → XSs (X.tr pn xe) W' body s)
    (hsu : ∀ (a : Addr) (oe : Obj) (cls : Value) (pn : List (Addr × Obj)), Zc cls none oe → (∃ vs, oe.data = .fields vs) → XSs (X.suite a ((a, oe) :: pn)) W0 (b₀ :: suite) (h a cls)) :
    XS X W (.Try body [.ExceptHandler (some (.Name x np)) (some n) (b₀ :: suite) pos'] [] [] pos) (aTryAs X.K c i s h) :=
  ps_imp (ps_try_as (i := i) (tb := fun W' => LS X.K W' s) (ts := fun a cls d => fun Dn σ H => d = none ∧ LS X.K W0 (h a cls) Dn σ H) (Wout := W) hs hf hN hi hln hc tk hb (fun a oe cls d pn hz hv => ⟨fun pins s1 σ1 H1 D1 I1 ⟨hd, q⟩ => by
      subst hd
      exact (hsu a oe cls pn hz hv).run pins s1 σ1 H1 D1 I1 q⟩)) (by
    rintro Dn σ H ⟨α, θ, Γ, E, S, G, q, lk⟩
    refine ⟨α, θ, Γ, _, S, G, q, ⟨lk.nx, lk.rt, lk.bk, lk.ct, fun cls Γ1 θ1 α1 σ1 H1 n1 S1 G1 ⟨b, e, q1⟩ => ⟨b, e, fun hb => ?_, fun hb => ?_⟩⟩⟩
    · intro a _
      refine ⟨rfl, α1, θ1, Γ1.set i (some (.raw (.ref a))), eSuiteAs E i, S1, G1.set i (by unfold Rep; rfl), q1.1 hb a, ?_⟩
      exact ⟨fun Γ2 θ2 α2 σ2 H2 n2 S2 G2 q2 => lk.nx _ θ2 α2 _ H2 (n1.trans n2) S2 (G2.unset i) q2, (lk.on n1).rt, fun Γ2 θ2 α2 σ2 H2 n2 S2 G2 q2 => lk.bk _ θ2 α2 _ H2 (n1.trans n2) S2 (G2.unset i) q2,
        fun Γ2 θ2 α2 σ2 H2 n2 S2 G2 q2 => lk.ct _ θ2 α2 _ H2 (n1.trans n2) S2 (G2.unset i) q2, fun _ _ _ _ _ _ _ _ _ z => z.elim⟩
    · exact lk.ex cls Γ1 θ1 α1 σ1 H1 n1 S1 G1 (q1.2 hb))
/-- isinstance(e, C), e the error that is held -/
def fIsE (K : PySem.W.Frag) (a : Addr) (cls : Value) : FA := fun xs θ k => ∃ D c cv b, cls = .ref D ∧ ExcC K D ∧ xs = [.raw (.ref a), .raw c] ∧ (∀ u, RelV c u → u = cv) ∧ PySem.W.kitOne K (.ref D) cv = some b ∧ k (.bl b) θ
def rIsE' (K : PySem.W.Frag) (a : Addr) (cls : Value) : List V → Hp → VK → Prop := fun xs H Q => ∃ D c cv b, cls = .ref D ∧ ExcC K D ∧ xs = [.ref a, c] ∧ (∀ u, RelV c u → u = cv) ∧ PySem.W.kitOne K (.ref D) cv = some b ∧ Q (.bl b) H
theorem call_isE' {a : Addr} {oe : Obj} {cls : Value} {pn : List (Addr × Obj)} (hz : Zc cls none oe) (hf : ∃ vs, oe.data = .fields vs) : CallR (X.suite a ((a, oe) :: pn)) (.builtin "isinstance") (rIsE' X.K a cls) := by
  intro pins s σ H xs us Q I r ⟨D, c, cv, b, e1, C, e2, h1, h2, q⟩
  subst e1
  exact call_isE C hz hf pins s σ H xs us Q I r ⟨c, cv, b, e2, h1, h2, q⟩
theorem sim_isE {K : PySem.W.Frag} {a : Addr} {cls : Value} : SimA K (fIsE K a cls) (rIsE' K a cls) := by
  intro α θ H xs vs k Q S r ⟨D, c, cv, b, e1, C, e2, h1, h2, q⟩ lk
  subst e2
  obtain ⟨v, w, rfl, r1, r2⟩ := rep2 r
  unfold Rep at r1 r2
  subst r1 r2
  exact ⟨D, _, cv, b, e1, C, rfl, h1, h2, lk.at S (by unfold Rep; rfl) q⟩
theorem xf_isE {a : Addr} {oe : Obj} {cls : Value} {pn : List (Addr × Obj)} {W : WX} {e : Expr} {es : List Expr} {rs : AAR} {p : Pos} (hz : Zc cls none oe) (hf : ∃ vs, oe.data = .fields vs) (hg : Gl (X.suite a ((a, oe) :: pn)) "isinstance") (hm : NoN (X.suite a ((a, oe) :: pn)) "isinstance") (ha : XA (X.suite a ((a, oe) :: pn)) W (e :: es) rs)
    (he : starEach (e :: es) X.env = (false, eval e X.env) :: starEach es X.env := by rfl) (hpl : (backTo pos (starEach es X.env)).any (·.1) = false := by rfl) :
    XE' (X.suite a ((a, oe) :: pn)) W (.Call (.Name "isinstance" p) (e :: es) [] pos) (aCB (fIsE X.K a cls) rs) := xe_cb (call_isE' hz hf) sim_isE hg hm bt_isinstance ha (by decide) (by decide) he hpl
end
/-- a class of the module, as a value -/
theorem xe_gcls {X : Cx} {W : WX} {x : Str} {C : Addr} {pos : Pos} (hg : Gl X x) (h : X.mg x = some (.ref C)) (hd : (x == ("__debug__" : Str)) = false := by decide) : XE' X W (.Name x pos) (aC (.raw (.ref C))) :=
  xe_glob (v := .ref C) hg ⟨_, h, rfl⟩ (fun _ _ _ => by unfold Rep; rfl) hd
/-- an own error class, raised by raise X('..') -/
structure RaiseOk (K : PySem.W.Frag) (mg : Str → Option Value) (x : Str) (C : Addr) : Prop where
  g : mg x = some (.ref C)
  x : PySem.W.excIn K C [.type "ValueError", .type "Exception", .type "BaseException", .type "object"] "ValueError.__new__" = true
  k : PySem.W.keepIn K (.ref C) = true
  b : PySem.W.subIn K (.ref C) (.type "BaseException") = some true
  t : PySem.W.typeIn K (.ref C) = some (.type "type")
theorem xs_raiseC {X : Cx} {W : WX} {x m : Str} {C : Addr} {j : Nat} {p p2 pos pos2 : Pos} (hc : X.calm = true) (tk : Takes X W) (R : RaiseOk X.K X.mg x C) (hg : Gl X x) (hd : (x == ("__debug__" : Str)) = false := by decide) :
    XS X W (.Raise (some (.Call (.Name x p) [.Constant (.str m) j p2] [] pos)) none pos2) (aRaise C) :=
  xs_raise hc tk (pmk_own PySem.F.excBase_ValueError R.x R.g R.k (raises_own R.b R.t) hg hd)
end AB
namespace AB
open PySem PySem.Spec PyProof.Rows L2 TL
/-! ### a state cut: what lies ahead, what follows -/
class Len (pre : Th) (n : Nat) : Prop where
  e : pre.length = n
section
variable {pre l : Th} {n : Nat} {e : Ent}
theorem ga0 [h : Len pre n] : (pre ++ l)[n]? = l[0]? := by rw [← h.e, List.getElem?_append_right (Nat.le_refl _), Nat.sub_self]
theorem ga (i : Nat) [h : Len pre n] : (pre ++ l)[n + i]? = l[i]? := by rw [← h.e, List.getElem?_append_right (Nat.le_add_right _ _), Nat.add_sub_cancel_left]
theorem sa0 [h : Len pre n] : (pre ++ l).set n e = pre ++ l.set 0 e := by rw [← h.e, List.set_append_right _ _ (Nat.le_refl _), Nat.sub_self]
theorem sa (i : Nat) [h : Len pre n] : (pre ++ l).set (n + i) e = pre ++ l.set i e := by rw [← h.e, List.set_append_right _ _ (Nat.le_add_right _ _), Nat.add_sub_cancel_left]
instance Len.nil : Len [] 0 := ⟨rfl⟩
end
/-! ### dicts seen through maps -/
section
variable {κ κ' β γ : Type} [DecidableEq κ] [DecidableEq κ'] {f : κ → κ'} {g : β → γ}
def mapG (f : κ → κ') (g : β → γ) (m : List (κ × β)) : List (κ' × γ) := m.map fun p => (f p.1, g p.2)
def Inj (f : κ → κ') : Prop := ∀ a b, f a = f b → a = b
theorem mapG_len {m : List (κ × β)} : (mapG f g m).length = m.length := by unfold mapG; simp
theorem valG_map (hf : Inj f) : ∀ (m : List (κ × β)) (k : κ), valG (mapG f g m) (f k) = (valG m k).map g
  | [], _ => rfl
  | p :: m, k => by
    have ih := valG_map hf m k
    unfold valG mapG at *
    rw [List.map_cons, List.find?_cons, List.find?_cons]
    by_cases e : p.1 = k
    · rw [decide_eq_true (show f p.1 = f k by rw [e]), decide_eq_true e]
      rfl
    · rw [decide_eq_false (fun z => e (hf _ _ z)), decide_eq_false e]
      exact ih
theorem anyG_map (hf : Inj f) (m : List (κ × β)) (k : κ) : ((mapG f g m).any fun kv => decide (kv.1 = f k)) = m.any fun kv => decide (kv.1 = k) := by
  unfold mapG
  rw [List.any_map]
  congr 1
  funext p
  exact decide_eq_decide.mpr ⟨fun z => hf _ _ z, fun z => congrArg f z⟩
theorem putG_map (hf : Inj f) (m : List (κ × β)) (k : κ) (v : β) : putG (mapG f g m) (f k) (g v) = mapG f g (putG m k v) := by
  unfold putG
  rw [anyG_map hf]
  split
  · unfold mapG
    rw [List.map_map, List.map_map]
    congr 1
    funext p
    show (if f p.1 = f k then (f p.1, g v) else (f p.1, g p.2)) = _
    by_cases e : p.1 = k
    · rw [if_pos (by rw [e])]
      show _ = (f (if p.1 = k then (p.1, v) else p).1, g (if p.1 = k then (p.1, v) else p).2)
      rw [if_pos e]
    · rw [if_neg (fun z => e (hf _ _ z))]
      show _ = (f (if p.1 = k then (p.1, v) else p).1, g (if p.1 = k then (p.1, v) else p).2)
      rw [if_neg e]
  · unfold mapG
    rw [List.map_append]
    rfl
theorem dropG_map (hf : Inj f) (m : List (κ × β)) (k : κ) : dropG (mapG f g m) (f k) = mapG f g (dropG m k) := by
  unfold dropG mapG
  rw [List.filter_map]
  congr 1
  refine List.filter_congr fun p _ => ?_
  exact decide_eq_decide.mpr ⟨fun z w => z (by show f p.1 = f k; rw [w]), fun z w => z (hf _ _ w)⟩
theorem keysG_map {m : List (κ × β)} : (mapG f g m).map (·.1) = (m.map (·.1)).map f := by unfold mapG; rw [List.map_map, List.map_map]; rfl
theorem valG_put_same (m : List (κ × β)) (k : κ) (v : β) : valG (putG m k v) k = some v := by
  unfold putG
  split
  · rename_i h
    unfold valG
    rw [List.find?_map]
    obtain ⟨p, hp, hk⟩ := List.any_eq_true.mp h
    have hk' : p.1 = k := of_decide_eq_true hk
    have e : ((fun kv : κ × β => decide (kv.1 = k)) ∘ fun kv => if kv.1 = k then (kv.1, v) else kv) = fun kv => decide (kv.1 = k) := by
      funext q
      show decide ((if q.1 = k then (q.1, v) else q).1 = k) = _
      by_cases e : q.1 = k
      · rw [if_pos e]
      · rw [if_neg e]
    rw [e]
    cases ef : m.find? (fun kv => decide (kv.1 = k)) with
    | none => exact absurd (List.find?_eq_none.mp ef p hp) (by simp [hk'])
    | some q =>
      have hq : q.1 = k := by have := List.find?_some ef; exact of_decide_eq_true this
      show some (if q.1 = k then (q.1, v) else q).2 = some v
      rw [if_pos hq]
  · rename_i h
    unfold valG
    rw [List.find?_append]
    have : m.find? (fun kv => decide (kv.1 = k)) = none := List.find?_eq_none.mpr fun p hp hk => h (List.any_eq_true.mpr ⟨p, hp, hk⟩)
    rw [this]
    simp
theorem valG_put_other (m : List (κ × β)) {k k' : κ} (v : β) (hne : k' ≠ k) : valG (putG m k v) k' = valG m k' := by
  unfold putG
  split
  · unfold valG
    rw [List.find?_map]
    have e : ((fun kv : κ × β => decide (kv.1 = k')) ∘ fun kv => if kv.1 = k then (kv.1, v) else kv) = fun kv => decide (kv.1 = k') := by
      funext q
      show decide ((if q.1 = k then (q.1, v) else q).1 = k') = _
      by_cases e : q.1 = k
      · rw [if_pos e]
      · rw [if_neg e]
    rw [e]
    cases ef : m.find? (fun kv => decide (kv.1 = k')) with
    | none => rfl
    | some q =>
      have hq : q.1 = k' := by have := List.find?_some ef; exact of_decide_eq_true this
      show some (if q.1 = k then (q.1, v) else q).2 = some q.2
      rw [if_neg (fun z => hne (hq.symm.trans z))]
  · unfold valG
    rw [List.find?_append]
    cases ef : m.find? (fun kv => decide (kv.1 = k')) with
    | none => simp [Ne.symm hne]
    | some q => rfl
theorem valG_drop_same (m : List (κ × β)) (k : κ) : valG (dropG m k) k = none := by
  unfold valG dropG
  rw [Option.map_eq_none_iff, List.find?_eq_none]
  intro p hp
  have := (List.mem_filter.mp hp).2
  simpa using this
theorem valG_drop_other (m : List (κ × β)) {k k' : κ} (hne : k' ≠ k) : valG (dropG m k) k' = valG m k' := by
  unfold valG dropG
  rw [List.find?_filter]
  congr 2
  funext p
  by_cases e : p.1 = k'
  · simp [e, hne]
  · simp [e]
theorem dropG_len (m : List (κ × β)) (k : κ) : (dropG m k).length ≤ m.length := List.length_filter_le _ _
end
theorem inj_str : Inj fun k : List Nat => (Sum.inr (S k) : Key) := fun a b h => by
  have := Sum.inr.inj h
  exact S_inj.mp this
theorem inj_int : Inj fun i : Int => (Sum.inl i : Key) := fun a b h => Sum.inl.inj h
theorem inj_pair : Inj fun p : List Nat × Int => ([Sum.inr (S p.1), Sum.inl p.2] : List Key) := fun a b h => by
  injection h with h1 h2
  injection h2 with h3 _
  exact Prod.ext (inj_str _ _ h1) (Sum.inl.inj h3)
theorem dPutE_K {kvs : List (Key × D)} {y v : D} {kk : Key} (h : kvs.length < 100000) (hk : keyD y = some kk) : dPutE (.dK kvs) y v = some (.dK (putG kvs kk v)) := by
  show (if kvs.length < 100000 then (keyD y).map fun k => Ent.dK (putG kvs k v) else none) = _
  rw [if_pos h, hk]; rfl
theorem dPutE_T {kvs : List (List Key × D)} {ds : List D} {v : D} {ks : List Key} (h : kvs.length < 100000) (hk : keysD ds = some ks) : dPutE (.dT kvs) (.tup ds) v = some (.dT (putG kvs ks v)) := by
  show (if kvs.length < 100000 then (keysD ds).map fun k => Ent.dT (putG kvs k v) else none) = _
  rw [if_pos h, hk]; rfl
/-! ### the data of a store -/
structure Rw where
  v : Int
  day : Int
  x : Option (List Nat × List Nat)
  deriving DecidableEq
def Rw.data (r : Rw) : Option (List Nat) := r.x.map (·.1)
def Rw.tot (r : Rw) : Option (List Nat) := r.x.map (·.2)
def oD : Option (List Nat) → D
  | none => .non
  | some l => .str (S l)
@[reducible] def Rw.d (r : Rw) : D := .tup [.int r.v, .int r.day, oD r.data, oD r.tot]
theorem isD_oD (o : Option (List Nat)) : isD (oD o) .non = some o.isNone := by cases o <;> rfl
theorem w_ifTe {b : Bool} {A B : Prop} (hb : b = true) (h : A) : ifB b A B := by subst hb; exact w_ifT h
theorem w_ifFe {b : Bool} {A B : Prop} (hb : b = false) (h : B) : ifB b A B := by subst hb; exact w_ifF h
theorem oD_lt (o : Option (List Nat)) (n : Nat) : D.lt n (oD o) := by cases o <;> (unfold oD D.lt; trivial)
structure Sh where
  rows : List (List Nat × List Rw)
  til : List ((List Nat × Int) × Int)
def rowsK (k : List Nat) : Key := Sum.inr (S k)
def rowsV (rs : List Rw) : D := .lst (rs.map Rw.d)
def tilK (p : List Nat × Int) : List Key := [Sum.inr (S p.1), Sum.inl p.2]
theorem inj_rows : Inj rowsK := inj_str
theorem inj_til : Inj tilK := inj_pair
def Sh.rowsD (s : Sh) : List (Key × D) := mapG rowsK rowsV s.rows
def Sh.tilD (s : Sh) : List (List Key × D) := mapG tilK D.int s.til
def Sh.at (s : Sh) (k : List Nat) : List Rw := (valG s.rows k).getD []
/-- a shelf's three entries; C its class -/
def shl (C : Addr) (n : Nat) (s : Sh) : Th := [.ins C [("rows", .obj (n + 1)), ("until", .obj (n + 2))], .dK s.rowsD, .dT s.tilD]
/-- bounds -/
structure Sh.Ok (s : Sh) (b : Nat) : Prop where
  n : s.rows.length ≤ b
  r : ∀ p ∈ s.rows, p.2.length ≤ b
  t : s.til.length ≤ b
  d : ∀ p ∈ s.rows, ∀ r ∈ p.2, ∀ l, r.data = some l → l.length ≤ 50000 ∧ SOk l
  o : ∀ p ∈ s.rows, ∀ r ∈ p.2, ∀ l, r.tot = some l → l.length ≤ 50000 ∧ SOk l
theorem valG_mem {κ β : Type} [DecidableEq κ] {m : List (κ × β)} {k : κ} {v : β} (h : valG m k = some v) : (k, v) ∈ m := by
  unfold valG at h
  obtain ⟨p, h1, h2⟩ := Option.map_eq_some_iff.mp h
  have e := List.find?_some h1
  have e' : p.1 = k := of_decide_eq_true e
  have := List.mem_of_find?_eq_some h1
  rw [← e', ← h2]
  exact this
theorem Sh.at_mem {s : Sh} {k : List Nat} {r : Rw} (h : r ∈ s.at k) : ∃ p ∈ s.rows, r ∈ p.2 := by
  unfold Sh.at at h
  cases e : valG s.rows k with
  | none => rw [e] at h; cases h
  | some rs => rw [e] at h; exact ⟨(k, rs), valG_mem e, h⟩
theorem Sh.at_len {s : Sh} {b : Nat} (h : s.Ok b) (k : List Nat) : (s.at k).length ≤ b := by
  unfold Sh.at
  cases e : valG s.rows k with
  | none => simp
  | some rs => exact h.r _ (valG_mem e)
theorem find_at {α : Type} {p : α → Bool} {xs : List α} {i : Nat} {r : α} (h0 : (xs.take i).find? p = none) (h : xs[i]? = some r) (hp : p r = true) : xs.find? p = some r := by
  have e : xs = xs.take i ++ r :: xs.drop (i + 1) := by
    have hi : i < xs.length := (List.getElem?_eq_some_iff.mp h).1
    have hr : xs[i] = r := (List.getElem?_eq_some_iff.mp h).2
    rw [← hr, ← List.drop_eq_getElem_cons hi, List.take_append_drop]
  rw [e, List.find?_append, h0]
  simp [hp]
theorem find_next {α : Type} {p : α → Bool} {xs : List α} {i : Nat} {r : α} (h0 : (xs.take i).find? p = none) (h : xs[i]? = some r) (hp : p r = false) : (xs.take (i + 1)).find? p = none := by
  rw [List.take_succ, h, List.find?_append, h0]
  simp [hp]
theorem map_get {α β : Type} {f : α → β} {xs : List α} {i : Nat} {d : β} (h : (xs.map f)[i]? = some d) : ∃ x, xs[i]? = some x ∧ d = f x := by
  rw [List.getElem?_map] at h
  obtain ⟨x, h1, h2⟩ := Option.map_eq_some_iff.mp h
  exact ⟨x, h1, h2.symm⟩
theorem shl_put {s : Sh} (k : List Nat) (rs : List Rw) : putG s.rowsD (Sum.inr (S k)) (rowsV rs) = mapG rowsK rowsV (putG s.rows k rs) := putG_map inj_rows s.rows k rs
theorem til_val {s : Sh} (k : List Nat) (v : Int) : valG s.tilD [Sum.inr (S k), Sum.inl v] = (valG s.til (k, v)).map D.int := valG_map inj_til s.til (k, v)
theorem til_drop {s : Sh} (k : List Nat) (v : Int) : dropG s.tilD [Sum.inr (S k), Sum.inl v] = mapG tilK D.int (dropG s.til (k, v)) := dropG_map inj_til s.til (k, v)
theorem til_put {s : Sh} (k : List Nat) (v u : Int) : putG s.tilD [Sum.inr (S k), Sum.inl v] (.int u) = mapG tilK D.int (putG s.til (k, v) u) := putG_map inj_til s.til (k, v) u
theorem Rw.lt (r : Rw) (n : Nat) : D.lt n r.d := by
  unfold Rw.d D.lt
  unfold D.lts D.lt
  refine ⟨trivial, ?_⟩
  unfold D.lts D.lt
  refine ⟨trivial, ?_⟩
  unfold D.lts
  refine ⟨oD_lt _ _, ?_⟩
  unfold D.lts
  refine ⟨oD_lt _ _, ?_⟩
  unfold D.lts
  trivial
theorem at_end {θ : Th} {e : Ent} : (θ ++ [e])[θ.length]? = some e := by rw [List.getElem?_append_right (Nat.le_refl _), Nat.sub_self]; rfl
theorem set_end {θ : Th} {e e' : Ent} : (θ ++ [e]).set θ.length e' = θ ++ [e'] := by rw [List.set_append_right _ _ (Nat.le_refl _), Nat.sub_self]; rfl
theorem valG_of_mem {κ β : Type} [DecidableEq κ] {m : List (κ × β)} (nd : (m.map (·.1)).Nodup) {p : κ × β} (h : p ∈ m) : valG m p.1 = some p.2 := by
  induction m with
  | nil => cases h
  | cons q m ih =>
    rw [List.map_cons, List.nodup_cons] at nd
    unfold valG at *
    rw [List.find?_cons]
    rcases List.mem_cons.mp h with rfl | h
    · rw [decide_eq_true rfl]; rfl
    · have hne : q.1 ≠ p.1 := fun z => nd.1 (by rw [z]; exact List.mem_map.mpr ⟨p, h, rfl⟩)
      rw [decide_eq_false hne]
      exact ih nd.2 h
theorem sum_filter {α : Type} {f : α → Int} {p : α → Bool} (h : ∀ x, p x = false → f x = 0) : ∀ xs : List α, ((xs.filter p).map f).sum = (xs.map f).sum
  | [] => rfl
  | x :: xs => by
    rw [List.filter_cons, List.map_cons, List.sum_cons]
    cases e : p x with
    | true => rw [if_pos rfl, List.map_cons, List.sum_cons, sum_filter h xs]
    | false => rw [if_neg Bool.false_ne_true, sum_filter h xs, h x e, Int.zero_add]
theorem shl_val {s : Sh} (k : List Nat) : valG s.rowsD (Sum.inr (S k)) = (valG s.rows k).map rowsV := valG_map inj_rows s.rows k
end AB
namespace AB
open PySem PySem.Spec PyProof.Rows L2

local macro_rules | `(tactic| walk_at "gs") => `(tactic| (apply AB.w_start; (· (simp only [startG, List.map_cons, List.map_nil, List.length_cons, List.length_nil, Nat.reduceAdd, Nat.reduceSub, List.replicate_succ, List.replicate_zero, List.cons_append, List.nil_append]; try exact rfl))))
local macro_rules | `(tactic| walk_at "gb") => `(tactic| (first | exact rfl | decide | omega | (apply AB.natAbs_small <;> omega) | (simp only [List.length_append, List.length_map, List.length_cons, List.length_nil, List.length_take, List.length_drop, rep_len, Int.reduceToNat, List.length_range, List.length_reverse, nums_len, signs_len, zipD_len]; omega)))
local macro_rules | `(tactic| walk_at "gh") => `(tactic| (first | exact rfl | assumption | exact AB.sto_get0 | (simp only [List.append_assoc, sa0, sa, ga0, ga, shl, upl, sto, List.cons_append, List.nil_append, List.set_cons_succ, List.set_cons_zero, List.getElem?_cons_zero, List.getElem?_cons_succ]; first | done | exact rfl)))
local macro_rules | `(tactic| walk_at "gx") => `(tactic| first | ((with_reducible apply c_mix); (· decide); (· decide); (· first | decide | omega)) | ((with_reducible apply c_cellI); (· omega)) | (with_reducible apply c_key) | (with_reducible apply c_data))
local macro_rules | `(tactic| walk_at "go1") => `(tactic| ((with_reducible conv => whnf); first
  | ((with_reducible apply Exists.intro); (with_reducible apply And.intro); (· exact rfl))
  | (with_reducible first | apply AB.w_onO | apply AB.w_onN | apply AB.w_tryAs | apply AB.w_tryOnly | apply AB.w_lstRng | apply AB.v_addI | apply AB.w_back | apply AB.v_eqI | apply AB.v_eqSS | apply AB.v_eqS | apply AB.v_eqSI | apply AB.v_eqIS | apply AB.w_ifN | apply AB.v_slT2 | apply AB.v_lt | apply AB.v_gt | apply AB.v_slL | apply AB.v_ordSS | apply AB.v_neI | apply AB.v_neSS | apply AB.v_neS | apply AB.v_inSS | apply AB.v_ninSS | apply AB.v_lenT | apply AB.v_lenL | apply AB.v_lenK | apply AB.v_ltSS | apply AB.v_gtSS | apply AB.v_eqB | apply AB.v_intI | apply AB.v_intB | apply AB.v_allL | apply AB.v_anyL | apply AB.v_sumL | apply AB.v_tupL | apply AB.v_tupT | apply AB.w_ifT | apply AB.w_ifF | apply AB.w_elEnd)
  | ((with_reducible apply AB.w_gN); (· (simp only [List.set_cons_succ, List.set_cons_zero]; try exact rfl)))
  | ((with_reducible apply AB.v_isE); (· assumption); (· assumption))
  | ((with_reducible apply AB.v_isET); (· assumption); (· assumption))
  | ((with_reducible apply AB.v_addSS); (· (first | exact rfl | decide | omega | (apply AB.natAbs_small <;> omega) | (simp only [List.length_append, List.length_map, List.length_cons, List.length_nil, List.length_take, List.length_drop, rep_len, Int.reduceToNat, List.length_range, List.length_reverse, nums_len, signs_len, zipD_len]; omega))))
  | ((with_reducible apply AB.v_addT2); (· (first | exact rfl | decide | omega | (apply AB.natAbs_small <;> omega) | (simp only [List.length_append, List.length_map, List.length_cons, List.length_nil, List.length_take, List.length_drop, rep_len, Int.reduceToNat, List.length_range, List.length_reverse, nums_len, signs_len, zipD_len]; omega))))
  | ((with_reducible apply AB.v_mul); (· (first | exact .inr ⟨by decide, by decide⟩ | exact .inl ⟨by decide, by decide⟩ | omega)))
  | ((with_reducible apply AB.v_lenSS); (· (first | exact rfl | decide | omega | (apply AB.natAbs_small <;> omega) | (simp only [List.length_append, List.length_map, List.length_cons, List.length_nil, List.length_take, List.length_drop, rep_len, Int.reduceToNat, List.length_range, List.length_reverse, nums_len, signs_len, zipD_len]; omega))))
  | ((with_reducible apply AB.v_slS); (· (first | exact rfl | decide | omega | (apply AB.natAbs_small <;> omega) | (simp only [List.length_append, List.length_map, List.length_cons, List.length_nil, List.length_take, List.length_drop, rep_len, Int.reduceToNat, List.length_range, List.length_reverse, nums_len, signs_len, zipD_len]; omega))))
  | ((with_reducible apply AB.v_addL); (· (first | exact rfl | decide | omega | (apply AB.natAbs_small <;> omega) | (simp only [List.length_append, List.length_map, List.length_cons, List.length_nil, List.length_take, List.length_drop, rep_len, Int.reduceToNat, List.length_range, List.length_reverse, nums_len, signs_len, zipD_len]; omega))))
  | ((with_reducible apply AB.v_mulSS); (· (first | exact rfl | decide | omega | (apply AB.natAbs_small <;> omega) | (simp only [List.length_append, List.length_map, List.length_cons, List.length_nil, List.length_take, List.length_drop, rep_len, Int.reduceToNat, List.length_range, List.length_reverse, nums_len, signs_len, zipD_len]; omega))); (· (first | exact rfl | decide | omega | (apply AB.natAbs_small <;> omega) | (simp only [List.length_append, List.length_map, List.length_cons, List.length_nil, List.length_take, List.length_drop, rep_len, Int.reduceToNat, List.length_range, List.length_reverse, nums_len, signs_len, zipD_len]; omega))); (· (first | exact rfl | decide | omega | (apply AB.natAbs_small <;> omega) | (simp only [List.length_append, List.length_map, List.length_cons, List.length_nil, List.length_take, List.length_drop, rep_len, Int.reduceToNat, List.length_range, List.length_reverse, nums_len, signs_len, zipD_len]; omega))))
  | ((with_reducible apply AB.v_isi); (· exact rfl); (· (first | exact AB.kb_NoneType_str | exact AB.kb_NoneType_int | exact AB.kb_NoneType_bool | exact AB.kb_NoneType_tuple | exact AB.kb_NoneType_list | exact AB.kb_bool_str | exact AB.kb_bool_int | exact AB.kb_bool_bool | exact AB.kb_bool_tuple | exact AB.kb_bool_list | exact AB.kb_int_str | exact AB.kb_int_int | exact AB.kb_int_bool | exact AB.kb_int_tuple | exact AB.kb_int_list | exact AB.kb_str_str | exact AB.kb_str_int | exact AB.kb_str_bool | exact AB.kb_str_tuple | exact AB.kb_str_list | exact AB.kb_tuple_str | exact AB.kb_tuple_int | exact AB.kb_tuple_bool | exact AB.kb_tuple_tuple | exact AB.kb_tuple_list | exact AB.kb_list_str | exact AB.kb_list_int | exact AB.kb_list_bool | exact AB.kb_list_tuple | exact AB.kb_list_list)))
  | ((with_reducible apply AB.v_isi2); (· exact rfl); (· (first | exact AB.kb_NoneType_str | exact AB.kb_NoneType_int | exact AB.kb_NoneType_bool | exact AB.kb_NoneType_tuple | exact AB.kb_NoneType_list | exact AB.kb_bool_str | exact AB.kb_bool_int | exact AB.kb_bool_bool | exact AB.kb_bool_tuple | exact AB.kb_bool_list | exact AB.kb_int_str | exact AB.kb_int_int | exact AB.kb_int_bool | exact AB.kb_int_tuple | exact AB.kb_int_list | exact AB.kb_str_str | exact AB.kb_str_int | exact AB.kb_str_bool | exact AB.kb_str_tuple | exact AB.kb_str_list | exact AB.kb_tuple_str | exact AB.kb_tuple_int | exact AB.kb_tuple_bool | exact AB.kb_tuple_tuple | exact AB.kb_tuple_list | exact AB.kb_list_str | exact AB.kb_list_int | exact AB.kb_list_bool | exact AB.kb_list_tuple | exact AB.kb_list_list)); (· (first | exact AB.kb_NoneType_str | exact AB.kb_NoneType_int | exact AB.kb_NoneType_bool | exact AB.kb_NoneType_tuple | exact AB.kb_NoneType_list | exact AB.kb_bool_str | exact AB.kb_bool_int | exact AB.kb_bool_bool | exact AB.kb_bool_tuple | exact AB.kb_bool_list | exact AB.kb_int_str | exact AB.kb_int_int | exact AB.kb_int_bool | exact AB.kb_int_tuple | exact AB.kb_int_list | exact AB.kb_str_str | exact AB.kb_str_int | exact AB.kb_str_bool | exact AB.kb_str_tuple | exact AB.kb_str_list | exact AB.kb_tuple_str | exact AB.kb_tuple_int | exact AB.kb_tuple_bool | exact AB.kb_tuple_tuple | exact AB.kb_tuple_list | exact AB.kb_list_str | exact AB.kb_list_int | exact AB.kb_list_bool | exact AB.kb_list_tuple | exact AB.kb_list_list)); (· first | exact Bool.or_true _ | exact Bool.true_or _ | exact Bool.or_false _))
  | ((with_reducible apply AB.w_lc); (· (simp only [wipeG, List.set_cons_succ, List.set_cons_zero]; try exact rfl)))
  | ((with_reducible apply AB.w_lcS); (· (simp only [wipeG, List.set_cons_succ, List.set_cons_zero]; try exact rfl)))
  | ((with_reducible apply AB.v_lstRng); (· (first | exact rfl | decide | omega | (apply AB.natAbs_small <;> omega) | (simp only [List.length_append, List.length_map, List.length_cons, List.length_nil, List.length_take, List.length_drop, rep_len, Int.reduceToNat, List.length_range, List.length_reverse, nums_len, signs_len, zipD_len]; omega))); (· (first | exact rfl | decide | omega | (apply AB.natAbs_small <;> omega) | (simp only [List.length_append, List.length_map, List.length_cons, List.length_nil, List.length_take, List.length_drop, rep_len, Int.reduceToNat, List.length_range, List.length_reverse, nums_len, signs_len, zipD_len]; omega))))
  | ((with_reducible apply AB.w_elY); (· (simp only [List.set_cons_succ, List.set_cons_zero]; try exact rfl)))
  | ((with_reducible apply AB.w_el); (· (simp only [List.set_cons_succ, List.set_cons_zero]; try exact rfl)))
  | ((with_reducible apply AB.v_append); (· (first | exact rfl | assumption | exact AB.sto_get0 | (simp only [List.append_assoc, sa0, sa, ga0, ga, shl, upl, sto, List.cons_append, List.nil_append, List.set_cons_succ, List.set_cons_zero, List.getElem?_cons_zero, List.getElem?_cons_succ]; first | done | exact rfl))); (· (first | exact rfl | decide | omega | (apply AB.natAbs_small <;> omega) | (simp only [List.length_append, List.length_map, List.length_cons, List.length_nil, List.length_take, List.length_drop, rep_len, Int.reduceToNat, List.length_range, List.length_reverse, nums_len, signs_len, zipD_len]; omega))); (· (simp only [List.set_cons_succ, List.set_cons_zero]; try exact rfl)))
  | ((with_reducible apply AB.v_lenO); (· (first | exact rfl | assumption | exact AB.sto_get0 | (simp only [List.append_assoc, sa0, sa, ga0, ga, shl, upl, sto, List.cons_append, List.nil_append, List.set_cons_succ, List.set_cons_zero, List.getElem?_cons_zero, List.getElem?_cons_succ]; first | done | exact rfl))))
  | ((with_reducible apply AB.v_slO); (· (first | exact rfl | assumption | exact AB.sto_get0 | (simp only [List.append_assoc, sa0, sa, ga0, ga, shl, upl, sto, List.cons_append, List.nil_append, List.set_cons_succ, List.set_cons_zero, List.getElem?_cons_zero, List.getElem?_cons_succ]; first | done | exact rfl))))
  | ((with_reducible apply AB.v_tupO); (· (first | exact rfl | assumption | exact AB.sto_get0 | (simp only [List.append_assoc, sa0, sa, ga0, ga, shl, upl, sto, List.cons_append, List.nil_append, List.set_cons_succ, List.set_cons_zero, List.getElem?_cons_zero, List.getElem?_cons_succ]; first | done | exact rfl))))
  | ((with_reducible apply AB.w_exO); (· (first | exact rfl | assumption | exact AB.sto_get0 | (simp only [List.append_assoc, sa0, sa, ga0, ga, shl, upl, sto, List.cons_append, List.nil_append, List.set_cons_succ, List.set_cons_zero, List.getElem?_cons_zero, List.getElem?_cons_succ]; first | done | exact rfl))))
  | ((with_reducible apply AB.w_truO); (· (first | exact rfl | assumption | exact AB.sto_get0 | (simp only [List.append_assoc, sa0, sa, ga0, ga, shl, upl, sto, List.cons_append, List.nil_append, List.set_cons_succ, List.set_cons_zero, List.getElem?_cons_zero, List.getElem?_cons_succ]; first | done | exact rfl))))
  | ((with_reducible apply AB.v_ixT); (· first | exact rfl | exact atI_nat (j := 0) rfl | exact atI_nat (j := 1) rfl | exact atI_nat (j := 2) rfl))
  | ((with_reducible apply AB.v_ixL); (· first | exact rfl | exact atI_nat (j := 0) rfl))
  | ((with_reducible apply AB.w_elTY); (· (simp only [setLG, List.set_cons_succ, List.set_cons_zero]; try exact rfl)); (· exact rfl))
  | ((with_reducible apply AB.w_elT); (· (simp only [setLG, List.set_cons_succ, List.set_cons_zero]; try exact rfl)); (· exact rfl))
  | ((with_reducible apply AB.w_exR); (· (first | exact rfl | decide | omega | (apply AB.natAbs_small <;> omega) | (simp only [List.length_append, List.length_map, List.length_cons, List.length_nil, List.length_take, List.length_drop, rep_len, Int.reduceToNat, List.length_range, List.length_reverse, nums_len, signs_len, zipD_len]; omega))); (· (first | exact rfl | decide | omega | (apply AB.natAbs_small <;> omega) | (simp only [List.length_append, List.length_map, List.length_cons, List.length_nil, List.length_take, List.length_drop, rep_len, Int.reduceToNat, List.length_range, List.length_reverse, nums_len, signs_len, zipD_len]; omega))))
  | ((with_reducible refine And.intro ?_ ?_); (· first | (exact v_tyS) | (exact v_tyO (by (first | exact rfl | assumption | exact AB.sto_get0 | (simp only [List.append_assoc, sa0, sa, ga0, ga, shl, upl, sto, List.cons_append, List.nil_append, List.set_cons_succ, List.set_cons_zero, List.getElem?_cons_zero, List.getElem?_cons_succ]; first | done | exact rfl)))) | (exact fun _ => trivial) | (exact fun _ => rfl) | (first | exact rfl | assumption | exact AB.sto_get0 | (simp only [List.append_assoc, sa0, sa, ga0, ga, shl, upl, sto, List.cons_append, List.nil_append, List.set_cons_succ, List.set_cons_zero, List.getElem?_cons_zero, List.getElem?_cons_succ]; first | done | exact rfl)) | (exact v_isDK (by (first | exact rfl | assumption | exact AB.sto_get0 | (simp only [List.append_assoc, sa0, sa, ga0, ga, shl, upl, sto, List.cons_append, List.nil_append, List.set_cons_succ, List.set_cons_zero, List.getElem?_cons_zero, List.getElem?_cons_succ]; first | done | exact rfl)))) | (exact v_isDT (by (first | exact rfl | assumption | exact AB.sto_get0 | (simp only [List.append_assoc, sa0, sa, ga0, ga, shl, upl, sto, List.cons_append, List.nil_append, List.set_cons_succ, List.set_cons_zero, List.getElem?_cons_zero, List.getElem?_cons_succ]; first | done | exact rfl)))) | (first | exact rfl | decide | omega | (apply AB.natAbs_small <;> omega) | (simp only [List.length_append, List.length_map, List.length_cons, List.length_nil, List.length_take, List.length_drop, rep_len, Int.reduceToNat, List.length_range, List.length_reverse, nums_len, signs_len, zipD_len]; omega))))
  | ((with_reducible apply Exists.intro); (with_reducible apply Exists.intro); (with_reducible apply Exists.intro); (with_reducible apply Exists.intro); (with_reducible apply And.intro); (· exact rfl); (with_reducible apply And.intro); (· (first | exact rfl | assumption | exact AB.sto_get0 | (simp only [List.append_assoc, sa0, sa, ga0, ga, shl, upl, sto, List.cons_append, List.nil_append, List.set_cons_succ, List.set_cons_zero, List.getElem?_cons_zero, List.getElem?_cons_succ]; first | done | exact rfl))); (with_reducible apply And.intro); (· assumption); (with_reducible apply And.intro); (· assumption); (with_reducible apply And.intro); (· exact rfl))
  | ((with_reducible apply Exists.intro); (with_reducible apply Exists.intro); (with_reducible apply Exists.intro); (with_reducible apply And.intro); (· exact rfl); (with_reducible apply And.intro); (· (first | exact rfl | assumption | exact AB.sto_get0 | (simp only [List.append_assoc, sa0, sa, ga0, ga, shl, upl, sto, List.cons_append, List.nil_append, List.set_cons_succ, List.set_cons_zero, List.getElem?_cons_zero, List.getElem?_cons_succ]; first | done | exact rfl))); (with_reducible apply And.intro); (· assumption); (with_reducible apply And.intro); (· assumption); (with_reducible apply And.intro); (· exact of_decide_eq_true rfl))
  | ((with_reducible apply Exists.intro); (with_reducible apply Exists.intro); (with_reducible apply Exists.intro); (with_reducible apply Exists.intro); (with_reducible apply And.intro); (· exact rfl); (with_reducible apply And.intro); (· (first | exact rfl | assumption | exact AB.sto_get0 | (simp only [List.append_assoc, sa0, sa, ga0, ga, shl, upl, sto, List.cons_append, List.nil_append, List.set_cons_succ, List.set_cons_zero, List.getElem?_cons_zero, List.getElem?_cons_succ]; first | done | exact rfl))); (with_reducible apply And.intro); (· assumption); (with_reducible apply And.intro); (· exact rfl))
  | ((with_reducible apply Exists.intro); (with_reducible apply Exists.intro); (with_reducible apply Exists.intro); (with_reducible apply And.intro); (· exact rfl); (with_reducible apply And.intro); (· (first | exact rfl | assumption | exact AB.sto_get0 | (simp only [List.append_assoc, sa0, sa, ga0, ga, shl, upl, sto, List.cons_append, List.nil_append, List.set_cons_succ, List.set_cons_zero, List.getElem?_cons_zero, List.getElem?_cons_succ]; first | done | exact rfl))); (with_reducible apply And.intro); (· (intro _ z; cases z)); (with_reducible apply And.intro); (· (first | (apply AB.dPutE_K; (· (first | omega | assumption)); (· exact rfl)) | (apply AB.dPutE_T; (· (first | omega | assumption)); (· exact rfl)))))
  | ((with_reducible apply Exists.intro); (with_reducible apply Exists.intro); (with_reducible apply Exists.intro); (with_reducible apply Exists.intro); (with_reducible apply And.intro); (· exact rfl); (with_reducible apply And.intro); (· (first | exact rfl | assumption | exact AB.sto_get0 | (simp only [List.append_assoc, sa0, sa, ga0, ga, shl, upl, sto, List.cons_append, List.nil_append, List.set_cons_succ, List.set_cons_zero, List.getElem?_cons_zero, List.getElem?_cons_succ]; first | done | exact rfl))); (with_reducible apply And.intro); (· exact rfl); (with_reducible apply And.intro); (· assumption))
  | ((with_reducible apply Exists.intro); (with_reducible apply Exists.intro); (with_reducible apply Exists.intro); (with_reducible apply Exists.intro); (with_reducible apply Exists.intro); (with_reducible apply And.intro); (· exact rfl); (with_reducible apply And.intro); (· exact rfl); (with_reducible apply And.intro); (· (first | exact rfl | assumption | exact AB.sto_get0 | (simp only [List.append_assoc, sa0, sa, ga0, ga, shl, upl, sto, List.cons_append, List.nil_append, List.set_cons_succ, List.set_cons_zero, List.getElem?_cons_zero, List.getElem?_cons_succ]; first | done | exact rfl))); (with_reducible apply And.intro); (· exact rfl); (with_reducible apply And.intro); (· assumption))
  | ((with_reducible apply Exists.intro); (with_reducible apply And.intro); (· (first | (apply AB.dGet_K; (· (first | exact rfl | assumption | exact AB.sto_get0 | (simp only [List.append_assoc, sa0, sa, ga0, ga, shl, upl, sto, List.cons_append, List.nil_append, List.set_cons_succ, List.set_cons_zero, List.getElem?_cons_zero, List.getElem?_cons_succ]; first | done | exact rfl))); (· exact rfl)) | (apply AB.dGet_T; (· (first | exact rfl | assumption | exact AB.sto_get0 | (simp only [List.append_assoc, sa0, sa, ga0, ga, shl, upl, sto, List.cons_append, List.nil_append, List.set_cons_succ, List.set_cons_zero, List.getElem?_cons_zero, List.getElem?_cons_succ]; first | done | exact rfl))); (· exact rfl)) | (apply AB.dGet_L; (· (first | exact rfl | assumption | exact AB.sto_get0 | (simp only [List.append_assoc, sa0, sa, ga0, ga, shl, upl, sto, List.cons_append, List.nil_append, List.set_cons_succ, List.set_cons_zero, List.getElem?_cons_zero, List.getElem?_cons_succ]; first | done | exact rfl))); (· exact rfl)))))
  | ((with_reducible apply Exists.intro); (with_reducible apply Exists.intro); (with_reducible apply And.intro); (· exact rfl); (with_reducible apply And.intro); (· (first | exact rfl | assumption | exact AB.sto_get0 | (simp only [List.append_assoc, sa0, sa, ga0, ga, shl, upl, sto, List.cons_append, List.nil_append, List.set_cons_succ, List.set_cons_zero, List.getElem?_cons_zero, List.getElem?_cons_succ]; first | done | exact rfl))))
  | ((with_reducible apply Exists.intro); (with_reducible apply And.intro); (· ((apply AB.asL_obj); (· (first | exact rfl | assumption | exact AB.sto_get0 | (simp only [List.append_assoc, sa0, sa, ga0, ga, shl, upl, sto, List.cons_append, List.nil_append, List.set_cons_succ, List.set_cons_zero, List.getElem?_cons_zero, List.getElem?_cons_succ]; first | done | exact rfl))))))
  | ((with_reducible apply AB.v_inD); (· (first | (apply AB.dGet_K; (· (first | exact rfl | assumption | exact AB.sto_get0 | (simp only [List.append_assoc, sa0, sa, ga0, ga, shl, upl, sto, List.cons_append, List.nil_append, List.set_cons_succ, List.set_cons_zero, List.getElem?_cons_zero, List.getElem?_cons_succ]; first | done | exact rfl))); (· exact rfl)) | (apply AB.dGet_T; (· (first | exact rfl | assumption | exact AB.sto_get0 | (simp only [List.append_assoc, sa0, sa, ga0, ga, shl, upl, sto, List.cons_append, List.nil_append, List.set_cons_succ, List.set_cons_zero, List.getElem?_cons_zero, List.getElem?_cons_succ]; first | done | exact rfl))); (· exact rfl)) | (apply AB.dGet_L; (· (first | exact rfl | assumption | exact AB.sto_get0 | (simp only [List.append_assoc, sa0, sa, ga0, ga, shl, upl, sto, List.cons_append, List.nil_append, List.set_cons_succ, List.set_cons_zero, List.getElem?_cons_zero, List.getElem?_cons_succ]; first | done | exact rfl))); (· exact rfl)))))
  | ((with_reducible apply AB.v_ninD); (· (first | (apply AB.dGet_K; (· (first | exact rfl | assumption | exact AB.sto_get0 | (simp only [List.append_assoc, sa0, sa, ga0, ga, shl, upl, sto, List.cons_append, List.nil_append, List.set_cons_succ, List.set_cons_zero, List.getElem?_cons_zero, List.getElem?_cons_succ]; first | done | exact rfl))); (· exact rfl)) | (apply AB.dGet_T; (· (first | exact rfl | assumption | exact AB.sto_get0 | (simp only [List.append_assoc, sa0, sa, ga0, ga, shl, upl, sto, List.cons_append, List.nil_append, List.set_cons_succ, List.set_cons_zero, List.getElem?_cons_zero, List.getElem?_cons_succ]; first | done | exact rfl))); (· exact rfl)) | (apply AB.dGet_L; (· (first | exact rfl | assumption | exact AB.sto_get0 | (simp only [List.append_assoc, sa0, sa, ga0, ga, shl, upl, sto, List.cons_append, List.nil_append, List.set_cons_succ, List.set_cons_zero, List.getElem?_cons_zero, List.getElem?_cons_succ]; first | done | exact rfl))); (· exact rfl)))))
  | ((with_reducible apply Exists.intro); (with_reducible apply Exists.intro); (with_reducible apply And.intro); (· exact rfl); (with_reducible apply And.intro); (· exact rfl))
  | ((with_reducible apply Exists.intro); (with_reducible apply Exists.intro); (with_reducible apply And.intro); (· exact rfl))
  | walk_at "gx"))
local macro_rules | `(tactic| walk_at "go") => `(tactic| ((repeat walk_at "go1"); try (with_reducible conv => whnf)))
local macro_rules | `(tactic| walk_at "gd") => `(tactic| ((repeat first | walk_at "go1" | ((with_reducible conv => whnf); (with_reducible apply AB.w_ifP); (· first | decide | exact rfl | omega)) | ((with_reducible conv => whnf); (with_reducible apply AB.w_ifQ); (· first | decide | omega))); try (with_reducible conv => whnf)))
local macro_rules | `(tactic| walk_at "gk") => `(tactic| ((repeat ((with_reducible conv => whnf); (fail_if_success (with_reducible apply AB.is_back)); walk_at "go1")); try (with_reducible conv => whnf)))
theorem getD_map {α β : Type} (f : α → β) {xs : List α} {i : Nat} {a : α} : (xs.map f).getD i (f a) = f (xs.getD i a) := by
  rw [List.getD_eq_getElem?_getD, List.getD_eq_getElem?_getD, List.getElem?_map]
  cases xs[i]? <;> rfl
theorem lts_map {α : Type} {n : Nat} {f : α → D} (h : ∀ x, D.lt n (f x)) : ∀ xs : List α, D.lts n (xs.map f)
  | [] => by unfold D.lts; trivial
  | x :: xs => by
    rw [List.map_cons]
    unfold D.lts
    exact ⟨h x, lts_map h xs⟩
theorem lts_strs {α : Type} {n : Nat} {f : α → Str} (xs : List α) : D.lts n (xs.map fun x => .str (f x)) := lts_map (fun x => by unfold D.lt; trivial) xs
theorem lts_bls {α : Type} {n : Nat} {f : α → Bool} (xs : List α) : D.lts n (xs.map fun x => .bl (f x)) := lts_map (fun x => by unfold D.lt; trivial) xs
theorem lts_ints {α : Type} {n : Nat} {f : α → Int} (xs : List α) : D.lts n (xs.map fun x => .int (f x)) := lts_map (fun x => by unfold D.lt; trivial) xs
/-! the law's own little helpers -/
def mixZ (c p m : Int) : Int := (c * 48271 % p) * (c * 48271 % p + 7) % p % m
theorem mix0 (c p : Int) {m : Int} (hm : 0 < m) : 0 ≤ mixZ c p m := Int.emod_nonneg _ (Int.ne_of_gt hm)
theorem mix1 (c p : Int) {m : Int} (hm : 0 < m) : mixZ c p m < m := Int.emod_lt_of_pos _ hm
def A_law_mix : ASp := fun ds θ k _ => ∃ c p m : Int, ds = [.int c, .int p, .int m] ∧ 0 < p ∧ p < 100000 ∧ 0 < m ∧ k (.int (mixZ c p m)) θ
theorem c_mix {c p m : Int} {θ : Th} {k : AK} {kx : AX} (h1 : 0 < p) (h2 : p < 100000) (h3 : 0 < m) (q : k (.int (mixZ c p m)) θ) : A_law_mix [.int c, .int p, .int m] θ k kx := ⟨c, p, m, rfl, h1, h2, h3, q⟩
def cellZ (ns : List Int) (i : Nat) : Int := ns.getD i 0
def A_law_cell : ASp := fun ds θ k _ => ∃ (ns : List Int) (i : Int), ds = [.lsk (ns.map D.int), .int i] ∧ 0 ≤ i ∧ k (.int (cellZ ns i.toNat)) θ
theorem c_cell {ns : List Int} {i : Int} {θ : Th} {k : AK} {kx : AX} (h : 0 ≤ i) (q : k (.int (cellZ ns i.toNat)) θ) : A_law_cell [.lsk (ns.map D.int), .int i] θ k kx := ⟨ns, i, rfl, h, q⟩
def sgs : List Nat := [97, 98, 99, 100, 101, 102, 103, 104, 105, 106, 107, 108, 109, 110, 111, 112, 113, 114, 115, 116, 117, 118, 119, 120, 121, 122, 48, 49, 50, 51, 52, 53, 54, 55, 56, 57, 47, 45, 46]
def tabK : List (List Nat) := [[97], [97, 47, 98], [97, 47, 99], [97, 47, 98, 47, 99], [98], [47], [97, 45, 49], [97, 46]]
def keyZ (c : Int) : List Nat := if c % 3 = 0 then tabK.getD (mixZ c 9973 8).toNat [] else (List.range (1 + mixZ c 9967 20).toNat).map fun j => sgs.getD (mixZ (c + 7 * (0 + (j : Nat))) 9949 39).toNat 0
def A_law_key : ASp := fun ds θ k _ => ∃ c : Int, ds = [.int c] ∧ k (.str (S (keyZ c))) θ
theorem c_key {c : Int} {θ : Th} {k : AK} {kx : AX} (q : k (.str (S (keyZ c))) θ) : A_law_key [.int c] θ k kx := ⟨c, rfl, q⟩
/-- a key: one to twenty signs of those -/
def KeyOk (l : List Nat) : Prop := 1 ≤ l.length ∧ l.length ≤ 20 ∧ ∀ x ∈ l, x ∈ sgs
theorem getD_mem {α : Type} {xs : List α} {i : Nat} {a : α} (h : i < xs.length) : xs.getD i a ∈ xs := by
  rw [List.getD_eq_getElem?_getD, List.getElem?_eq_getElem h]
  exact List.getElem_mem h
theorem keyZ_ok (c : Int) : KeyOk (keyZ c) := by
  unfold keyZ
  split
  · have h0 := mix0 c 9973 (m := 8) (by decide)
    have h1 := mix1 c 9973 (m := 8) (by decide)
    have hm : tabK.getD (mixZ c 9973 8).toNat [] ∈ tabK := getD_mem (by show _ < 8; omega)
    have : ∀ l ∈ tabK, KeyOk l := by unfold KeyOk tabK sgs; decide
    exact this _ hm
  · have h0 := mix0 c 9967 (m := 20) (by decide)
    have h1 := mix1 c 9967 (m := 20) (by decide)
    refine ⟨by simp; omega, by simp; omega, fun x hx => ?_⟩
    obtain ⟨j, _, rfl⟩ := List.mem_map.mp hx
    have g0 := mix0 (c + 7 * (0 + (j : Nat))) 9949 (m := 39) (by decide)
    have g1 := mix1 (c + 7 * (0 + (j : Nat))) 9949 (m := 39) (by decide)
    exact getD_mem (by show _ < 39; omega)
def dgs : List Nat := ((List.range 95).map (32 + ·)).filter (· ≠ 37)
theorem dgs_len : dgs.length = 94 := by decide +kernel
theorem dgs_ok : ∀ l ∈ dgs, 32 ≤ l ∧ l ≤ 126 := by decide +kernel
def manyZ (c : Int) : Int := if mixZ c 9931 7 = 1 then mixZ c 9929 100 else if mixZ c 9931 7 = 0 then 99 else mixZ c 9941 9
def dataZ (c : Int) : List Nat := (List.range (manyZ c).toNat).map fun j => dgs.getD (mixZ (c + 5 * (0 + (j : Nat))) 9923 94).toNat 0
theorem manyZ_ok (c : Int) : 0 ≤ manyZ c ∧ manyZ c ≤ 99 := by
  have h0 := mix0 c 9929 (m := 100) (by decide)
  have h1 := mix1 c 9929 (m := 100) (by decide)
  have h2 := mix0 c 9941 (m := 9) (by decide)
  have h3 := mix1 c 9941 (m := 9) (by decide)
  unfold manyZ
  split
  · omega
  · split <;> omega
def DataOk (l : List Nat) : Prop := l.length ≤ 99 ∧ ∀ x ∈ l, 32 ≤ x ∧ x ≤ 126
theorem dataZ_ok (c : Int) : DataOk (dataZ c) := by
  have hm := manyZ_ok c
  refine ⟨by unfold dataZ; simp; omega, fun x hx => ?_⟩
  unfold dataZ at hx
  obtain ⟨j, _, rfl⟩ := List.mem_map.mp hx
  have g0 := mix0 (c + 5 * (0 + (j : Nat))) 9923 (m := 94) (by decide)
  have g1 := mix1 (c + 5 * (0 + (j : Nat))) 9923 (m := 94) (by decide)
  have hdg := dgs_len
  have h : dgs.getD (mixZ (c + 5 * (0 + (j : Nat))) 9923 94).toNat 0 ∈ dgs := getD_mem (by rw [hdg]; omega)
  exact dgs_ok _ h
def A_law_data : ASp := fun ds θ k _ => ∃ c : Int, ds = [.int c] ∧ k (.str (S (dataZ c))) θ
theorem c_data {c : Int} {θ : Th} {k : AK} {kx : AX} (q : k (.str (S (dataZ c))) θ) : A_law_data [.int c] θ k kx := ⟨c, rfl, q⟩
def t_law_mix : ASR := aSeq (aAsg (aBin fMod (aBin fMul (aVar 0) (aC (.int 48271))) (aVar 1)) (gN 3)) (aRet (aBin fMod (aBin fMod (aBin fMul (aVar 3) (aBin fAdd (aVar 3) (aC (.int 7)))) (aVar 1)) (aVar 2)))
def t_law_cell : ASR := aSeq (aIfS (aTst (aBin fLt (aVar 1) (aCB fLen (aCons (aVar 0) (aNil))))) (aRet (aBin fIx (aVar 0) (aVar 1))) (aNext)) (aRet (aC (.int 0)))
theorem lc0 : ("abcdefghijklmnopqrstuvwxyz0123456789/-." : Str) = S sgs := by decide +kernel
theorem lc1 : ("a" : Str) = S [97] := by decide +kernel
theorem lc2 : ("a/b" : Str) = S [97, 47, 98] := by decide +kernel
theorem lc3 : ("a/c" : Str) = S [97, 47, 99] := by decide +kernel
theorem lc4 : ("a/b/c" : Str) = S [97, 47, 98, 47, 99] := by decide +kernel
theorem lc5 : ("b" : Str) = S [98] := by decide +kernel
theorem lc6 : ("/" : Str) = S [47] := by decide +kernel
theorem lc7 : ("a-1" : Str) = S [97, 45, 49] := by decide +kernel
theorem lc8 : ("a." : Str) = S [97, 46] := by decide +kernel
theorem lc9 : ("" : Str) = S [] := by decide +kernel
def t_law_key : ASR := aSeq (aAsg (aC (.str "abcdefghijklmnopqrstuvwxyz0123456789/-.")) (gN 1)) (aSeq (aIfS (aTst (aBin fEq (aBin fMod (aVar 0) (aC (.int 3))) (aC (.int 0)))) (aRet (aBin fIx (aTup (aCons (aC (.str "a")) (aCons (aC (.str "a/b")) (aCons (aC (.str "a/c")) (aCons (aC (.str "a/b/c")) (aCons (aC (.str "b")) (aCons (aC (.str "/")) (aCons (aC (.str "a-1")) (aCons (aC (.str "a.")) (aNil)))))))))) (aCall A_law_mix (aCons (aVar 0) (aCons (aC (.int 9973)) (aCons (aC (.int 8)) (aNil))))))) (aNext)) (aSeq (aAsg (aBin fAdd (aC (.int 1)) (aCall A_law_mix (aCons (aVar 0) (aCons (aC (.int 9967)) (aCons (aC (.int 20)) (aNil)))))) (gN 2)) (aRet (aBM "str" fJoin (aC (.str "")) (aCons (aLc (aRng (aCons (aVar 2) (aNil))) (.one 3) (aYes) (aBin fIx (aVar 1) (aCall A_law_mix (aCons (aBin fAdd (aVar 0) (aBin fMul (aC (.int 7)) (aVar 3))) (aCons (aC (.int 9949)) (aCons (aC (.int 39)) (aNil)))))) [3]) (aNil))))))
local macro_rules | `(tactic| walk_at "lits_law_key") => `(tactic| simp only [lc0, lc1, lc2, lc3, lc4, lc5, lc6, lc7, lc8, lc9])
theorem lc10 : (" !\"#$&'()*+,-./0123456789:;<=>?@ABCDEFGHIJKLMNOPQRSTUVWXYZ[\\]^_`abcdefghijklmnopqrstuvwxyz{|}~" : Str) = S dgs := by decide +kernel
def t_law_data : ASR := aSeq (aAsg (aC (.str " !\"#$&'()*+,-./0123456789:;<=>?@ABCDEFGHIJKLMNOPQRSTUVWXYZ[\\]^_`abcdefghijklmnopqrstuvwxyz{|}~")) (gN 1)) (aSeq (aAsg (aCall A_law_mix (aCons (aVar 0) (aCons (aC (.int 9941)) (aCons (aC (.int 9)) (aNil))))) (gN 2)) (aSeq (aIfS (aTst (aBin fEq (aCall A_law_mix (aCons (aVar 0) (aCons (aC (.int 9931)) (aCons (aC (.int 7)) (aNil))))) (aC (.int 0)))) (aAsg (aC (.int 99)) (gN 2)) (aNext)) (aSeq (aIfS (aTst (aBin fEq (aCall A_law_mix (aCons (aVar 0) (aCons (aC (.int 9931)) (aCons (aC (.int 7)) (aNil))))) (aC (.int 1)))) (aAsg (aCall A_law_mix (aCons (aVar 0) (aCons (aC (.int 9929)) (aCons (aC (.int 100)) (aNil))))) (gN 2)) (aNext)) (aRet (aBM "str" fJoin (aC (.str "")) (aCons (aLc (aRng (aCons (aVar 2) (aNil))) (.one 3) (aYes) (aBin fIx (aVar 1) (aCall A_law_mix (aCons (aBin fAdd (aVar 0) (aBin fMul (aC (.int 5)) (aVar 3))) (aCons (aC (.int 9923)) (aCons (aCB fLen (aCons (aVar 1) (aNil))) (aNil)))))) [3]) (aNil)))))))
local macro_rules | `(tactic| walk_at "lits_law_data") => `(tactic| simp only [lc10, lc9])
theorem len_law_mix : ∀ ds θ k kx, A_law_mix ds θ k kx → ds.length = 3 := by rintro _ θ k kx ⟨_, _, _, rfl, _⟩; rfl
theorem len_law_cell : ∀ ds θ k kx, A_law_cell ds θ k kx → ds.length = 2 := by rintro _ θ k kx ⟨_, _, rfl, _⟩; rfl
theorem len_law_key : ∀ ds θ k kx, A_law_key ds θ k kx → ds.length = 1 := by rintro _ θ k kx ⟨_, rfl, _⟩; rfl
theorem len_law_data : ∀ ds θ k kx, A_law_data ds θ k kx → ds.length = 1 := by rintro _ θ k kx ⟨_, rfl, _⟩; rfl
local macro_rules | `(tactic| walk_at "gx") => `(tactic| first | ((with_reducible apply c_mix); (· decide); (· decide); (· first | decide | omega)) | ((with_reducible apply c_cell); (· omega)) | (with_reducible apply c_key) | (with_reducible apply c_data))
theorem run_law_mix : ∀ ds θ k kx, (∀ e ∈ θ, Ent.lt θ.length e) → A_law_mix ds θ k kx → t_law_mix (eBody θ.length k kx) (startG 4 ds) θ := by
  rintro ds θ k kx - ⟨c, p, m, rfl, hp, hp2, hm, q⟩
  walk_at "gs"
  unfold t_law_mix
  have h1 := Int.emod_nonneg (c * 48271) (Int.ne_of_gt hp)
  have h2 := Int.emod_lt_of_pos (c * 48271) hp
  walk_at "go"
  exact q
theorem cell_at {ns : List Int} {i : Int} (h0 : 0 ≤ i) (h1 : i < ns.length) : atI (ns.map D.int) i = some (.int (cellZ ns i.toNat)) := by
  have := atI_ofNat (xs := ns.map D.int) h0 (by rw [List.length_map]; exact h1) (.int 0)
  rw [this, getD_map D.int]
  rfl
theorem run_law_cell : ∀ ds θ k kx, (∀ e ∈ θ, Ent.lt θ.length e) → A_law_cell ds θ k kx → t_law_cell (eBody θ.length k kx) (startG 2 ds) θ := by
  rintro ds θ k kx - ⟨ns, i, rfl, h0, q⟩
  walk_at "gs"
  unfold t_law_cell
  walk_at "go"
  rw [List.length_map]
  refine w_if (fun h => ?_) (fun h => ?_)
  · walk_at "go"
    refine AB.v_ixK (cell_at h0 h) ?_
    walk_at "go"
    exact q
  · walk_at "go"
    have e : cellZ ns i.toNat = 0 := by
      unfold cellZ
      rw [List.getD_eq_getElem?_getD, List.getElem?_eq_none (by omega)]
      rfl
    rw [e] at q
    exact q
theorem run_law_key : ∀ ds θ k kx, (∀ e ∈ θ, Ent.lt θ.length e) → A_law_key ds θ k kx → t_law_key (eBody θ.length k kx) (startG 4 ds) θ := by
  rintro ds θ k kx - ⟨c, rfl, q⟩
  walk_at "gs"
  unfold t_law_key
  walk_at "lits_law_key"
  walk_at "go"
  refine w_if (fun h => ?_) (fun h => ?_)
  · walk_at "go"
    have h0 := mix0 c 9973 (m := 8) (by decide)
    have h1 := mix1 c 9973 (m := 8) (by decide)
    refine AB.v_ixT (atI_ofNat h0 (by exact h1) (.str (S []))) ?_
    walk_at "go"
    have e : ([D.str (S [97]), D.str (S [97, 47, 98]), D.str (S [97, 47, 99]), D.str (S [97, 47, 98, 47, 99]), D.str (S [98]), D.str (S [47]), D.str (S [97, 45, 49]), D.str (S [97, 46])] : List D) = tabK.map fun l => .str (S l) := rfl
    have e2 : keyZ c = tabK.getD (mixZ c 9973 8).toNat [] := if_pos h
    rw [e2] at q
    rw [e, getD_map (fun l => D.str (S l))]
    exact q
  · have h0 := mix0 c 9967 (m := 20) (by decide)
    have h1 := mix1 c 9967 (m := 20) (by decide)
    walk_at "go"
    refine cl_map (fun j => .str (S [sgs.getD (mixZ (c + 7 * (0 + (j : Nat))) 9949 39).toNat 0])) (fun j hj acc ko q => ?_) ?_
    · have g0 := mix0 (c + 7 * (0 + (j : Nat))) 9949 (m := 39) (by decide)
      have g1 := mix1 (c + 7 * (0 + (j : Nat))) 9949 (m := 39) (by decide)
      walk_at "go"
      refine AB.v_ixSS (by decide) (atI_ofNat g0 (by exact g1) 0) ?_
      walk_at "go"
      exact q
    · refine And.intro (lts_strs _) ?_
      walk_at "go"
      refine v_join1 (by simp; omega) ?_
      walk_at "go"
      have e2 : keyZ c = (List.range (1 + mixZ c 9967 20).toNat).map fun j => sgs.getD (mixZ (c + 7 * (0 + (j : Nat))) 9949 39).toNat 0 := if_neg h
      rw [e2] at q
      exact q
theorem run_law_data : ∀ ds θ k kx, (∀ e ∈ θ, Ent.lt θ.length e) → A_law_data ds θ k kx → t_law_data (eBody θ.length k kx) (startG 4 ds) θ := by
  rintro ds θ k kx - ⟨c, rfl, q⟩
  walk_at "gs"
  unfold t_law_data
  walk_at "lits_law_data"
  have hdg := dgs_len
  have fin : ∀ (m : Int), m = manyZ c → aRet (aBM "str" fJoin (aC (D.str (S [])))
    (aCons (aLc (aRng (aCons (aVar 2) aNil)) (Tgt.one 3) aYes (aBin fIx (aVar 1) (aCall A_law_mix (aCons (aBin fAdd (aVar 0) (aBin fMul (aC (D.int 5)) (aVar 3))) (aCons (aC (D.int 9923)) (aCons (aCB fLen (aCons (aVar 1) aNil)) aNil))))) [3]) aNil)) (eBody θ.length k kx) [some (.int c), some (.str (S dgs)), some (.int m), none] θ := by
    rintro m rfl
    have hm := manyZ_ok c
    walk_at "go"
    refine cl_map (fun j => .str (S [dgs.getD (mixZ (c + 5 * (0 + (j : Nat))) 9923 94).toNat 0])) (fun j hj acc ko q => ?_) ?_
    · have g0 := mix0 (c + 5 * (0 + (j : Nat))) 9923 (m := 94) (by decide)
      have g1 := mix1 (c + 5 * (0 + (j : Nat))) 9923 (m := 94) (by decide)
      walk_at "go"
      rw [hdg]
      walk_at "go"
      refine AB.v_ixSS (by omega) (atI_ofNat g0 (by rw [hdg]; exact g1) 0) ?_
      walk_at "go"
      exact q
    · refine And.intro (lts_strs _) ?_
      walk_at "go"
      refine v_join1 (by simp; omega) ?_
      walk_at "go"
      exact q
  walk_at "go"
  refine w_if (fun h => ?_) (fun h => ?_)
  · walk_at "go"
    refine w_if (fun h1 => ?_) (fun h1 => ?_)
    · exfalso; omega
    · refine fin 99 ?_
      unfold manyZ
      rw [if_neg h1, if_pos h]
  · walk_at "go"
    refine w_if (fun h1 => ?_) (fun h1 => ?_)
    · iterate 3 walk_at "go1"
      refine fin _ ?_
      unfold manyZ
      rw [if_pos h1]
    · refine fin _ ?_
      unfold manyZ
      rw [if_neg h1, if_neg h]
end AB
namespace AB
open PySem PySem.Spec PyProof.Rows L2 TL

local macro_rules | `(tactic| walk_at "gs") => `(tactic| (apply AB.w_start; (· (simp only [startG, List.map_cons, List.map_nil, List.length_cons, List.length_nil, Nat.reduceAdd, Nat.reduceSub, List.replicate_succ, List.replicate_zero, List.cons_append, List.nil_append]; try exact rfl))))
local macro_rules | `(tactic| walk_at "gb") => `(tactic| (first | exact rfl | decide | omega | (apply AB.natAbs_small <;> omega) | (simp only [List.length_append, List.length_map, List.length_cons, List.length_nil, List.length_take, List.length_drop, rep_len, Int.reduceToNat, List.length_range, List.length_reverse, nums_len, signs_len, zipD_len]; omega)))
local macro_rules | `(tactic| walk_at "gh") => `(tactic| (first | exact rfl | assumption | exact AB.sto_get0 | (simp only [List.append_assoc, sa0, sa, ga0, ga, shl, upl, sto, List.cons_append, List.nil_append, List.set_cons_succ, List.set_cons_zero, List.getElem?_cons_zero, List.getElem?_cons_succ]; first | done | exact rfl)))
local macro_rules | `(tactic| walk_at "gx") => `(tactic| first | ((with_reducible apply c_mix); (· decide); (· decide); (· first | decide | omega)) | ((with_reducible apply c_cellI); (· omega)) | (with_reducible apply c_key) | (with_reducible apply c_data))
local macro_rules | `(tactic| walk_at "go1") => `(tactic| ((with_reducible conv => whnf); first
  | ((with_reducible apply Exists.intro); (with_reducible apply And.intro); (· exact rfl))
  | (with_reducible first | apply AB.w_onO | apply AB.w_onN | apply AB.w_tryAs | apply AB.w_tryOnly | apply AB.w_lstRng | apply AB.v_addI | apply AB.w_back | apply AB.v_eqI | apply AB.v_eqSS | apply AB.v_eqS | apply AB.v_eqSI | apply AB.v_eqIS | apply AB.w_ifN | apply AB.v_slT2 | apply AB.v_lt | apply AB.v_gt | apply AB.v_slL | apply AB.v_ordSS | apply AB.v_neI | apply AB.v_neSS | apply AB.v_neS | apply AB.v_inSS | apply AB.v_ninSS | apply AB.v_lenT | apply AB.v_lenL | apply AB.v_lenK | apply AB.v_ltSS | apply AB.v_gtSS | apply AB.v_eqB | apply AB.v_intI | apply AB.v_intB | apply AB.v_allL | apply AB.v_anyL | apply AB.v_sumL | apply AB.v_tupL | apply AB.v_tupT | apply AB.w_ifT | apply AB.w_ifF | apply AB.w_elEnd)
  | ((with_reducible apply AB.w_gN); (· (simp only [List.set_cons_succ, List.set_cons_zero]; try exact rfl)))
  | ((with_reducible apply AB.v_isE); (· assumption); (· assumption))
  | ((with_reducible apply AB.v_isET); (· assumption); (· assumption))
  | ((with_reducible apply AB.v_addSS); (· (first | exact rfl | decide | omega | (apply AB.natAbs_small <;> omega) | (simp only [List.length_append, List.length_map, List.length_cons, List.length_nil, List.length_take, List.length_drop, rep_len, Int.reduceToNat, List.length_range, List.length_reverse, nums_len, signs_len, zipD_len]; omega))))
  | ((with_reducible apply AB.v_addT2); (· (first | exact rfl | decide | omega | (apply AB.natAbs_small <;> omega) | (simp only [List.length_append, List.length_map, List.length_cons, List.length_nil, List.length_take, List.length_drop, rep_len, Int.reduceToNat, List.length_range, List.length_reverse, nums_len, signs_len, zipD_len]; omega))))
  | ((with_reducible apply AB.v_mul); (· (first | exact .inr ⟨by decide, by decide⟩ | exact .inl ⟨by decide, by decide⟩ | omega)))
  | ((with_reducible apply AB.v_lenSS); (· (first | exact rfl | decide | omega | (apply AB.natAbs_small <;> omega) | (simp only [List.length_append, List.length_map, List.length_cons, List.length_nil, List.length_take, List.length_drop, rep_len, Int.reduceToNat, List.length_range, List.length_reverse, nums_len, signs_len, zipD_len]; omega))))
  | ((with_reducible apply AB.v_slS); (· (first | exact rfl | decide | omega | (apply AB.natAbs_small <;> omega) | (simp only [List.length_append, List.length_map, List.length_cons, List.length_nil, List.length_take, List.length_drop, rep_len, Int.reduceToNat, List.length_range, List.length_reverse, nums_len, signs_len, zipD_len]; omega))))
  | ((with_reducible apply AB.v_addL); (· (first | exact rfl | decide | omega | (apply AB.natAbs_small <;> omega) | (simp only [List.length_append, List.length_map, List.length_cons, List.length_nil, List.length_take, List.length_drop, rep_len, Int.reduceToNat, List.length_range, List.length_reverse, nums_len, signs_len, zipD_len]; omega))))
  | ((with_reducible apply AB.v_mulSS); (· (first | exact rfl | decide | omega | (apply AB.natAbs_small <;> omega) | (simp only [List.length_append, List.length_map, List.length_cons, List.length_nil, List.length_take, List.length_drop, rep_len, Int.reduceToNat, List.length_range, List.length_reverse, nums_len, signs_len, zipD_len]; omega))); (· (first | exact rfl | decide | omega | (apply AB.natAbs_small <;> omega) | (simp only [List.length_append, List.length_map, List.length_cons, List.length_nil, List.length_take, List.length_drop, rep_len, Int.reduceToNat, List.length_range, List.length_reverse, nums_len, signs_len, zipD_len]; omega))); (· (first | exact rfl | decide | omega | (apply AB.natAbs_small <;> omega) | (simp only [List.length_append, List.length_map, List.length_cons, List.length_nil, List.length_take, List.length_drop, rep_len, Int.reduceToNat, List.length_range, List.length_reverse, nums_len, signs_len, zipD_len]; omega))))
  | ((with_reducible apply AB.v_isi); (· exact rfl); (· (first | exact AB.kb_NoneType_str | exact AB.kb_NoneType_int | exact AB.kb_NoneType_bool | exact AB.kb_NoneType_tuple | exact AB.kb_NoneType_list | exact AB.kb_bool_str | exact AB.kb_bool_int | exact AB.kb_bool_bool | exact AB.kb_bool_tuple | exact AB.kb_bool_list | exact AB.kb_int_str | exact AB.kb_int_int | exact AB.kb_int_bool | exact AB.kb_int_tuple | exact AB.kb_int_list | exact AB.kb_str_str | exact AB.kb_str_int | exact AB.kb_str_bool | exact AB.kb_str_tuple | exact AB.kb_str_list | exact AB.kb_tuple_str | exact AB.kb_tuple_int | exact AB.kb_tuple_bool | exact AB.kb_tuple_tuple | exact AB.kb_tuple_list | exact AB.kb_list_str | exact AB.kb_list_int | exact AB.kb_list_bool | exact AB.kb_list_tuple | exact AB.kb_list_list)))
  | ((with_reducible apply AB.v_isi2); (· exact rfl); (· (first | exact AB.kb_NoneType_str | exact AB.kb_NoneType_int | exact AB.kb_NoneType_bool | exact AB.kb_NoneType_tuple | exact AB.kb_NoneType_list | exact AB.kb_bool_str | exact AB.kb_bool_int | exact AB.kb_bool_bool | exact AB.kb_bool_tuple | exact AB.kb_bool_list | exact AB.kb_int_str | exact AB.kb_int_int | exact AB.kb_int_bool | exact AB.kb_int_tuple | exact AB.kb_int_list | exact AB.kb_str_str | exact AB.kb_str_int | exact AB.kb_str_bool | exact AB.kb_str_tuple | exact AB.kb_str_list | exact AB.kb_tuple_str | exact AB.kb_tuple_int | exact AB.kb_tuple_bool | exact AB.kb_tuple_tuple | exact AB.kb_tuple_list | exact AB.kb_list_str | exact AB.kb_list_int | exact AB.kb_list_bool | exact AB.kb_list_tuple | exact AB.kb_list_list)); (· (first | exact AB.kb_NoneType_str | exact AB.kb_NoneType_int | exact AB.kb_NoneType_bool | exact AB.kb_NoneType_tuple | exact AB.kb_NoneType_list | exact AB.kb_bool_str | exact AB.kb_bool_int | exact AB.kb_bool_bool | exact AB.kb_bool_tuple | exact AB.kb_bool_list | exact AB.kb_int_str | exact AB.kb_int_int | exact AB.kb_int_bool | exact AB.kb_int_tuple | exact AB.kb_int_list | exact AB.kb_str_str | exact AB.kb_str_int | exact AB.kb_str_bool | exact AB.kb_str_tuple | exact AB.kb_str_list | exact AB.kb_tuple_str | exact AB.kb_tuple_int | exact AB.kb_tuple_bool | exact AB.kb_tuple_tuple | exact AB.kb_tuple_list | exact AB.kb_list_str | exact AB.kb_list_int | exact AB.kb_list_bool | exact AB.kb_list_tuple | exact AB.kb_list_list)); (· first | exact Bool.or_true _ | exact Bool.true_or _ | exact Bool.or_false _))
  | ((with_reducible apply AB.w_lc); (· (simp only [wipeG, List.set_cons_succ, List.set_cons_zero]; try exact rfl)))
  | ((with_reducible apply AB.w_lcS); (· (simp only [wipeG, List.set_cons_succ, List.set_cons_zero]; try exact rfl)))
  | ((with_reducible apply AB.v_lstRng); (· (first | exact rfl | decide | omega | (apply AB.natAbs_small <;> omega) | (simp only [List.length_append, List.length_map, List.length_cons, List.length_nil, List.length_take, List.length_drop, rep_len, Int.reduceToNat, List.length_range, List.length_reverse, nums_len, signs_len, zipD_len]; omega))); (· (first | exact rfl | decide | omega | (apply AB.natAbs_small <;> omega) | (simp only [List.length_append, List.length_map, List.length_cons, List.length_nil, List.length_take, List.length_drop, rep_len, Int.reduceToNat, List.length_range, List.length_reverse, nums_len, signs_len, zipD_len]; omega))))
  | ((with_reducible apply AB.w_elY); (· (simp only [List.set_cons_succ, List.set_cons_zero]; try exact rfl)))
  | ((with_reducible apply AB.w_el); (· (simp only [List.set_cons_succ, List.set_cons_zero]; try exact rfl)))
  | ((with_reducible apply AB.v_append); (· (first | exact rfl | assumption | exact AB.sto_get0 | (simp only [List.append_assoc, sa0, sa, ga0, ga, shl, upl, sto, List.cons_append, List.nil_append, List.set_cons_succ, List.set_cons_zero, List.getElem?_cons_zero, List.getElem?_cons_succ]; first | done | exact rfl))); (· (first | exact rfl | decide | omega | (apply AB.natAbs_small <;> omega) | (simp only [List.length_append, List.length_map, List.length_cons, List.length_nil, List.length_take, List.length_drop, rep_len, Int.reduceToNat, List.length_range, List.length_reverse, nums_len, signs_len, zipD_len]; omega))); (· (simp only [List.set_cons_succ, List.set_cons_zero]; try exact rfl)))
  | ((with_reducible apply AB.v_lenO); (· (first | exact rfl | assumption | exact AB.sto_get0 | (simp only [List.append_assoc, sa0, sa, ga0, ga, shl, upl, sto, List.cons_append, List.nil_append, List.set_cons_succ, List.set_cons_zero, List.getElem?_cons_zero, List.getElem?_cons_succ]; first | done | exact rfl))))
  | ((with_reducible apply AB.v_slO); (· (first | exact rfl | assumption | exact AB.sto_get0 | (simp only [List.append_assoc, sa0, sa, ga0, ga, shl, upl, sto, List.cons_append, List.nil_append, List.set_cons_succ, List.set_cons_zero, List.getElem?_cons_zero, List.getElem?_cons_succ]; first | done | exact rfl))))
  | ((with_reducible apply AB.v_tupO); (· (first | exact rfl | assumption | exact AB.sto_get0 | (simp only [List.append_assoc, sa0, sa, ga0, ga, shl, upl, sto, List.cons_append, List.nil_append, List.set_cons_succ, List.set_cons_zero, List.getElem?_cons_zero, List.getElem?_cons_succ]; first | done | exact rfl))))
  | ((with_reducible apply AB.w_exO); (· (first | exact rfl | assumption | exact AB.sto_get0 | (simp only [List.append_assoc, sa0, sa, ga0, ga, shl, upl, sto, List.cons_append, List.nil_append, List.set_cons_succ, List.set_cons_zero, List.getElem?_cons_zero, List.getElem?_cons_succ]; first | done | exact rfl))))
  | ((with_reducible apply AB.w_truO); (· (first | exact rfl | assumption | exact AB.sto_get0 | (simp only [List.append_assoc, sa0, sa, ga0, ga, shl, upl, sto, List.cons_append, List.nil_append, List.set_cons_succ, List.set_cons_zero, List.getElem?_cons_zero, List.getElem?_cons_succ]; first | done | exact rfl))))
  | ((with_reducible apply AB.v_ixT); (· first | exact rfl | exact atI_nat (j := 0) rfl | exact atI_nat (j := 1) rfl | exact atI_nat (j := 2) rfl))
  | ((with_reducible apply AB.v_ixL); (· first | exact rfl | exact atI_nat (j := 0) rfl))
  | ((with_reducible apply AB.w_elTY); (· (simp only [setLG, List.set_cons_succ, List.set_cons_zero]; try exact rfl)); (· exact rfl))
  | ((with_reducible apply AB.w_elT); (· (simp only [setLG, List.set_cons_succ, List.set_cons_zero]; try exact rfl)); (· exact rfl))
  | ((with_reducible apply AB.w_exR); (· (first | exact rfl | decide | omega | (apply AB.natAbs_small <;> omega) | (simp only [List.length_append, List.length_map, List.length_cons, List.length_nil, List.length_take, List.length_drop, rep_len, Int.reduceToNat, List.length_range, List.length_reverse, nums_len, signs_len, zipD_len]; omega))); (· (first | exact rfl | decide | omega | (apply AB.natAbs_small <;> omega) | (simp only [List.length_append, List.length_map, List.length_cons, List.length_nil, List.length_take, List.length_drop, rep_len, Int.reduceToNat, List.length_range, List.length_reverse, nums_len, signs_len, zipD_len]; omega))))
  | ((with_reducible refine And.intro ?_ ?_); (· first | (exact v_tyS) | (exact v_tyO (by (first | exact rfl | assumption | exact AB.sto_get0 | (simp only [List.append_assoc, sa0, sa, ga0, ga, shl, upl, sto, List.cons_append, List.nil_append, List.set_cons_succ, List.set_cons_zero, List.getElem?_cons_zero, List.getElem?_cons_succ]; first | done | exact rfl)))) | (exact fun _ => trivial) | (exact fun _ => rfl) | (first | exact rfl | assumption | exact AB.sto_get0 | (simp only [List.append_assoc, sa0, sa, ga0, ga, shl, upl, sto, List.cons_append, List.nil_append, List.set_cons_succ, List.set_cons_zero, List.getElem?_cons_zero, List.getElem?_cons_succ]; first | done | exact rfl)) | (exact v_isDK (by (first | exact rfl | assumption | exact AB.sto_get0 | (simp only [List.append_assoc, sa0, sa, ga0, ga, shl, upl, sto, List.cons_append, List.nil_append, List.set_cons_succ, List.set_cons_zero, List.getElem?_cons_zero, List.getElem?_cons_succ]; first | done | exact rfl)))) | (exact v_isDT (by (first | exact rfl | assumption | exact AB.sto_get0 | (simp only [List.append_assoc, sa0, sa, ga0, ga, shl, upl, sto, List.cons_append, List.nil_append, List.set_cons_succ, List.set_cons_zero, List.getElem?_cons_zero, List.getElem?_cons_succ]; first | done | exact rfl)))) | (first | exact rfl | decide | omega | (apply AB.natAbs_small <;> omega) | (simp only [List.length_append, List.length_map, List.length_cons, List.length_nil, List.length_take, List.length_drop, rep_len, Int.reduceToNat, List.length_range, List.length_reverse, nums_len, signs_len, zipD_len]; omega))))
  | ((with_reducible apply Exists.intro); (with_reducible apply Exists.intro); (with_reducible apply Exists.intro); (with_reducible apply Exists.intro); (with_reducible apply And.intro); (· exact rfl); (with_reducible apply And.intro); (· (first | exact rfl | assumption | exact AB.sto_get0 | (simp only [List.append_assoc, sa0, sa, ga0, ga, shl, upl, sto, List.cons_append, List.nil_append, List.set_cons_succ, List.set_cons_zero, List.getElem?_cons_zero, List.getElem?_cons_succ]; first | done | exact rfl))); (with_reducible apply And.intro); (· assumption); (with_reducible apply And.intro); (· assumption); (with_reducible apply And.intro); (· exact rfl))
  | ((with_reducible apply Exists.intro); (with_reducible apply Exists.intro); (with_reducible apply Exists.intro); (with_reducible apply And.intro); (· exact rfl); (with_reducible apply And.intro); (· (first | exact rfl | assumption | exact AB.sto_get0 | (simp only [List.append_assoc, sa0, sa, ga0, ga, shl, upl, sto, List.cons_append, List.nil_append, List.set_cons_succ, List.set_cons_zero, List.getElem?_cons_zero, List.getElem?_cons_succ]; first | done | exact rfl))); (with_reducible apply And.intro); (· assumption); (with_reducible apply And.intro); (· assumption); (with_reducible apply And.intro); (· exact of_decide_eq_true rfl))
  | ((with_reducible apply Exists.intro); (with_reducible apply Exists.intro); (with_reducible apply Exists.intro); (with_reducible apply Exists.intro); (with_reducible apply And.intro); (· exact rfl); (with_reducible apply And.intro); (· (first | exact rfl | assumption | exact AB.sto_get0 | (simp only [List.append_assoc, sa0, sa, ga0, ga, shl, upl, sto, List.cons_append, List.nil_append, List.set_cons_succ, List.set_cons_zero, List.getElem?_cons_zero, List.getElem?_cons_succ]; first | done | exact rfl))); (with_reducible apply And.intro); (· assumption); (with_reducible apply And.intro); (· exact rfl))
  | ((with_reducible apply Exists.intro); (with_reducible apply Exists.intro); (with_reducible apply Exists.intro); (with_reducible apply And.intro); (· exact rfl); (with_reducible apply And.intro); (· (first | exact rfl | assumption | exact AB.sto_get0 | (simp only [List.append_assoc, sa0, sa, ga0, ga, shl, upl, sto, List.cons_append, List.nil_append, List.set_cons_succ, List.set_cons_zero, List.getElem?_cons_zero, List.getElem?_cons_succ]; first | done | exact rfl))); (with_reducible apply And.intro); (· (intro _ z; cases z)); (with_reducible apply And.intro); (· (first | (apply AB.dPutE_K; (· (first | omega | assumption)); (· exact rfl)) | (apply AB.dPutE_T; (· (first | omega | assumption)); (· exact rfl)))))
  | ((with_reducible apply Exists.intro); (with_reducible apply Exists.intro); (with_reducible apply Exists.intro); (with_reducible apply Exists.intro); (with_reducible apply And.intro); (· exact rfl); (with_reducible apply And.intro); (· (first | exact rfl | assumption | exact AB.sto_get0 | (simp only [List.append_assoc, sa0, sa, ga0, ga, shl, upl, sto, List.cons_append, List.nil_append, List.set_cons_succ, List.set_cons_zero, List.getElem?_cons_zero, List.getElem?_cons_succ]; first | done | exact rfl))); (with_reducible apply And.intro); (· exact rfl); (with_reducible apply And.intro); (· assumption))
  | ((with_reducible apply Exists.intro); (with_reducible apply Exists.intro); (with_reducible apply Exists.intro); (with_reducible apply Exists.intro); (with_reducible apply Exists.intro); (with_reducible apply And.intro); (· exact rfl); (with_reducible apply And.intro); (· exact rfl); (with_reducible apply And.intro); (· (first | exact rfl | assumption | exact AB.sto_get0 | (simp only [List.append_assoc, sa0, sa, ga0, ga, shl, upl, sto, List.cons_append, List.nil_append, List.set_cons_succ, List.set_cons_zero, List.getElem?_cons_zero, List.getElem?_cons_succ]; first | done | exact rfl))); (with_reducible apply And.intro); (· exact rfl); (with_reducible apply And.intro); (· assumption))
  | ((with_reducible apply Exists.intro); (with_reducible apply And.intro); (· (first | (apply AB.dGet_K; (· (first | exact rfl | assumption | exact AB.sto_get0 | (simp only [List.append_assoc, sa0, sa, ga0, ga, shl, upl, sto, List.cons_append, List.nil_append, List.set_cons_succ, List.set_cons_zero, List.getElem?_cons_zero, List.getElem?_cons_succ]; first | done | exact rfl))); (· exact rfl)) | (apply AB.dGet_T; (· (first | exact rfl | assumption | exact AB.sto_get0 | (simp only [List.append_assoc, sa0, sa, ga0, ga, shl, upl, sto, List.cons_append, List.nil_append, List.set_cons_succ, List.set_cons_zero, List.getElem?_cons_zero, List.getElem?_cons_succ]; first | done | exact rfl))); (· exact rfl)) | (apply AB.dGet_L; (· (first | exact rfl | assumption | exact AB.sto_get0 | (simp only [List.append_assoc, sa0, sa, ga0, ga, shl, upl, sto, List.cons_append, List.nil_append, List.set_cons_succ, List.set_cons_zero, List.getElem?_cons_zero, List.getElem?_cons_succ]; first | done | exact rfl))); (· exact rfl)))))
  | ((with_reducible apply Exists.intro); (with_reducible apply Exists.intro); (with_reducible apply And.intro); (· exact rfl); (with_reducible apply And.intro); (· (first | exact rfl | assumption | exact AB.sto_get0 | (simp only [List.append_assoc, sa0, sa, ga0, ga, shl, upl, sto, List.cons_append, List.nil_append, List.set_cons_succ, List.set_cons_zero, List.getElem?_cons_zero, List.getElem?_cons_succ]; first | done | exact rfl))))
  | ((with_reducible apply Exists.intro); (with_reducible apply And.intro); (· ((apply AB.asL_obj); (· (first | exact rfl | assumption | exact AB.sto_get0 | (simp only [List.append_assoc, sa0, sa, ga0, ga, shl, upl, sto, List.cons_append, List.nil_append, List.set_cons_succ, List.set_cons_zero, List.getElem?_cons_zero, List.getElem?_cons_succ]; first | done | exact rfl))))))
  | ((with_reducible apply AB.v_inD); (· (first | (apply AB.dGet_K; (· (first | exact rfl | assumption | exact AB.sto_get0 | (simp only [List.append_assoc, sa0, sa, ga0, ga, shl, upl, sto, List.cons_append, List.nil_append, List.set_cons_succ, List.set_cons_zero, List.getElem?_cons_zero, List.getElem?_cons_succ]; first | done | exact rfl))); (· exact rfl)) | (apply AB.dGet_T; (· (first | exact rfl | assumption | exact AB.sto_get0 | (simp only [List.append_assoc, sa0, sa, ga0, ga, shl, upl, sto, List.cons_append, List.nil_append, List.set_cons_succ, List.set_cons_zero, List.getElem?_cons_zero, List.getElem?_cons_succ]; first | done | exact rfl))); (· exact rfl)) | (apply AB.dGet_L; (· (first | exact rfl | assumption | exact AB.sto_get0 | (simp only [List.append_assoc, sa0, sa, ga0, ga, shl, upl, sto, List.cons_append, List.nil_append, List.set_cons_succ, List.set_cons_zero, List.getElem?_cons_zero, List.getElem?_cons_succ]; first | done | exact rfl))); (· exact rfl)))))
  | ((with_reducible apply AB.v_ninD); (· (first | (apply AB.dGet_K; (· (first | exact rfl | assumption | exact AB.sto_get0 | (simp only [List.append_assoc, sa0, sa, ga0, ga, shl, upl, sto, List.cons_append, List.nil_append, List.set_cons_succ, List.set_cons_zero, List.getElem?_cons_zero, List.getElem?_cons_succ]; first | done | exact rfl))); (· exact rfl)) | (apply AB.dGet_T; (· (first | exact rfl | assumption | exact AB.sto_get0 | (simp only [List.append_assoc, sa0, sa, ga0, ga, shl, upl, sto, List.cons_append, List.nil_append, List.set_cons_succ, List.set_cons_zero, List.getElem?_cons_zero, List.getElem?_cons_succ]; first | done | exact rfl))); (· exact rfl)) | (apply AB.dGet_L; (· (first | exact rfl | assumption | exact AB.sto_get0 | (simp only [List.append_assoc, sa0, sa, ga0, ga, shl, upl, sto, List.cons_append, List.nil_append, List.set_cons_succ, List.set_cons_zero, List.getElem?_cons_zero, List.getElem?_cons_succ]; first | done | exact rfl))); (· exact rfl)))))
  | ((with_reducible apply Exists.intro); (with_reducible apply Exists.intro); (with_reducible apply And.intro); (· exact rfl); (with_reducible apply And.intro); (· exact rfl))
  | ((with_reducible apply Exists.intro); (with_reducible apply Exists.intro); (with_reducible apply And.intro); (· exact rfl))
  | walk_at "gx"))
local macro_rules | `(tactic| walk_at "go") => `(tactic| ((repeat walk_at "go1"); try (with_reducible conv => whnf)))
local macro_rules | `(tactic| walk_at "gd") => `(tactic| ((repeat first | walk_at "go1" | ((with_reducible conv => whnf); (with_reducible apply AB.w_ifP); (· first | decide | exact rfl | omega)) | ((with_reducible conv => whnf); (with_reducible apply AB.w_ifQ); (· first | decide | omega))); try (with_reducible conv => whnf)))
local macro_rules | `(tactic| walk_at "gk") => `(tactic| ((repeat ((with_reducible conv => whnf); (fail_if_success (with_reducible apply AB.is_back)); walk_at "go1")); try (with_reducible conv => whnf)))
/-! sums -/
theorem S_num {i : Int} (h : 0 ≤ i) : (toString i : Str) = S (numL i.toNat) := by
  obtain ⟨n, rfl⟩ := Int.eq_ofNat_of_zero_le h
  exact ext_tl (tl_num n)
def sumI (l : List Nat) : Int := l.foldl (fun (f : Int) (c : Nat) => (31 * f + (c : Int) - 32) % 999983) 0
theorem sumI_ok (l : List Nat) : 0 ≤ sumI l ∧ sumI l < 999983 := by
  have go : ∀ (l : List Nat) (f : Int), 0 ≤ f ∧ f < 999983 → 0 ≤ l.foldl (fun (f : Int) (c : Nat) => (31 * f + (c : Int) - 32) % 999983) f ∧ l.foldl (fun (f : Int) (c : Nat) => (31 * f + (c : Int) - 32) % 999983) f < 999983 := by
    intro l
    induction l with
    | nil => intro f h; exact h
    | cons c l ih => intro f h; exact ih _ ⟨Int.emod_nonneg _ (by decide), Int.emod_lt_of_pos _ (by decide)⟩
  exact go l 0 (by decide)
/-- the six figures -/
def sixL (i : Int) : List Nat := List.replicate (6 - (numL i.toNat).length) 48 ++ numL i.toNat
theorem num6 {i : Int} (h0 : 0 ≤ i) (h1 : i < 999983) : (numL i.toNat).length ≤ 6 := numL_len (by decide) (by omega)
theorem zfill6 {i : Int} (h0 : 0 ≤ i) (h1 : i < 999983) : Txt.zfill (S (numL i.toNat)) 6 = S (sixL i) := by
  have hl := num6 h0 h1
  unfold Txt.zfill sixL
  rw [S_len]
  by_cases h6 : (6 : Int) ≤ ((numL i.toNat).length : Nat)
  · rw [if_pos h6, show 6 - (numL i.toNat).length = 0 from by omega]
    rfl
  · rw [if_neg h6]
    have hne := numL_ne i.toNat
    have hdg := numL_digits i.toNat
    generalize numL i.toNat = ds at hne hdg hl h6
    obtain ⟨d, r, rfl⟩ := List.exists_cons_of_ne_nil hne
    have hd := hdg d List.mem_cons_self
    unfold zfilled
    have e : (S (d :: r)).cps[0]? = some d := by show (d :: r).toArray[0]? = _; simp
    rw [e]
    split
    · rename_i h; cases h; omega
    · rename_i h; cases h; omega
    · refine ext_tl ?_
      show (Array.replicate (Int.toNat 6 - (d :: r).length) 48 ++ (d :: r).toArray ++ Array.replicate 0 48).toList = _
      simp

theorem cut6 {i : Int} (h0 : 0 ≤ i) (h1 : i < 999983) : cutL ([48, 48, 48, 48, 48] ++ numL i.toNat) (some (-6)) none = sixL i := by
  have hl := num6 h0 h1
  have hne := numL_ne i.toNat
  unfold sixL
  generalize numL i.toNat = ds at hne hl
  rw [cutL_last (by decide)]
  have hp : 1 ≤ ds.length := by cases ds with | nil => exact absurd rfl hne | cons _ _ => simp
  have e : ((-6 : Int) + ((([48, 48, 48, 48, 48] : List Nat) ++ ds).length : Nat)).toNat = ds.length - 1 := by
    rw [List.length_append]; simp; omega
  rw [e, List.drop_append_of_le_length (by simp; omega)]
  have h5 : ([48, 48, 48, 48, 48] : List Nat) = List.replicate 5 48 := rfl
  rw [h5, List.drop_replicate, show 5 - (ds.length - 1) = 6 - ds.length from by omega]
theorem foldl_congr' {α β : Type} {f g : α → β → α} (h : ∀ a b, f a b = g a b) : ∀ (l : List β) (a : α), l.foldl f a = l.foldl g a
  | [], _ => rfl
  | x :: l, a => by rw [List.foldl_cons, List.foldl_cons, h, foldl_congr' h l]
/-- a sum's text -/
def sumL (l : List Nat) : List Nat := sixL (sumI l)
theorem sixL_len {i : Int} (h0 : 0 ≤ i) (h1 : i < 999983) : (sixL i).length = 6 := by
  have := num6 h0 h1
  unfold sixL
  simp; omega
theorem sumL_len (l : List Nat) : (sumL l).length = 6 := sixL_len (sumI_ok l).1 (sumI_ok l).2
theorem sixL_dig {i : Int} : ∀ x ∈ sixL i, 48 ≤ x ∧ x ≤ 57 := fun x hx => by
  unfold sixL at hx
  rcases List.mem_append.mp hx with h | h
  · rw [List.eq_of_mem_replicate h]; decide
  · have := numL_digits i.toNat x h
    omega
theorem sumL_ok (l : List Nat) : SOk (sumL l) := fun x hx => by have := sixL_dig x hx; omega
def A_sum_of : ASp := fun ds θ k _ => ∃ l : List Nat, ds = [.str (S l)] ∧ l.length ≤ 100000 ∧ k (.str (S (sumL l))) θ
theorem c_sum {l : List Nat} {θ : Th} {k : AK} {kx : AX} (h : l.length ≤ 100000) (q : k (.str (S (sumL l))) θ) : A_sum_of [.str (S l)] θ k kx := ⟨l, rfl, h, q⟩
abbrev A_law_sum : ASp := A_sum_of
theorem len_sum_of : ∀ ds θ k kx, A_sum_of ds θ k kx → ds.length = 1 := by rintro _ θ k kx ⟨_, rfl, _⟩; rfl
theorem len_law_sum : ∀ ds θ k kx, A_law_sum ds θ k kx → ds.length = 1 := len_sum_of
def t_sum_of : ASR := aSeq (aAsg (aC (.int 0)) (gN 1)) (aSeq (aFor (aItS (aVar 0)) (gN 2) (aAsg (aBin fMod (aBin fSub (aBin fAdd (aBin fMul (aC (.int 31)) (aVar 1)) (aCB fOrd (aCons (aVar 2) (aNil)))) (aC (.int 32))) (aC (.int 999983))) (gN 1))) (aRet (aBM "str" fZfill (aCB fStr (aCons (aVar 1) (aNil))) (aCons (aC (.int 6)) (aNil)))))
theorem ld0 : (" " : Str) = S [32] := by decide +kernel
theorem ld1 : ("00000" : Str) = S [48, 48, 48, 48, 48] := by decide +kernel
def t_law_sum : ASR := aSeq (aAsg (aC (.int 0)) (gN 1)) (aSeq (aFor (aItS (aVar 0)) (gN 2) (aAsg (aBin fMod (aBin fSub (aBin fAdd (aBin fMul (aVar 1) (aC (.int 31))) (aCB fOrd (aCons (aVar 2) (aNil)))) (aCB fOrd (aCons (aC (.str " ")) (aNil)))) (aC (.int 999983))) (gN 1))) (aRet (aSl (aBin fAdd (aC (.str "00000")) (aCB fStr (aCons (aVar 1) (aNil)))) (oSome (aUn fNeg (aC (.int 6)))) oNone)))
local macro_rules | `(tactic| walk_at "lits_law_sum") => `(tactic| simp only [ld0, ld1])
/-- the sum of the first signs -/
theorem sumI_snoc (l : List Nat) (c : Nat) : sumI (l ++ [c]) = (31 * sumI l + (c : Int) - 32) % 999983 := by unfold sumI; rw [List.foldl_append]; rfl
theorem take_snoc {α : Type} {l : List α} {i : Nat} {x : α} (h : l[i]? = some x) : l.take (i + 1) = l.take i ++ [x] := by
  rw [List.take_succ, h]; rfl
theorem signs_get {l : List Nat} {i : Nat} {d : D} (h : (AB.signs (S l))[i]? = some d) : ∃ c, l[i]? = some c ∧ d = .str (S [c]) := by
  unfold AB.signs at h
  rw [List.getElem?_map] at h
  obtain ⟨c, h1, h2⟩ := Option.map_eq_some_iff.mp h
  exact ⟨c, h1, h2.symm⟩
theorem run_sum_of : ∀ ds θ k kx, (∀ e ∈ θ, Ent.lt θ.length e) → A_sum_of ds θ k kx → t_sum_of (eBody θ.length k kx) (startG 3 ds) θ := by
  rintro ds θ k kx - ⟨l, rfl, hl, q⟩
  walk_at "gs"
  unfold t_sum_of
  walk_at "go"
  refine loop_inv (fun i Γ θ' => θ' = θ ∧ ∃ x2 : Option D, Γ = [some (.str (S l)), some (.int (sumI (l.take i))), x2]) ⟨rfl, _, rfl⟩ (fun _ _ _ _ => trivial) ?_ ?_
  · rintro i d Γ θ' kk hd ⟨rfl, x2, rfl⟩ hk
    obtain ⟨c, hc, rfl⟩ := signs_get hd
    have hs := sumI_ok (l.take i)
    walk_at "go"
    refine hk _ _ ⟨rfl, some (.str (S [c])), ?_⟩
    rw [take_snoc hc, sumI_snoc]
    rfl
  · rintro Γ θ' ⟨rfl, x2, rfl⟩
    rw [signs_len, List.take_of_length_le (Nat.le_refl _)]
    have hs := sumI_ok l
    walk_at "go"
    rw [S_num hs.1, zfill6 hs.1 hs.2]
    exact q
theorem run_law_sum : ∀ ds θ k kx, (∀ e ∈ θ, Ent.lt θ.length e) → A_law_sum ds θ k kx → t_law_sum (eBody θ.length k kx) (startG 3 ds) θ := by
  rintro ds θ k kx - ⟨l, rfl, hl, q⟩
  walk_at "gs"
  unfold t_law_sum
  walk_at "lits_law_sum"
  walk_at "go"
  refine loop_inv (fun i Γ θ' => θ' = θ ∧ ∃ x2 : Option D, Γ = [some (.str (S l)), some (.int (sumI (l.take i))), x2]) ⟨rfl, _, rfl⟩ (fun _ _ _ _ => trivial) ?_ ?_
  · rintro i d Γ θ' kk hd ⟨rfl, x2, rfl⟩ hk
    obtain ⟨c, hc, rfl⟩ := signs_get hd
    have hs := sumI_ok (l.take i)
    walk_at "go"
    refine hk _ _ ⟨rfl, some (.str (S [c])), ?_⟩
    rw [take_snoc hc, sumI_snoc, Int.mul_comm]
    rfl
  · rintro Γ θ' ⟨rfl, x2, rfl⟩
    rw [signs_len, List.take_of_length_le (Nat.le_refl _)]
    have hs := sumI_ok l
    walk_at "go"
    rw [S_num hs.1]
    have h6 := num6 hs.1 hs.2
    walk_at "go"
    rw [cut6 hs.1 hs.2]
    exact q

/-! _law_same -/
theorem fn_none {P : Program} {w : World} {K : PySem.W.Frag} {mg : Str → Option Value} {base : Heap} {CX : CXT} {k : Nat} {f : Addr} {fd : FuncData} {ps : List Str} {A : ASp} (h : ∀ ds θ k kx, ¬ A ds θ k kx) : FnOk P w K mg base CX k f fd ps (LF K A) :=
  ⟨fun _ _ _ _ ⟨_, _, ds, k, kx, _, _, q, _⟩ => (h _ _ _ _ q).elim, fun _ _ _ _ _ _ _ _ _ _ _ _ _ ⟨_, _, ds, k, kx, _, _, q, _⟩ => (h _ _ _ _ q).elim⟩
mutual
/-- what the law's helper takes, by depth -/
def Pl : D → Nat → Prop
  | .non, n => 0 < n
  | .bl _, n => 0 < n
  | .int _, n => 0 < n
  | .str x, n => 0 < n ∧ SOk x.cps.toList
  | .tup ds, n => 0 < n ∧ ds.length ≤ 100000 ∧ Pls ds (n - 1)
  | .lst ds, n => False
  | .lsk _, _ => False
  | .obj _, _ => False
  | .raw _, _ => False
def Pls : List D → Nat → Prop
  | [], _ => True
  | d :: ds, n => Pl d n ∧ Pls ds n
end
mutual
def sameD : D → D → Bool
  | .non, .non => true
  | .bl a, .bl b => decide (a = b)
  | .int i, .int j => decide (i = j)
  | .str x, .str y => decide (x = y)
  | .tup xs, .tup ys => sameDs xs ys
  | _, _ => false
def sameDs : List D → List D → Bool
  | [], [] => true
  | x :: xs, y :: ys => sameD x y && sameDs xs ys
  | _, _ => false
end
theorem pls_iff {ds : List D} {n : Nat} : Pls ds n ↔ ∀ d ∈ ds, Pl d n := by
  induction ds with
  | nil => unfold Pls; simp
  | cons d ds ih => unfold Pls; rw [ih]; simp
theorem sameDs_len : ∀ {xs ys : List D}, xs.length ≠ ys.length → sameDs xs ys = false
  | [], [], h => absurd rfl h
  | [], _ :: _, _ => by unfold sameDs; rfl
  | _ :: _, [], _ => by unfold sameDs; rfl
  | x :: xs, y :: ys, h => by
    unfold sameDs
    rw [sameDs_len (xs := xs) (ys := ys) (fun e => h (by simp [e]))]; simp
theorem sameDs_zip : ∀ {xs ys : List D}, xs.length = ys.length → (xs.zip ys).all (fun p => sameD p.1 p.2) = sameDs xs ys
  | [], [], _ => by unfold sameDs; rfl
  | [], _ :: _, h => by cases h
  | _ :: _, [], h => by cases h
  | x :: xs, y :: ys, h => by
    unfold sameDs
    rw [List.zip_cons_cons, List.all_cons, sameDs_zip (by simpa using h)]
def A_law_same_at (n : Nat) : ASp := fun ds θ k _ => ∃ a b, ds = [a, b] ∧ Pl a n ∧ Pl b n ∧ k (.bl (sameD a b)) θ
abbrev A_law_same : ASp := A_law_same_at 5
theorem no_law_same {ds : List D} {θ : Th} {k : AK} {kx : AX} (h : A_law_same_at 0 ds θ k kx) : False := by
  obtain ⟨a, b, rfl, h1, _, _⟩ := h
  cases a <;> unfold Pl at h1 <;> first | exact h1 | exact absurd h1 (Nat.lt_irrefl 0) | exact absurd h1.1 (Nat.lt_irrefl 0)
theorem len_law_same (n : Nat) : ∀ ds θ k kx, A_law_same_at n ds θ k kx → ds.length = 2 := by rintro _ θ k kx ⟨_, _, rfl, _⟩; rfl
theorem c_same {a b : D} {n : Nat} {θ : Th} {k : AK} {kx : AX} (h1 : Pl a n) (h2 : Pl b n) (q : k (.bl (sameD a b)) θ) : A_law_same_at n [a, b] θ k kx := ⟨a, b, rfl, h1, h2, q⟩
def t_law_same (A0 : ASp) : ASR := aSeq (aIfS (aTru (aCB fIsi (aCons (aVar 1) (aCons (aC (.raw (.ty "tuple"))) (aNil))))) (aSeq (aIfS (aOr (aNot (aTru (aCB fIsi (aCons (aVar 0) (aCons (aC (.raw (.ty "tuple"))) (aNil)))))) (aTst (aBin fNe (aCB fLen (aCons (aVar 0) (aNil))) (aCB fLen (aCons (aVar 1) (aNil)))))) (aRet (aC (.bl false))) (aNext)) (aRet (aCB fAll (aCons (aLc (aZip (aCons (aVar 0) (aCons (aVar 1) (aNil)))) (.tup [2, 3]) (aYes) (aCall A0 (aCons (aVar 2) (aCons (aVar 3) (aNil)))) [2, 3]) (aNil))))) (aNext)) (aSeq (aIfS (aTst (aBin fIs (aVar 1) (aC .non))) (aRet (aBin fIs (aVar 0) (aC .non))) (aNext)) (aSeq (aIfS (aOr (aTru (aCB fIsi (aCons (aVar 1) (aCons (aC (.raw (.ty "bool"))) (aNil))))) (aTru (aCB fIsi (aCons (aVar 0) (aCons (aC (.raw (.ty "bool"))) (aNil)))))) (aRet (aAndV (aCB fIsi (aCons (aVar 1) (aCons (aC (.raw (.ty "bool"))) (aNil)))) (aAndV (aCB fIsi (aCons (aVar 0) (aCons (aC (.raw (.ty "bool"))) (aNil)))) (aBin fEq (aVar 0) (aVar 1))))) (aNext)) (aRet (aAndV (aCB fIsi (aCons (aVar 0) (aCons (aTup (aCons (aC (.raw (.ty "int"))) (aCons (aC (.raw (.ty "str"))) (aNil)))) (aNil)))) (aBin fEq (aVar 0) (aVar 1))))))
theorem pl_ty {a : D} {n : Nat} {θ : Th} (h : Pl a n) : ∃ c, tyNm θ a = some c := by
  cases a <;> first | exact ⟨_, rfl⟩ | (unfold Pl at h; exact h.elim)
theorem run_law_same (n : Nat) : ∀ ds θ k kx, (∀ e ∈ θ, Ent.lt θ.length e) → A_law_same_at (n + 1) ds θ k kx → t_law_same (A_law_same_at n) (eBody θ.length k kx) (startG 4 ds) θ := by
  rintro ds θ k kx - ⟨a, b, rfl, h1, h2, q⟩
  walk_at "gs"
  unfold t_law_same
  cases b with
  | tup ys =>
    walk_at "gd"
    cases a with
    | tup xs =>
      walk_at "gd"
      refine w_if (fun h => ?_) (fun h => ?_)
      · have hl : xs.length = ys.length := by omega
        unfold Pl at h1 h2
        have hz : (zipD xs ys).length ≤ 100000 := by rw [zipD_len]; omega
        walk_at "gd"
        refine .inl ⟨_, _, rfl, rfl, ?_⟩
        walk_at "gd"
        refine cl_map (fun p : D × D => .bl (sameD p.1 p.2)) (fun p hp acc ko q => ?_) ?_
        · have hp' := List.of_mem_zip hp
          walk_at "gd"
          refine c_same (pls_iff.mp h1.2.2 _ hp'.1) (pls_iff.mp h2.2.2 _ hp'.2) ?_
          walk_at "gd"
          exact q
        · refine And.intro (lts_bls _) ?_
          walk_at "gd"
          unfold sameD at q
          rw [← sameDs_zip hl] at q
          exact q
      · walk_at "gd"
        unfold sameD at q
        rw [sameDs_len (by omega)] at q
        exact q
    | lst _ => unfold Pl at h1; exact h1.elim
    | lsk _ => unfold Pl at h1; exact h1.elim
    | obj _ => unfold Pl at h1; exact h1.elim
    | raw _ => unfold Pl at h1; exact h1.elim
    | _ =>
      walk_at "gd"
      unfold sameD at q
      exact q
  | lsk _ => unfold Pl at h2; exact h2.elim
  | obj _ => unfold Pl at h2; exact h2.elim
  | raw _ => unfold Pl at h2; exact h2.elim
  | non =>
    cases a with
    | lst _ => unfold Pl at h1; exact h1.elim
    | lsk _ => unfold Pl at h1; exact h1.elim
    | obj _ => unfold Pl at h1; exact h1.elim
    | raw _ => unfold Pl at h1; exact h1.elim
    | _ =>
      walk_at "gd"
      unfold sameD at q
      exact q
  | lst _ => unfold Pl at h2; exact h2.elim
  | _ =>
    cases a with
    | lst _ => unfold Pl at h1; exact h1.elim
    | lsk _ => unfold Pl at h1; exact h1.elim
    | obj _ => unfold Pl at h1; exact h1.elim
    | raw _ => unfold Pl at h1; exact h1.elim
    | _ =>
      walk_at "gd"
      unfold sameD at q
      first
        | exact q
        | (rename_i x y _
           have e : decide (x = y) = decide (x.cps.toList = y.cps.toList) := decide_eq_decide.mpr ⟨fun h => by rw [h], fun h => ext_tl h⟩
           rw [e] at q; exact q)
        | (rename_i x y
           have e : decide (y = x) = decide (y.cps.toList = x.cps.toList) := decide_eq_decide.mpr ⟨fun h => by rw [h], fun h => ext_tl h⟩
           rw [e] at q; exact q)


theorem pl_str {l : List Nat} {n : Nat} (h : SOk l) : Pl (.str (S l)) (n + 1) := by unfold Pl; exact ⟨Nat.succ_pos _, h⟩
mutual
theorem same_refl : ∀ (d : D) (n : Nat), Pl d n → sameD d d = true
  | .non, _, _ => by unfold sameD; rfl
  | .bl b, _, _ => by unfold sameD; simp
  | .int b, _, _ => by unfold sameD; simp
  | .str b, _, _ => by unfold sameD; simp
  | .tup ds, n, h => by unfold Pl at h; unfold sameD; exact sames_refl ds _ h.2.2
  | .lst _, _, h => by unfold Pl at h; exact h.elim
  | .lsk _, _, h => by unfold Pl at h; exact h.elim
  | .obj _, _, h => by unfold Pl at h; exact h.elim
  | .raw _, _, h => by unfold Pl at h; exact h.elim
theorem sames_refl : ∀ (ds : List D) (n : Nat), Pls ds n → sameDs ds ds = true
  | [], _, _ => by unfold sameDs; rfl
  | d :: ds, n, h => by unfold Pls at h; unfold sameDs; rw [same_refl d n h.1, sames_refl ds n h.2]; rfl
end
theorem c_sameT {a : D} {n : Nat} {θ : Th} {k : AK} {kx : AX} (h1 : Pl a n) (q : k (.bl true) θ) : A_law_same_at n [a, a] θ k kx := c_same h1 h1 (by rw [same_refl a n h1]; exact q)
theorem SOk.app {a b : List Nat} (h1 : SOk a) (h2 : SOk b) : SOk (a ++ b) := fun x hx => (List.mem_append.mp hx).elim (h1 x) (h2 x)
theorem SOk.take {a : List Nat} {n : Nat} (h : SOk a) : SOk (a.take n) := fun x hx => h x (List.mem_of_mem_take hx)
theorem SOk.drop {a : List Nat} {n : Nat} (h : SOk a) : SOk (a.drop n) := fun x hx => h x (List.mem_of_mem_drop hx)
theorem SOk.rep {a : List Nat} {n : Nat} (h : SOk a) : SOk (List.replicate n a).flatten := fun x hx => by
  obtain ⟨l, hl, hx⟩ := List.mem_flatten.mp hx
  rw [List.eq_of_mem_replicate hl] at hx
  exact h x hx
theorem SOk.cut {a : List Nat} {lo hi : Option Int} (h : SOk a) : SOk (cutL a lo hi) := SOk.take (SOk.drop h)
theorem SOk.data {a : List Nat} (h : DataOk a) : SOk a := fun x hx => by have := h.2 x hx; omega
theorem SOk.key {a : List Nat} (h : KeyOk a) : SOk a := fun x hx => by
  have : ∀ x ∈ sgs, x < 1114112 := by decide +kernel
  exact this x (h.2.2 x hx)
theorem SOk.num (n : Nat) : SOk (numL n) := fun x hx => by have := numL_digits n x hx; omega
end AB
namespace AB
open PySem PySem.Spec PyProof.Rows L2 TL
/-! ### the data of the uploads -/
structure Up where
  last : Int
  op : List (Int × (List Nat × Int))
  pc : List (Int × List (Int × List Nat))
@[reducible] def opV (p : List Nat × Int) : D := .tup [.str (S p.1), .int p.2]
def intK (i : Int) : Key := Sum.inl i
def strV (l : List Nat) : D := .str (S l)
theorem inj_intK : Inj intK := inj_int
def Up.opD (u : Up) : List (Key × D) := mapG intK opV u.op
/-- where the parts of the open uploads lie, n on -/
def Up.pcA (u : Up) (n : Nat) (ix : Int → Nat) : List (Int × Nat) := u.pc.map fun x => (x.1, n + ix x.1)
def Up.pcD (u : Up) (n : Nat) (ix : Int → Nat) : List (Key × D) := mapG intK D.obj (u.pcA n ix)
/-- an open upload's parts -/
def partD (p : List (Int × List Nat)) : List (Key × D) := mapG intK strV p
/-- the uploads' three entries; C their class -/
def upl (C : Addr) (n : Nat) (ix : Int → Nat) (u : Up) : Th := [.ins C [("last", .int u.last), ("open_ones", .obj (n + 1)), ("pieces", .obj (n + 2))], .dK u.opD, .dK (u.pcD (n + 4) ix)]
theorem op_val {u : Up} (i : Int) : valG u.opD (Sum.inl i) = (valG u.op i).map opV := valG_map inj_intK u.op i
theorem valG_fst {κ β γ : Type} [DecidableEq κ] (f : κ × β → γ) : ∀ (m : List (κ × β)) (k : κ), valG (m.map fun x => (x.1, f x)) k = (m.find? fun kv => decide (kv.1 = k)).map f
  | [], _ => rfl
  | p :: m, k => by
    have ih := valG_fst f m k
    unfold valG at *
    rw [List.map_cons, List.find?_cons, List.find?_cons]
    by_cases e : p.1 = k
    · rw [show decide ((p.1, f p).1 = k) = true from decide_eq_true e]; rfl
    · rw [show decide ((p.1, f p).1 = k) = false from decide_eq_false e]
      exact ih
theorem pc_val {u : Up} {n : Nat} {ix : Int → Nat} (i : Int) : valG (u.pcD n ix) (Sum.inl i) = (valG u.pc i).map fun _ => .obj (n + ix i) := by
  have h : valG (u.pcD n ix) (Sum.inl i) = (valG (u.pcA n ix) i).map D.obj := valG_map inj_intK (u.pcA n ix) i
  rw [h]
  unfold Up.pcA
  rw [valG_fst (fun x : Int × List (Int × List Nat) => n + ix x.1)]
  unfold valG
  cases e : u.pc.find? (fun kv => decide (kv.1 = i)) with
  | none => rfl
  | some x =>
    have := List.find?_some e
    have hx : x.1 = i := of_decide_eq_true this
    show some (D.obj (n + ix x.1)) = some (D.obj (n + ix i))
    rw [hx]
theorem part_val {p : List (Int × List Nat)} (i : Int) : valG (partD p) (Sum.inl i) = (valG p i).map strV := valG_map inj_intK p i
theorem op_put {u : Up} (i : Int) (p : List Nat × Int) : putG u.opD (Sum.inl i) (opV p) = mapG intK opV (putG u.op i p) := putG_map inj_intK u.op i p
theorem part_put {p : List (Int × List Nat)} (i : Int) (l : List Nat) : putG (partD p) (Sum.inl i) (.str (S l)) = partD (putG p i l) := putG_map inj_intK p i l
theorem op_drop {u : Up} (i : Int) : dropG u.opD (Sum.inl i) = mapG intK opV (dropG u.op i) := dropG_map inj_intK u.op i
theorem pc_drop {u : Up} {n : Nat} {ix : Int → Nat} (i : Int) : dropG (u.pcD n ix) (Sum.inl i) = (Up.pcD ⟨u.last, dropG u.op i, dropG u.pc i⟩ n ix) := by
  have h : dropG (u.pcD n ix) (Sum.inl i) = mapG intK D.obj (dropG (u.pcA n ix) i) := dropG_map inj_intK (u.pcA n ix) i
  rw [h]
  unfold Up.pcD Up.pcA dropG
  congr 1
  rw [List.filter_map]
  rfl
/-- parts change: the places stay -/
theorem keys_putG {κ β : Type} [DecidableEq κ] {m : List (κ × β)} {k : κ} (h : (valG m k).isSome) (v : β) : (putG m k v).map (·.1) = m.map (·.1) := by
  unfold putG
  rw [if_pos (by
    unfold valG at h
    rw [Option.isSome_map] at h
    obtain ⟨p, hp⟩ := Option.isSome_iff_exists.mp h
    exact List.any_eq_true.mpr ⟨p, List.mem_of_find?_eq_some hp, by have := List.find?_some hp; exact this⟩)]
  rw [List.map_map]
  refine List.map_congr_left fun p _ => ?_
  show (if p.1 = k then (p.1, v) else p).1 = p.1
  split <;> rfl
theorem pcA_keys {u : Up} {n : Nat} {ix : Int → Nat} : u.pcA n ix = (u.pc.map (·.1)).map fun i => (i, n + ix i) := by unfold Up.pcA; rw [List.map_map]; rfl
theorem pcD_put {u : Up} {n : Nat} {ix : Int → Nat} {i : Int} (h : (valG u.pc i).isSome) (p : List (Int × List Nat)) : Up.pcD ⟨u.last, u.op, putG u.pc i p⟩ n ix = u.pcD n ix := by
  unfold Up.pcD
  rw [pcA_keys, pcA_keys]
  show mapG intK D.obj (((putG u.pc i p).map (·.1)).map _) = _
  rw [keys_putG h]
theorem putG_new {κ β : Type} [DecidableEq κ] {m : List (κ × β)} {k : κ} (h : valG m k = none) (v : β) : putG m k v = m ++ [(k, v)] := by
  unfold putG
  rw [if_neg]
  intro z
  obtain ⟨p, hp, hk⟩ := List.any_eq_true.mp z
  unfold valG at h
  rw [Option.map_eq_none_iff, List.find?_eq_none] at h
  exact h p hp hk
/-- a new upload -/
theorem pcD_new {u : Up} {n j : Nat} {ix : Int → Nat} {i : Int} (h : valG u.pc i = none) : putG (u.pcD n ix) (Sum.inl i) (.obj (n + j)) = Up.pcD ⟨i, putG u.op i x, putG u.pc i []⟩ n (fun m => if m = i then j else ix m) := by
  have hv : valG (u.pcD n ix) (Sum.inl i) = none := by rw [pc_val, h]; rfl
  rw [putG_new hv]
  unfold Up.pcD
  rw [pcA_keys, pcA_keys]
  show _ = mapG intK D.obj (((putG u.pc i []).map (·.1)).map _)
  rw [putG_new h, List.map_append, List.map_append]
  unfold mapG
  rw [List.map_append]
  congr 1
  · rw [List.map_map, List.map_map (l := List.map (fun x => x.1) u.pc)]
    refine List.map_congr_left fun m hm => ?_
    have hne : m ≠ i := fun z => by
      obtain ⟨p, hp, rfl⟩ := List.mem_map.mp hm
      unfold valG at h
      rw [Option.map_eq_none_iff, List.find?_eq_none] at h
      exact h p hp (decide_eq_true z)
    show (intK m, D.obj (n + ix m)) = (intK m, D.obj (n + if m = i then j else ix m))
    rw [if_neg hne]
  · show [(Sum.inl i, D.obj (n + j))] = [(intK i, D.obj (n + if i = i then j else ix i))]
    rw [if_pos rfl]; rfl
/-! ### the data of a store -/
inductive Ch where
  | put (k : List Nat) (v day : Int) (data tot : List Nat) | gone (k : List Nat) (v day : Int) | drop (k : List Nat) (v : Int) | hold (k : List Nat) (v u : Int)
def Ch.body : Ch → List D
  | .put k v day data tot => [.str (S [112, 117, 116]), .str (S k), .int v, .int day, .str (S data), .str (S tot)]
  | .gone k v day => [.str (S [103, 111, 110, 101]), .str (S k), .int v, .int day]
  | .drop k v => [.str (S [100, 114, 111, 112]), .str (S k), .int v]
  | .hold k v u => [.str (S [104, 111, 108, 100]), .str (S k), .int v, .int u]
/-- the changes, numbered from i on -/
def logD : Nat → List Ch → List D
  | _, [] => []
  | i, c :: cs => .tup (.int (i : Nat) :: c.body) :: logD (i + 1) cs
theorem logD_app : ∀ (i : Nat) (a b : List Ch), logD i (a ++ b) = logD i a ++ logD (i + a.length) b
  | i, [], b => by simp [logD]
  | i, c :: a, b => by
    show D.tup (.int (i : Nat) :: c.body) :: logD (i + 1) (a ++ b) = D.tup (.int (i : Nat) :: c.body) :: (logD (i + 1) a ++ logD (i + (a.length + 1)) b)
    rw [logD_app (i + 1) a b, show i + 1 + a.length = i + (a.length + 1) from by omega]
theorem logD_len : ∀ (i : Nat) (a : List Ch), (logD i a).length = a.length
  | _, [] => rfl
  | i, c :: a => by unfold logD; rw [List.length_cons, logD_len, List.length_cons]
theorem logD_drop : ∀ (i n : Nat) (a : List Ch), (logD i a).drop n = logD (i + n) (a.drop n)
  | i, 0, a => rfl
  | i, n + 1, [] => rfl
  | i, n + 1, c :: a => by
    show (logD (i + 1) a).drop n = logD (i + (n + 1)) (a.drop n)
    rw [logD_drop, show i + 1 + n = i + (n + 1) from by omega]
theorem logD_get {i j : Nat} {a : List Ch} {d : D} (h : (logD i a)[j]? = some d) : ∃ c, a[j]? = some c ∧ d = .tup (.int ((i + j : Nat) : Int) :: c.body) := by
  induction a generalizing i j with
  | nil => cases h
  | cons c a ih =>
    cases j with
    | zero => exact ⟨c, rfl, by simpa [logD] using h.symm⟩
    | succ j =>
      obtain ⟨c', h1, h2⟩ := ih (i := i + 1) (j := j) h
      exact ⟨c', h1, by rw [h2, show i + 1 + j = i + (j + 1) from by omega]⟩
structure Sto where
  most : Int
  today : Int
  last : Int
  sh : Sh
  up : Up
  log : List Ch
/-- a store's eight entries; C, CS, CU the classes of store, shelf, uploads -/
def sto (C CS CU : Addr) (n : Nat) (ix : Int → Nat) (s : Sto) : Th :=
  .ins C [("most", .int s.most), ("today", .int s.today), ("last_version", .int s.last), ("shelf", .obj (n + 1)), ("sending", .obj (n + 4)), ("log", .obj (n + 7))] :: (shl CS (n + 1) s.sh ++ (upl CU (n + 4) ix s.up ++ [.lst (logD 1 s.log)]))
theorem Len.snoc {pre : Th} {n : Nat} {e : Ent} (h : Len pre n) : Len (pre ++ [e]) (n + 1) := ⟨by rw [List.length_append, h.e]; rfl⟩
theorem Len.app {pre es : Th} {n m : Nat} (h : Len pre n) (hm : es.length = m) : Len (pre ++ es) (n + m) := ⟨by rw [List.length_append, h.e, hm]⟩
/-- a store's entries, cut at its shelf -/
theorem sto_sh {C CS CU : Addr} {n : Nat} {ix : Int → Nat} {s : Sto} {pre post : Th} : pre ++ (sto C CS CU n ix s ++ post) = (pre ++ [.ins C [("most", .int s.most), ("today", .int s.today), ("last_version", .int s.last), ("shelf", .obj (n + 1)), ("sending", .obj (n + 4)), ("log", .obj (n + 7))]]) ++ (shl CS (n + 1) s.sh ++ (upl CU (n + 4) ix s.up ++ (.lst (logD 1 s.log) :: post))) := by
  unfold sto
  simp only [List.append_assoc, List.cons_append, List.nil_append]
/-- a store's entries, cut at its uploads -/
theorem sto_up {C CS CU : Addr} {n : Nat} {ix : Int → Nat} {s : Sto} {pre post : Th} : pre ++ (sto C CS CU n ix s ++ post) = (pre ++ (.ins C [("most", .int s.most), ("today", .int s.today), ("last_version", .int s.last), ("shelf", .obj (n + 1)), ("sending", .obj (n + 4)), ("log", .obj (n + 7))] :: shl CS (n + 1) s.sh)) ++ (upl CU (n + 4) ix s.up ++ (.lst (logD 1 s.log) :: post)) := by
  unfold sto
  simp only [List.append_assoc, List.cons_append, List.nil_append]
/-! ### what is told -/
inductive Er where
  | NoKey | Gone | NoVersion | Changed | Full | NoUpload | BadPart | TooSmall | NoRange | Held | Gap
  deriving DecidableEq
inductive Ou (α : Type) where
  | ok (a : α) | no (e : Er)
def Ou.on {α : Type} (o : Ou α) (f : α → Prop) (g : Er → Prop) : Prop := match o with
  | .ok a => f a
  | .no e => g e
theorem on_ok {α : Type} {a : α} {f : α → Prop} {g : Er → Prop} : (Ou.ok a).on f g = f a := rfl
theorem on_no {α : Type} {e : Er} {f : α → Prop} {g : Er → Prop} : (Ou.no e : Ou α).on f g = g e := rfl
end AB
namespace AB
open PySem PySem.Spec PyProof.Rows L2 TL
/-! ### what a shelf, uploads, a store do -/
def Sh.put (s : Sh) (key : List Nat) (r : Rw) : Sh := ⟨putG s.rows key (s.at key ++ [r]), s.til⟩
def Sh.row? (s : Sh) (key : List Nat) (v : Int) : Option Rw := (s.at key).find? fun r => decide (r.v = v)
def Sh.held (s : Sh) (key : List Nat) (v : Int) : Int := (valG s.til (key, v)).getD 0
def Sh.leave (s : Sh) (key : List Nat) (v : Int) : Sh := ⟨putG s.rows key ((s.at key).filter fun r => decide (r.v ≠ v)), dropG s.til (key, v)⟩
def Sh.hold (s : Sh) (key : List Nat) (v u : Int) : Sh := ⟨s.rows, putG s.til (key, v) (max u (s.held key v))⟩
def Sh.get (s : Sh) (key : List Nat) : Ou (List Nat) := match (s.at key).getLast? with
  | none => .no .NoKey
  | some r => match r.data with
    | none => .no .Gone
    | some l => .ok l
def Sh.isThere (s : Sh) (key : List Nat) : Bool := match (s.at key).getLast? with
  | none => false
  | some r => r.data.isSome
def Sh.dataOf (s : Sh) (key : List Nat) (v : Int) : Ou (List Nat) := match s.row? key v with
  | none => .no .NoVersion
  | some r => match r.data with
    | none => .no .Gone
    | some l => .ok l
def Rw.told (r : Rw) : D := .tup [.int r.v, .int r.day, (match r.data with | none => .non | some l => .int (l.length : Nat)), oD r.tot]
def Rw.size (r : Rw) : Int := match r.data with | none => 0 | some l => (l.length : Nat)
def Sh.toldD (s : Sh) (key : List Nat) : D := .tup ((s.at key).reverse.map Rw.told)
def Sh.total (s : Sh) : Int := (s.rows.map fun p => (p.2.map Rw.size).sum).sum
def partsSize (p : List (Int × List Nat)) : Int := (p.map fun x => ((x.2.length : Nat) : Int)).sum
def Up.total (u : Up) : Int := (u.pc.map fun x => partsSize x.2).sum
def Up.close (u : Up) (i : Int) : Up := ⟨u.last, dropG u.op i, dropG u.pc i⟩
def Up.parts (u : Up) (i : Int) : List (Int × List Nat) := (valG u.pc i).getD []
def Up.send (u : Up) (i m : Int) (l : List Nat) : Up := ⟨u.last, u.op, putG u.pc i (putG (u.parts i) m l)⟩
def Up.begin (u : Up) (key : List Nat) (day : Int) : Up := ⟨u.last + 1, putG u.op (u.last + 1) (key, day), putG u.pc (u.last + 1) []⟩
def Sto.size (s : Sto) : Int := s.sh.total + s.up.total
def chOf (key : List Nat) (v day : Int) : Option (List Nat × List Nat) → Ch
  | none => .gone key v day
  | some p => .put key v day p.1 p.2
def Sto.come (s : Sto) (key : List Nat) (x : Option (List Nat × List Nat)) : Sto :=
  { s with last := s.last + 1, sh := s.sh.put key ⟨s.last + 1, s.today, x⟩, log := s.log ++ [chOf key (s.last + 1) s.today x] }
def Sto.put (s : Sto) (key data tot : List Nat) : Ou Sto := if s.size + (data.length : Nat) ≤ s.most then .ok (s.come key (some (data, tot))) else .no .Full
def Sto.drop (s : Sto) (key : List Nat) : Ou Sto := match s.sh.get key with
  | .no e => .no e
  | .ok _ => .ok (s.come key none)
def Sto.putIf (s : Sto) (key data : List Nat) (last : Option Int) : Ou Sto :=
  if last = none ∧ s.sh.isThere key = true then .no .Changed
  else if last ≠ none ∧ (s.sh.at key).getLast?.map (·.v) ≠ last then .no .Changed
  else s.put key data (sumL data)
def Sto.copy (s : Sto) (key : List Nat) (v : Int) (other : List Nat) : Ou Sto := match s.sh.row? key v with
  | none => .no .NoVersion
  | some r => match r.x with
    | none => .no .Gone
    | some p => s.put other p.1 p.2
def Sto.dropV (s : Sto) (key : List Nat) (v : Int) : Ou Sto := match s.sh.row? key v with
  | none => .no .NoVersion
  | some _ => if s.today < s.sh.held key v then .no .Held else .ok { s with sh := s.sh.leave key v, log := s.log ++ [.drop key v] }
def Sto.hold (s : Sto) (key : List Nat) (v u : Int) : Ou Sto := match s.sh.row? key v with
  | none => .no .NoVersion
  | some _ => .ok { s with sh := s.sh.hold key v u, log := s.log ++ [.hold key v (max u (s.sh.held key v))] }
/-! ### what stays well -/
structure Up.Fine (u : Up) (ix : Int → Nat) (post : Th) (b : Nat) : Prop where
  pl : u.pc.length ≤ b
  pn : (u.pc.map (·.1)).Nodup
  op : u.op.map (·.1) = u.pc.map (·.1)
  ij : ∀ x ∈ u.pc, ∀ y ∈ u.pc, ix x.1 = ix y.1 → x.1 = y.1
  pt : ∀ x ∈ u.pc, post[ix x.1]? = some (.dK (partD x.2))
  pb : ∀ x ∈ u.pc, x.2.length ≤ b ∧ (x.2.map (·.1)).Nodup ∧ ∀ y ∈ x.2, y.2.length ≤ 50000 ∧ SOk y.2
structure Sto.Fine (s : Sto) (ix : Int → Nat) (post : Th) (b : Nat) : Prop where
  sh : s.sh.Ok b
  nd : (s.sh.rows.map (·.1)).Nodup
  lg : s.log.length ≤ b
  up : s.up.Fine ix post b
theorem Sh.Ok.mono {s : Sh} {b c : Nat} (h : s.Ok b) (l : b ≤ c) : s.Ok c := ⟨Nat.le_trans h.n l, fun p hp => Nat.le_trans (h.r p hp) l, Nat.le_trans h.t l, h.d, h.o⟩
theorem Up.Fine.mono {u : Up} {ix : Int → Nat} {post : Th} {b c : Nat} (h : u.Fine ix post b) (l : b ≤ c) : u.Fine ix post c :=
  ⟨Nat.le_trans h.pl l, h.pn, h.op, h.ij, h.pt, fun x hx => ⟨Nat.le_trans (h.pb x hx).1 l, (h.pb x hx).2⟩⟩
theorem Sto.Fine.mono {s : Sto} {ix : Int → Nat} {post : Th} {b c : Nat} (h : s.Fine ix post b) (l : b ≤ c) : s.Fine ix post c := ⟨h.sh.mono l, h.nd, Nat.le_trans h.lg l, h.up.mono l⟩
theorem Up.Fine.post {u : Up} {ix : Int → Nat} {post post' : Th} {b : Nat} (h : u.Fine ix post b) (e : ∀ x ∈ u.pc, post'[ix x.1]? = post[ix x.1]?) : u.Fine ix post' b :=
  ⟨h.pl, h.pn, h.op, h.ij, fun x hx => by rw [e x hx]; exact h.pt x hx, h.pb⟩
theorem Up.Fine.app {u : Up} {ix : Int → Nat} {post : Th} {b : Nat} (h : u.Fine ix post b) (es : Th) : u.Fine ix (post ++ es) b :=
  h.post fun x hx => by rw [h.pt x hx]; exact th_app (h.pt x hx)
theorem Sto.Fine.app {s : Sto} {ix : Int → Nat} {post : Th} {b : Nat} (h : s.Fine ix post b) (es : Th) : s.Fine ix (post ++ es) b := ⟨h.sh, h.nd, h.lg, h.up.app es⟩
theorem Up.fine0 (ix : Int → Nat) (post : Th) (b : Nat) (l : Int) : Up.Fine ⟨l, [], []⟩ ix post b :=
  ⟨Nat.zero_le _, List.nodup_nil, rfl, fun _ h => (nomatch h), fun _ h => (nomatch h), fun _ h => nomatch h⟩
theorem mem_putG {κ β : Type} [DecidableEq κ] {m : List (κ × β)} {k : κ} {v : β} {p : κ × β} (h : p ∈ putG m k v) : p ∈ m ∨ p = (k, v) := by
  unfold putG at h
  split at h
  · obtain ⟨q, hq, rfl⟩ := List.mem_map.mp h
    split
    · rename_i e; exact .inr (by rw [e])
    · exact .inl hq
  · rcases List.mem_append.mp h with h | h
    · exact .inl h
    · exact .inr (by simpa using h)
theorem putG_le {κ β : Type} [DecidableEq κ] (m : List (κ × β)) (k : κ) (v : β) : (putG m k v).length ≤ m.length + 1 := by
  unfold putG
  split
  · simp
  · simp
theorem valG_none {κ β : Type} [DecidableEq κ] {m : List (κ × β)} {k : κ} : valG m k = none ↔ k ∉ m.map (·.1) := by
  unfold valG
  rw [Option.map_eq_none_iff, List.find?_eq_none]
  constructor
  · intro h z
    obtain ⟨p, hp, rfl⟩ := List.mem_map.mp z
    exact h p hp (decide_eq_true rfl)
  · intro h p hp z
    exact h (List.mem_map.mpr ⟨p, hp, of_decide_eq_true z⟩)
theorem nodup_putG {κ β : Type} [DecidableEq κ] {m : List (κ × β)} {k : κ} {v : β} (h : (m.map (·.1)).Nodup) : ((putG m k v).map (·.1)).Nodup := by
  cases e : valG m k with
  | none =>
    rw [putG_new e, List.map_append, List.nodup_append]
    refine ⟨h, by simp, fun a ha b hb => ?_⟩
    have hb' : b = k := by simpa using hb
    rw [hb']
    exact fun z => valG_none.mp e (z ▸ ha)
  | some x => rw [keys_putG (by rw [e]; rfl)]; exact h
theorem nodup_dropG {κ β : Type} [DecidableEq κ] {m : List (κ × β)} {k : κ} (h : (m.map (·.1)).Nodup) : ((dropG m k).map (·.1)).Nodup := by
  unfold dropG
  exact List.Nodup.sublist (List.Sublist.map _ (List.filter_sublist)) h
/-- data that a row may hold -/
def XOk (x : Option (List Nat × List Nat)) : Prop := ∀ p, x = some p → (p.1.length ≤ 50000 ∧ SOk p.1) ∧ (p.2.length ≤ 50000 ∧ SOk p.2)
theorem XOk.none : XOk none := fun _ h => nomatch h
theorem XOk.some {l t : List Nat} (h1 : l.length ≤ 50000) (h2 : SOk l) (h3 : t.length ≤ 50000) (h4 : SOk t) : XOk (some (l, t)) := fun p h => by cases h; exact ⟨⟨h1, h2⟩, h3, h4⟩
theorem XOk.sum {l : List Nat} (h1 : l.length ≤ 50000) (h2 : SOk l) : XOk (Option.some (l, sumL l)) := XOk.some h1 h2 (by rw [sumL_len]; decide) (sumL_ok l)
theorem Rw.data_x {r : Rw} {l : List Nat} (h : r.data = some l) : ∃ t, r.x = some (l, t) := by
  unfold Rw.data at h
  cases e : r.x with
  | none => rw [e] at h; cases h
  | some p => rw [e] at h; cases h; exact ⟨p.2, rfl⟩
theorem Rw.tot_x {r : Rw} {l : List Nat} (h : r.tot = some l) : ∃ t, r.x = some (t, l) := by
  unfold Rw.tot at h
  cases e : r.x with
  | none => rw [e] at h; cases h
  | some p => rw [e] at h; cases h; exact ⟨p.1, rfl⟩
theorem Rw.data_none {r : Rw} : r.data = none ↔ r.x = none := by unfold Rw.data; cases r.x <;> simp
theorem Sh.Ok.put {s : Sh} {b : Nat} {key : List Nat} {r : Rw} (h : s.Ok b) (hx : XOk r.x) : (s.put key r).Ok (b + 1) := by
  have hr : ∀ p ∈ (s.put key r).rows, p ∈ s.rows ∨ p = (key, s.at key ++ [r]) := fun p hp => mem_putG hp
  have hm : ∀ q ∈ s.at key ++ [r], q = r ∨ ∃ p ∈ s.rows, q ∈ p.2 := fun q hq => by
    rcases List.mem_append.mp hq with hq | hq
    · exact .inr (Sh.at_mem hq)
    · exact .inl (by simpa using hq)
  refine ⟨Nat.le_trans (putG_le _ _ _) (Nat.succ_le_succ h.n), fun p hp => ?_, Nat.le_succ_of_le h.t, fun p hp q hq l e => ?_, fun p hp q hq l e => ?_⟩
  · rcases hr p hp with hp | rfl
    · exact Nat.le_succ_of_le (h.r p hp)
    · have := Sh.at_len h key
      simp; omega
  · rcases hr p hp with hp | rfl
    · exact h.d p hp q hq l e
    · rcases hm q hq with rfl | ⟨p, hp, hq⟩
      · obtain ⟨t, ht⟩ := Rw.data_x e
        exact (hx _ ht).1
      · exact h.d p hp q hq l e
  · rcases hr p hp with hp | rfl
    · exact h.o p hp q hq l e
    · rcases hm q hq with rfl | ⟨p, hp, hq⟩
      · obtain ⟨t, ht⟩ := Rw.tot_x e
        exact (hx _ ht).2
      · exact h.o p hp q hq l e
theorem Sh.Ok.leave {s : Sh} {b : Nat} {key : List Nat} {v : Int} (h : s.Ok b) : (s.leave key v).Ok (b + 1) := by
  have hr : ∀ p ∈ (s.leave key v).rows, p ∈ s.rows ∨ p = (key, (s.at key).filter fun r => decide (r.v ≠ v)) := fun p hp => mem_putG hp
  have hm : ∀ q ∈ (s.at key).filter (fun r => decide (r.v ≠ v)), ∃ p ∈ s.rows, q ∈ p.2 := fun q hq => Sh.at_mem (List.mem_filter.mp hq).1
  refine ⟨Nat.le_trans (putG_le _ _ _) (Nat.succ_le_succ h.n), fun p hp => ?_, Nat.le_trans (dropG_len _ _) (Nat.le_succ_of_le h.t), fun p hp q hq l e => ?_, fun p hp q hq l e => ?_⟩
  · rcases hr p hp with hp | rfl
    · exact Nat.le_succ_of_le (h.r p hp)
    · have := Sh.at_len h key
      have := List.length_filter_le (fun r : Rw => decide (r.v ≠ v)) (s.at key)
      show (List.filter _ (s.at key)).length ≤ _
      omega
  · rcases hr p hp with hp | rfl
    · exact h.d p hp q hq l e
    · obtain ⟨p, hp, hq⟩ := hm q hq
      exact h.d p hp q hq l e
  · rcases hr p hp with hp | rfl
    · exact h.o p hp q hq l e
    · obtain ⟨p, hp, hq⟩ := hm q hq
      exact h.o p hp q hq l e
theorem Sh.Ok.hold {s : Sh} {b : Nat} {key : List Nat} {v u : Int} (h : s.Ok b) : (s.hold key v u).Ok (b + 1) :=
  ⟨Nat.le_succ_of_le h.n, fun p hp => Nat.le_succ_of_le (h.r p hp), Nat.le_trans (putG_le _ _ _) (Nat.succ_le_succ h.t), h.d, h.o⟩
section
variable {s : Sto} {ix : Int → Nat} {post : Th} {b : Nat}
theorem Sto.Fine.come (h : s.Fine ix post b) {key : List Nat} {x : Option (List Nat × List Nat)} (hx : XOk x) : (s.come key x).Fine ix post (b + 1) :=
  ⟨h.sh.put hx, nodup_putG h.nd, by unfold Sto.come; simp; exact h.lg, h.up.mono (Nat.le_succ b)⟩
theorem Sto.Fine.leave (h : s.Fine ix post b) {key : List Nat} {v : Int} {c : Ch} : Sto.Fine { s with sh := s.sh.leave key v, log := s.log ++ [c] } ix post (b + 1) :=
  ⟨h.sh.leave, nodup_putG h.nd, by simp; exact h.lg, h.up.mono (Nat.le_succ b)⟩
theorem Sto.Fine.hold (h : s.Fine ix post b) {key : List Nat} {v u : Int} {c : Ch} : Sto.Fine { s with sh := s.sh.hold key v u, log := s.log ++ [c] } ix post (b + 1) :=
  ⟨h.sh.hold, h.nd, by simp; exact h.lg, h.up.mono (Nat.le_succ b)⟩
theorem Sto.Fine.day (h : s.Fine ix post b) {d : Int} : Sto.Fine { s with today := d } ix post b := ⟨h.sh, h.nd, h.lg, h.up⟩
/-- a new store -/
def Sto.new (most : Int) : Sto := ⟨most, 0, 0, ⟨[], []⟩, ⟨0, [], []⟩, []⟩
theorem Sto.fine0 (most : Int) (ix : Int → Nat) (post : Th) : (Sto.new most).Fine ix post 0 :=
  ⟨⟨Nat.le_refl _, fun _ h => (nomatch h), Nat.le_refl _, fun _ h => (nomatch h), fun _ h => nomatch h⟩, List.nodup_nil, Nat.le_refl _, Up.fine0 _ _ _ _⟩
end
/-! rows looked at -/
theorem Sh.at_put_same (s : Sh) (key : List Nat) (r : Rw) : (s.put key r).at key = s.at key ++ [r] := by
  show (valG (putG s.rows key _) key).getD [] = _
  rw [valG_put_same]; rfl
theorem Sh.at_put_other (s : Sh) {key k2 : List Nat} (r : Rw) (h : k2 ≠ key) : (s.put key r).at k2 = s.at k2 := by
  show (valG (putG s.rows key _) k2).getD [] = _
  rw [valG_put_other _ _ h]; rfl
theorem Sh.at_leave_same (s : Sh) (key : List Nat) (v : Int) : (s.leave key v).at key = (s.at key).filter fun r => decide (r.v ≠ v) := by
  show (valG (putG s.rows key _) key).getD [] = _
  rw [valG_put_same]; rfl
theorem Sh.at_leave_other (s : Sh) {key k2 : List Nat} (v : Int) (h : k2 ≠ key) : (s.leave key v).at k2 = s.at k2 := by
  show (valG (putG s.rows key _) k2).getD [] = _
  rw [valG_put_other _ _ h]; rfl
theorem Sh.at_hold (s : Sh) (key k2 : List Nat) (v u : Int) : (s.hold key v u).at k2 = s.at k2 := rfl
/-- a sum over a dict, one value changed -/
theorem sum_putG {κ β : Type} [DecidableEq κ] (f : β → Int) : ∀ (m : List (κ × β)) (nd : (m.map (·.1)).Nodup) (k : κ) (v : β), ((putG m k v).map fun p => f p.2).sum = (m.map fun p => f p.2).sum + f v - ((valG m k).map f).getD 0
  | [], _, k, v => by
    show f v + 0 = 0 + f v - 0
    omega
  | p :: m, nd, k, v => by
    rw [List.map_cons, List.nodup_cons] at nd
    by_cases e : p.1 = k
    · have hn : ∀ q ∈ m, q.1 ≠ k := fun q hq z => nd.1 (List.mem_map.mpr ⟨q, hq, z.trans e.symm⟩)
      have h1 : putG (p :: m) k v = (p.1, v) :: m := by
        unfold putG
        rw [if_pos (by rw [List.any_cons, decide_eq_true e]; rfl), List.map_cons, if_pos e, e]
        congr 1
        refine (List.map_congr_left fun q hq => if_neg (hn q hq)).trans ?_
        simp
      have h2 : valG (p :: m) k = some p.2 := by unfold valG; rw [List.find?_cons, decide_eq_true e]; rfl
      rw [h1, h2]
      simp only [List.map_cons, List.sum_cons, Option.map_some, Option.getD_some]
      omega
    · have h1 : putG (p :: m) k v = p :: putG m k v := by
        unfold putG
        rw [List.any_cons, decide_eq_false e, Bool.false_or]
        split
        · rw [List.map_cons, if_neg e]
        · rfl
      have h2 : valG (p :: m) k = valG m k := by unfold valG; rw [List.find?_cons, decide_eq_false e]
      rw [h1, h2, List.map_cons, List.sum_cons, sum_putG f m nd.2 k v, List.map_cons, List.sum_cons]
      omega
theorem sum_app (a b : List Int) : (a ++ b).sum = a.sum + b.sum := List.sum_append
theorem Sh.total_put {s : Sh} (nd : (s.rows.map (·.1)).Nodup) (key : List Nat) (r : Rw) : (s.put key r).total = s.total + r.size := by
  show ((putG s.rows key (s.at key ++ [r])).map fun p => (p.2.map Rw.size).sum).sum = _
  rw [sum_putG (fun rs : List Rw => (rs.map Rw.size).sum) _ nd]
  unfold Sh.total Sh.at
  rw [List.map_append, sum_app]
  cases valG s.rows key <;> simp <;> omega
theorem Sh.total_leave {s : Sh} (nd : (s.rows.map (·.1)).Nodup) (key : List Nat) (v : Int) : (s.leave key v).total = s.total - ((s.at key).map Rw.size).sum + (((s.at key).filter fun r => decide (r.v ≠ v)).map Rw.size).sum := by
  show ((putG s.rows key _).map fun p => (p.2.map Rw.size).sum).sum = _
  rw [sum_putG (fun rs : List Rw => (rs.map Rw.size).sum) _ nd]
  unfold Sh.total Sh.at
  cases valG s.rows key <;> simp <;> omega
theorem keys_val {κ β γ : Type} [DecidableEq κ] {m : List (κ × β)} {m' : List (κ × γ)} (h : m.map (·.1) = m'.map (·.1)) (k : κ) : (valG m k).isSome = (valG m' k).isSome := by
  cases e : valG m k with
  | none =>
    have := valG_none.mp e
    rw [h] at this
    rw [valG_none.mpr this]; rfl
  | some v =>
    cases e' : valG m' k with
    | none =>
      have := valG_none.mp e'
      rw [← h] at this
      rw [valG_none.mpr this] at e; cases e
    | some w => rfl
section
variable {C : Addr} {u : Up} {ix : Int → Nat} {post pre : Th} {b n : Nat} {e : Ent} {i : Int} {p : List (Int × List Nat)}
theorem Up.Fine.open_pc (F : u.Fine ix post b) (h : (valG u.op i).isSome) : ∃ p, valG u.pc i = some p := by
  rw [keys_val F.op] at h
  exact Option.isSome_iff_exists.mp h
theorem upl_get [h : Len pre n] (j : Nat) : (pre ++ (upl C n ix u ++ (e :: post)))[n + 4 + j]? = post[j]? := by
  rw [Nat.add_assoc, ga]
  show (upl C n ix u ++ (e :: post))[4 + j]? = _
  rw [show 4 + j = j + 4 from Nat.add_comm _ _]
  rfl
theorem upl_set [h : Len pre n] (j : Nat) (x : Ent) : (pre ++ (upl C n ix u ++ (e :: post))).set (n + 4 + j) x = pre ++ (upl C n ix u ++ (e :: post.set j x)) := by
  rw [Nat.add_assoc, sa, show 4 + j = j + 4 from Nat.add_comm _ _]
  rfl
theorem upl_part [h : Len pre n] (F : u.Fine ix post b) (hp : valG u.pc i = some p) : (pre ++ (upl C n ix u ++ (e :: post)))[n + 4 + ix i]? = some (.dK (partD p)) := by
  rw [upl_get]
  exact F.pt _ (valG_mem hp)
end
section
variable {C CS CU : Addr} {n : Nat} {ix : Int → Nat} {s : Sto} {pre post : Th}
theorem sto_last [Len pre n] (v : Int) : (pre ++ (sto C CS CU n ix s ++ post)).set n (.ins C (putFG "last_version" (.int v) [("most", .int s.most), ("today", .int s.today), ("last_version", .int s.last), ("shelf", .obj (n + 1)), ("sending", .obj (n + 4)), ("log", .obj (n + 7))])) = pre ++ (sto C CS CU n ix { s with last := v } ++ post) := by rw [sa0]; rfl
end
theorem told_lt (r : Rw) (n : Nat) : D.lt n r.told := by
  unfold Rw.told D.lt
  refine D.lts_iff.mpr fun d hd => ?_
  simp only [List.mem_cons, List.not_mem_nil, or_false] at hd
  rcases hd with rfl | rfl | rfl | rfl
  · unfold D.lt; trivial
  · unfold D.lt; trivial
  · cases r.data <;> (unfold D.lt; trivial)
  · exact oD_lt _ _
theorem pl_oD {x : Option (List Nat)} {n : Nat} (h : ∀ l, x = some l → SOk l) : Pl (oD x) (n + 1) := by
  cases x with
  | none => unfold oD Pl; exact Nat.succ_pos _
  | some l => exact pl_str (h l rfl)
theorem pl_int {i : Int} {n : Nat} : Pl (.int i) (n + 1) := by unfold Pl; exact Nat.succ_pos _
theorem pl_non {n : Nat} : Pl .non (n + 1) := by unfold Pl; exact Nat.succ_pos _
theorem pl_bl {b : Bool} {n : Nat} : Pl (.bl b) (n + 1) := by unfold Pl; exact Nat.succ_pos _
theorem pl_tup {ds : List D} {n : Nat} (hl : ds.length ≤ 100000) (h : ∀ d ∈ ds, Pl d n) : Pl (.tup ds) (n + 1) := by unfold Pl; exact ⟨Nat.succ_pos _, hl, pls_iff.mpr h⟩
theorem pl_told {r : Rw} {n : Nat} (h : ∀ l, r.tot = some l → SOk l) : Pl r.told (n + 2) := by
  unfold Rw.told
  refine pl_tup (by simp) fun d hd => ?_
  simp only [List.mem_cons, List.not_mem_nil, or_false] at hd
  rcases hd with rfl | rfl | rfl | rfl
  · exact pl_int
  · exact pl_int
  · cases r.data with
    | none => exact pl_non
    | some l => exact pl_int
  · exact pl_oD h
theorem pl_tolds {rs : List Rw} {n : Nat} (hl : rs.length ≤ 100000) (h : ∀ r ∈ rs, ∀ l, r.tot = some l → SOk l) : Pl (.tup (rs.map Rw.told)) (n + 3) := by
  refine pl_tup (by rw [List.length_map]; exact hl) fun d hd => ?_
  obtain ⟨r, hr, rfl⟩ := List.mem_map.mp hd
  exact pl_told (h r hr)
theorem Sh.Ok.at_tot {s : Sh} {b : Nat} (h : s.Ok b) {key : List Nat} : ∀ r ∈ s.at key, ∀ l, r.tot = some l → SOk l := fun r hr l e => by
  obtain ⟨p, hp, hq⟩ := Sh.at_mem hr
  exact (h.o p hp r hq l e).2
theorem Sh.Ok.at_data {s : Sh} {b : Nat} (h : s.Ok b) {key : List Nat} : ∀ r ∈ s.at key, ∀ l, r.data = some l → l.length ≤ 50000 ∧ SOk l := fun r hr l e => by
  obtain ⟨p, hp, hq⟩ := Sh.at_mem hr
  exact h.d p hp r hq l e
theorem pl_toldD {s : Sh} {b n : Nat} (h : s.Ok b) (hb : b ≤ 100000) (key : List Nat) : Pl (s.toldD key) (n + 3) := by
  unfold Sh.toldD
  refine pl_tolds (by rw [List.length_reverse]; exact Nat.le_trans (Sh.at_len h key) hb) fun r hr => h.at_tot r (List.mem_reverse.mp hr)
theorem row_of_get {s : Sh} {key : List Nat} (nd : ((s.at key).map (·.v)).Nodup) {j : Nat} {r : Rw} (h : (s.at key)[j]? = some r) : s.row? key r.v = some r := by
  unfold Sh.row?
  generalize s.at key = rs at nd h
  induction rs generalizing j with
  | nil => cases h
  | cons q rs ih =>
    rw [List.map_cons, List.nodup_cons] at nd
    rw [List.find?_cons]
    cases j with
    | zero => cases h; rw [decide_eq_true rfl]
    | succ j =>
      have h' : rs[j]? = some r := h
      have hne : q.v ≠ r.v := fun z => nd.1 (z ▸ List.mem_map.mpr ⟨r, List.mem_of_getElem? h', rfl⟩)
      rw [decide_eq_false hne]
      exact ih nd.2 h'
theorem filter_ne_get {rs : List Rw} (nd : (rs.map (·.v)).Nodup) {j : Nat} {r : Rw} (h : rs[j]? = some r) : rs.filter (fun q => decide (q.v ≠ r.v)) = rs.take j ++ rs.drop (j + 1) := by
  induction rs generalizing j with
  | nil => cases h
  | cons q rs ih =>
    rw [List.map_cons, List.nodup_cons] at nd
    cases j with
    | zero =>
      cases h
      rw [List.filter_cons_of_neg (by simp)]
      refine List.filter_eq_self.mpr fun p hp => ?_
      refine decide_eq_true fun z => nd.1 ?_
      rw [← z]
      exact List.mem_map.mpr ⟨p, hp, rfl⟩
    | succ j =>
      have h' : rs[j]? = some r := h
      have hne : q.v ≠ r.v := fun z => nd.1 (z ▸ List.mem_map.mpr ⟨r, List.mem_of_getElem? h', rfl⟩)
      rw [List.filter_cons_of_pos (by simpa using hne), ih nd.2 h']
      rfl
section
variable {C CS CU : Addr} {n : Nat} {ix : Int → Nat} {s : Sto} {pre post : Th}
theorem sto_len : (sto C CS CU n ix s).length = 8 := rfl
theorem sto_get [h : Len pre n] (j : Nat) : (pre ++ (sto C CS CU n ix s ++ post))[n + 8 + j]? = post[j]? := by
  rw [Nat.add_assoc, ga, Nat.add_comm 8 j]
  rfl
theorem sto_get0 [h : Len pre n] {e : Ent} : (pre ++ (sto C CS CU n ix s ++ (e :: post)))[n + 8]? = some e := sto_get 0
theorem sto_set [h : Len pre n] (j : Nat) (x : Ent) : (pre ++ (sto C CS CU n ix s ++ post)).set (n + 8 + j) x = pre ++ (sto C CS CU n ix s ++ post.set j x) := by
  rw [Nat.add_assoc, sa, Nat.add_comm 8 j]
  rfl
end
theorem w_onO {α : Type} {a : α} {f : α → Prop} {g : Er → Prop} (q : f a) : (Ou.ok a).on f g := q
theorem w_onN {α : Type} {e : Er} {f : α → Prop} {g : Er → Prop} (q : g e) : (Ou.no e : Ou α).on f g := q
theorem sum_filter_le {α : Type} {f : α → Int} {p : α → Bool} : ∀ {xs : List α}, (∀ x ∈ xs, 0 ≤ f x) → ((xs.filter p).map f).sum ≤ (xs.map f).sum
  | [], _ => Int.le_refl _
  | x :: xs, h => by
    have h1 := h x List.mem_cons_self
    have h2 := sum_filter_le (p := p) (xs := xs) fun y hy => h y (List.mem_cons_of_mem _ hy)
    rw [List.filter_cons]
    split
    · simp only [List.map_cons, List.sum_cons]; omega
    · simp only [List.map_cons, List.sum_cons]; omega
mutual
theorem pl_dok : ∀ (d : D) (n : Nat), Pl d n → D.ok d n
  | .non, _, _ => by unfold D.ok; trivial
  | .bl _, _, _ => by unfold D.ok; trivial
  | .int _, _, _ => by unfold D.ok; trivial
  | .str _, _, h => by unfold Pl at h; unfold D.ok; exact h.2
  | .tup ds, n, h => by unfold Pl at h; unfold D.ok; exact ⟨h.1, pls_doks ds _ h.2.2⟩
  | .lst _, _, h => by unfold Pl at h; exact h.elim
  | .lsk _, _, h => by unfold Pl at h; exact h.elim
  | .obj _, _, h => by unfold Pl at h; exact h.elim
  | .raw _, _, h => by unfold Pl at h; exact h.elim
theorem pls_doks : ∀ (ds : List D) (n : Nat), Pls ds n → D.oks ds n
  | [], _, _ => by unfold D.oks; trivial
  | d :: ds, n, h => by unfold Pls at h; unfold D.oks; exact ⟨pl_dok d n h.1, pls_doks ds n h.2⟩
end
mutual
theorem eqv_refl : ∀ (d : D) (n : Nat), D.ok d n → D.eqv d d = true
  | .non, _, _ => by unfold D.eqv; rfl
  | .bl _, _, _ => by unfold D.eqv; simp
  | .int _, _, _ => by unfold D.eqv; simp
  | .str _, _, h => by unfold D.eqv; simp
  | .tup ds, n, h => by unfold D.ok at h; unfold D.eqv; exact eqvs_refl ds _ h.2
  | .lst ds, n, h => by unfold D.ok at h; unfold D.eqv; exact eqvs_refl ds _ h.2
  | .lsk ds, n, h => by unfold D.ok at h; unfold D.eqv; exact eqvs_refl ds _ h.2
  | .obj _, _, h => by unfold D.ok at h; exact h.elim
  | .raw _, _, h => by unfold D.ok at h; exact h.elim
theorem eqvs_refl : ∀ (ds : List D) (n : Nat), D.oks ds n → D.eqvs ds ds = true
  | [], _, _ => by unfold D.eqvs; rfl
  | d :: ds, n, h => by unfold D.oks at h; unfold D.eqvs; rw [eqv_refl d n h.1, eqvs_refl ds n h.2]; rfl
end
theorem v_eqR {x : D} {θ : Th} {k : AK} (h : Pl x 64) (q : k (.bl true) θ) : fEq x x θ k := v_eqG (pl_dok _ _ h) (pl_dok _ _ h) (by rw [eqv_refl _ _ (pl_dok _ _ h)]; exact q)
theorem v_neR {x : D} {θ : Th} {k : AK} (h : Pl x 64) (q : k (.bl false) θ) : fNe x x θ k := v_neG (pl_dok _ _ h) (pl_dok _ _ h) (by rw [eqv_refl _ _ (pl_dok _ _ h)]; exact q)
theorem mem_putG' {κ β : Type} [DecidableEq κ] {m : List (κ × β)} {k : κ} {v : β} {p : κ × β} (h : p ∈ putG m k v) : (p ∈ m ∧ p.1 ≠ k) ∨ p = (k, v) := by
  unfold putG at h
  split at h
  · obtain ⟨q, hq, rfl⟩ := List.mem_map.mp h
    split
    · rename_i e; exact .inr (by rw [e])
    · rename_i e; exact .inl ⟨hq, e⟩
  · rename_i e
    rcases List.mem_append.mp h with h | h
    · exact .inl ⟨h, fun z => e (List.any_eq_true.mpr ⟨p, h, decide_eq_true z⟩)⟩
    · exact .inr (by simpa using h)
/-! ### rising numbers -/
def isort (xs : List Int) : List Int := xs.mergeSort fun a b => decide (a ≤ b)
theorem isort_perm (xs : List Int) : (isort xs).Perm xs := List.mergeSort_perm _ _
theorem isort_rise (xs : List Int) : (isort xs).Pairwise (· ≤ ·) := by
  have := List.pairwise_mergeSort (le := fun a b : Int => decide (a ≤ b)) (fun a b c h1 h2 => by simp at *; omega) (fun a b => by simp; omega) xs
  exact this.imp fun h => of_decide_eq_true h
theorem rise_eq : ∀ {xs ys : List Int}, xs.Perm ys → xs.Pairwise (· ≤ ·) → ys.Pairwise (· ≤ ·) → xs = ys
  | [], ys, p, _, _ => (List.nil_perm.mp p).symm
  | x :: xs, [], p, _, _ => by have := p.length_eq; simp at this
  | x :: xs, y :: ys, p, h1, h2 => by
    have hx : x ∈ y :: ys := p.mem_iff.mp List.mem_cons_self
    have hy : y ∈ x :: xs := p.mem_iff.mpr List.mem_cons_self
    rw [List.pairwise_cons] at h1 h2
    have e : x = y := by
      rcases List.mem_cons.mp hx with h | h
      · exact h
      · rcases List.mem_cons.mp hy with h' | h'
        · exact h'.symm
        · have a := h1.1 y h'
          have b := h2.1 x h
          omega
    subst e
    rw [rise_eq (List.perm_cons x |>.mp p) h1.2 h2.2]
theorem isort_eq {xs ks : List Int} (p : xs.Perm ks) (h : xs.Pairwise (· ≤ ·)) : xs = isort ks := rise_eq (p.trans (isort_perm ks).symm) h (isort_rise ks)
theorem isort_mem {x : Int} {xs : List Int} : x ∈ isort xs ↔ x ∈ xs := (isort_perm xs).mem_iff
theorem isort_len (xs : List Int) : (isort xs).length = xs.length := (isort_perm xs).length_eq
/-! ### what is told of uploads -/
def partT (p : List (Int × List Nat)) (m : Int) : D := .tup [.int m, .int (((valG p m).getD []).length : Nat), .str (S (sumL ((valG p m).getD [])))]
def Up.sentD (u : Up) (i : Int) : D := .tup ((isort ((u.parts i).map (·.1))).map (partT (u.parts i)))
def Up.toldD (u : Up) : D := .tup ((isort (u.op.map (·.1))).map fun i => .tup [.int i, .str (S ((valG u.op i).getD ([], 0)).1), .int ((valG u.op i).getD ([], 0)).2])
def partsL (ls : List (List Nat)) : List Nat := sumL ls.flatten ++ [45] ++ numL ls.length
def strsD (ls : List (List Nat)) : List D := ls.map fun l => .str (S l)
/-- rows of parts: number, sum -/
@[reducible] def rowD (r : Int × List Nat) : D := .tup [.int r.1, .str (S r.2)]
def rising (rows : List (Int × List Nat)) : Bool := (List.range (rows.length - 1)).all fun j => decide ((rows.getD j (0, [])).1 < (rows.getD (j + 1) (0, [])).1)
def rightPart (p : List (Int × List Nat)) (r : Int × List Nat) : Bool := match valG p r.1 with
  | none => false
  | some l => decide (sumL l = r.2)
def Up.joint (u : Up) (i : Int) (rows : List (Int × List Nat)) : Ou (List Nat × List Nat × List Nat) := match valG u.op i with
  | none => .no .NoUpload
  | some o =>
    if rows = [] ∨ rising rows = false then .no .BadPart
    else if rows.all (rightPart (u.parts i)) = false then .no .BadPart
    else if rows.dropLast.any (fun r => decide (((valG (u.parts i) r.1).getD []).length < 5)) then .no .TooSmall
    else .ok (o.1, rows.flatMap (fun r => (valG (u.parts i) r.1).getD []), partsL (rows.map (·.2)))
def Sto.finish (s : Sto) (i : Int) (rows : List (Int × List Nat)) : Ou Sto := match s.up.joint i rows with
  | .no e => .no e
  | .ok x => .ok (Sto.come { s with up := s.up.close i } x.1 (some (x.2.1, x.2.2)))
def Sto.send (s : Sto) (i m : Int) (l : List Nat) : Ou Sto :=
  if valG s.up.op i = none then .no .NoUpload
  else if ¬ (1 ≤ m ∧ m ≤ 99) then .no .BadPart
  else if s.size + ((l.length : Nat) - (((valG (s.up.parts i) m).getD []).length : Nat)) ≤ s.most then .ok { s with up := s.up.send i m l } else .no .Full
def Sto.cancel (s : Sto) (i : Int) : Ou Sto := if valG s.up.op i = none then .no .NoUpload else .ok { s with up := s.up.close i }
section
variable {s : Sto} {u : Up} {ix : Int → Nat} {post : Th} {b : Nat}
theorem Up.Fine.close (F : u.Fine ix post b) (i : Int) : (u.close i).Fine ix post b := by
  have hm : ∀ x ∈ dropG u.pc i, x ∈ u.pc := fun x hx => (List.mem_filter.mp hx).1
  refine ⟨Nat.le_trans (dropG_len _ _) F.pl, nodup_dropG F.pn, ?_, fun x hx y hy => F.ij x (hm x hx) y (hm y hy), fun x hx => F.pt x (hm x hx), fun x hx => F.pb x (hm x hx)⟩
  show (dropG u.op i).map (·.1) = (dropG u.pc i).map (·.1)
  unfold dropG
  have e : ∀ {β : Type} (m : List (Int × β)), (m.filter fun kv => decide (kv.1 ≠ i)).map (·.1) = (m.map (·.1)).filter fun k => decide (k ≠ i) := fun m => by rw [List.filter_map]; rfl
  rw [e, e, F.op]
theorem Up.Fine.send (F : u.Fine ix post b) {i m : Int} {l : List Nat} (h : (valG u.op i).isSome) (hl : l.length ≤ 50000) (ho : SOk l) : (u.send i m l).Fine ix (post.set (ix i) (.dK (partD (putG (u.parts i) m l)))) (b + 1) := by
  obtain ⟨p, hp⟩ := F.open_pc h
  have hpp : u.parts i = p := by unfold Up.parts; rw [hp]; rfl
  have hmem := valG_mem hp
  have hks : (putG u.pc i (putG p m l)).map (·.1) = u.pc.map (·.1) := keys_putG (by rw [hp]; rfl) _
  have hq : ∀ x ∈ putG u.pc i (putG p m l), (x ∈ u.pc ∧ x.1 ≠ i) ∨ x = (i, putG p m l) := fun x hx => by
    exact mem_putG' hx
  have hx' : ∀ x ∈ putG u.pc i (putG p m l), ∃ y ∈ u.pc, y.1 = x.1 := fun x hx => by
    rcases hq x hx with h | rfl
    · exact ⟨x, h.1, rfl⟩
    · exact ⟨_, hmem, rfl⟩
  have hpl : ix i < post.length := (List.getElem?_eq_some_iff.mp (F.pt _ hmem)).1
  unfold Up.send
  rw [hpp]
  refine ⟨?_, ?_, ?_, fun x hx y hy e => ?_, fun x hx => ?_, fun x hx => ?_⟩
  · have := congrArg List.length hks
    rw [List.length_map, List.length_map] at this
    show (putG u.pc i (putG p m l)).length ≤ _
    rw [this]; exact Nat.le_succ_of_le F.pl
  · show ((putG u.pc i (putG p m l)).map (·.1)).Nodup
    rw [hks]; exact F.pn
  · show u.op.map (·.1) = (putG u.pc i (putG p m l)).map (·.1)
    rw [hks]; exact F.op
  · obtain ⟨x', h1, h2⟩ := hx' x hx
    obtain ⟨y', h3, h4⟩ := hx' y hy
    rw [← h2, ← h4]
    exact F.ij x' h1 y' h3 (by rw [h2, h4]; exact e)
  · rcases hq x hx with h | rfl
    · have hne : ix i ≠ ix x.1 := fun z => h.2 (F.ij x h.1 _ hmem z.symm)
      rw [List.getElem?_set_ne hne]
      exact F.pt x h.1
    · exact List.getElem?_set_self hpl
  · rcases hq x hx with h | rfl
    · have := F.pb x h.1
      exact ⟨Nat.le_succ_of_le this.1, this.2⟩
    · have := F.pb _ hmem
      refine ⟨Nat.le_trans (putG_le _ _ _) (Nat.succ_le_succ this.1), nodup_putG this.2.1, fun y hy => ?_⟩
      rcases mem_putG hy with hy | rfl
      · exact this.2.2 y hy
      · exact ⟨hl, ho⟩
theorem Up.Fine.begin (F : u.Fine ix post b) {key : List Nat} {day : Int} (hf : valG u.pc (u.last + 1) = none) (hb : ∀ x ∈ u.pc, ix x.1 < post.length) : (u.begin key day).Fine (fun m => if m = u.last + 1 then post.length else ix m) (post ++ [.dK []]) (b + 1) := by
  have hk : valG u.op (u.last + 1) = none := by
    have := keys_val F.op (u.last + 1)
    rw [hf] at this
    cases e : valG u.op (u.last + 1) with
    | none => rfl
    | some v => rw [e] at this; cases this
  unfold Up.begin
  rw [putG_new hf, putG_new hk]
  have hne : ∀ x ∈ u.pc, x.1 ≠ u.last + 1 := fun x hx z => valG_none.mp hf (z ▸ List.mem_map.mpr ⟨x, hx, rfl⟩)
  refine ⟨by simp; exact F.pl, ?_, by simp; exact F.op, fun x hx y hy e => ?_, fun x hx => ?_, fun x hx => ?_⟩
  · show ((u.pc ++ [(u.last + 1, ([] : List (Int × List Nat)))]).map (·.1)).Nodup
    rw [← putG_new hf]; exact nodup_putG F.pn
  · rcases List.mem_append.mp hx with hx | hx <;> rcases List.mem_append.mp hy with hy | hy
    · simp only [if_neg (hne x hx), if_neg (hne y hy)] at e
      exact F.ij x hx y hy e
    · have hy' : y = (u.last + 1, []) := by simpa using hy
      subst hy'
      simp only [if_neg (hne x hx), if_true] at e
      have := hb x hx; omega
    · have hx' : x = (u.last + 1, []) := by simpa using hx
      subst hx'
      simp only [if_neg (hne y hy), if_true] at e
      have := hb y hy; omega
    · have hx' : x = (u.last + 1, []) := by simpa using hx
      have hy' : y = (u.last + 1, []) := by simpa using hy
      rw [hx', hy']
  · rcases List.mem_append.mp hx with hx | hx
    · simp only [if_neg (hne x hx)]
      exact th_app (F.pt x hx)
    · have hx' : x = (u.last + 1, []) := by simpa using hx
      subst hx'
      simp only [if_true]
      exact at_end
  · rcases List.mem_append.mp hx with hx | hx
    · have := F.pb x hx
      exact ⟨Nat.le_succ_of_le this.1, this.2⟩
    · have hx' : x = (u.last + 1, []) := by simpa using hx
      subst hx'
      exact ⟨Nat.zero_le _, List.nodup_nil, fun y hy => nomatch hy⟩
theorem Up.Fine.lt (F : u.Fine ix post b) : ∀ x ∈ u.pc, ix x.1 < post.length := fun x hx => (List.getElem?_eq_some_iff.mp (F.pt x hx)).1
end
/-! sorted(..) walked -/
theorem v_sortDI {θ : Th} {k : AK} {n : Nat} {kvs : List (Key × D)} {ks : List Int} (h : θ[n]? = some (.dK kvs) ∨ θ[n]? = some (.lk kvs)) (hk : kvs.map (·.1) = ks.map Sum.inl) (hl : ks.length < 64) (q : k (.lst ((isort ks).map D.int)) θ) : fSortA [.obj n] θ k :=
  .inr ⟨_, kvs, rfl, ⟨n, rfl, h⟩, .inr ⟨ks, hk, hl, fun ys p s => by rw [isort_eq p s]; exact q⟩⟩
theorem v_sortI {θ : Th} {k : AK} {d : D} {ks : List Int} (h : asL θ d = some (ks.map D.int)) (q : k (.lst ((isort ks).map D.int)) θ) : fSortA [d] θ k :=
  .inl (.inl ⟨_, ks, rfl, h, fun ys p s => by rw [isort_eq p s]; exact q⟩)
theorem v_joinG {θ : Th} {k : AK} {d : D} {ls : List (List Nat)} (e : asS θ d = some (strsD ls)) (h : (ls.map List.length).sum ≤ 100000) (q : k (.str (S ls.flatten)) θ) : fJoin (.str (S [])) [d] θ k := by
  refine ⟨_, d, ls.map fun z => S z, rfl, rfl, by rw [e]; unfold strsD; rw [List.map_map]; rfl, ?_, ?_⟩
  · rw [List.map_map, List.length_map]
    have : (S []).length = 0 := rfl
    rw [this, Nat.mul_zero, Nat.add_zero]
    have e : (Str.length ∘ fun z : List Nat => S z) = List.length := funext fun z => S_len _
    rw [e]; exact h
  · rw [join_S, joinL_nil, show (ls.map fun z => S z).map TL.tl = ls from by rw [List.map_map]; exact List.map_id' _]; exact q
def oI : Option Int → D
  | none => .non
  | some i => .int i
theorem isD_oI (o : Option Int) : isD (oI o) .non = some o.isNone := by cases o <;> rfl
theorem on_imp {α : Type} {o : Ou α} {f f2 : α → Prop} {g g2 : Er → Prop} (hf : ∀ a, f a → f2 a) (hg : ∀ e, g e → g2 e) (h : o.on f g) : o.on f2 g2 := by
  cases o with
  | ok a => exact hf a h
  | no e => exact hg e h
/-- what is told of a refusal -/
def nameL : Er → List Nat
  | .NoKey => [78, 111, 75, 101, 121]
  | .Gone => [71, 111, 110, 101]
  | .NoVersion => [78, 111, 86, 101, 114, 115, 105, 111, 110]
  | .Changed => [67, 104, 97, 110, 103, 101, 100]
  | .Full => [70, 117, 108, 108]
  | .NoUpload => [78, 111, 85, 112, 108, 111, 97, 100]
  | .BadPart => [66, 97, 100, 80, 97, 114, 116]
  | .TooSmall => [84, 111, 111, 83, 109, 97, 108, 108]
  | .Held => [72, 101, 108, 100]
  | .NoRange => []
  | .Gap => []
def nine : List Er := [.NoKey, .Gone, .NoVersion, .Changed, .Full, .NoUpload, .BadPart, .TooSmall, .Held]
def refD (e : Er) : D := .tup (.str (S [114, 101, 102, 117, 115, 101, 100]) :: nine.map fun x => .bl (decide (e = x)))
theorem pl_refD (e : Er) {n : Nat} : Pl (refD e) (n + 2) := by
  refine pl_tup (by unfold nine; simp) fun d hd => ?_
  rcases List.mem_cons.mp hd with rfl | hd
  · exact pl_str (by unfold SOk; decide)
  · obtain ⟨x, _, rfl⟩ := List.mem_map.mp hd
    exact pl_bl
theorem name_eq : ∀ x ∈ nine, ∀ e ∈ nine, decide (nameL x = nameL e) = decide (e = x) := by decide
section
variable {K : PySem.W.Frag} {Γ : AB.G} {θ : Th} {k : AK} {nx bk ct : AB.G → Th → Prop} {rt : AK} {ex : Value → AB.G → Th → Prop} {s : ASR} {i : Nat} {c : Value}
theorem w_tryAs {h : Addr → Value → ASR} (q : s ⟨nx, rt, bk, ct, fun cls Γ1 θ1 => ∃ b, PySem.W.exmOne K cls c = some b ∧ ifB b (∀ a, h a cls (eSuiteAs ⟨nx, rt, bk, ct, ex⟩ i) (Γ1.set i (some (.raw (.ref a)))) θ1) (ex cls Γ1 θ1)⟩ Γ θ) : aTryAs K c i s h ⟨nx, rt, bk, ct, ex⟩ Γ θ := q
theorem w_tryOnly {h : Value → ASR} (q : s ⟨nx, rt, bk, ct, fun cls Γ1 θ1 => ∃ b, PySem.W.exmOne K cls c = some b ∧ ifB b (h cls (eSuite ⟨nx, rt, bk, ct, ex⟩) Γ1 θ1) (ex cls Γ1 θ1)⟩ Γ θ) : aTryOnly K c s h ⟨nx, rt, bk, ct, ex⟩ Γ θ := q
theorem v_isE {a D C : Addr} {b : Bool} (hx : ExcC K D) (hk : PySem.W.kitOne K (.ref D) (.ref C) = some b) (q : k (.bl b) θ) : fIsE K a (.ref D) [.raw (.ref a), .raw (.ref C)] θ k :=
  ⟨D, .ref C, .ref C, b, rfl, hx, rfl, fun u h => h, hk, q⟩
theorem v_isET {a D : Addr} {C : String} {b : Bool} (hx : ExcC K D) (hk : PySem.W.kitOne K (.ref D) (.type C) = some b) (q : k (.bl b) θ) : fIsE K a (.ref D) [.raw (.ref a), .raw (.ty C)] θ k :=
  ⟨D, .ty C, .type C, b, rfl, hx, rfl, fun u h => h, hk, q⟩
end
theorem sto_snoc {C CS CU : Addr} {n : Nat} {ix : Int → Nat} {s : Sto} {pre post es : Th} : (pre ++ (sto C CS CU n ix s ++ post)) ++ es = pre ++ (sto C CS CU n ix s ++ (post ++ es)) := by simp only [List.append_assoc]
theorem told_lt' (s : Sh) (key : List Nat) (n : Nat) : D.lt n (s.toldD key) := by unfold Sh.toldD D.lt; exact lts_map (fun r => told_lt r _) _
def cellI (ns : List Int) (i : Int) : Int := cellZ ns i.toNat
theorem c_cellI {ns : List Int} {i : Int} {θ : Th} {k : AK} {kx : AX} (h : 0 ≤ i) (q : k (.int (cellI ns i)) θ) : A_law_cell [.lsk (ns.map D.int), .int i] θ k kx := c_cell h q
theorem sto_nil {C CS CU : Addr} {n : Nat} {ix : Int → Nat} {s : Sto} {pre : Th} : pre ++ sto C CS CU n ix s = pre ++ (sto C CS CU n ix s ++ []) := by rw [List.append_nil]
/-! ### what may be asked of a store -/
inductive Act where
  | put (k d : List Nat) | get (k : List Nat) | drop (k : List Nat) | pif (k d : List Nat) (l : Option Int) | hold (k : List Nat) (v u : Int) | held (k : List Nat) (v : Int)
  | leave (k : List Nat) (v : Int) | copy (k : List Nat) (v : Int) (o : List Nat) | ver (k : List Nat) (v : Int)
def Act.way : Act → List Nat
  | .put _ _ => [112, 117, 116]
  | .get _ => [103, 101, 116]
  | .drop _ => [100, 114, 111, 112]
  | .pif _ _ _ => [105, 102]
  | .hold _ _ _ => [104, 111, 108, 100]
  | .held _ _ => [104, 101, 108, 100]
  | .leave _ _ => [108, 101, 97, 118, 101]
  | .copy _ _ _ => [99, 111, 112, 121]
  | .ver _ _ => [118, 101, 114, 115, 105, 111, 110]
def Act.args : Act → D
  | .put k d => .tup [.str (S k), .str (S d)]
  | .get k => .tup [.str (S k)]
  | .drop k => .tup [.str (S k)]
  | .pif k d l => .tup [.str (S k), .str (S d), oI l]
  | .hold k v u => .tup [.str (S k), .int v, .int u]
  | .held k v => .tup [.str (S k), .int v]
  | .leave k v => .tup [.str (S k), .int v]
  | .copy k v o => .tup [.str (S k), .int v, .str (S o)]
  | .ver k v => .tup [.str (S k), .int v]
def Act.Ok : Act → Prop
  | .put _ d => d.length ≤ 50000 ∧ SOk d
  | .pif _ d _ => d.length ≤ 50000 ∧ SOk d
  | _ => True
/-- told, or refused -/
def told (s : Sto) (d : D) : Ou Sto → D × Sto
  | .ok s' => (d, s')
  | .no e => (refD e, s)
def Sto.ask (s : Sto) : Act → D × Sto
  | .put k d => told s (.int (s.last + 1)) (s.put k d (sumL d))
  | .get k => match s.sh.get k with
    | .ok l => (.str (S l), s)
    | .no e => (refD e, s)
  | .drop k => told s (.int (s.last + 1)) (s.drop k)
  | .pif k d l => told s (.int (s.last + 1)) (s.putIf k d l)
  | .hold k v u => told s .non (s.hold k v u)
  | .held k v => match s.sh.row? k v with
    | none => (refD .NoVersion, s)
    | some _ => (.int (s.sh.held k v), s)
  | .leave k v => told s .non (s.dropV k v)
  | .copy k v o => told s (.int (s.last + 1)) (s.copy k v o)
  | .ver k v => match s.sh.dataOf k v with
    | .ok l => (.str (S l), s)
    | .no e => (refD e, s)
theorem told_on {s : Sto} {d : D} {o : Ou Sto} {f : D → Sto → Prop} (h : f (told s d o).1 (told s d o).2) : o.on (fun s' => f d s') (fun e => f (refD e) s) := by
  cases o <;> exact h
theorem row_x {s : Sto} {ix : Int → Nat} {post : Th} {b : Nat} (F : s.Fine ix post b) {key : List Nat} {v : Int} {r : Rw} (h : s.sh.row? key v = some r) : XOk r.x := by
  have hm : r ∈ s.sh.at key := List.mem_of_find?_eq_some h
  obtain ⟨p, hp, hq⟩ := Sh.at_mem hm
  intro x hx
  have hd : r.data = some x.1 := by unfold Rw.data; rw [hx]; rfl
  have ht : r.tot = some x.2 := by unfold Rw.tot; rw [hx]; rfl
  exact ⟨F.sh.d p hp r hq _ hd, F.sh.o p hp r hq _ ht⟩
section
variable {s : Sto} {ix : Int → Nat} {post : Th} {b : Nat}
theorem told_fine {d : D} {o : Ou Sto} (F : s.Fine ix post b) (h : ∀ s', o = .ok s' → s'.Fine ix post (b + 1)) : (told s d o).2.Fine ix post (b + 1) := by
  cases o with
  | ok s' => exact h s' rfl
  | no e => exact F.mono (Nat.le_succ b)
theorem put_fine (F : s.Fine ix post b) {k d t : List Nat} (hx : XOk (some (d, t))) : ∀ s', s.put k d t = .ok s' → s'.Fine ix post (b + 1) := fun s' h => by
  unfold Sto.put at h
  split at h
  · cases h; exact F.come hx
  · cases h
theorem ask_fine (F : s.Fine ix post b) {a : Act} (ok : a.Ok) : (s.ask a).2.Fine ix post (b + 1) := by
  cases a with
  | put k d => exact told_fine F (put_fine F (XOk.sum ok.1 ok.2))
  | get k => unfold Sto.ask; simp only; split <;> exact F.mono (Nat.le_succ b)
  | drop k =>
    refine told_fine F fun s' h => ?_
    unfold Sto.drop at h
    split at h
    · cases h
    · cases h; exact F.come XOk.none
  | pif k d l =>
    refine told_fine F fun s' h => ?_
    unfold Sto.putIf at h
    split at h
    · cases h
    · split at h
      · cases h
      · exact put_fine F (XOk.sum ok.1 ok.2) s' h
  | hold k v u =>
    refine told_fine F fun s' h => ?_
    unfold Sto.hold at h
    split at h
    · cases h
    · cases h; exact F.hold
  | held k v => unfold Sto.ask; simp only; split <;> exact F.mono (Nat.le_succ b)
  | leave k v =>
    refine told_fine F fun s' h => ?_
    unfold Sto.dropV at h
    split at h
    · cases h
    · split at h
      · cases h
      · cases h; exact F.leave
  | copy k v o =>
    refine told_fine F fun s' h => ?_
    unfold Sto.copy at h
    split at h
    · cases h
    · rename_i r hr
      split at h
      · cases h
      · rename_i p hp
        exact put_fine F (by rw [← hp]; exact row_x F hr) s' h
  | ver k v => unfold Sto.ask; simp only; split <;> exact F.mono (Nat.le_succ b)
theorem told_pl {d : D} {o : Ou Sto} {n : Nat} (h : Pl d (n + 2)) : Pl (told s d o).1 (n + 2) := by
  cases o with
  | ok s' => exact h
  | no e => exact pl_refD e
theorem get_ok (F : s.Fine ix post b) {k l : List Nat} (h : s.sh.get k = .ok l) : l.length ≤ 50000 ∧ SOk l := by
  unfold Sh.get at h
  split at h
  · cases h
  · rename_i r hr
    split at h
    · cases h
    · rename_i l' hl
      cases h
      exact F.sh.at_data r (List.mem_of_getLast? hr) _ hl
theorem dataOf_ok (F : s.Fine ix post b) {k l : List Nat} {v : Int} (h : s.sh.dataOf k v = .ok l) : l.length ≤ 50000 ∧ SOk l := by
  unfold Sh.dataOf at h
  split at h
  · cases h
  · rename_i r hr
    split at h
    · cases h
    · rename_i l' hl
      cases h
      exact F.sh.at_data r (List.mem_of_find?_eq_some hr) _ hl
theorem ask_pl (F : s.Fine ix post b) (a : Act) {n : Nat} : Pl (s.ask a).1 (n + 2) := by
  cases a with
  | put k d => exact told_pl pl_int
  | get k =>
    unfold Sto.ask
    simp only
    split
    · rename_i l hl; exact pl_str (get_ok F hl).2
    · exact pl_refD _
  | drop k => exact told_pl pl_int
  | pif k d l => exact told_pl pl_int
  | hold k v u => exact told_pl pl_non
  | held k v =>
    unfold Sto.ask
    simp only
    split
    · exact pl_refD _
    · exact pl_int
  | leave k v => exact told_pl pl_non
  | copy k v o => exact told_pl pl_int
  | ver k v =>
    unfold Sto.ask
    simp only
    split
    · rename_i l hl; exact pl_str (dataOf_ok F hl).2
    · exact pl_refD _
end
/-! ### while -/
/-- what holds ahead of each turn, with its measure -/
def aWhile (tc : ATR) (tb : ASR) : ASR := fun E Γ θ => ∃ I : Nat → AB.G → Th → Prop, (∃ m, I m Γ θ) ∧ ∀ m Γ θ, I m Γ θ →
  tc Γ θ (fun b θ1 => ifB b (tb { E with nx := fun Γ' θ' => ∃ m', m' < m ∧ I m' Γ' θ', ct := fun Γ' θ' => ∃ m', m' < m ∧ I m' Γ' θ', bk := E.nx } Γ θ1) (E.nx Γ θ1)) (fun c θ1 => E.ex c Γ θ1)
theorem xs_while {X : Cx} {W : WX} {c : Expr} {body : List Stmt} {tc : ATR} {tb : ASR} {pos : Pos} (hp : PassesOwn (model X.prog X.w) X.A X.env X.xe) (hc : XT X W c tc) (hb : XSs X W body tb) : XS X W (.While c body [] pos) (aWhile tc tb) :=
  ps_imp (ps_while hp hc hb) (by
  rintro Dn σ H ⟨α, θ, Γ, E, S0, G0, ⟨I, ⟨m, i0⟩, turn⟩, lk⟩
  refine ⟨fun m σ' H' => ∃ (α' : Nat → Addr) (θ' : Th) (Γ' : AB.G), Nx α θ.length H α' θ'.length H' ∧ Sta X.K H' α' θ' ∧ Slots X.K H' α' θ'.length σ' Γ' ∧ I m Γ' θ', ⟨m, α, θ, Γ, Nx.refl _ _ _, S0, G0, i0⟩, ?_⟩
  rintro m1 σ1 H1 ⟨α1, θ1, Γ1, n1, S1, G1, i1⟩
  refine ⟨α1, θ1, Γ1, _, _, S1, G1, turn m1 Γ1 θ1 i1, fun b θ2 α2 H2 n2 S2 q2 => ?_, (lk.on n1).ex.atG G1⟩
  have nn := n1.trans n2
  cases b with
  | false =>
    show Dn.nx σ1 H2
    exact lk.nx Γ1 θ2 α2 σ1 H2 nn S2 (G1.mono n2) (q2.2 rfl)
  | true =>
    refine ⟨fun σ3 H3 => ∃ m', m' < m1 ∧ ∃ (α' : Nat → Addr) (θ' : Th) (Γ' : AB.G), Nx α θ.length H α' θ'.length H3 ∧ Sta X.K H3 α' θ' ∧ Slots X.K H3 α' θ'.length σ3 Γ' ∧ I m' Γ' θ', fun _ _ h => h, ?_⟩
    have lk2 := lk.on nn
    refine ⟨α2, θ2, Γ1, _, S2, G1.mono n2, q2.1 rfl, fun Γ4 θ4 α4 σ4 H4 n4 S4 G4 q4 => ?_, lk2.rt, lk2.nx, fun Γ4 θ4 α4 σ4 H4 n4 S4 G4 q4 => ?_, lk2.ex⟩
    · obtain ⟨m', hm, q⟩ := q4
      exact ⟨m', hm, α4, θ4, Γ4, nn.trans n4, S4, G4, q⟩
    · obtain ⟨m', hm, q⟩ := q4
      exact ⟨m', hm, α4, θ4, Γ4, nn.trans n4, S4, G4, q⟩)
theorem while_inv {tc : ATR} {tb : ASR} {nx bk ct : AB.G → Th → Prop} {rt : AK} {ex : Value → AB.G → Th → Prop} {Γ : AB.G} {θ : Th} (I : Nat → AB.G → Th → Prop) (m : Nat) (h0 : I m Γ θ)
    (turn : ∀ m Γ θ (kk : AB.G → Th → Prop), I m Γ θ → (∀ m' Γ' θ', m' < m → I m' Γ' θ' → kk Γ' θ') → tc Γ θ (fun b θ1 => ifB b (tb ⟨kk, rt, nx, kk, ex⟩ Γ θ1) (nx Γ θ1)) (fun c θ1 => ex c Γ θ1)) : aWhile tc tb ⟨nx, rt, bk, ct, ex⟩ Γ θ :=
  ⟨I, ⟨m, h0⟩, fun m Γ θ i => turn m Γ θ _ i fun m' Γ' θ' hm h => ⟨m', hm, h⟩⟩
section
variable {s : Sto} {k o d : List Nat} {v u : Int} {l : Option Int}
theorem ask_put : s.ask (.put k d) = told s (.int (s.last + 1)) (s.put k d (sumL d)) := rfl
theorem ask_drop : s.ask (.drop k) = told s (.int (s.last + 1)) (s.drop k) := rfl
theorem ask_pif : s.ask (.pif k d l) = told s (.int (s.last + 1)) (s.putIf k d l) := rfl
theorem ask_hold : s.ask (.hold k v u) = told s .non (s.hold k v u) := rfl
theorem ask_leave : s.ask (.leave k v) = told s .non (s.dropV k v) := rfl
theorem ask_copy : s.ask (.copy k v o) = told s (.int (s.last + 1)) (s.copy k v o) := rfl
theorem hold_no (h : s.sh.row? k v = none) : s.hold k v u = .no .NoVersion := by unfold Sto.hold; rw [h]
theorem hold_ok {r : Rw} (h : s.sh.row? k v = some r) : s.hold k v u = .ok { s with sh := s.sh.hold k v u, log := s.log ++ [.hold k v (max u (s.sh.held k v))] } := by unfold Sto.hold; rw [h]
theorem dropV_no (h : s.sh.row? k v = none) : s.dropV k v = .no .NoVersion := by unfold Sto.dropV; rw [h]
theorem dropV_held {r : Rw} (h : s.sh.row? k v = some r) (hl : s.today < s.sh.held k v) : s.dropV k v = .no .Held := by unfold Sto.dropV; rw [h]; exact if_pos hl
theorem dropV_ok {r : Rw} (h : s.sh.row? k v = some r) (hl : s.sh.held k v ≤ s.today) : s.dropV k v = .ok { s with sh := s.sh.leave k v, log := s.log ++ [.drop k v] } := by unfold Sto.dropV; rw [h]; exact if_neg (by omega)
theorem told_ok {s' : Sto} {d : D} : told s d (.ok s') = (d, s') := rfl
theorem told_no {e : Er} {d : D} : told s d (.no e) = (refD e, s) := rfl
theorem ask_held_no (h : s.sh.row? k v = none) : s.ask (.held k v) = (refD .NoVersion, s) := by
  show (match s.sh.row? k v with | none => (refD .NoVersion, s) | some _ => (.int (s.sh.held k v), s)) = _
  rw [h]
theorem ask_held_ok {r : Rw} (h : s.sh.row? k v = some r) : s.ask (.held k v) = (.int (s.sh.held k v), s) := by
  show (match s.sh.row? k v with | none => (refD .NoVersion, s) | some _ => (.int (s.sh.held k v), s)) = _
  rw [h]
theorem ask_get_ok {l : List Nat} (h : s.sh.get k = .ok l) : s.ask (.get k) = (.str (S l), s) := by
  show (match s.sh.get k with | .ok l => (D.str (S l), s) | .no e => (refD e, s)) = _
  rw [h]
theorem ask_get_no {e : Er} (h : s.sh.get k = .no e) : s.ask (.get k) = (refD e, s) := by
  show (match s.sh.get k with | .ok l => (D.str (S l), s) | .no e => (refD e, s)) = _
  rw [h]
end
end AB
namespace AB
open PySem PySem.Spec PyProof.Rows L2 TL

local macro_rules | `(tactic| walk_at "gs") => `(tactic| (apply AB.w_start; (· (simp only [startG, List.map_cons, List.map_nil, List.length_cons, List.length_nil, Nat.reduceAdd, Nat.reduceSub, List.replicate_succ, List.replicate_zero, List.cons_append, List.nil_append]; try exact rfl))))
local macro_rules | `(tactic| walk_at "gb") => `(tactic| (first | exact rfl | decide | omega | (apply AB.natAbs_small <;> omega) | (simp only [List.length_append, List.length_map, List.length_cons, List.length_nil, List.length_take, List.length_drop, rep_len, Int.reduceToNat, List.length_range, List.length_reverse, nums_len, signs_len, zipD_len]; omega)))
local macro_rules | `(tactic| walk_at "gh") => `(tactic| (first | exact rfl | assumption | exact AB.sto_get0 | (simp only [List.append_assoc, sa0, sa, ga0, ga, shl, upl, sto, List.cons_append, List.nil_append, List.set_cons_succ, List.set_cons_zero, List.getElem?_cons_zero, List.getElem?_cons_succ]; first | done | exact rfl)))
local macro_rules | `(tactic| walk_at "gx") => `(tactic| first | ((with_reducible apply c_mix); (· decide); (· decide); (· first | decide | omega)) | ((with_reducible apply c_cellI); (· omega)) | (with_reducible apply c_key) | (with_reducible apply c_data))
local macro_rules | `(tactic| walk_at "go1") => `(tactic| ((with_reducible conv => whnf); first
  | ((with_reducible apply Exists.intro); (with_reducible apply And.intro); (· exact rfl))
  | (with_reducible first | apply AB.w_onO | apply AB.w_onN | apply AB.w_tryAs | apply AB.w_tryOnly | apply AB.w_lstRng | apply AB.v_addI | apply AB.w_back | apply AB.v_eqI | apply AB.v_eqSS | apply AB.v_eqS | apply AB.v_eqSI | apply AB.v_eqIS | apply AB.w_ifN | apply AB.v_slT2 | apply AB.v_lt | apply AB.v_gt | apply AB.v_slL | apply AB.v_ordSS | apply AB.v_neI | apply AB.v_neSS | apply AB.v_neS | apply AB.v_inSS | apply AB.v_ninSS | apply AB.v_lenT | apply AB.v_lenL | apply AB.v_lenK | apply AB.v_ltSS | apply AB.v_gtSS | apply AB.v_eqB | apply AB.v_intI | apply AB.v_intB | apply AB.v_allL | apply AB.v_anyL | apply AB.v_sumL | apply AB.v_tupL | apply AB.v_tupT | apply AB.w_ifT | apply AB.w_ifF | apply AB.w_elEnd)
  | ((with_reducible apply AB.w_gN); (· (simp only [List.set_cons_succ, List.set_cons_zero]; try exact rfl)))
  | ((with_reducible apply AB.v_isE); (· assumption); (· assumption))
  | ((with_reducible apply AB.v_isET); (· assumption); (· assumption))
  | ((with_reducible apply AB.v_addSS); (· (first | exact rfl | decide | omega | (apply AB.natAbs_small <;> omega) | (simp only [List.length_append, List.length_map, List.length_cons, List.length_nil, List.length_take, List.length_drop, rep_len, Int.reduceToNat, List.length_range, List.length_reverse, nums_len, signs_len, zipD_len]; omega))))
  | ((with_reducible apply AB.v_addT2); (· (first | exact rfl | decide | omega | (apply AB.natAbs_small <;> omega) | (simp only [List.length_append, List.length_map, List.length_cons, List.length_nil, List.length_take, List.length_drop, rep_len, Int.reduceToNat, List.length_range, List.length_reverse, nums_len, signs_len, zipD_len]; omega))))
  | ((with_reducible apply AB.v_mul); (· (first | exact .inr ⟨by decide, by decide⟩ | exact .inl ⟨by decide, by decide⟩ | omega)))
  | ((with_reducible apply AB.v_lenSS); (· (first | exact rfl | decide | omega | (apply AB.natAbs_small <;> omega) | (simp only [List.length_append, List.length_map, List.length_cons, List.length_nil, List.length_take, List.length_drop, rep_len, Int.reduceToNat, List.length_range, List.length_reverse, nums_len, signs_len, zipD_len]; omega))))
  | ((with_reducible apply AB.v_slS); (· (first | exact rfl | decide | omega | (apply AB.natAbs_small <;> omega) | (simp only [List.length_append, List.length_map, List.length_cons, List.length_nil, List.length_take, List.length_drop, rep_len, Int.reduceToNat, List.length_range, List.length_reverse, nums_len, signs_len, zipD_len]; omega))))
  | ((with_reducible apply AB.v_addL); (· (first | exact rfl | decide | omega | (apply AB.natAbs_small <;> omega) | (simp only [List.length_append, List.length_map, List.length_cons, List.length_nil, List.length_take, List.length_drop, rep_len, Int.reduceToNat, List.length_range, List.length_reverse, nums_len, signs_len, zipD_len]; omega))))
  | ((with_reducible apply AB.v_mulSS); (· (first | exact rfl | decide | omega | (apply AB.natAbs_small <;> omega) | (simp only [List.length_append, List.length_map, List.length_cons, List.length_nil, List.length_take, List.length_drop, rep_len, Int.reduceToNat, List.length_range, List.length_reverse, nums_len, signs_len, zipD_len]; omega))); (· (first | exact rfl | decide | omega | (apply AB.natAbs_small <;> omega) | (simp only [List.length_append, List.length_map, List.length_cons, List.length_nil, List.length_take, List.length_drop, rep_len, Int.reduceToNat, List.length_range, List.length_reverse, nums_len, signs_len, zipD_len]; omega))); (· (first | exact rfl | decide | omega | (apply AB.natAbs_small <;> omega) | (simp only [List.length_append, List.length_map, List.length_cons, List.length_nil, List.length_take, List.length_drop, rep_len, Int.reduceToNat, List.length_range, List.length_reverse, nums_len, signs_len, zipD_len]; omega))))
  | ((with_reducible apply AB.v_isi); (· exact rfl); (· (first | exact AB.kb_NoneType_str | exact AB.kb_NoneType_int | exact AB.kb_NoneType_bool | exact AB.kb_NoneType_tuple | exact AB.kb_NoneType_list | exact AB.kb_bool_str | exact AB.kb_bool_int | exact AB.kb_bool_bool | exact AB.kb_bool_tuple | exact AB.kb_bool_list | exact AB.kb_int_str | exact AB.kb_int_int | exact AB.kb_int_bool | exact AB.kb_int_tuple | exact AB.kb_int_list | exact AB.kb_str_str | exact AB.kb_str_int | exact AB.kb_str_bool | exact AB.kb_str_tuple | exact AB.kb_str_list | exact AB.kb_tuple_str | exact AB.kb_tuple_int | exact AB.kb_tuple_bool | exact AB.kb_tuple_tuple | exact AB.kb_tuple_list | exact AB.kb_list_str | exact AB.kb_list_int | exact AB.kb_list_bool | exact AB.kb_list_tuple | exact AB.kb_list_list)))
  | ((with_reducible apply AB.v_isi2); (· exact rfl); (· (first | exact AB.kb_NoneType_str | exact AB.kb_NoneType_int | exact AB.kb_NoneType_bool | exact AB.kb_NoneType_tuple | exact AB.kb_NoneType_list | exact AB.kb_bool_str | exact AB.kb_bool_int | exact AB.kb_bool_bool | exact AB.kb_bool_tuple | exact AB.kb_bool_list | exact AB.kb_int_str | exact AB.kb_int_int | exact AB.kb_int_bool | exact AB.kb_int_tuple | exact AB.kb_int_list | exact AB.kb_str_str | exact AB.kb_str_int | exact AB.kb_str_bool | exact AB.kb_str_tuple | exact AB.kb_str_list | exact AB.kb_tuple_str | exact AB.kb_tuple_int | exact AB.kb_tuple_bool | exact AB.kb_tuple_tuple | exact AB.kb_tuple_list | exact AB.kb_list_str | exact AB.kb_list_int | exact AB.kb_list_bool | exact AB.kb_list_tuple | exact AB.kb_list_list)); (· (first | exact AB.kb_NoneType_str | exact AB.kb_NoneType_int | exact AB.kb_NoneType_bool | exact AB.kb_NoneType_tuple | exact AB.kb_NoneType_list | exact AB.kb_bool_str | exact AB.kb_bool_int | exact AB.kb_bool_bool | exact AB.kb_bool_tuple | exact AB.kb_bool_list | exact AB.kb_int_str | exact AB.kb_int_int | exact AB.kb_int_bool | exact AB.kb_int_tuple | exact AB.kb_int_list | exact AB.kb_str_str | exact AB.kb_str_int | exact AB.kb_str_bool | exact AB.kb_str_tuple | exact AB.kb_str_list | exact AB.kb_tuple_str | exact AB.kb_tuple_int | exact AB.kb_tuple_bool | exact AB.kb_tuple_tuple | exact AB.kb_tuple_list | exact AB.kb_list_str | exact AB.kb_list_int | exact AB.kb_list_bool | exact AB.kb_list_tuple | exact AB.kb_list_list)); (· first | exact Bool.or_true _ | exact Bool.true_or _ | exact Bool.or_false _))
  | ((with_reducible apply AB.w_lc); (· (simp only [wipeG, List.set_cons_succ, List.set_cons_zero]; try exact rfl)))
  | ((with_reducible apply AB.w_lcS); (· (simp only [wipeG, List.set_cons_succ, List.set_cons_zero]; try exact rfl)))
  | ((with_reducible apply AB.v_lstRng); (· (first | exact rfl | decide | omega | (apply AB.natAbs_small <;> omega) | (simp only [List.length_append, List.length_map, List.length_cons, List.length_nil, List.length_take, List.length_drop, rep_len, Int.reduceToNat, List.length_range, List.length_reverse, nums_len, signs_len, zipD_len]; omega))); (· (first | exact rfl | decide | omega | (apply AB.natAbs_small <;> omega) | (simp only [List.length_append, List.length_map, List.length_cons, List.length_nil, List.length_take, List.length_drop, rep_len, Int.reduceToNat, List.length_range, List.length_reverse, nums_len, signs_len, zipD_len]; omega))))
  | ((with_reducible apply AB.w_elY); (· (simp only [List.set_cons_succ, List.set_cons_zero]; try exact rfl)))
  | ((with_reducible apply AB.w_el); (· (simp only [List.set_cons_succ, List.set_cons_zero]; try exact rfl)))
  | ((with_reducible apply AB.v_append); (· (first | exact rfl | assumption | exact AB.sto_get0 | (simp only [List.append_assoc, sa0, sa, ga0, ga, shl, upl, sto, List.cons_append, List.nil_append, List.set_cons_succ, List.set_cons_zero, List.getElem?_cons_zero, List.getElem?_cons_succ]; first | done | exact rfl))); (· (first | exact rfl | decide | omega | (apply AB.natAbs_small <;> omega) | (simp only [List.length_append, List.length_map, List.length_cons, List.length_nil, List.length_take, List.length_drop, rep_len, Int.reduceToNat, List.length_range, List.length_reverse, nums_len, signs_len, zipD_len]; omega))); (· (simp only [List.set_cons_succ, List.set_cons_zero]; try exact rfl)))
  | ((with_reducible apply AB.v_lenO); (· (first | exact rfl | assumption | exact AB.sto_get0 | (simp only [List.append_assoc, sa0, sa, ga0, ga, shl, upl, sto, List.cons_append, List.nil_append, List.set_cons_succ, List.set_cons_zero, List.getElem?_cons_zero, List.getElem?_cons_succ]; first | done | exact rfl))))
  | ((with_reducible apply AB.v_slO); (· (first | exact rfl | assumption | exact AB.sto_get0 | (simp only [List.append_assoc, sa0, sa, ga0, ga, shl, upl, sto, List.cons_append, List.nil_append, List.set_cons_succ, List.set_cons_zero, List.getElem?_cons_zero, List.getElem?_cons_succ]; first | done | exact rfl))))
  | ((with_reducible apply AB.v_tupO); (· (first | exact rfl | assumption | exact AB.sto_get0 | (simp only [List.append_assoc, sa0, sa, ga0, ga, shl, upl, sto, List.cons_append, List.nil_append, List.set_cons_succ, List.set_cons_zero, List.getElem?_cons_zero, List.getElem?_cons_succ]; first | done | exact rfl))))
  | ((with_reducible apply AB.w_exO); (· (first | exact rfl | assumption | exact AB.sto_get0 | (simp only [List.append_assoc, sa0, sa, ga0, ga, shl, upl, sto, List.cons_append, List.nil_append, List.set_cons_succ, List.set_cons_zero, List.getElem?_cons_zero, List.getElem?_cons_succ]; first | done | exact rfl))))
  | ((with_reducible apply AB.w_truO); (· (first | exact rfl | assumption | exact AB.sto_get0 | (simp only [List.append_assoc, sa0, sa, ga0, ga, shl, upl, sto, List.cons_append, List.nil_append, List.set_cons_succ, List.set_cons_zero, List.getElem?_cons_zero, List.getElem?_cons_succ]; first | done | exact rfl))))
  | ((with_reducible apply AB.v_ixT); (· first | exact rfl | exact atI_nat (j := 0) rfl | exact atI_nat (j := 1) rfl | exact atI_nat (j := 2) rfl))
  | ((with_reducible apply AB.v_ixL); (· first | exact rfl | exact atI_nat (j := 0) rfl))
  | ((with_reducible apply AB.w_elTY); (· (simp only [setLG, List.set_cons_succ, List.set_cons_zero]; try exact rfl)); (· exact rfl))
  | ((with_reducible apply AB.w_elT); (· (simp only [setLG, List.set_cons_succ, List.set_cons_zero]; try exact rfl)); (· exact rfl))
  | ((with_reducible apply AB.w_exR); (· (first | exact rfl | decide | omega | (apply AB.natAbs_small <;> omega) | (simp only [List.length_append, List.length_map, List.length_cons, List.length_nil, List.length_take, List.length_drop, rep_len, Int.reduceToNat, List.length_range, List.length_reverse, nums_len, signs_len, zipD_len]; omega))); (· (first | exact rfl | decide | omega | (apply AB.natAbs_small <;> omega) | (simp only [List.length_append, List.length_map, List.length_cons, List.length_nil, List.length_take, List.length_drop, rep_len, Int.reduceToNat, List.length_range, List.length_reverse, nums_len, signs_len, zipD_len]; omega))))
  | ((with_reducible refine And.intro ?_ ?_); (· first | (exact v_tyS) | (exact v_tyO (by (first | exact rfl | assumption | exact AB.sto_get0 | (simp only [List.append_assoc, sa0, sa, ga0, ga, shl, upl, sto, List.cons_append, List.nil_append, List.set_cons_succ, List.set_cons_zero, List.getElem?_cons_zero, List.getElem?_cons_succ]; first | done | exact rfl)))) | (exact fun _ => trivial) | (exact fun _ => rfl) | (first | exact rfl | assumption | exact AB.sto_get0 | (simp only [List.append_assoc, sa0, sa, ga0, ga, shl, upl, sto, List.cons_append, List.nil_append, List.set_cons_succ, List.set_cons_zero, List.getElem?_cons_zero, List.getElem?_cons_succ]; first | done | exact rfl)) | (exact v_isDK (by (first | exact rfl | assumption | exact AB.sto_get0 | (simp only [List.append_assoc, sa0, sa, ga0, ga, shl, upl, sto, List.cons_append, List.nil_append, List.set_cons_succ, List.set_cons_zero, List.getElem?_cons_zero, List.getElem?_cons_succ]; first | done | exact rfl)))) | (exact v_isDT (by (first | exact rfl | assumption | exact AB.sto_get0 | (simp only [List.append_assoc, sa0, sa, ga0, ga, shl, upl, sto, List.cons_append, List.nil_append, List.set_cons_succ, List.set_cons_zero, List.getElem?_cons_zero, List.getElem?_cons_succ]; first | done | exact rfl)))) | (first | exact rfl | decide | omega | (apply AB.natAbs_small <;> omega) | (simp only [List.length_append, List.length_map, List.length_cons, List.length_nil, List.length_take, List.length_drop, rep_len, Int.reduceToNat, List.length_range, List.length_reverse, nums_len, signs_len, zipD_len]; omega))))
  | ((with_reducible apply Exists.intro); (with_reducible apply Exists.intro); (with_reducible apply Exists.intro); (with_reducible apply Exists.intro); (with_reducible apply And.intro); (· exact rfl); (with_reducible apply And.intro); (· (first | exact rfl | assumption | exact AB.sto_get0 | (simp only [List.append_assoc, sa0, sa, ga0, ga, shl, upl, sto, List.cons_append, List.nil_append, List.set_cons_succ, List.set_cons_zero, List.getElem?_cons_zero, List.getElem?_cons_succ]; first | done | exact rfl))); (with_reducible apply And.intro); (· assumption); (with_reducible apply And.intro); (· assumption); (with_reducible apply And.intro); (· exact rfl))
  | ((with_reducible apply Exists.intro); (with_reducible apply Exists.intro); (with_reducible apply Exists.intro); (with_reducible apply And.intro); (· exact rfl); (with_reducible apply And.intro); (· (first | exact rfl | assumption | exact AB.sto_get0 | (simp only [List.append_assoc, sa0, sa, ga0, ga, shl, upl, sto, List.cons_append, List.nil_append, List.set_cons_succ, List.set_cons_zero, List.getElem?_cons_zero, List.getElem?_cons_succ]; first | done | exact rfl))); (with_reducible apply And.intro); (· assumption); (with_reducible apply And.intro); (· assumption); (with_reducible apply And.intro); (· exact of_decide_eq_true rfl))
  | ((with_reducible apply Exists.intro); (with_reducible apply Exists.intro); (with_reducible apply Exists.intro); (with_reducible apply Exists.intro); (with_reducible apply And.intro); (· exact rfl); (with_reducible apply And.intro); (· (first | exact rfl | assumption | exact AB.sto_get0 | (simp only [List.append_assoc, sa0, sa, ga0, ga, shl, upl, sto, List.cons_append, List.nil_append, List.set_cons_succ, List.set_cons_zero, List.getElem?_cons_zero, List.getElem?_cons_succ]; first | done | exact rfl))); (with_reducible apply And.intro); (· assumption); (with_reducible apply And.intro); (· exact rfl))
  | ((with_reducible apply Exists.intro); (with_reducible apply Exists.intro); (with_reducible apply Exists.intro); (with_reducible apply And.intro); (· exact rfl); (with_reducible apply And.intro); (· (first | exact rfl | assumption | exact AB.sto_get0 | (simp only [List.append_assoc, sa0, sa, ga0, ga, shl, upl, sto, List.cons_append, List.nil_append, List.set_cons_succ, List.set_cons_zero, List.getElem?_cons_zero, List.getElem?_cons_succ]; first | done | exact rfl))); (with_reducible apply And.intro); (· (intro _ z; cases z)); (with_reducible apply And.intro); (· (first | (apply AB.dPutE_K; (· (first | omega | assumption)); (· exact rfl)) | (apply AB.dPutE_T; (· (first | omega | assumption)); (· exact rfl)))))
  | ((with_reducible apply Exists.intro); (with_reducible apply Exists.intro); (with_reducible apply Exists.intro); (with_reducible apply Exists.intro); (with_reducible apply And.intro); (· exact rfl); (with_reducible apply And.intro); (· (first | exact rfl | assumption | exact AB.sto_get0 | (simp only [List.append_assoc, sa0, sa, ga0, ga, shl, upl, sto, List.cons_append, List.nil_append, List.set_cons_succ, List.set_cons_zero, List.getElem?_cons_zero, List.getElem?_cons_succ]; first | done | exact rfl))); (with_reducible apply And.intro); (· exact rfl); (with_reducible apply And.intro); (· assumption))
  | ((with_reducible apply Exists.intro); (with_reducible apply Exists.intro); (with_reducible apply Exists.intro); (with_reducible apply Exists.intro); (with_reducible apply Exists.intro); (with_reducible apply And.intro); (· exact rfl); (with_reducible apply And.intro); (· exact rfl); (with_reducible apply And.intro); (· (first | exact rfl | assumption | exact AB.sto_get0 | (simp only [List.append_assoc, sa0, sa, ga0, ga, shl, upl, sto, List.cons_append, List.nil_append, List.set_cons_succ, List.set_cons_zero, List.getElem?_cons_zero, List.getElem?_cons_succ]; first | done | exact rfl))); (with_reducible apply And.intro); (· exact rfl); (with_reducible apply And.intro); (· assumption))
  | ((with_reducible apply Exists.intro); (with_reducible apply And.intro); (· (first | (apply AB.dGet_K; (· (first | exact rfl | assumption | exact AB.sto_get0 | (simp only [List.append_assoc, sa0, sa, ga0, ga, shl, upl, sto, List.cons_append, List.nil_append, List.set_cons_succ, List.set_cons_zero, List.getElem?_cons_zero, List.getElem?_cons_succ]; first | done | exact rfl))); (· exact rfl)) | (apply AB.dGet_T; (· (first | exact rfl | assumption | exact AB.sto_get0 | (simp only [List.append_assoc, sa0, sa, ga0, ga, shl, upl, sto, List.cons_append, List.nil_append, List.set_cons_succ, List.set_cons_zero, List.getElem?_cons_zero, List.getElem?_cons_succ]; first | done | exact rfl))); (· exact rfl)) | (apply AB.dGet_L; (· (first | exact rfl | assumption | exact AB.sto_get0 | (simp only [List.append_assoc, sa0, sa, ga0, ga, shl, upl, sto, List.cons_append, List.nil_append, List.set_cons_succ, List.set_cons_zero, List.getElem?_cons_zero, List.getElem?_cons_succ]; first | done | exact rfl))); (· exact rfl)))))
  | ((with_reducible apply Exists.intro); (with_reducible apply Exists.intro); (with_reducible apply And.intro); (· exact rfl); (with_reducible apply And.intro); (· (first | exact rfl | assumption | exact AB.sto_get0 | (simp only [List.append_assoc, sa0, sa, ga0, ga, shl, upl, sto, List.cons_append, List.nil_append, List.set_cons_succ, List.set_cons_zero, List.getElem?_cons_zero, List.getElem?_cons_succ]; first | done | exact rfl))))
  | ((with_reducible apply Exists.intro); (with_reducible apply And.intro); (· ((apply AB.asL_obj); (· (first | exact rfl | assumption | exact AB.sto_get0 | (simp only [List.append_assoc, sa0, sa, ga0, ga, shl, upl, sto, List.cons_append, List.nil_append, List.set_cons_succ, List.set_cons_zero, List.getElem?_cons_zero, List.getElem?_cons_succ]; first | done | exact rfl))))))
  | ((with_reducible apply AB.v_inD); (· (first | (apply AB.dGet_K; (· (first | exact rfl | assumption | exact AB.sto_get0 | (simp only [List.append_assoc, sa0, sa, ga0, ga, shl, upl, sto, List.cons_append, List.nil_append, List.set_cons_succ, List.set_cons_zero, List.getElem?_cons_zero, List.getElem?_cons_succ]; first | done | exact rfl))); (· exact rfl)) | (apply AB.dGet_T; (· (first | exact rfl | assumption | exact AB.sto_get0 | (simp only [List.append_assoc, sa0, sa, ga0, ga, shl, upl, sto, List.cons_append, List.nil_append, List.set_cons_succ, List.set_cons_zero, List.getElem?_cons_zero, List.getElem?_cons_succ]; first | done | exact rfl))); (· exact rfl)) | (apply AB.dGet_L; (· (first | exact rfl | assumption | exact AB.sto_get0 | (simp only [List.append_assoc, sa0, sa, ga0, ga, shl, upl, sto, List.cons_append, List.nil_append, List.set_cons_succ, List.set_cons_zero, List.getElem?_cons_zero, List.getElem?_cons_succ]; first | done | exact rfl))); (· exact rfl)))))
  | ((with_reducible apply AB.v_ninD); (· (first | (apply AB.dGet_K; (· (first | exact rfl | assumption | exact AB.sto_get0 | (simp only [List.append_assoc, sa0, sa, ga0, ga, shl, upl, sto, List.cons_append, List.nil_append, List.set_cons_succ, List.set_cons_zero, List.getElem?_cons_zero, List.getElem?_cons_succ]; first | done | exact rfl))); (· exact rfl)) | (apply AB.dGet_T; (· (first | exact rfl | assumption | exact AB.sto_get0 | (simp only [List.append_assoc, sa0, sa, ga0, ga, shl, upl, sto, List.cons_append, List.nil_append, List.set_cons_succ, List.set_cons_zero, List.getElem?_cons_zero, List.getElem?_cons_succ]; first | done | exact rfl))); (· exact rfl)) | (apply AB.dGet_L; (· (first | exact rfl | assumption | exact AB.sto_get0 | (simp only [List.append_assoc, sa0, sa, ga0, ga, shl, upl, sto, List.cons_append, List.nil_append, List.set_cons_succ, List.set_cons_zero, List.getElem?_cons_zero, List.getElem?_cons_succ]; first | done | exact rfl))); (· exact rfl)))))
  | ((with_reducible apply Exists.intro); (with_reducible apply Exists.intro); (with_reducible apply And.intro); (· exact rfl); (with_reducible apply And.intro); (· exact rfl))
  | ((with_reducible apply Exists.intro); (with_reducible apply Exists.intro); (with_reducible apply And.intro); (· exact rfl))
  | walk_at "gx"))
local macro_rules | `(tactic| walk_at "go") => `(tactic| ((repeat walk_at "go1"); try (with_reducible conv => whnf)))
local macro_rules | `(tactic| walk_at "gd") => `(tactic| ((repeat first | walk_at "go1" | ((with_reducible conv => whnf); (with_reducible apply AB.w_ifP); (· first | decide | exact rfl | omega)) | ((with_reducible conv => whnf); (with_reducible apply AB.w_ifQ); (· first | decide | omega))); try (with_reducible conv => whnf)))
local macro_rules | `(tactic| walk_at "gk") => `(tactic| ((repeat ((with_reducible conv => whnf); (fail_if_success (with_reducible apply AB.is_back)); walk_at "go1")); try (with_reducible conv => whnf)))
theorem is_back {n : Nat} {k : AK} {d : D} {θ : Th} (h : aBack n k d θ) : aBack n k d θ := h
/-! keys that begin otherwise -/
def othL (sg key : List Nat) : List (List Nat) := (sg.filter fun c => decide (¬ [c] = key.take 1)).map fun c => c :: key.drop 1
theorem cl_oth {i j : Nat} {Γ : AB.G} {θ : Th} {sg key : List Nat} {kl : List D → Prop} (hj : Γ[j]? = some (some (.str (S key)))) (hij : i ≠ j) (hi : i < Γ.length) (hk : key.length ≤ 50000) (q : kl ((othL sg key).map fun l => .str (S l))) :
    cLoop (Tgt.one i) (aTst (aBin fNe (aVar i) (aSl (aVar j) oNone (oSome (aC (D.int 1)))))) (aBin fAdd (aVar i) (aSl (aVar j) (oSome (aC (D.int 1))) oNone)) Γ θ (AB.signs (S sg)) [] kl := by
  unfold AB.signs
  refine cl_filter (xs := sg) (φ := fun c => D.str (S [c])) (fun c => decide (¬ [c] = key.take 1)) (fun c => .str (S (c :: key.drop 1))) (fun c hc acc ko q => ?_) ?_
  · have h1 : (Γ.set i (some (.str (S [c]))))[i]? = some (some (.str (S [c]))) := List.getElem?_set_self hi
    have h2 : (Γ.set i (some (.str (S [c]))))[j]? = some (some (.str (S key))) := by rw [List.getElem?_set_ne hij]; exact hj
    refine w_el rfl ?_
    refine ⟨_, h1, ?_⟩
    refine ⟨_, h2, ?_⟩
    walk_at "go"
    rw [cutL_take (by decide)]
    refine w_if (fun h => ?_) (fun h => ?_)
    · rw [if_neg (by simpa using h)] at q
      exact q
    · rw [if_pos (by simpa using h)] at q
      refine ⟨_, h1, ?_⟩
      refine ⟨_, h2, ?_⟩
      walk_at "go"
      rw [cutL_drop (by decide)]
      refine v_addSS (by simp; omega) ?_
      exact ⟨rfl, q⟩
  · unfold othL at q
    rw [List.map_map] at q
    exact q
theorem oth_ne {sg key l : List Nat} (h : l ∈ othL sg key) : l ≠ key ∧ l.length ≤ key.length + 1 := by
  unfold othL at h
  obtain ⟨c, hc, rfl⟩ := List.mem_map.mp h
  have := (List.mem_filter.mp hc).2
  refine ⟨fun z => ?_, by simp⟩
  rw [← z] at this
  simp at this
theorem oth_ok {sg key : List Nat} (hs : SOk sg) (hk : SOk key) : ∀ l ∈ othL sg key, SOk l := fun l h => by
  unfold othL at h
  obtain ⟨c, hc, rfl⟩ := List.mem_map.mp h
  intro x hx
  rcases List.mem_cons.mp hx with rfl | hx
  · exact hs _ (List.mem_filter.mp hc).1
  · exact hk x (List.mem_of_mem_drop hx)
theorem oth_len {sg key : List Nat} (nd : sg.Nodup) : sg.length ≤ (othL sg key).length + 1 := by
  unfold othL
  rw [List.length_map]
  induction sg with
  | nil => simp
  | cons c sg ih =>
    rw [List.nodup_cons] at nd
    rw [List.filter_cons]
    split
    · simp only [List.length_cons]
      have := ih nd.2
      omega
    · rename_i h
      have h' : [c] = key.take 1 := by simpa using h
      have : sg.filter (fun c => decide (¬ [c] = key.take 1)) = sg := List.filter_eq_self.mpr fun x hx => decide_eq_true fun z => nd.1 (by
        rw [← h'] at z
        have : x = c := by simpa using z
        rwa [this] at hx)
      rw [this]
      simp
theorem oth_nodup {sg key : List Nat} (nd : sg.Nodup) : (othL sg key).Nodup := by
  unfold othL
  exact List.Pairwise.map _ (fun a b h z => h (List.cons.inj z).1) (List.Nodup.sublist List.filter_sublist nd)
/-- two keys that begin otherwise -/
theorem oth_two {key : List Nat} (hk : SOk key) : ∃ a b r, othL [113, 114, 115] key = a :: b :: r ∧ a ≠ key ∧ b ≠ key ∧ a ≠ b ∧ SOk a ∧ SOk b ∧ a.length ≤ key.length + 1 ∧ b.length ≤ key.length + 1 := by
  have h1 := oth_len (sg := [113, 114, 115]) (key := key) (by decide)
  have h2 := oth_nodup (sg := [113, 114, 115]) (key := key) (by decide)
  have h3 := fun l => oth_ne (sg := [113, 114, 115]) (key := key) (l := l)
  have h4 := oth_ok (sg := [113, 114, 115]) (key := key) (by unfold SOk; decide) hk
  generalize othL [113, 114, 115] key = ls at h1 h2 h3 h4
  match ls with
  | [] => simp at h1
  | [a] => simp at h1
  | a :: b :: r =>
    rw [List.nodup_cons] at h2
    exact ⟨a, b, r, rfl, (h3 a (by simp)).1, (h3 b (by simp)).1, fun z => h2.1 (by rw [z]; simp), h4 a (by simp), h4 b (by simp), (h3 a (by simp)).2, (h3 b (by simp)).2⟩
theorem oth_one {key : List Nat} (hk : SOk key) : ∃ a r, othL [113, 114] key = a :: r ∧ a ≠ key ∧ SOk a ∧ a.length ≤ key.length + 1 := by
  have h1 := oth_len (sg := [113, 114]) (key := key) (by decide)
  have h3 := fun l => oth_ne (sg := [113, 114]) (key := key) (l := l)
  have h4 := oth_ok (sg := [113, 114]) (key := key) (by unfold SOk; decide) hk
  generalize othL [113, 114] key = ls at h1 h3 h4
  match ls with
  | [] => simp at h1
  | a :: r => exact ⟨a, r, rfl, (h3 a (by simp)).1, h4 a (by simp), (h3 a (by simp)).2⟩
theorem nums_get0 {n i : Nat} {d : D} (h : (nums 0 n)[i]? = some d) : i < n ∧ d = .int (i : Nat) := by
  obtain ⟨h1, h2⟩ := nums_get h
  exact ⟨h1, by rw [h2, Int.zero_add]⟩
/-- two branches, one way on -/
theorem ifJ {b : Bool} {s t : ASR} {nx bk ct : AB.G → Th → Prop} {rt : AK} {ex : Value → AB.G → Th → Prop} {Γ : AB.G} {θ : Th} (J : AB.G → Th → Prop) (hJ : ∀ Γ' θ', J Γ' θ' → nx Γ' θ')
    (q : ∀ kk : AB.G → Th → Prop, (∀ Γ' θ', J Γ' θ' → kk Γ' θ') → ifB b (s ⟨kk, rt, bk, ct, ex⟩ Γ θ) (t ⟨kk, rt, bk, ct, ex⟩ Γ θ)) : ifB b (s ⟨nx, rt, bk, ct, ex⟩ Γ θ) (t ⟨nx, rt, bk, ct, ex⟩ Γ θ) := q nx hJ
theorem ifTJ {b : Bool} {t : ATR} {kt : Bool → Th → Prop} {kx : AX} {Γ : AB.G} {θ : Th} (J : Th → Prop) (hJ : ∀ θ', J θ' → kt false θ')
    (q : ∀ kt : Bool → Th → Prop, (∀ θ', J θ' → kt false θ') → ifB b (t Γ θ kt kx) (kt false θ)) : ifB b (t Γ θ kt kx) (kt false θ) := q kt hJ
end AB
namespace AB
open PySem PySem.Spec PyProof.Rows L2 TL
/-! ### a list made in a comprehension whose items change the state -/
def cElS (t : Tgt) (tt : ATR) (te : AR) (Γ : AB.G) (a : Nat) (θ : Th) (acc : List D) (d : D) (k : Option D → Th → Prop) : Prop :=
  cTg t d Γ fun Γ1 => tt Γ1 θ (fun b θ2 => θ2[a]? = some (.lst acc) ∧ ifB b (te Γ1 θ2 (fun e θ3 => θ3[a]? = some (.lst acc) ∧ k (some e) θ3) noX) (k none θ2)) noX
def cLoopS (still : Th → Prop) (t : Tgt) (tt : ATR) (te : AR) (Γ : AB.G) (a : Nat) : List D → List D → Th → (List D → Th → Prop) → Prop
  | [], acc, θ, k => still θ ∧ k acc θ
  | d :: ds, acc, θ, k => still θ ∧ cElS t tt te Γ a θ acc d fun o θ' => match o with
    | none => cLoopS still t tt te Γ a ds acc θ' k
    | some e => cLoopS still t tt te Γ a ds (acc ++ [e]) (θ'.set a (.lst (acc ++ [e]))) k
def aLcS (ai : AIR) (t : Tgt) (tt : ATR) (te : AR) (vs : List Nat) : AR := fun Γ θ k kx => ai Γ θ (fun ds still θ1 => ds.length ≤ 100000 ∧ cLoopS still t tt te (wipeG Γ vs) θ1.length ds [] (θ1 ++ [.lst []]) fun acc θ' => k (.lst acc) (θ'.set θ1.length .gone)) kx
section
variable {X : Cx} {W : WX} {tg it elt : Expr} {ai : AIR} {tt : ATR} {te : AR} {pos : Pos} {ifs : List Expr} {scope : Scope} {own : List (Str × Nat)} {t : Tgt}
theorem cLoopS_still {still : Th → Prop} {Γ : AB.G} {a : Nat} {ds acc : List D} {θ : Th} {k : List D → Th → Prop} (h : cLoopS still t tt te Γ a ds acc θ k) : still θ := by
  cases ds with
  | nil => exact h.1
  | cons d ds => exact h.1
theorem lcS_imp (hv : ∀ i ∈ t.slots, i ∈ own.map (·.2)) {σ : L2.St} {H : Hp} {Q Q' : VK} (hQ : ∀ v H, FrQ Q v H → Q' v H) (h : LE X.K W (aLcS ai t tt te (own.map (·.2))) σ H Q) :
    tLc (LI X.K W ai) (tgC X.K t) (LT X.K W0 tt) (LE X.K W0 te) (own.map (·.2)) σ H Q' := by
  obtain ⟨α, θ, Γ, k, kx, S, G, q, lk, lx⟩ := h
  refine ⟨α, θ, Γ, _, _, S, G, q, fun ds still θ1 α1 H1 J n1 S1 sim ⟨hlen, q1⟩ => fun Dl hD => ?_, lx⟩
  have lk1 := lk.on n1
  have G1 := (G.mono n1).wipe (own.map (·.2))
  generalize hβ : put α1 θ1.length Dl = β
  have hβ0 : β θ1.length = Dl := by rw [← hβ]; exact put_same _ _ _
  have hlen1 : (θ1 ++ [Ent.lst []]).length = θ1.length + 1 := by rw [List.length_append]; rfl
  have n2 : Nx α1 θ1.length H1 β (θ1.length + 1) (upd H1 Dl (.lst [])) := by
    have := Nx.put (α := α1) (H := H1) (H' := upd H1 Dl (.lst [])) (θ := θ1) (p := Dl) (e := .lst []) (same_new hD)
    rw [hβ, hlen1] at this
    exact this
  have S2 : Sta X.K (upd H1 Dl (.lst [])) β (θ1 ++ [.lst []]) := by
    have := S1.new (p := Dl) (e := .lst []) hD (same_new hD) ⟨[], upd_same, Reps.nil⟩
    rw [hβ] at this
    exact this
  have g2 : (θ1 ++ [Ent.lst []])[θ1.length]? = some (.lst []) := by simp
  refine ⟨fun i m H' => m = ds.length - i ∧ i ≤ ds.length ∧ ∃ (β' : Nat → Addr) (θ' : Th) (acc : List D), Nx β (θ1.length + 1) (upd H1 Dl (.lst [])) β' θ'.length H' ∧ Sta X.K H' β' θ' ∧ θ'[θ1.length]? = some (.lst acc) ∧ acc.length ≤ i ∧
    cLoopS still t tt te (wipeG Γ (own.map (·.2))) θ1.length (ds.drop i) acc θ' (fun acc θ' => k (.lst acc) (θ'.set θ1.length .gone)), ⟨ds.length, by simp, Nat.zero_le _, β, _, [], by rw [hlen1]; exact Nx.refl _ _ _, S2, g2, Nat.zero_le _, q1⟩, ?_⟩
  rintro i m H' ⟨rfl, hi, β', θ', acc, nx, S', hg, hacc, q'⟩
  have hβ' : β' θ1.length = Dl := by rw [nx.ag _ (Nat.lt_succ_self _)]; exact hβ0
  obtain ⟨h1, h2⟩ := sim i β' θ' H' (n2.trans nx) S' (cLoopS_still q')
  by_cases hlt : i < ds.length
  · have hd : ds[i]? = some ds[i] := List.getElem?_eq_getElem hlt
    rw [List.drop_eq_getElem_cons hlt] at q'
    obtain ⟨hgo, hy⟩ := h1 _ hd
    have q'' : cTg t ds[i] (wipeG Γ (own.map (·.2))) fun Γ1 => tt Γ1 θ' (fun b θ2 => θ2[θ1.length]? = some (.lst acc) ∧ ifB b (te Γ1 θ2 (fun e θ3 => θ3[θ1.length]? = some (.lst acc) ∧ cLoopS still t tt te (wipeG Γ (own.map (·.2))) θ1.length (ds.drop (i + 1)) (acc ++ [e]) (θ3.set θ1.length (.lst (acc ++ [e]))) (fun acc θ' => k (.lst acc) (θ'.set θ1.length .gone))) noX) (cLoopS still t tt te (wipeG Γ (own.map (·.2))) θ1.length (ds.drop (i + 1)) acc θ2 (fun acc θ' => k (.lst acc) (θ'.set θ1.length .gone)))) noX := q'.2
    refine .inr ⟨hgo, fun H2 => ∃ (β' : Nat → Addr) (θ' : Th) (acc' : List D), Nx β (θ1.length + 1) (upd H1 Dl (.lst [])) β' θ'.length H2 ∧ Sta X.K H2 β' θ' ∧ θ'[θ1.length]? = some (.lst acc') ∧ acc'.length ≤ i + 1 ∧
      cLoopS still t tt te (wipeG Γ (own.map (·.2))) θ1.length (ds.drop (i + 1)) acc' θ' (fun acc θ' => k (.lst acc) (θ'.set θ1.length .gone)), ?_, ?_⟩
    · rintro H2 ⟨b', t', acc', p1, p2, p3, p4, p5⟩
      exact ⟨_, by omega, rfl, hlt, b', t', acc', p1, p2, p3, p4, p5⟩
    · intro x H'' y
      obtain ⟨sm, rx⟩ := hy x H'' y
      have ny : Nx β' θ'.length H' β' θ'.length H'' := Nx.of _ _ (Pers.same sm)
      have nn := nx.trans ny
      have S'' := S'.same sm
      refine tg_run hv (α := β') (N := θ'.length) (Γ := wipeG Γ (own.map (·.2))) (G1.mono (n2.trans nn)) rx q'' fun Γ1 σ1 Gs hw q3 => ⟨hw, ?_⟩
      refine ⟨β', _, Γ1, _, _, S'', Gs, q3, fun b θ2 α2 H2 m2 T2 ⟨e2, q4⟩ => ?_, fun _ _ _ _ _ _ z => z.elim⟩
      cases b with
      | false =>
        rw [if_neg Bool.false_ne_true]
        exact ⟨α2, θ2, acc, nn.trans m2, T2, e2, by omega, q4.2 rfl⟩
      | true =>
        rw [if_pos rfl]
        refine ⟨α2, _, Γ1, _, _, T2, Gs.mono m2, q4.1 rfl, fun d θ3 α3 H3 v m3 T3 r3 ⟨e3, q5⟩ => ?_, fun _ _ _ _ _ _ z => z.elim⟩
        have n3 := nn.trans (m2.trans m3)
        have ha3 : α3 θ1.length = Dl := by rw [n3.ag _ (Nat.lt_succ_self _)]; exact hβ0
        have hnl : θ1.length < θ3.length := (List.getElem?_eq_some_iff.mp e3).1
        obtain ⟨us, hu, ru⟩ := T3.ent _ _ e3
        rw [ha3] at hu
        refine ⟨us, hu, by rw [← ru.length]; exact Nat.lt_of_lt_of_le (by omega : acc.length < 100000 + 1) (by rw [sizeLine_eq]; decide), α3, θ3.set θ1.length (.lst (acc ++ [d])), acc ++ [d], ?_, ?_, ?_, by simp; omega, q5⟩
        · rw [List.length_set]
          exact n3.trans ⟨fun _ _ => rfl, Nat.le_refl _, Pers.write hu trivial⟩
        · have n9 : Nx α3 θ3.length H3 α3 θ3.length (upd H3 Dl (.lst (us ++ [v]))) := ⟨fun _ _ => rfl, Nat.le_refl _, Pers.write hu trivial⟩
          have := T3.write (n := θ1.length) (e' := .lst (acc ++ [d])) (u := .lst us) (o := .lst (us ++ [v])) hnl (by rw [ha3]; exact hu) trivial (by
            rw [ha3, List.length_set]
            exact ⟨_, upd_same, (Reps.mono n9 _ _ ru).append (Reps.cons (Rep.mono n9 _ _ r3) Reps.nil)⟩)
          rw [ha3] at this
          exact this
        · exact List.getElem?_set_self hnl
  · have e : i = ds.length := by omega
    subst e
    rw [List.drop_length] at q'
    obtain ⟨_, hk⟩ := q'
    refine .inl ⟨h2 (Nat.le_refl _), hQ _ _ ?_⟩
    obtain ⟨us, hu, ru⟩ := S'.ent _ _ hg
    rw [hβ'] at hu
    have hnl : θ1.length < θ'.length := (List.getElem?_eq_some_iff.mp hg).1
    refine .inr ⟨Dl, us, rfl, hu, fun o => ?_⟩
    have pw : Pers H' (upd H' Dl (.frz o (.lst us))) := Pers.write hu trivial
    have S8 : Sta X.K (upd H' Dl (.frz o (.lst us))) β' (θ'.set θ1.length .gone) := by
      have := S'.write (n := θ1.length) (e' := .gone) (u := .lst us) (o := .frz o (.lst us)) hnl (by rw [hβ']; exact hu) trivial (by
        rw [hβ']
        show upd H' Dl _ Dl ≠ none
        rw [upd_same]; exact fun z => nomatch z)
      rw [hβ'] at this
      exact this
    have nfull : Nx α1 θ1.length H1 β' (θ'.set θ1.length .gone).length (upd H' Dl (.frz o (.lst us))) := by
      rw [List.length_set]
      exact (n2.trans nx).trans (Nx.of _ _ pw)
    refine lk1 (.lst acc) _ β' _ (.ref Dl) nfull S8 ?_ hk
    unfold Rep
    rw [List.length_set]
    exact ⟨Dl, us, rfl, ⟨o, upd_same⟩, Reps.mono (Nx.of _ _ pw) _ _ ru⟩
theorem xe_lcS (hc : X.calm = true) (hN : X.N.Nodup) (hi : XI X W tg it ai) (ok : BlkOk X.N X.env.scope scope own) (hv : ∀ i ∈ t.slots, i ∈ own.map (·.2))
    (hg : ∀ (s : Shared) (H : Hp) (C : Addr) (cl : List (Str × Addr)) (fp : List Addr), PG (X.blk s H scope (compEnvC scope cl C X.env) fp) tg (tgC X.K t))
    (ht : ∀ (s : Shared) (H : Hp) (C : Addr) (cl : List (Str × Addr)) (fp : List Addr), XTs (X.blk s H scope (compEnvC scope cl C X.env) fp) W0 ifs tt)
    (he : ∀ (s : Shared) (H : Hp) (C : Addr) (cl : List (Str × Addr)) (fp : List Addr), XE' (X.blk s H scope (compEnvC scope cl C X.env) fp) W0 elt te) (hs : ∀ x, foldedSetIterable it X.env x = pure x := by intro _; rfl) :
    XE' X W (.ListComp elt [⟨tg, it, ifs, 0⟩] scope pos) (aLcS ai t tt te (own.map (·.2))) :=
  pe_imp (pe_frz (pe_lc hc hN hi ok hg ht he hs)) fun _ _ _ h => lcS_imp hv (fun _ _ z => z) h
theorem xs_setLcS {i : Nat} {y : Str} {py spos : Pos} (hc : X.calm = true) (hN : X.N.Nodup) (hy : X.N[i]? = some y) (hyl : X.env.scope.names.lookup y = some .local)
    (hsw : swapsWith (.ListComp elt [⟨tg, it, ifs, 0⟩] scope pos) (some (.Name y py)) spos.line X.env = pure true) (hi : XI X W tg it ai) (ok : BlkOk X.N X.env.scope scope own) (hv : ∀ i ∈ t.slots, i ∈ own.map (·.2))
    (hg : ∀ (s : Shared) (H : Hp) (C : Addr) (cl : List (Str × Addr)) (fp : List Addr), PG (X.blk s H scope (compEnvC scope cl C X.env) fp) tg (tgC X.K t))
    (ht : ∀ (s : Shared) (H : Hp) (C : Addr) (cl : List (Str × Addr)) (fp : List Addr), XTs (X.blk s H scope (compEnvC scope cl C X.env) fp) W0 ifs tt)
    (he : ∀ (s : Shared) (H : Hp) (C : Addr) (cl : List (Str × Addr)) (fp : List Addr), XE' (X.blk s H scope (compEnvC scope cl C X.env) fp) W0 elt te) (hs : ∀ x, foldedSetIterable it X.env x = pure x := by intro _; rfl) :
    XS X W (.Assign [.Name y py] (.ListComp elt [⟨tg, it, ifs, 0⟩] scope pos) spos) (aAsg (aLcS ai t tt te (own.map (·.2))) (gN i)) :=
  ps_imp (ps_frz (ps_setLc hc hN hy hyl hsw hi ok hg ht he hs)) (by
    rintro Dn σ H ⟨α, θ, Γ, E, S, G, q, lk⟩
    refine lcS_imp (Q := fun v H1 => gName i v σ H1 Dn.nx) hv (fun v H1 z => ?_) ⟨α, θ, Γ, _, _, S, G, q, fun d θ1 α1 H1 v n1 S1 r1 q1 => gName_imp _ _ _ _ ⟨α1, θ1, Γ, d, _, S1, G.mono n1, r1, q1, lk.nx.on n1⟩, lk.ex.atG G⟩
    rcases z with z | ⟨p, xs, rfl, hp, z⟩
    · exact .inl z
    · exact .inr ⟨p, xs, hp, z⟩)
end
section
variable {Γ Γw : AB.G} {θ : Th} {k : AK} {kx : AX} {ai : AIR} {t : Tgt} {tt : ATR} {te : AR} {vs : List Nat} {still : Th → Prop} {a : Nat}
theorem w_lcS (hw : wipeG Γ vs = Γw) (q : ai Γ θ (fun ds still θ1 => ds.length ≤ 100000 ∧ cLoopS still t tt te Γw θ1.length ds [] (θ1 ++ [.lst []]) fun acc θ' => k (.lst acc) (θ'.set θ1.length .gone)) kx) : aLcS ai t tt te vs Γ θ k kx := by subst hw; exact q
/-- by what holds ahead of each turn -/
theorem clS_inv {ds : List D} {kl : List D → Th → Prop} (I : Nat → List D → Th → Prop) (h0 : I 0 [] θ) (hs : ∀ i acc θ, I i acc θ → still θ)
    (turn : ∀ i d acc θ (ko : Option D → Th → Prop), ds[i]? = some d → I i acc θ → (∀ o θ', (match o with | none => I (i + 1) acc θ' | some e => I (i + 1) (acc ++ [e]) (θ'.set a (.lst (acc ++ [e])))) → ko o θ') → cElS t tt te Γ a θ acc d ko)
    (fin : ∀ acc θ, I ds.length acc θ → kl acc θ) : cLoopS still t tt te Γ a ds [] θ kl := by
  have go : ∀ (es : List D) (i : Nat) (acc : List D) (θ : Th), ds.drop i = es → i + es.length = ds.length → I i acc θ → cLoopS still t tt te Γ a es acc θ kl := by
    intro es
    induction es with
    | nil => intro i acc θ _ hl hi; exact ⟨hs i acc θ hi, fin acc θ (by simp at hl; rw [← hl]; exact hi)⟩
    | cons e es ih =>
      intro i acc θ hd hl hi
      refine ⟨hs i acc θ hi, ?_⟩
      have he : ds[i]? = some e := by
        have := congrArg List.head? hd
        rw [List.head?_drop] at this
        exact this
      have hd' : ds.drop (i + 1) = es := by
        have := congrArg List.tail hd
        rw [List.tail_drop] at this
        exact this
      have hl' : i + 1 + es.length = ds.length := by simp at hl; omega
      refine turn i e acc θ _ he hi fun o θ' q => ?_
      cases o with
      | none => exact ih (i + 1) acc θ' hd' hl' q
      | some x => exact ih (i + 1) (acc ++ [x]) _ hd' hl' q
  exact go ds 0 [] θ rfl (by simp) h0
theorem w_elYS {Γ1 : AB.G} {i : Nat} {acc : List D} {d : D} {ko : Option D → Th → Prop} (hg : θ[a]? = some (.lst acc)) (h : Γ.set i (some d) = Γ1) (q : te Γ1 θ (fun e θ3 => θ3[a]? = some (.lst acc) ∧ ko (some e) θ3) noX) : cElS (.one i) aYes te Γ a θ acc d ko := by
  subst h
  exact ⟨hg, w_ifT q⟩
end
/-! ### list(range(n)); xs.pop(i) -/
def aLstRng (ra : AR) : AR := fun Γ θ k kx => ra Γ θ (fun x θ1 => ∃ n, x = .int n ∧ -100000 ≤ n ∧ n ≤ 100000 ∧ k (.obj θ1.length) (θ1 ++ [.lst (nums 0 n.toNat)])) kx
section
variable {X : Cx} {W : WX} {a o e : Expr} {es : List Expr} {ra ro : AR} {rs : AAR} {p p2 q pos apos cpos : Pos}
theorem xe_lstRng (hc : X.calm = true) (hg : Gl X "list") (hm : X.mg "list" = none) (hg2 : Gl X "range") (hm2 : X.mg "range" = none) (ha : XE' X W a ra)
    (na : starEach [a] X.env = (false, eval a X.env) :: starEach [] X.env := by rfl) (nb : starEach [.Call (.Name "range" p2) [a] [] q] X.env = (false, eval (.Call (.Name "range" p2) [a] [] q) X.env) :: starEach [] X.env := by rfl) :
    XE' X W (.Call (.Name "list" p) [.Call (.Name "range" p2) [a] [] q] [] pos) (aLstRng ra) := pe_imp (pe_listRg hc hg hm (prg_1 hg2 hm2 ha na) nb) (by
  rintro σ H Q ⟨α, θ, Γ, k, kx, S0, G, q, lk, lx⟩
  refine ⟨α, θ, Γ, _, kx, S0, G, q, fun x θ1 α1 H1 v n1 S1 r1 ⟨n, e1, h0, h1, q1⟩ => ?_, lx⟩
  subst e1
  unfold Rep at r1
  refine ⟨n, r1, ⟨by omega, by omega, by omega, by omega, by omega⟩, fun l hl => ent_new (e := .lst (nums 0 n.toNat)) S1 hl ⟨_, upd_same, ?_⟩ q1 (lk.on n1)⟩
  have e2 : nums 0 n.toNat = ((List.range n.toNat).map fun (i : Nat) => (0 : Int) + (i : Nat)).map D.int := by unfold nums; rw [List.map_map]; rfl
  have e3 : rgV 0 n = ((List.range n.toNat).map fun (i : Nat) => (0 : Int) + (i : Nat)).map V.int := by unfold rgV; rw [List.map_map, Int.sub_zero]; rfl
  rw [e2, e3]
  exact reps_ints _)
def fPopAt : FM := fun x xs θ k => ∃ n ds i j d, x = .obj n ∧ xs = [.int i] ∧ θ[n]? = some (.lst ds) ∧ -100000 ≤ i ∧ i ≤ 100000 ∧ seqIndex? i ds.length = some j ∧ ds[j]? = some d ∧ k d (θ.set n (.lst (ds.eraseIdx j)))
theorem Reps.eraseIdx {K : PySem.W.Frag} {H : Hp} {α : Nat → Addr} {N : Nat} : ∀ {ds : List D} {vs : List V} (j : Nat), Reps K H α N ds vs → Reps K H α N (ds.eraseIdx j) (vs.eraseIdx j)
  | [], vs, j, h => by unfold Reps at h; subst h; exact Reps.nil
  | d :: ds, vs, 0, h => by obtain ⟨v, us, rfl, h1, h2⟩ := h.uncons; exact h2
  | d :: ds, vs, j + 1, h => by obtain ⟨v, us, rfl, h1, h2⟩ := h.uncons; exact Reps.cons h1 (Reps.eraseIdx j h2)
theorem sim_popAt {K : PySem.W.Frag} : SimM K fPopAt rPopAt := by
  intro α θ H x xs v vs k Q S0 rx rs ⟨n, ds, i, j, d, e1, e2, hn, h0, h1, hj, hd, q⟩ lk
  subst e1 e2
  obtain ⟨w, rfl, rd⟩ := rep1 rs
  unfold Rep at rx rd
  obtain ⟨_, rfl⟩ := rx
  subst rd
  obtain ⟨us, g1, g2⟩ := S0.ent n _ hn
  obtain ⟨u, hu, ru⟩ := g2.get hd
  refine ⟨α n, us, i, j, u, rfl, rfl, g1, by omega, by omega, by rw [← g2.length]; exact hj, hu, ?_⟩
  exact ent_set (e' := .lst (ds.eraseIdx j)) S0 hn g1 trivial (fun H' nx e => ⟨_, e, (Reps.mono nx _ _ g2).eraseIdx j⟩) ru q lk
theorem xm_popAt (ho : XE' X W o ro) (ha : XA X W (e :: es) rs)
    (hbase : attributeBase o "pop" X.env (eval o X.env) = eval o X.env := by rfl)
    (hfew : ((backTo cpos (starEach (e :: es) X.env)).all (fun x => !x.1) && (backToKw cpos (keywordEach [] X.env)).all (fun x => x.1.isSome)
      && decide ((e :: es).length + ([] : List Keyword).length + (if ([] : List Keyword).isEmpty then 0 else 1) < 30)) = true := by rfl)
    (hline : (apos.endLine == cpos.line) = true := by rfl) (hs : starEach (e :: es) X.env = (false, eval e X.env) :: starEach es X.env := by rfl) (hplain : (backTo cpos (starEach es X.env)).any (·.1) = false := by rfl) :
    XE' X W (.Call (.Attribute o "pop" apos) (e :: es) [] cpos) (aBM "list" fPopAt ro rs) := xe_bm PySem.F.plainAttrs_list PySem.F.slot_list_pop PySem.F.type_list_pop mt_popAt sim_popAt ho ha hbase hfew hline hs hplain
end
section
variable {θ θ2 : Th} {k : AK} {kx : AX} {Γ : AB.G} {ra : AR} {n : Nat} {ds : List D} {d : D} {i : Int}
theorem w_lstRng (q : ra Γ θ (fun x θ1 => ∃ n, x = .int n ∧ -100000 ≤ n ∧ n ≤ 100000 ∧ k (.obj θ1.length) (θ1 ++ [.lst (nums 0 n.toNat)])) kx) : aLstRng ra Γ θ k kx := q
theorem v_lstRng (h0 : -100000 ≤ i) (h1 : i ≤ 100000) (q : k (.obj θ.length) (θ ++ [.lst (nums 0 i.toNat)])) : ∃ n, D.int i = .int n ∧ -100000 ≤ n ∧ n ≤ 100000 ∧ k (.obj θ.length) (θ ++ [.lst (nums 0 n.toNat)]) := ⟨i, rfl, h0, h1, q⟩
theorem seqIx {i : Int} {m : Nat} (h0 : 0 ≤ i) (h1 : i < m) : seqIndex? i m = some i.toNat := by
  unfold seqIndex?
  simp
  omega
theorem v_popAt (h : θ[n]? = some (.lst ds)) (h0 : 0 ≤ i) (h1 : i < ds.length) (hl : ds.length ≤ 100000) (hd : ds[i.toNat]? = some d) (h2 : θ.set n (.lst (ds.eraseIdx i.toNat)) = θ2) (q : k d θ2) : fPopAt (.obj n) [.int i] θ k :=
  ⟨n, ds, i, i.toNat, d, rfl, rfl, h, by omega, by omega, seqIx h0 h1, hd, by rw [h2]; exact q⟩
end
theorem erase_map {α β : Type} (f : α → β) : ∀ (l : List α) (i : Nat), (l.map f).eraseIdx i = (l.eraseIdx i).map f
  | [], _ => rfl
  | _ :: _, 0 => rfl
  | a :: l, i + 1 => by
    show f a :: (l.map f).eraseIdx i = f a :: (l.eraseIdx i).map f
    rw [erase_map f l i]
theorem erase_perm {α : Type} : ∀ (l : List α) (i : Nat) (h : i < l.length), (l[i] :: l.eraseIdx i).Perm l
  | a :: l, 0, _ => List.Perm.refl _
  | a :: l, i + 1, h => by
    have h' : i < l.length := by simpa using h
    have ih := erase_perm l i h'
    show (l[i] :: a :: l.eraseIdx i).Perm (a :: l)
    exact (List.Perm.swap a l[i] _).trans (ih.cons a)
end AB
namespace AB
open PySem PySem.Spec PyProof.Rows L2 TL
/-! ### texts, rising -/
theorem ltC_irr : ∀ a : List Nat, ltCps a a = false
  | [] => rfl
  | x :: a => by unfold ltCps; rw [ltC_irr a]; simp
theorem ltC_trans : ∀ {a b c : List Nat}, ltCps a b = true → ltCps b c = true → ltCps a c = true
  | [], [], _, h, _ => by cases h
  | [], _ :: _, [], _, h => by cases h
  | [], _ :: _, _ :: _, _, _ => rfl
  | _ :: _, [], _, h, _ => by cases h
  | _ :: _, _ :: _, [], _, h => by cases h
  | x :: a, y :: b, z :: c, h1, h2 => by
    unfold ltCps at h1 h2 ⊢
    rcases (Bool.or_eq_true _ _).mp h1 with h1 | h1 <;> rcases (Bool.or_eq_true _ _).mp h2 with h2 | h2
    · have h1' := of_decide_eq_true h1
      have h2' := of_decide_eq_true h2
      rw [decide_eq_true (show x < z by omega)]; rfl
    · obtain ⟨e, _⟩ := (Bool.and_eq_true _ _).mp h2 |> fun h => (⟨h.1, h.2⟩ : _ ∧ _)
      have e' : y = z := by simpa using e
      have h1' := of_decide_eq_true h1
      rw [decide_eq_true (show x < z by omega)]; rfl
    · obtain ⟨e, _⟩ := (Bool.and_eq_true _ _).mp h1 |> fun h => (⟨h.1, h.2⟩ : _ ∧ _)
      have e' : x = y := by simpa using e
      have h2' := of_decide_eq_true h2
      rw [decide_eq_true (show x < z by omega)]; rfl
    · obtain ⟨e, l1⟩ := (Bool.and_eq_true _ _).mp h1 |> fun h => (⟨h.1, h.2⟩ : _ ∧ _)
      obtain ⟨e2, l2⟩ := (Bool.and_eq_true _ _).mp h2 |> fun h => (⟨h.1, h.2⟩ : _ ∧ _)
      have e' : x = y := by simpa using e
      have e2' : y = z := by simpa using e2
      rw [ltC_trans l1 l2, e', e2']; simp
theorem ltC_anti : ∀ {a b : List Nat}, ltCps a b = false → ltCps b a = false → a = b
  | [], [], _, _ => rfl
  | [], _ :: _, h, _ => by cases h
  | _ :: _, [], _, h => by cases h
  | x :: a, y :: b, h1, h2 => by
    unfold ltCps at h1 h2
    obtain ⟨p1, p2⟩ := (Bool.or_eq_false_iff).mp h1
    obtain ⟨q1, q2⟩ := (Bool.or_eq_false_iff).mp h2
    have p1' := of_decide_eq_false p1
    have q1' := of_decide_eq_false q1
    have e : x = y := by omega
    subst e
    have p3 : ltCps a b = false := by simpa using p2
    have q3 : ltCps b a = false := by simpa using q2
    rw [ltC_anti p3 q3]
theorem ltC_dec : ∀ a b : List Nat, ltCps a b = decide (a < b)
  | [], [] => rfl
  | [], y :: b => by rw [show ltCps [] (y :: b) = true from rfl]; exact (decide_eq_true (List.nil_lt_cons _ _)).symm
  | x :: a, [] => rfl
  | x :: a, y :: b => by
    unfold ltCps
    rw [ltC_dec a b]
    have : (x :: a < y :: b) ↔ (x < y ∨ x = y ∧ a < b) := List.cons_lt_cons_iff
    by_cases h1 : x < y
    · rw [decide_eq_true (this.mpr (.inl h1)), decide_eq_true h1]; rfl
    · by_cases h2 : x = y
      · subst h2
        by_cases h3 : a < b
        · rw [decide_eq_true (this.mpr (.inr ⟨rfl, h3⟩)), decide_eq_true h3]; simp
        · rw [decide_eq_false (fun z => (this.mp z).elim h1 fun z => h3 z.2), decide_eq_false h3]; simp
      · rw [decide_eq_false (fun z => (this.mp z).elim h1 fun z => h2 z.1)]
        simp [h1, h2]
def leC (a b : List Nat) : Bool := !ltCps b a
def ssort (xs : List (List Nat)) : List (List Nat) := xs.mergeSort leC
theorem leC_trans (a b c : List Nat) (h1 : leC a b = true) (h2 : leC b c = true) : leC a c = true := by
  unfold leC at *
  cases e : ltCps c a with
  | false => rfl
  | true =>
    have h1' : ltCps b a = false := by simpa using h1
    have h2' : ltCps c b = false := by simpa using h2
    cases e1 : ltCps a b with
    | true => rw [ltC_trans e e1] at h2'; cases h2'
    | false =>
      have := ltC_anti e1 h1'
      subst this
      rw [e] at h2'; cases h2'
theorem leC_total (a b : List Nat) : (leC a b || leC b a) = true := by
  unfold leC
  cases e : ltCps b a with
  | false => rfl
  | true =>
    cases e2 : ltCps a b with
    | false => rfl
    | true => have := ltC_trans e e2; rw [ltC_irr] at this; cases this
theorem ssort_perm (xs : List (List Nat)) : (ssort xs).Perm xs := List.mergeSort_perm _ _
theorem ssort_rise (xs : List (List Nat)) : (ssort xs).Pairwise fun a b => leC a b = true := List.pairwise_mergeSort leC_trans leC_total xs
theorem ssort_mem {x : List Nat} {xs : List (List Nat)} : x ∈ ssort xs ↔ x ∈ xs := (ssort_perm xs).mem_iff
theorem ssort_len (xs : List (List Nat)) : (ssort xs).length = xs.length := (ssort_perm xs).length_eq
theorem riseC_eq : ∀ {xs ys : List (List Nat)}, xs.Perm ys → xs.Pairwise (fun a b => leC a b = true) → ys.Pairwise (fun a b => leC a b = true) → xs = ys
  | [], ys, p, _, _ => (List.nil_perm.mp p).symm
  | x :: xs, [], p, _, _ => by have := p.length_eq; simp at this
  | x :: xs, y :: ys, p, h1, h2 => by
    have hx : x ∈ y :: ys := p.mem_iff.mp List.mem_cons_self
    have hy : y ∈ x :: xs := p.mem_iff.mpr List.mem_cons_self
    rw [List.pairwise_cons] at h1 h2
    have e : x = y := by
      rcases List.mem_cons.mp hx with h | h
      · exact h
      · rcases List.mem_cons.mp hy with h' | h'
        · exact h'.symm
        · have a := h1.1 y h'
          have b := h2.1 x h
          unfold leC at a b
          exact ltC_anti (by simpa using b) (by simpa using a)
    subst e
    rw [riseC_eq (List.perm_cons x |>.mp p) h1.2 h2.2]
theorem risingS_pair : ∀ {xs : List Str} {p : Str}, risingS p xs = true → (p :: xs).Pairwise fun a b => leC a.cps.toList b.cps.toList = true
  | [], p, _ => List.pairwise_singleton _ _
  | x :: r, p, h => by
    unfold risingS at h
    obtain ⟨h1, h2⟩ := (Bool.and_eq_true _ _).mp h |> fun h => (⟨h.1, h.2⟩ : _ ∧ _)
    have ih := risingS_pair h2
    refine List.pairwise_cons.mpr ⟨fun b hb => ?_, ih⟩
    have hpx : leC p.cps.toList x.cps.toList = true := h1
    rcases List.mem_cons.mp hb with rfl | hb
    · exact hpx
    · exact leC_trans _ _ _ hpx ((List.pairwise_cons.mp ih).1 b hb)
theorem sortedS_pair {xs : List Str} (h : sortedS xs = true) : xs.Pairwise fun a b => leC a.cps.toList b.cps.toList = true := by
  cases xs with
  | nil => exact List.Pairwise.nil
  | cons x r => exact risingS_pair h
theorem ssort_eq {ys : List Str} {ks : List (List Nat)} (p : ys.Perm (ks.map S)) (h : sortedS ys = true) : ys = (ssort ks).map S := by
  have e1 : ys = (ys.map fun y => y.cps.toList).map S := by
    rw [List.map_map]
    refine (List.map_id' ys).symm.trans (List.map_congr_left fun y _ => (S_tl y).symm)
  have p2 : (ys.map fun y => y.cps.toList).Perm ks := by
    have := p.map fun y : Str => y.cps.toList
    rw [List.map_map] at this
    have e2 : ks.map ((fun y : Str => y.cps.toList) ∘ S) = ks := (List.map_congr_left fun k _ => rfl).trans (List.map_id' ks)
    rw [e2] at this
    exact this
  rw [e1]
  congr 1
  exact riseC_eq (p2.trans (ssort_perm ks).symm) (List.pairwise_map.mpr (sortedS_pair h)) (ssort_rise ks)
theorem v_sortDS {θ : Th} {k : AK} {n : Nat} {kvs : List (Key × D)} {ks : List (List Nat)} (h : θ[n]? = some (.dK kvs) ∨ θ[n]? = some (.lk kvs)) (hk : kvs.map (·.1) = ks.map fun k => Sum.inr (S k)) (hl : ks.length < 64) (q : k (.lst ((ssort ks).map fun l => .str (S l))) θ) : fSortA [.obj n] θ k :=
  .inr ⟨_, kvs, rfl, ⟨n, rfl, h⟩, .inl ⟨ks.map S, by rw [hk, List.map_map]; rfl, by rw [List.length_map]; exact hl, fun ys p s => by rw [ssort_eq p s, List.map_map]; exact q⟩⟩
theorem v_sortS {θ : Th} {k : AK} {d : D} {ks : List (List Nat)} (h : asL θ d = some (ks.map fun l => .str (S l))) (hl : ks.length < 64) (q : k (.lst ((ssort ks).map fun l => .str (S l))) θ) : fSortA [d] θ k :=
  .inl (.inr ⟨_, ks.map S, rfl, by rw [h, List.map_map]; rfl, by rw [List.length_map]; exact hl, fun ys p s => by rw [ssort_eq p s, List.map_map]; exact q⟩)
/-! ### lists of keys -/
def findT (key mark : List Nat) (n : Nat) : Int := Txt.find3 (S key) (S mark) (n : Nat)
def entL (key prefix_ mark : List Nat) : List Nat := if mark = [] then key else if findT key mark prefix_.length < 0 then key else key.take (findT key mark prefix_.length + 1).toNat
def foundL (keys : List (List Nat)) (prefix_ mark : List Nat) : List (List Nat × Bool) := keys.foldl (fun m k => if Txt.startswith (S k) (S prefix_) then putG m (entL k prefix_ mark) true else m) []
def pageL (keys : List (List Nat)) (prefix_ mark after : List Nat) : List (List Nat) := (ssort ((foundL keys prefix_ mark).map (·.1))).filter fun e => decide (after < e)
def pageD (keys : List (List Nat)) (prefix_ mark after : List Nat) (most : Nat) : D := .tup [.tup (((pageL keys prefix_ mark after).take most).map fun l => .str (S l)), .bl (decide (most < (pageL keys prefix_ mark after).length))]
theorem foundL_snoc (keys : List (List Nat)) (k p m : List Nat) : foundL (keys ++ [k]) p m = if Txt.startswith (S k) (S p) then putG (foundL keys p m) (entL k p m) true else foundL keys p m := by unfold foundL; rw [List.foldl_append]; rfl
theorem foundL_len (p m : List Nat) : ∀ keys : List (List Nat), (foundL keys p m).length ≤ keys.length := by
  intro keys
  have go : ∀ (keys : List (List Nat)) (acc : List (List Nat × Bool)), (keys.foldl (fun mm k => if Txt.startswith (S k) (S p) then putG mm (entL k p m) true else mm) acc).length ≤ acc.length + keys.length := by
    intro keys
    induction keys with
    | nil => intro acc; exact Nat.le_refl _
    | cons k keys ih =>
      intro acc
      refine Nat.le_trans (ih _) ?_
      have := putG_le acc (entL k p m) true
      show (if Txt.startswith (S k) (S p) then putG acc (entL k p m) true else acc).length + keys.length ≤ acc.length + (keys.length + 1)
      split <;> omega
  have := go keys []
  simpa [foundL] using this
def Sh.keysThere (s : Sh) : List (List Nat) := (ssort (s.rows.map (·.1))).filter s.isThere
end AB
/-! t[::-1] of a tuple -/
namespace HT
open PySem PySem.Spec PyProof.Rows
section
variable {prog : Program} {w : World} {A : Around} {E : Value → Shared → Prop} {s : Shared}
theorem _root_.PySem.W.fm_congr' {α β : Type} {f g : α → Option β} : ∀ {xs : List α}, (∀ x ∈ xs, f x = g x) → xs.filterMap f = xs.filterMap g
  | [], _ => rfl
  | x :: xs, h => by rw [List.filterMap_cons, List.filterMap_cons, h x List.mem_cons_self, PySem.W.fm_congr' fun y hy => h y (List.mem_cons_of_mem _ hy)]
theorem adjust_rev (n : Nat) : Builtin.Slice.sliceAdjust none none (-1) (n : Int) = ((n : Int) - 1, -1) := by
  unfold Builtin.Slice.sliceAdjust
  simp
theorem places_rev (n : Nat) : Builtin.Slice.slicePlaces ((n : Int) - 1) (-1) (-1) = n := by
  unfold Builtin.Slice.slicePlaces
  have h1 : ¬ ((-1 : Int) > 0) := by omega
  rw [if_neg h1, show (-(-1) : Int) = 1 by decide, Int.ediv_one]
  split <;> omega
theorem sliceApplied_rev {sl : Addr} {vs : Value} {n : Nat} {Q : Int × Int × Nat → Shared → Prop} (hs : s.heap.IsSliceOf sl .none .none vs) (ps : IsPart vs (some (-1)))
    (h : Q ((n : Int) - 1, -1, n) s) : wpAny (model prog w) A (Builtin.Slice.sliceApplied (.ref sl) (pure (n : Int))) Q E s := by
  obtain ⟨os, hos, hcs, hds⟩ := id hs
  unfold Builtin.Slice.sliceApplied Builtin.Slice.sliceFields
  refine wpAny_bind (wpAny_bind (wpAny_field hos hds (x := .none) rfl (wpAny_bind (wpAny_field hos hds (x := .none) rfl (wpAny_bind (wpAny_field hos hds (x := vs) rfl (wpAny_pure ?_)))))))
  refine wpAny_bind (slicePart_ ps ?_)
  show wpAny _ _ (if ((-1 : Int) == 0) = true then _ else _) _ _ s
  rw [if_neg (by decide)]
  refine wpAny_bind (slicePart_none (wpAny_bind (slicePart_none (wpAny_bind (wpAny_pure ?_)))))
  show wpAny _ _ (match Builtin.Slice.sliceAdjust none none (-1) (n : Int) with | (lo, hi) => pure (lo, (-1 : Int), Builtin.Slice.slicePlaces lo hi (-1))) _ _ s
  rw [adjust_rev]
  show wpAny _ _ (pure ((n : Int) - 1, (-1 : Int), Builtin.Slice.slicePlaces ((n : Int) - 1) (-1) (-1))) _ _ s
  rw [places_rev]
  exact wpAny_pure h
theorem pick_rev (xs : Array Value) : ((List.range xs.size).filterMap fun (m : Nat) => xs[(((xs.size : Nat) : Int) - 1 + (m : Int) * (-1)).toNat]?).toArray = xs.toList.reverse.toArray := by
  have e : ∀ m ∈ List.range xs.size, xs[(((xs.size : Nat) : Int) - 1 + (m : Int) * (-1)).toNat]? = xs[xs.size - 1 - m]? := fun m hm => by
    have h := List.mem_range.mp hm
    have : (((xs.size : Nat) : Int) - 1 + (m : Int) * (-1)).toNat = xs.size - 1 - m := by omega
    rw [this]
  rw [PySem.W.fm_congr' e]
  have := List.filterMap_map (f := fun k => xs.size - 1 - k) (g := fun i => xs[i]?) (l := List.range xs.size)
  show (List.filterMap ((fun i => xs[i]?) ∘ fun k => xs.size - 1 - k) (List.range xs.size)).toArray = _
  rw [← this, PySem.W.krv_range, List.filterMap_reverse, PySem.W.krv_all]
theorem getItem_tuple_rev {t sl : Addr} {items : Array Value} {vs : Value} {Q : Value → Shared → Prop} (ht : IsTup s.heap t items) (hs : s.heap.IsSliceOf sl .none .none vs) (ps : IsPart vs (some (-1)))
    (h : Q (.ref s.heap.objs.size) { s with heap := s.heap.push { cls := .type "tuple", data := .seq items.toList.reverse.toArray } })
    (hsz : items.size ≤ sizeLine) : wpAny (model prog w) A (getItem (.ref t) (.ref sl)) Q E s := by
  have htake : sizeOk (.seq items.toList.reverse.toArray) := by
    show items.toList.reverse.toArray.size ≤ sizeLine
    rw [List.size_toArray, List.length_reverse, Array.length_toList]
    exact hsz
  obtain ⟨os, hos, hcs, hds⟩ := id hs
  have hTs : s.TypeIs (.ref sl) "slice" := ⟨os, hos, hcs⟩
  unfold getItem
  try with_reducible refine wpAny_holding ?_
  first | refine wpAny_bind (wpAny_pure ?_) | skip
  refine wpAny_bind (wpAny_sequenceKey ht.typeIs (by decide) ?_)
  refine wpAny_bind (wpAny_callSpecial?_slot (name := Str.ofString "__getitem__") ht.typeIs PyProof.Rows.slot_tuple_getitem
    (wpAny_call_entry PyProof.Rows.slot_tuple_getitem ht.typeIs entry_tuple_getitem ?_ (args_tuple_getitem _ _)))
  show wpAny _ _ (Builtin.Tuple.tupleItemsOf (.ref t) >>= _) _ _ s
  refine wpAny_bind (tupleItemsOf_ ht ?_)
  refine wpAny_bind (wpAny_typeOf hTs ?_)
  rw [if_pos (by decide)]
  refine wpAny_bind (sliceApplied_rev hs ps ?_)
  have hno : ¬ ((((items.size : Nat) : Int) - 1 == 0 && (-1 : Int) == 1 && items.size == items.size) = true) := by
    intro q
    rw [Bool.and_eq_true, Bool.and_eq_true] at q
    exact absurd q.1.2 (by decide)
  show wpAny _ _ (if (((items.size : Nat) : Int) - 1 == 0 && (-1 : Int) == 1 && items.size == items.size) = true then _ else _) _ _ s
  rw [if_neg hno, pick_rev]
  first
    | exact wpAny_bind (m := Builtin.Tuple.tupleExact _) (wpAny_newObj_type (wpAny_pure ⟨_, rfl, wpAny_pure h⟩) htake)
    | exact wpAny_bind (m := Builtin.Tuple.tupleExact _) (wpAny_newObj_type (wpAny_bind (wpAny_pure (wpAny_pure ⟨_, rfl, wpAny_pure h⟩))) htake)
    | exact wpAny_bind (wpAny_bind (m := Builtin.Tuple.tupleExact _) (wpAny_newObj_type (wpAny_pure (wpAny_pure ⟨_, rfl, wpAny_pure h⟩)) htake))
    | exact wpAny_bind (wpAny_bind (m := Builtin.Tuple.tupleExact _) (wpAny_newObj_type (wpAny_pure ⟨_, rfl, wpAny_pure h⟩) htake))
end
end HT
namespace L2
open PySem PySem.Spec PyProof.Rows
variable {X : Cx}
def tRevT (K : PySem.W.Frag) (te : TE) : TE := fun σ H Q => te σ H fun x H1 => ∃ a xs, x = .ref a ∧ SqT K H1 a xs ∧ ∀ p, H1 p = none → Q (.ref p) (upd H1 p (.tup xs.reverse))
theorem pe_revT {e : Expr} {te : TE} {k : Nat} {p1 p2 p3 pos : Pos} (he : PE X e te) : PE X (.Subscript e (.Slice none none (some (.UnaryOp .USub (.Constant (.int 1) k p1) p2)) p3) pos) (tRevT X.K te) := by
  refine ⟨fun pins s σ H Q I h => ?_⟩
  refine Subscript_ (thn (he.run pins s σ H _ I h) fun v s1 ⟨x, H1, I1, r1, q1⟩ => ?_)
  obtain ⟨a, xs, ex, hx, q⟩ := q1
  subst ex
  cases r1
  have hst : PO X (some (.UnaryOp .USub (.Constant (.int 1) k p1) p2)) (tPart (tUn (rU fun i => .int (-i)) (tC (.int 1)))) := po_some (pe_un un_neg pe_int)
  refine wpAny_Slice (thn (po_none.run pins s1 σ H1 (fun o H2 => o = none ∧ H2 = H1) I1 ⟨rfl, rfl⟩) fun vl s2 ⟨l, H2, I2, pl, el, e2⟩ => ?_)
  subst el e2
  refine thn (po_none.run pins s2 σ H2 (fun o H3 => o = none ∧ H3 = H2) I2 ⟨rfl, rfl⟩) fun vu s3 ⟨u, H3, I3, pu, eu, e3⟩ => ?_
  subst eu e3
  refine thn (hst.run pins s3 σ H3 (fun o H4 => o = some (-1) ∧ H4 = H3) I3 ⟨1, rfl, -1, rfl, rfl, rfl⟩) fun vs s4 ⟨o, H4, I4, ps, eo, e4⟩ => ?_
  subst eo e4
  have I5 : Inv X pins σ H4 { s4 with heap := s4.heap.push { cls := .type "slice", data := .fields #[vl, vu, vs] } } := I4.kept (t' := s4.toks) fun b ob q => Heap.get?_push_of_some _ q
  obtain ⟨its, r, ht, hz⟩ := I5.tuple hx
  have hlen := r.length
  cases pl
  cases pu
  show wpAny (model X.prog X.w) X.A (subscriptTail e (.Slice none none (some (.UnaryOp .USub (.Constant (.int 1) k p1) p2)) p3) (.ref a) (.ref s4.heap.objs.size)) (EP X pins σ Q) X.xe { s4 with heap := s4.heap.push { cls := .type "slice", data := .fields #[.none, .none, vs] } }
  refine tail_any (ops := [.ref a, .ref s4.heap.objs.size]) ht.typeIs (PyProof.Rows.slot_tuple_getitem.lookup) ?_ (by with_unfolding_all rfl)
  refine HT.getItem_tuple_rev ht (Heap.IsSliceOf.new _ .none .none vs) ps ?_ (by rw [List.size_toArray]; omega)
  refine ⟨.ref _, _, I5.laid (t' := s4.toks) (o := .tup xs.reverse) (fun b ob q => Heap.get?_push_of_some _ q) (Nat.le_refl _) ?_, rfl, q _ (I5.hok.fresh (Nat.le_refl _))⟩
  exact ⟨by rw [List.length_reverse]; exact hz, _, r.reverse, IsTup.new _ _⟩
end L2
namespace AB
open PySem PySem.Spec PyProof.Rows L2 TL
@[reducible] def aRevT (re : AR) : AR := fun Γ θ k kx => re Γ θ (fun x θ1 => ∃ xs, x = .tup xs ∧ k (.tup xs.reverse) θ1) kx
theorem w_revT {re : AR} {Γ : G} {θ : Th} {k : AK} {kx : AX} (q : re Γ θ (fun x θ1 => ∃ xs, x = .tup xs ∧ k (.tup xs.reverse) θ1) kx) : aRevT re Γ θ k kx := q
theorem w_revTv {xs : List D} {θ : Th} {k : AK} (q : k (.tup xs.reverse) θ) : ∃ ys, D.tup xs = .tup ys ∧ k (.tup ys.reverse) θ := ⟨xs, rfl, q⟩
section
variable {X : Cx} {W : WX} {a : Expr} {ra : AR} {pos : Pos}
theorem xe_revT {k0 : Nat} {p1 p2 p3 : Pos} (ha : XE' X W a ra) : XE' X W (.Subscript a (.Slice none none (some (.UnaryOp .USub (.Constant (.int 1) k0 p1) p2)) p3) pos) (aRevT ra) := by
  refine pe_imp (pe_frz (pe_revT ha)) ?_
  rintro σ H Q ⟨α, θ, Γ, k, kx, S, G, q, lk, lx⟩
  refine ⟨α, θ, Γ, _, kx, S, G, q, fun x θ1 α1 H1 v n1 S1 r1 ⟨xs, e, q1⟩ => ?_, lx⟩
  subst e
  unfold Rep at r1
  obtain ⟨a', vs, rfl, h1, h2⟩ := r1
  exact ⟨a', vs, rfl, SqT.of h1, fun p hp => .inl (tup_new S1 hp h2.reverse q1 (lk.on n1))⟩
end
/-! parts that are well -/
def PartOk (p : List (Int × List Nat)) (b : Nat) : Prop := p.length ≤ b ∧ (p.map (·.1)).Nodup ∧ ∀ y ∈ p, y.2.length ≤ 99 ∧ SOk y.2
theorem PartOk.put {p : List (Int × List Nat)} {b : Nat} (h : PartOk p b) {m : Int} {l : List Nat} (h1 : l.length ≤ 99) (h2 : SOk l) : PartOk (putG p m l) (b + 1) :=
  ⟨Nat.le_trans (putG_le _ _ _) (Nat.succ_le_succ h.1), nodup_putG h.2.1, fun y hy => by
    rcases mem_putG hy with hy | rfl
    · exact h.2.2 y hy
    · exact ⟨h1, h2⟩⟩
theorem parts_le : ∀ {p : List (Int × List Nat)}, (∀ y ∈ p, y.2.length ≤ 99 ∧ SOk y.2) → 0 ≤ partsSize p ∧ partsSize p ≤ 99 * p.length
  | [], _ => by simp [partsSize]
  | x :: p, h => by
    have ih := parts_le (p := p) fun y hy => h y (List.mem_cons_of_mem _ hy)
    have hx := (h x List.mem_cons_self).1
    unfold partsSize at ih ⊢
    rw [List.map_cons, List.sum_cons, List.length_cons]
    omega
theorem rising_of {rows : List (Int × List Nat)} (h : (rows.map (·.1)).Pairwise (· < ·)) : rising rows = true := by
  unfold rising
  refine List.all_eq_true.mpr fun j hj => ?_
  have hj' := List.mem_range.mp hj
  have h1 : j < rows.length := by omega
  have h2 : j + 1 < rows.length := by omega
  refine decide_eq_true ?_
  have := List.pairwise_iff_getElem.mp h j (j + 1) (by rw [List.length_map]; exact h1) (by rw [List.length_map]; exact h2) (Nat.lt_succ_self j)
  rw [List.getElem_map, List.getElem_map] at this
  rw [List.getD_eq_getElem?_getD, List.getD_eq_getElem?_getD, List.getElem?_eq_getElem h1, List.getElem?_eq_getElem h2]
  exact this
end AB
namespace AB
open PySem PySem.Spec PyProof.Rows L2 TL
/-! ### sweeps by rules -/
structure Rl where
  what : List Nat
  pre : List Nat
  days : Int
@[reducible] def Rl.d (r : Rl) : D := .tup [.str (S r.what), .str (S r.pre), .int r.days]
def isDue (rs : List Rl) (what key : List Nat) (ago : Int) : Bool := rs.any fun r => decide (r.what = what) && (Txt.startswith (S key) (S r.pre) && decide (r.days ≤ ago))
def wParts : List Nat := [112, 97, 114, 116, 115]
def wWhole : List Nat := [119, 104, 111, 108, 101]
def wOld : List Nat := [111, 108, 100]
def wMarks : List Nat := [109, 97, 114, 107, 115]
/-- the uploads that go -/
def Sto.oldUps (s : Sto) (rs : List Rl) : List Int := (isort (s.up.op.map (·.1))).filter fun i => isDue rs wParts ((valG s.up.op i).getD ([], 0)).1 (s.today - ((valG s.up.op i).getD ([], 0)).2)
def Sto.oldOf (s : Sto) (rs : List Rl) (is : List Int) : List Int := is.filter fun i => isDue rs wParts ((valG s.up.op i).getD ([], 0)).1 (s.today - ((valG s.up.op i).getD ([], 0)).2)
theorem Sto.oldUps_eq (s : Sto) (rs : List Rl) : s.oldUps rs = s.oldOf rs (isort (s.up.op.map (·.1))) := rfl
def Up.closeAll (u : Up) (is : List Int) : Up := is.foldl (fun u i => u.close i) u
theorem Up.closeAll_snoc (u : Up) (is : List Int) (i : Int) : u.closeAll (is ++ [i]) = (u.closeAll is).close i := by unfold Up.closeAll; rw [List.foldl_append]; rfl
theorem Up.closeAll_op (u : Up) : ∀ (is : List Int) (i : Int), i ∉ is → valG (u.closeAll is).op i = valG u.op i := by
  intro is
  induction is generalizing u with
  | nil => intro i _; rfl
  | cons a is ih =>
    intro i h
    have h1 : i ≠ a := fun z => h (z ▸ List.mem_cons_self)
    show valG ((u.close a).closeAll is).op i = _
    rw [ih (u.close a) i fun z => h (List.mem_cons_of_mem _ z)]
    exact valG_drop_other _ h1
theorem Up.Fine.closeAll {u : Up} {ix : Int → Nat} {post : Th} {b : Nat} (F : u.Fine ix post b) (is : List Int) : (u.closeAll is).Fine ix post b := by
  induction is generalizing u with
  | nil => exact F
  | cons a is ih => exact ih (F.close a)
section
variable {C CS CU : Addr} {n : Nat} {ix : Int → Nat} {s s' : Sto} {pre post : Th} {xs ys : List D}
theorem sto_len8 : (sto C CS CU n ix s).length = (sto C CS CU n ix s').length := rfl
theorem found_len : (pre ++ (sto C CS CU n ix s ++ post)).length = (pre ++ (sto C CS CU n ix s' ++ post)).length := by
  rw [List.length_append, List.length_append, List.length_append, List.length_append, sto_len8 (s' := s')]
theorem found_at : (pre ++ (sto C CS CU n ix s' ++ (post ++ [Ent.lst xs])))[(pre ++ (sto C CS CU n ix s ++ post)).length]? = some (.lst xs) := by
  rw [found_len (s' := s'), ← sto_snoc]; exact at_end
theorem found_set : (pre ++ (sto C CS CU n ix s' ++ (post ++ [Ent.lst xs]))).set (pre ++ (sto C CS CU n ix s ++ post)).length (.lst ys) = pre ++ (sto C CS CU n ix s' ++ (post ++ [Ent.lst ys])) := by
  rw [found_len (s' := s'), ← sto_snoc, ← sto_snoc]; exact set_end
end
def canD (i : Int) : D := .tup [.str (S [99, 97, 110, 99, 101, 108]), .int i]
/-- the data that gets marks: store and what was told -/
def Sto.sweepWhole (s : Sto) (rs : List Rl) (keys : List (List Nat)) : Sto × List (List Nat × Int) := keys.foldl (fun a key =>
  if isDue rs wWhole key (a.1.today - (((a.1.sh.at key).getLast?.map (·.day)).getD 0)) then (a.1.come key none, a.2 ++ [(key, a.1.last + 1)]) else a) (s, [])
def goneD (x : List Nat × Int) : D := .tup [.str (S [103, 111, 110, 101]), .str (S x.1), .int x.2]
theorem sw_snoc (s : Sto) (rs : List Rl) (keys : List (List Nat)) (key : List Nat) : s.sweepWhole rs (keys ++ [key]) =
    (if isDue rs wWhole key ((s.sweepWhole rs keys).1.today - ((((s.sweepWhole rs keys).1.sh.at key).getLast?.map (·.day)).getD 0)) then ((s.sweepWhole rs keys).1.come key none, (s.sweepWhole rs keys).2 ++ [(key, (s.sweepWhole rs keys).1.last + 1)]) else s.sweepWhole rs keys) := by
  unfold Sto.sweepWhole; rw [List.foldl_append]; rfl
theorem snoc_ind {α : Type} {P : List α → Prop} (h0 : P []) (h1 : ∀ xs x, P xs → P (xs ++ [x])) (xs : List α) : P xs := by
  rw [← List.reverse_reverse xs]
  generalize xs.reverse = ys
  induction ys with
  | nil => exact h0
  | cons x ys ih => rw [List.reverse_cons]; exact h1 _ _ ih
theorem sw_up (s : Sto) (rs : List Rl) (keys : List (List Nat)) : (s.sweepWhole rs keys).1.today = s.today ∧ (s.sweepWhole rs keys).1.up = s.up ∧ (s.sweepWhole rs keys).1.most = s.most := by
  refine snoc_ind (P := fun keys => (s.sweepWhole rs keys).1.today = s.today ∧ (s.sweepWhole rs keys).1.up = s.up ∧ (s.sweepWhole rs keys).1.most = s.most) ⟨rfl, rfl, rfl⟩ (fun keys key ih => ?_) keys
  rw [sw_snoc]
  split
  · exact ih
  · exact ih
theorem sw_at (s : Sto) (rs : List Rl) (keys : List (List Nat)) (k : List Nat) : k ∉ keys → (s.sweepWhole rs keys).1.sh.at k = s.sh.at k := by
  refine snoc_ind (P := fun keys => k ∉ keys → (s.sweepWhole rs keys).1.sh.at k = s.sh.at k) (fun _ => rfl) (fun keys key ih h => ?_) keys
  have h1 : k ∉ keys := fun z => h (List.mem_append_left _ z)
  have h2 : k ≠ key := fun z => h (List.mem_append_right _ (z ▸ List.mem_singleton.mpr rfl))
  rw [sw_snoc]
  split
  · exact (Sh.at_put_other _ _ h2).trans (ih h1)
  · exact ih h1
theorem sw_fine {s : Sto} {ix : Int → Nat} {post : Th} {b : Nat} (F : s.Fine ix post b) (rs : List Rl) (keys : List (List Nat)) : (s.sweepWhole rs keys).1.Fine ix post (b + keys.length) := by
  refine snoc_ind (P := fun keys => (s.sweepWhole rs keys).1.Fine ix post (b + keys.length)) F (fun keys key ih => ?_) keys
  rw [sw_snoc, List.length_append]
  split
  · exact ih.come (fun _ h => nomatch h)
  · exact ih.mono (Nat.le_succ _)
theorem sw_len (s : Sto) (rs : List Rl) (keys : List (List Nat)) : (s.sweepWhole rs keys).2.length ≤ keys.length := by
  refine snoc_ind (P := fun keys => (s.sweepWhole rs keys).2.length ≤ keys.length) (Nat.zero_le _) (fun keys key ih => ?_) keys
  rw [sw_snoc, List.length_append]
  split
  · show ((s.sweepWhole rs keys).2 ++ [_]).length ≤ _
    rw [List.length_append]
    exact Nat.succ_le_succ ih
  · exact Nat.le_succ_of_le ih
/-- the versions of a key that are to go, rising -/
def Sto.oldRows (s : Sto) (rs : List Rl) (key : List Nat) : List Int :=
  isort ((((s.sh.at key).reverse.zip (s.sh.at key).reverse.tail).filter fun p => decide (s.sh.held key p.2.v ≤ s.today) && isDue rs wOld key (s.today - p.1.day)).map (·.2.v))
/-- the mark of a key, if it is its only version -/
def Sto.loneMarks (s : Sto) (rs : List Rl) (key : List Nat) : List Int := match s.sh.at key with
  | [r] => if r.data = none ∧ s.sh.held key r.v ≤ s.today ∧ isDue rs wMarks key (s.today - r.day) = true then [r.v] else []
  | _ => []
def dropD (key : List Nat) (v : Int) : D := .tup [.str (S [100, 114, 111, 112]), .str (S key), .int v]
end AB
namespace AB
open PySem PySem.Spec PyProof.Rows L2 TL
/-! ### versions dropped -/
def Sto.dropP (s : Sto) (p : List Nat × Int) : Sto := { s with sh := s.sh.leave p.1 p.2, log := s.log ++ [.drop p.1 p.2] }
def Sto.dropAll (s : Sto) (ps : List (List Nat × Int)) : Sto := ps.foldl Sto.dropP s
theorem Sto.dropAll_snoc (s : Sto) (ps : List (List Nat × Int)) (p : List Nat × Int) : s.dropAll (ps ++ [p]) = (s.dropAll ps).dropP p := by unfold Sto.dropAll; rw [List.foldl_append]; rfl
def Sto.may (s : Sto) (p : List Nat × Int) : Prop := (s.sh.row? p.1 p.2).isSome = true ∧ s.sh.held p.1 p.2 ≤ s.today
theorem Sh.row_leave_other (s : Sh) {p q : List Nat × Int} (h : q ≠ p) : (s.leave p.1 p.2).row? q.1 q.2 = s.row? q.1 q.2 := by
  unfold Sh.row?
  by_cases e : q.1 = p.1
  · have hv : q.2 ≠ p.2 := fun z => h (Prod.ext e z)
    rw [e, Sh.at_leave_same, List.find?_filter]
    congr 1
    funext r
    by_cases hr : r.v = q.2
    · have : r.v ≠ p.2 := fun z => hv (hr.symm.trans z)
      simp [hr, hv]
    · simp [hr]
  · rw [Sh.at_leave_other _ _ e]
theorem Sh.held_leave_other (s : Sh) {p q : List Nat × Int} (h : q ≠ p) : (s.leave p.1 p.2).held q.1 q.2 = s.held q.1 q.2 := by
  show (valG (dropG s.til (p.1, p.2)) (q.1, q.2)).getD 0 = _
  rw [valG_drop_other _ (fun z => h z)]
  rfl
theorem Sto.may_drop {s : Sto} {p q : List Nat × Int} (h : s.may q) (hne : q ≠ p) : (s.dropP p).may q := by
  refine ⟨?_, ?_⟩
  · show ((s.sh.leave p.1 p.2).row? q.1 q.2).isSome = true
    rw [Sh.row_leave_other _ hne]; exact h.1
  · show (s.sh.leave p.1 p.2).held q.1 q.2 ≤ s.today
    rw [Sh.held_leave_other _ hne]; exact h.2
theorem Sto.dropV_may {s : Sto} {p : List Nat × Int} (h : s.may p) : s.dropV p.1 p.2 = .ok (s.dropP p) := by
  obtain ⟨r, hr⟩ := Option.isSome_iff_exists.mp h.1
  exact dropV_ok hr h.2
theorem Sto.dropAll_may : ∀ {ps : List (List Nat × Int)} {s : Sto} {p : List Nat × Int}, p ∉ ps → s.may p → (s.dropAll ps).may p
  | [], _, _, _, h => h
  | a :: ps, s, p, hn, h => Sto.dropAll_may (ps := ps) (s := s.dropP a) (fun z => hn (List.mem_cons_of_mem _ z)) (Sto.may_drop h fun z => hn (z ▸ List.mem_cons_self))
theorem Sto.Fine.dropAll {s : Sto} {ix : Int → Nat} {post : Th} {b : Nat} (F : s.Fine ix post b) (ps : List (List Nat × Int)) : (s.dropAll ps).Fine ix post (b + ps.length) := by
  refine snoc_ind (P := fun ps => (s.dropAll ps).Fine ix post (b + ps.length)) F (fun ps p ih => ?_) ps
  rw [Sto.dropAll_snoc, List.length_append]
  exact ih.leave
theorem Sto.dropAll_up (s : Sto) (ps : List (List Nat × Int)) : (s.dropAll ps).today = s.today ∧ (s.dropAll ps).up = s.up ∧ (s.dropAll ps).most = s.most ∧ (s.dropAll ps).last = s.last := by
  refine snoc_ind (P := fun ps => (s.dropAll ps).today = s.today ∧ (s.dropAll ps).up = s.up ∧ (s.dropAll ps).most = s.most ∧ (s.dropAll ps).last = s.last) ⟨rfl, rfl, rfl, rfl⟩ (fun ps p ih => ?_) ps
  rw [Sto.dropAll_snoc]
  exact ih
def dropPD (p : List Nat × Int) : D := dropD p.1 p.2
def flatP (ps : List (List Nat × List Int)) : List (List Nat × Int) := ps.flatMap fun p => p.2.map fun v => (p.1, v)
theorem flatP_snoc (ps : List (List Nat × List Int)) (p : List Nat × List Int) : flatP (ps ++ [p]) = flatP ps ++ p.2.map fun v => (p.1, v) := by unfold flatP; rw [List.flatMap_append]; simp
theorem flatP_split {ps : List (List Nat × List Int)} {i j : Nat} {p : List Nat × List Int} {v : Int} (hp : ps[j]? = some p) (hv : p.2[i]? = some v) : ∃ R, flatP ps = (flatP (ps.take j) ++ (p.2.take i).map fun v => (p.1, v)) ++ (p.1, v) :: R := by
  have e1 : ps = ps.take j ++ p :: ps.drop (j + 1) := by
    have hi : j < ps.length := (List.getElem?_eq_some_iff.mp hp).1
    have hr : ps[j] = p := (List.getElem?_eq_some_iff.mp hp).2
    rw [← hr, ← List.drop_eq_getElem_cons hi, List.take_append_drop]
  have e2 : p.2 = p.2.take i ++ v :: p.2.drop (i + 1) := by
    have hi : i < p.2.length := (List.getElem?_eq_some_iff.mp hv).1
    have hr : p.2[i] = v := (List.getElem?_eq_some_iff.mp hv).2
    rw [← hr, ← List.drop_eq_getElem_cons hi, List.take_append_drop]
  refine ⟨(p.2.drop (i + 1)).map (fun v => (p.1, v)) ++ flatP (ps.drop (j + 1)), ?_⟩
  have e3 : flatP ps = flatP (ps.take j) ++ (p.2.map (fun v => (p.1, v)) ++ flatP (ps.drop (j + 1))) := by
    conv => lhs; rw [e1]
    unfold flatP
    rw [List.flatMap_append, List.flatMap_cons]
  rw [e3]
  conv => lhs; rw [e2]
  rw [List.map_append, List.map_cons, List.append_assoc, List.append_assoc, List.cons_append]
def pairsD (ps : List (List Nat × List Int)) : List D := ps.map fun p => .tup [.str (S p.1), .lst (p.2.map D.int)]
/-! ### numbers of versions -/
/-- versions of a key are numbered, none doubled, none above the last -/
def Sto.Nm (s : Sto) : Prop := ∀ key, ((s.sh.at key).map (·.v)).Nodup ∧ ∀ r ∈ s.sh.at key, r.v ≤ s.last
theorem Sto.Nm.come {s : Sto} (N : s.Nm) (key : List Nat) (x : Option (List Nat × List Nat)) : (s.come key x).Nm := fun k => by
  by_cases e : k = key
  · subst e
    show (((s.sh.put k ⟨s.last + 1, s.today, x⟩).at k).map (·.v)).Nodup ∧ ∀ r ∈ (s.sh.put k ⟨s.last + 1, s.today, x⟩).at k, r.v ≤ s.last + 1
    rw [Sh.at_put_same, List.map_append, List.nodup_append]
    refine ⟨⟨(N k).1, by simp, fun a ha b hb => ?_⟩, fun r hr => ?_⟩
    · obtain ⟨r, hr, rfl⟩ := List.mem_map.mp ha
      have := (N k).2 r hr
      have hb' : b = s.last + 1 := by simpa using hb
      omega
    · rcases List.mem_append.mp hr with hr | hr
      · have := (N k).2 r hr; omega
      · have : r = ⟨s.last + 1, s.today, x⟩ := by simpa using hr
        rw [this]; exact Int.le_refl _
  · show (((s.sh.put key ⟨s.last + 1, s.today, x⟩).at k).map (·.v)).Nodup ∧ ∀ r ∈ (s.sh.put key ⟨s.last + 1, s.today, x⟩).at k, r.v ≤ s.last + 1
    rw [Sh.at_put_other _ _ e]
    exact ⟨(N k).1, fun r hr => by have := (N k).2 r hr; omega⟩
theorem Sto.Nm.drop {s : Sto} (N : s.Nm) (p : List Nat × Int) : (s.dropP p).Nm := fun k => by
  by_cases e : k = p.1
  · subst e
    show (((s.sh.leave p.1 p.2).at p.1).map (·.v)).Nodup ∧ ∀ r ∈ (s.sh.leave p.1 p.2).at p.1, r.v ≤ s.last
    rw [Sh.at_leave_same]
    exact ⟨List.Nodup.sublist (List.Sublist.map _ List.filter_sublist) (N p.1).1, fun r hr => (N p.1).2 r (List.mem_filter.mp hr).1⟩
  · show (((s.sh.leave p.1 p.2).at k).map (·.v)).Nodup ∧ ∀ r ∈ (s.sh.leave p.1 p.2).at k, r.v ≤ s.last
    rw [Sh.at_leave_other _ _ e]
    exact N k
theorem Sto.Nm.dropAll {s : Sto} (N : s.Nm) (ps : List (List Nat × Int)) : (s.dropAll ps).Nm := by
  refine snoc_ind (P := fun ps => (s.dropAll ps).Nm) N (fun ps p ih => ?_) ps
  rw [Sto.dropAll_snoc]
  exact ih.drop p
theorem Sto.Nm.sweepWhole {s : Sto} (N : s.Nm) (rs : List Rl) (keys : List (List Nat)) : (s.sweepWhole rs keys).1.Nm := by
  refine snoc_ind (P := fun keys => (s.sweepWhole rs keys).1.Nm) N (fun keys key ih => ?_) keys
  rw [sw_snoc]
  split
  · exact ih.come key none
  · exact ih
theorem sw_at_len (s : Sto) (rs : List Rl) (k : List Nat) (keys : List (List Nat)) : ((s.sweepWhole rs keys).1.sh.at k).length ≤ (s.sh.at k).length + keys.length := by
  refine snoc_ind (P := fun keys => ((s.sweepWhole rs keys).1.sh.at k).length ≤ (s.sh.at k).length + keys.length) (Nat.le_refl _) (fun keys key ih => ?_) keys
  rw [sw_snoc, List.length_append, List.length_singleton]
  split
  · by_cases e : k = key
    · subst e
      show (((s.sweepWhole rs keys).1.sh.put k _).at k).length ≤ _
      rw [Sh.at_put_same, List.length_append, List.length_singleton]
      omega
    · show (((s.sweepWhole rs keys).1.sh.put key _).at k).length ≤ _
      rw [Sh.at_put_other _ _ e]
      omega
  · omega
theorem there_key {s : Sh} {k : List Nat} (h : s.isThere k = true) : k ∈ s.rows.map (·.1) := by
  unfold Sh.isThere Sh.at at h
  cases e : valG s.rows k with
  | none => rw [e] at h; cases h
  | some rs => exact List.mem_map.mpr ⟨_, valG_mem e, rfl⟩
theorem at_key {s : Sh} {k : List Nat} {r : Rw} (h : r ∈ s.at k) : k ∈ s.rows.map (·.1) := by
  unfold Sh.at at h
  cases e : valG s.rows k with
  | none => rw [e] at h; cases h
  | some rs => exact List.mem_map.mpr ⟨_, valG_mem e, rfl⟩
theorem keys_put {s : Sh} {k : List Nat} (h : k ∈ s.rows.map (·.1)) (r : Rw) : (s.put k r).rows.map (·.1) = s.rows.map (·.1) := by
  refine keys_putG ?_ _
  cases e : valG s.rows k with
  | none => exact absurd h (valG_none.mp e)
  | some v => rfl
theorem keys_leave {s : Sh} {k : List Nat} (h : k ∈ s.rows.map (·.1)) (v : Int) : (s.leave k v).rows.map (·.1) = s.rows.map (·.1) := by
  refine keys_putG ?_ _
  cases e : valG s.rows k with
  | none => exact absurd h (valG_none.mp e)
  | some v => rfl
theorem sw_keys (s : Sto) (rs : List Rl) (keys : List (List Nat)) : (∀ k ∈ keys, k ∈ s.sh.rows.map (·.1)) → (s.sweepWhole rs keys).1.sh.rows.map (·.1) = s.sh.rows.map (·.1) := by
  refine snoc_ind (P := fun keys => (∀ k ∈ keys, k ∈ s.sh.rows.map (·.1)) → (s.sweepWhole rs keys).1.sh.rows.map (·.1) = s.sh.rows.map (·.1)) (fun _ => rfl) (fun keys key ih h => ?_) keys
  have ih := ih fun k hk => h k (List.mem_append_left _ hk)
  rw [sw_snoc]
  split
  · refine (keys_put ?_ _).trans ih
    rw [ih]; exact h key (List.mem_append_right _ (List.mem_singleton.mpr rfl))
  · exact ih
theorem dropAll_keys (s : Sto) (ps : List (List Nat × Int)) : (∀ p ∈ ps, p.1 ∈ s.sh.rows.map (·.1)) → (s.dropAll ps).sh.rows.map (·.1) = s.sh.rows.map (·.1) := by
  refine snoc_ind (P := fun ps => (∀ p ∈ ps, p.1 ∈ s.sh.rows.map (·.1)) → (s.dropAll ps).sh.rows.map (·.1) = s.sh.rows.map (·.1)) (fun _ => rfl) (fun ps p ih h => ?_) ps
  have ih := ih fun k hk => h k (List.mem_append_left _ hk)
  rw [Sto.dropAll_snoc]
  refine (keys_leave ?_ _).trans ih
  rw [ih]; exact h p (List.mem_append_right _ (List.mem_singleton.mpr rfl))
theorem keysThere_sub {s : Sh} : ∀ k ∈ s.keysThere, k ∈ s.rows.map (·.1) := fun k hk => ssort_mem.mp (List.mem_filter.mp hk).1
/-! ### a sweep -/
theorem zip_tail_snd {α : Type} (l : List α) : (l.zip l.tail).map (·.2) = l.tail := by
  rw [List.map_snd_zip]
  rw [List.length_tail]; omega
theorem oldRows_mem {s : Sto} {rs : List Rl} {key : List Nat} {v : Int} (h : v ∈ s.oldRows rs key) : ∃ r ∈ s.sh.at key, r.v = v ∧ s.sh.held key v ≤ s.today := by
  unfold Sto.oldRows at h
  obtain ⟨p, hp, rfl⟩ := List.mem_map.mp (isort_mem.mp h)
  obtain ⟨hp1, hp2⟩ := List.mem_filter.mp hp
  have h2 : p.2 ∈ (s.sh.at key).reverse.tail := by
    rw [← zip_tail_snd]
    exact List.mem_map.mpr ⟨p, hp1, rfl⟩
  have h3 := (Bool.and_eq_true _ _).mp hp2 |> fun h => (⟨h.1, h.2⟩ : _ ∧ _)
  exact ⟨p.2, List.mem_reverse.mp (List.mem_of_mem_tail h2), rfl, of_decide_eq_true h3.1⟩
theorem oldRows_nodup {s : Sto} (N : s.Nm) (rs : List Rl) (key : List Nat) : (s.oldRows rs key).Nodup := by
  unfold Sto.oldRows
  refine (isort_perm _).nodup_iff.mpr ?_
  have h1 : (((s.sh.at key).reverse.zip (s.sh.at key).reverse.tail).map (·.2.v)).Nodup := by
    rw [show (fun p : Rw × Rw => p.2.v) = (·.v) ∘ (·.2) from rfl, ← List.map_map, zip_tail_snd]
    refine List.Nodup.sublist (List.Sublist.map _ (List.tail_sublist _)) ?_
    rw [List.map_reverse]
    exact (List.reverse_perm _).nodup_iff.mpr (N key).1
  exact List.Nodup.sublist (List.Sublist.map _ List.filter_sublist) h1
theorem oldRows_len (s : Sto) (rs : List Rl) (key : List Nat) : (s.oldRows rs key).length ≤ (s.sh.at key).length := by
  unfold Sto.oldRows
  rw [isort_len, List.length_map]
  refine Nat.le_trans (List.length_filter_le _ _) ?_
  rw [List.length_zip, List.length_reverse]
  exact Nat.min_le_left _ _
theorem loneMarks_mem {s : Sto} {rs : List Rl} {key : List Nat} {v : Int} (h : v ∈ s.loneMarks rs key) : ∃ r ∈ s.sh.at key, r.v = v ∧ s.sh.held key v ≤ s.today := by
  unfold Sto.loneMarks at h
  split at h
  · rename_i r hr
    split at h
    · rename_i hc
      have : v = r.v := by simpa using h
      exact ⟨r, by rw [hr]; exact List.mem_singleton.mpr rfl, this.symm, by rw [this]; exact hc.2.1⟩
    · cases h
  · cases h
theorem loneMarks_one (s : Sto) (rs : List Rl) (key : List Nat) : (s.loneMarks rs key).length ≤ 1 := by
  unfold Sto.loneMarks
  split
  · split
    · exact Nat.le_refl _
    · exact Nat.zero_le _
  · exact Nat.zero_le _
theorem loneMarks_nodup (s : Sto) (rs : List Rl) (key : List Nat) : (s.loneMarks rs key).Nodup := by
  have := loneMarks_one s rs key
  match s.loneMarks rs key, this with
  | [], _ => exact List.nodup_nil
  | [x], _ => simp
theorem row_some {s : Sh} {key : List Nat} {r : Rw} (h : r ∈ s.at key) : (s.row? key r.v).isSome = true := by
  unfold Sh.row?
  rw [List.find?_isSome]
  exact ⟨r, h, decide_eq_true rfl⟩
def rowPs (f : List Nat → List Int) (keys : List (List Nat)) : List (List Nat × Int) := flatP (keys.map fun k => (k, f k))
theorem rowPs_mem {f : List Nat → List Int} {keys : List (List Nat)} {p : List Nat × Int} : p ∈ rowPs f keys ↔ p.1 ∈ keys ∧ p.2 ∈ f p.1 := by
  unfold rowPs flatP
  rw [List.mem_flatMap]
  constructor
  · rintro ⟨x, hx, hp⟩
    obtain ⟨k, hk, rfl⟩ := List.mem_map.mp hx
    obtain ⟨v, hv, rfl⟩ := List.mem_map.mp hp
    exact ⟨hk, hv⟩
  · rintro ⟨h1, h2⟩
    exact ⟨_, List.mem_map.mpr ⟨p.1, h1, rfl⟩, List.mem_map.mpr ⟨p.2, h2, rfl⟩⟩
theorem rowPs_nodup {f : List Nat → List Int} {keys : List (List Nat)} (nk : keys.Nodup) (nf : ∀ k ∈ keys, (f k).Nodup) : (rowPs f keys).Nodup := by
  unfold rowPs flatP
  rw [List.flatMap_map]
  refine List.pairwise_flatMap.mpr ⟨fun k hk => ?_, nk.imp fun {a b} hab x hx y hy => ?_⟩
  · exact List.Pairwise.map _ (fun a b h z => h (Prod.mk.inj z).2) (nf k hk)
  · obtain ⟨v, _, rfl⟩ := List.mem_map.mp hx
    obtain ⟨w, _, rfl⟩ := List.mem_map.mp hy
    exact fun z => hab (Prod.mk.inj z).1
theorem rowPs_len {f : List Nat → List Int} {b : Nat} : ∀ {keys : List (List Nat)}, (∀ k ∈ keys, (f k).length ≤ b) → (rowPs f keys).length ≤ b * keys.length
  | [], _ => Nat.zero_le _
  | k :: keys, h => by
    have ih := rowPs_len (keys := keys) fun x hx => h x (List.mem_cons_of_mem _ hx)
    have h1 := h k List.mem_cons_self
    unfold rowPs flatP at *
    rw [List.map_cons, List.flatMap_cons, List.length_append, List.length_map, List.length_cons, Nat.mul_succ]
    show (f k).length + _ ≤ _
    omega
def Sto.sw1 (s : Sto) (rs : List Rl) : Sto := { s with up := s.up.closeAll (s.oldUps rs) }
def Sto.sw2 (s : Sto) (rs : List Rl) : Sto × List (List Nat × Int) := (s.sw1 rs).sweepWhole rs (s.sw1 rs).sh.keysThere
def Sto.swKeys (s : Sto) (rs : List Rl) : List (List Nat) := ssort ((s.sw2 rs).1.sh.rows.map (·.1))
def Sto.sw3 (s : Sto) (rs : List Rl) : Sto := (s.sw2 rs).1.dropAll (rowPs ((s.sw2 rs).1.oldRows rs) (s.swKeys rs))
def Sto.sw4 (s : Sto) (rs : List Rl) : Sto := (s.sw3 rs).dropAll (rowPs ((s.sw3 rs).loneMarks rs) (s.swKeys rs))
/-- what a sweep tells -/
def Sto.swD (s : Sto) (rs : List Rl) : List D :=
  ((s.oldUps rs).map canD ++ (s.sw2 rs).2.map goneD) ++ (rowPs ((s.sw2 rs).1.oldRows rs) (s.swKeys rs)).map dropPD ++ (rowPs ((s.sw3 rs).loneMarks rs) (s.swKeys rs)).map dropPD
/-- what a sweep is possible on -/
structure Sto.Swp (s : Sto) (b : Nat) : Prop where
  nm : s.Nm
  k : s.sh.rows.length < 64
  u : s.up.pc.length < 64
  r : ∀ key, (s.sh.at key).length ≤ b
section
variable {s : Sto} {rs : List Rl} {ix : Int → Nat} {post : Th} {b : Nat}
theorem sw2_nm (N : s.Nm) : (s.sw2 rs).1.Nm := Sto.Nm.sweepWhole (s := s.sw1 rs) N rs _
theorem sw2_keys : (s.sw2 rs).1.sh.rows.map (·.1) = s.sh.rows.map (·.1) := sw_keys (s.sw1 rs) rs _ keysThere_sub
theorem swKeys_eq : s.swKeys rs = ssort (s.sh.rows.map (·.1)) := by unfold Sto.swKeys; rw [sw2_keys]
theorem swKeys_len : (s.swKeys rs).length = s.sh.rows.length := by rw [swKeys_eq, ssort_len, List.length_map]
theorem sw2_len : (s.sw1 rs).sh.keysThere.length ≤ s.sh.rows.length := by
  refine Nat.le_trans (List.length_filter_le _ _) ?_
  rw [ssort_len, List.length_map]; exact Nat.le_refl _
theorem sw1_fine (F : s.Fine ix post b) : (s.sw1 rs).Fine ix post b := ⟨F.sh, F.nd, F.lg, F.up.closeAll _⟩
theorem sw2_fine (F : s.Fine ix post b) : (s.sw2 rs).1.Fine ix post (b + s.sh.rows.length) := (sw_fine (sw1_fine (rs := rs) F) rs _).mono (Nat.add_le_add_left sw2_len _)
theorem swKeys_nodup (F : s.Fine ix post b) : (s.swKeys rs).Nodup := by rw [swKeys_eq]; exact (ssort_perm _).nodup_iff.mpr F.nd
theorem sw3_may (p : List Nat × Int) (h : p ∈ rowPs ((s.sw2 rs).1.oldRows rs) (s.swKeys rs)) : (s.sw2 rs).1.may p := by
  obtain ⟨r, h1, h2, h3⟩ := oldRows_mem (rowPs_mem.mp h).2
  exact ⟨by rw [← h2]; exact row_some h1, h3⟩
theorem sw3_nodup (F : s.Fine ix post b) (N : s.Nm) : (rowPs ((s.sw2 rs).1.oldRows rs) (s.swKeys rs)).Nodup := rowPs_nodup (swKeys_nodup F) fun k _ => oldRows_nodup (sw2_nm N) rs k
theorem sw3_len (W : s.Swp b) : (rowPs ((s.sw2 rs).1.oldRows rs) (s.swKeys rs)).length ≤ (b + 63) * 63 := by
  refine Nat.le_trans (rowPs_len (b := b + 63) fun k _ => ?_) ?_
  · refine Nat.le_trans (oldRows_len _ _ _) (Nat.le_trans (sw_at_len (s.sw1 rs) rs k _) ?_)
    have h1 := W.r k
    have h2 := sw2_len (s := s) (rs := rs)
    have h3 := W.k
    show (s.sh.at k).length + _ ≤ _
    omega
  · rw [swKeys_len]
    exact Nat.mul_le_mul_left _ (by have := W.k; omega)
theorem sw4_may (p : List Nat × Int) (h : p ∈ rowPs ((s.sw3 rs).loneMarks rs) (s.swKeys rs)) : (s.sw3 rs).may p := by
  obtain ⟨r, h1, h2, h3⟩ := loneMarks_mem (rowPs_mem.mp h).2
  exact ⟨by rw [← h2]; exact row_some h1, h3⟩
theorem sw4_nodup (F : s.Fine ix post b) : (rowPs ((s.sw3 rs).loneMarks rs) (s.swKeys rs)).Nodup := rowPs_nodup (swKeys_nodup F) fun k _ => loneMarks_nodup _ _ _
theorem sw4_len (W : s.Swp b) : (rowPs ((s.sw3 rs).loneMarks rs) (s.swKeys rs)).length ≤ 63 := by
  refine Nat.le_trans (rowPs_len (b := 1) fun k _ => loneMarks_one _ _ _) ?_
  rw [swKeys_len]; have := W.k; omega
theorem sw3_fine (F : s.Fine ix post b) : (s.sw3 rs).Fine ix post (b + s.sh.rows.length + (rowPs ((s.sw2 rs).1.oldRows rs) (s.swKeys rs)).length) := (sw2_fine F).dropAll _
end
section
variable {C CS CU : Addr} {n : Nat} {ix : Int → Nat} {s s' : Sto} {pre post es : Th} {xs ys : List D} {θ : Th} {k : AK}
theorem found_at2 : (pre ++ (sto C CS CU n ix s' ++ (post ++ [Ent.lst xs] ++ es)))[(pre ++ (sto C CS CU n ix s ++ post)).length]? = some (.lst xs) := by
  have e : pre ++ (sto C CS CU n ix s' ++ (post ++ [Ent.lst xs] ++ es)) = (pre ++ (sto C CS CU n ix s' ++ (post ++ [Ent.lst xs]))) ++ es := by simp only [List.append_assoc]
  rw [e]
  exact th_app found_at
theorem v_addOO {a b : Nat} (h1 : θ[a]? = some (.lst xs)) (h2 : θ[b]? = some (.lst ys)) (h : xs.length + ys.length ≤ 100000) (q : k (.lst (xs ++ ys)) θ) : fAdd (.obj a) (.obj b) θ k :=
  ⟨xs, ys, by show (match θ[a]? with | some (.lst ds) => some ds | _ => none) = _; rw [h1], by show (match θ[b]? with | some (.lst ds) => some ds | _ => none) = _; rw [h2], h, q⟩
theorem v_addLO {b : Nat} (h2 : θ[b]? = some (.lst ys)) (h : xs.length + ys.length ≤ 100000) (q : k (.lst (xs ++ ys)) θ) : fAdd (.lst xs) (.obj b) θ k :=
  ⟨xs, ys, rfl, by show (match θ[b]? with | some (.lst ds) => some ds | _ => none) = _; rw [h2], h, q⟩
end
end AB
namespace AB
open PySem PySem.Spec PyProof.Rows L2 TL
/-! ### what is asked of a store looked at -/
section
variable {s : Sto} {key k2 : List Nat} {x : Option (List Nat × List Nat)} {v w u day : Int} {r : Rw}
theorem come_sh : (s.come key x).sh = s.sh.put key ⟨s.last + 1, s.today, x⟩ := rfl
theorem come_last : (s.come key x).last = s.last + 1 := rfl
theorem come_today : (s.come key x).today = s.today := rfl
theorem come_most : (s.come key x).most = s.most := rfl
theorem come_up : (s.come key x).up = s.up := rfl
theorem come_log : (s.come key x).log = s.log ++ [chOf key (s.last + 1) s.today x] := rfl
theorem at_put (s : Sh) : (s.put key r).at k2 = if k2 = key then s.at key ++ [r] else s.at k2 := by
  split
  · rename_i h; rw [h, Sh.at_put_same]
  · rename_i h; rw [Sh.at_put_other _ _ h]
theorem at_leave (s : Sh) : (s.leave key v).at k2 = if k2 = key then (s.at key).filter (fun r => decide (r.v ≠ v)) else s.at k2 := by
  split
  · rename_i h; rw [h, Sh.at_leave_same]
  · rename_i h; rw [Sh.at_leave_other _ _ h]
theorem at_hold (s : Sh) : (s.hold key v u).at k2 = s.at k2 := rfl
theorem held_put (s : Sh) : (s.put key r).held k2 w = s.held k2 w := rfl
theorem held_leave (s : Sh) : (s.leave key v).held k2 w = if (k2, w) = (key, v) then 0 else s.held k2 w := by
  show (valG (dropG s.til (key, v)) (k2, w)).getD 0 = _
  split
  · rename_i h; rw [h, valG_drop_same]; rfl
  · rename_i h; rw [valG_drop_other _ h]; rfl
theorem held_hold (s : Sh) : (s.hold key v u).held k2 w = if (k2, w) = (key, v) then max u (s.held key v) else s.held k2 w := by
  show (valG (putG s.til (key, v) (max u (s.held key v))) (k2, w)).getD 0 = _
  split
  · rename_i h; rw [h, valG_put_same]; rfl
  · rename_i h; rw [valG_put_other _ _ h]; rfl
theorem Rw.size_nn (r : Rw) : 0 ≤ r.size := by unfold Rw.size; split <;> omega
def xSize (x : Option (List Nat × List Nat)) : Int := match x with | none => 0 | some p => (p.1.length : Nat)
theorem size_x (r : Rw) : r.size = xSize r.x := by
  unfold Rw.size Rw.data xSize
  cases r.x <;> rfl
theorem sum_nn {α : Type} {f : α → Int} : ∀ {xs : List α}, (∀ x ∈ xs, 0 ≤ f x) → 0 ≤ (xs.map f).sum
  | [], _ => Int.le_refl _
  | x :: xs, h => by
    have h1 := h x List.mem_cons_self
    have h2 := sum_nn (xs := xs) fun y hy => h y (List.mem_cons_of_mem _ hy)
    rw [List.map_cons, List.sum_cons]
    omega
theorem partsSize_nn (p : List (Int × List Nat)) : 0 ≤ partsSize p := sum_nn fun _ _ => Int.natCast_nonneg _
theorem Up.total_nn (u : Up) : 0 ≤ u.total := sum_nn fun _ _ => partsSize_nn _
theorem Sh.total_nn (s : Sh) : 0 ≤ s.total := sum_nn fun _ _ => sum_nn fun r _ => r.size_nn
theorem Up.total_close (u : Up) (i : Int) : (u.close i).total ≤ u.total := sum_filter_le fun _ _ => partsSize_nn _
theorem Up.total_closeAll (is : List Int) : ∀ u : Up, (u.closeAll is).total ≤ u.total := by
  induction is with
  | nil => exact fun u => Int.le_refl _
  | cons a is ih => exact fun u => Int.le_trans (ih (u.close a)) (u.total_close a)
theorem Up.total_begin {u : Up} (hf : valG u.pc (u.last + 1) = none) (key : List Nat) (day : Int) : (u.begin key day).total = u.total := by
  unfold Up.total Up.begin
  rw [putG_new hf, List.map_append, sum_app]
  simp [partsSize]
theorem partsSize_put {p : List (Int × List Nat)} (nd : (p.map (·.1)).Nodup) (m : Int) (l : List Nat) : partsSize (putG p m l) = partsSize p + (l.length : Nat) - (((valG p m).getD []).length : Nat) := by
  unfold partsSize
  rw [sum_putG (fun l : List Nat => ((l.length : Nat) : Int)) p nd m l]
  cases valG p m <;> simp
theorem Up.total_send {u : Up} (pn : (u.pc.map (·.1)).Nodup) {i : Int} {p : List (Int × List Nat)} (hp : valG u.pc i = some p) (nd : (p.map (·.1)).Nodup) (m : Int) (l : List Nat) : (u.send i m l).total = u.total + (l.length : Nat) - (((valG p m).getD []).length : Nat) := by
  unfold Up.total Up.send Up.parts
  rw [sum_putG partsSize u.pc pn, hp]
  simp only [Option.getD_some, Option.map_some]
  rw [partsSize_put nd]
  omega
/-- well, and not too large -/
structure Okz (z : Nat) (s : Sto) (ix : Int → Nat) (post : Th) (b : Nat) : Prop where
  F : s.Fine ix post b
  Z : s.size ≤ (z : Int) * b
  N : s.Nm
end
section
variable {z b : Nat} {s : Sto} {ix : Int → Nat} {post : Th} {key : List Nat} {v u : Int}
theorem Okz.come (O : Okz z s ix post b) {x : Option (List Nat × List Nat)} (hx : XOk x) (hz : xSize x ≤ z) : Okz z (s.come key x) ix post (b + 1) := by
  refine ⟨O.F.come hx, ?_, O.N.come key x⟩
  show (s.sh.put key _).total + s.up.total ≤ _
  rw [Sh.total_put O.F.nd, size_x, show (Rw.x ⟨s.last + 1, s.today, x⟩) = x from rfl]
  have := O.Z
  unfold Sto.size at this
  rw [Int.natCast_succ, Int.mul_add]
  omega
theorem Okz.leave (O : Okz z s ix post b) (p : List Nat × Int) : Okz z (s.dropP p) ix post (b + 1) := by
  refine ⟨O.F.leave, ?_, O.N.drop p⟩
  show (s.sh.leave p.1 p.2).total + s.up.total ≤ _
  rw [Sh.total_leave O.F.nd]
  have h1 := O.Z
  unfold Sto.size at h1
  have h2 := sum_filter_le (f := Rw.size) (p := fun q => decide (q.v ≠ p.2)) (xs := s.sh.at p.1) fun r _ => r.size_nn
  rw [Int.natCast_succ, Int.mul_add]
  omega
theorem Sto.Nm.hold {s : Sto} (N : s.Nm) (key : List Nat) (v u : Int) (c : List Ch) : Sto.Nm { s with sh := s.sh.hold key v u, log := c } := N
theorem Okz.hold (O : Okz z s ix post b) : Okz z { s with sh := s.sh.hold key v u, log := s.log ++ [.hold key v (max u (s.sh.held key v))] } ix post (b + 1) := by
  refine ⟨O.F.hold, ?_, O.N⟩
  have h1 := O.Z
  show s.sh.total + s.up.total ≤ _
  unfold Sto.size at h1
  rw [Int.natCast_succ, Int.mul_add]
  omega
theorem Okz.day (O : Okz z s ix post b) (d : Int) : Okz z { s with today := d } ix post b := ⟨O.F.day, O.Z, O.N⟩
theorem Okz.mono (O : Okz z s ix post b) {c : Nat} (h : b ≤ c) : Okz z s ix post c := ⟨O.F.mono h, Int.le_trans O.Z (Int.mul_le_mul_of_nonneg_left (by omega) (by omega)), O.N⟩
theorem Okz.app (O : Okz z s ix post b) (es : Th) : Okz z s ix (post ++ es) b := ⟨O.F.app es, O.Z, O.N⟩
theorem Okz.begin (O : Okz z s ix post b) (hf : valG s.up.pc (s.up.last + 1) = none) : Okz z { s with up := s.up.begin key s.today } (fun m => if m = s.up.last + 1 then post.length else ix m) (post ++ [.dK []]) (b + 1) := by
  refine ⟨⟨O.F.sh.mono (Nat.le_succ b), O.F.nd, Nat.le_succ_of_le O.F.lg, O.F.up.begin hf O.F.up.lt⟩, ?_, O.N⟩
  show s.sh.total + (s.up.begin key s.today).total ≤ _
  rw [Up.total_begin hf]
  have h1 := O.Z
  unfold Sto.size at h1
  rw [Int.natCast_succ, Int.mul_add]
  omega
theorem Okz.close (O : Okz z s ix post b) (i : Int) : Okz z { s with up := s.up.close i } ix post b := by
  refine ⟨⟨O.F.sh, O.F.nd, O.F.lg, O.F.up.close i⟩, ?_, O.N⟩
  show s.sh.total + (s.up.close i).total ≤ _
  have h1 := O.Z
  have h2 := s.up.total_close i
  unfold Sto.size at h1
  omega
theorem Okz.send (O : Okz z s ix post b) {i m : Int} {l : List Nat} (h : (valG s.up.op i).isSome) (hl : l.length ≤ 50000) (hz : l.length ≤ z) (ho : SOk l) : Okz z { s with up := s.up.send i m l } ix (post.set (ix i) (.dK (partD (putG (s.up.parts i) m l)))) (b + 1) := by
  obtain ⟨p, hp⟩ := O.F.up.open_pc h
  have hpp := (O.F.up.pb _ (valG_mem hp)).2.1
  refine ⟨⟨O.F.sh.mono (Nat.le_succ b), O.F.nd, Nat.le_succ_of_le O.F.lg, O.F.up.send h hl ho⟩, ?_, O.N⟩
  show s.sh.total + (s.up.send i m l).total ≤ _
  rw [Up.total_send O.F.up.pn hp hpp]
  have h1 := O.Z
  unfold Sto.size at h1
  rw [Int.natCast_succ, Int.mul_add]
  omega
theorem Okz.put (O : Okz z s ix post b) {d t : List Nat} (hd : d.length ≤ z) (hm : (z : Int) * (b + 1 : Nat) ≤ s.most) : s.put key d t = .ok (s.come key (some (d, t))) := by
  unfold Sto.put
  have h1 := O.Z
  rw [Int.natCast_succ, Int.mul_add] at hm
  rw [if_pos (by omega)]
theorem Okz.new (z : Nat) (most : Int) (ix : Int → Nat) (post : Th) : Okz z (Sto.new most) ix post 0 := ⟨Sto.fine0 most ix post, by show (0 : Int) + 0 ≤ _; omega, fun _ => ⟨List.nodup_nil, fun _ h => nomatch h⟩⟩
end
theorem S_starts (a b : List Nat) : Txt.startswith (S a) (S b) = decide (a.take b.length = b) := by
  have e : ((S a).cps.extract 0 (0 + (S b).length) == (S b).cps) = decide (a.take b.length = b) := by
    rw [S_len, Nat.zero_add]
    show ((a.toArray.extract 0 b.length) == b.toArray) = _
    rw [Bool.eq_iff_iff]
    simp [List.extract_toArray]
  show (decide (0 + (S b).length ≤ (S a).length) && ((S a).cps.extract 0 (0 + (S b).length) == (S b).cps)) = _
  rw [e, S_len, S_len, Nat.zero_add]
  by_cases h : a.take b.length = b
  · have : b.length ≤ a.length := by
      have := congrArg List.length h
      rw [List.length_take] at this
      omega
    rw [decide_eq_true h, decide_eq_true this]; rfl
  · rw [decide_eq_false h, Bool.and_false]
/-! a sweep whose rules tell nothing of old ones, of lone marks -/
theorem isDue_what {rs : List Rl} {what key : List Nat} {ago : Int} (h : ∀ r ∈ rs, r.what ≠ what) : isDue rs what key ago = false := by
  unfold isDue
  rw [List.any_eq_false]
  intro r hr
  rw [decide_eq_false (h r hr)]
  simp
theorem oldRows_nil {s : Sto} {rs : List Rl} (h : ∀ r ∈ rs, r.what ≠ wOld) (key : List Nat) : s.oldRows rs key = [] := by
  unfold Sto.oldRows
  rw [show ((s.sh.at key).reverse.zip (s.sh.at key).reverse.tail).filter (fun p => decide (s.sh.held key p.2.v ≤ s.today) && isDue rs wOld key (s.today - p.1.day)) = [] from List.filter_eq_nil_iff.mpr fun p _ => by rw [isDue_what h, Bool.and_false]; exact Bool.false_ne_true]
  exact List.eq_nil_of_length_eq_zero (isort_len _)
theorem loneMarks_nil {s : Sto} {rs : List Rl} (h : ∀ r ∈ rs, r.what ≠ wMarks) (key : List Nat) : s.loneMarks rs key = [] := by
  unfold Sto.loneMarks
  split
  · rw [if_neg fun z => by rw [isDue_what h] at z; exact nomatch z.2.2]
  · rfl
theorem rowPs_nil {f : List Nat → List Int} {keys : List (List Nat)} (h : ∀ k ∈ keys, f k = []) : rowPs f keys = [] := by
  refine List.eq_nil_iff_forall_not_mem.mpr fun p hp => ?_
  obtain ⟨h1, h2⟩ := rowPs_mem.mp hp
  rw [h _ h1] at h2
  cases h2
theorem oldUps_nil {s : Sto} {rs : List Rl} (h : ∀ r ∈ rs, r.what ≠ wParts) : s.oldUps rs = [] := by
  unfold Sto.oldUps
  exact List.filter_eq_nil_iff.mpr fun i _ => by rw [isDue_what h]; exact Bool.false_ne_true
/-- whose day is due -/
def Sto.dueW (s : Sto) (rs : List Rl) (key : List Nat) : Bool := isDue rs wWhole key (s.today - (((s.sh.at key).getLast?.map (·.day)).getD 0))
def Sto.marks (s : Sto) (keys : List (List Nat)) : Sto × List (List Nat × Int) := keys.foldl (fun a key => (a.1.come key none, a.2 ++ [(key, a.1.last + 1)])) (s, [])
theorem marks_snoc (s : Sto) (keys : List (List Nat)) (key : List Nat) : s.marks (keys ++ [key]) = ((s.marks keys).1.come key none, (s.marks keys).2 ++ [(key, (s.marks keys).1.last + 1)]) := by unfold Sto.marks; rw [List.foldl_append]; rfl
theorem sw_marks (s : Sto) (rs : List Rl) (keys : List (List Nat)) : keys.Nodup → s.sweepWhole rs keys = s.marks (keys.filter (s.dueW rs)) := by
  refine snoc_ind (P := fun keys => keys.Nodup → s.sweepWhole rs keys = s.marks (keys.filter (s.dueW rs))) (fun _ => rfl) (fun keys key ih nd => ?_) keys
  have h1 := List.nodup_append.mp nd
  have hn : key ∉ keys := fun z => h1.2.2 key z key (List.mem_singleton.mpr rfl) rfl
  have h2 := sw_up s rs keys
  have h3 := sw_at s rs keys key hn
  rw [sw_snoc, List.filter_append, h2.1, h3]
  show (if s.dueW rs key = true then _ else _) = _
  cases e : s.dueW rs key with
  | true =>
    rw [if_pos rfl, List.filter_cons, if_pos e, List.filter_nil, marks_snoc, ih h1.1]
  | false =>
    rw [if_neg Bool.false_ne_true, List.filter_cons, if_neg (by rw [e]; exact Bool.false_ne_true), List.filter_nil, List.append_nil, ih h1.1]
theorem sw2_marks {s : Sto} {rs : List Rl} {ix : Int → Nat} {post : Th} {b : Nat} (F : s.Fine ix post b) : s.sw2 rs = (s.sw1 rs).marks (s.sh.keysThere.filter (s.dueW rs)) := by
  unfold Sto.sw2
  rw [sw_marks]
  · rfl
  · exact List.Nodup.sublist List.filter_sublist ((ssort_perm _).nodup_iff.mpr F.nd)
theorem filter_one {α : Type} {p : α → Bool} {a : α} : ∀ {xs : List α}, xs.Nodup → a ∈ xs → (∀ x ∈ xs, p x = true ↔ x = a) → xs.filter p = [a]
  | x :: xs, nd, hm, h => by
    rw [List.nodup_cons] at nd
    rcases List.mem_cons.mp hm with rfl | hm
    · rw [List.filter_cons, if_pos ((h _ List.mem_cons_self).mpr rfl), List.filter_eq_nil_iff.mpr fun y hy z => nd.1 ((h y (List.mem_cons_of_mem _ hy)).mp z ▸ hy)]
    · have hx : x ≠ a := fun z => nd.1 (z ▸ hm)
      rw [List.filter_cons, if_neg fun z => hx ((h x List.mem_cons_self).mp z), filter_one nd.2 hm fun y hy => h y (List.mem_cons_of_mem _ hy)]
/-! changes that are well -/
def Ch.Ok : Ch → Prop
  | .put k _ _ d t => SOk k ∧ SOk d ∧ SOk t
  | .gone k _ _ => SOk k
  | .drop k _ => SOk k
  | .hold k _ _ => SOk k
theorem pl_body {c : Ch} (h : c.Ok) (n : Nat) : ∀ d ∈ c.body, Pl d (n + 1) := by
  intro d hd
  have w1 : SOk [112, 117, 116] := by unfold SOk; decide
  have w2 : SOk [103, 111, 110, 101] := by unfold SOk; decide
  have w3 : SOk [100, 114, 111, 112] := by unfold SOk; decide
  have w4 : SOk [104, 111, 108, 100] := by unfold SOk; decide
  cases c with
  | put k v day data tot =>
    simp only [Ch.body, List.mem_cons, List.not_mem_nil, or_false] at hd
    rcases hd with rfl | rfl | rfl | rfl | rfl | rfl
    · exact pl_str w1
    · exact pl_str h.1
    · exact pl_int
    · exact pl_int
    · exact pl_str h.2.1
    · exact pl_str h.2.2
  | gone k v day =>
    simp only [Ch.body, List.mem_cons, List.not_mem_nil, or_false] at hd
    rcases hd with rfl | rfl | rfl | rfl
    · exact pl_str w2
    · exact pl_str h
    · exact pl_int
    · exact pl_int
  | drop k v =>
    simp only [Ch.body, List.mem_cons, List.not_mem_nil, or_false] at hd
    rcases hd with rfl | rfl | rfl
    · exact pl_str w3
    · exact pl_str h
    · exact pl_int
  | hold k v u =>
    simp only [Ch.body, List.mem_cons, List.not_mem_nil, or_false] at hd
    rcases hd with rfl | rfl | rfl | rfl
    · exact pl_str w4
    · exact pl_str h
    · exact pl_int
    · exact pl_int
theorem pl_logD {n : Nat} : ∀ {cs : List Ch} {i : Nat}, (∀ c ∈ cs, c.Ok) → ∀ d ∈ logD i cs, Pl d (n + 2)
  | [], _, _ => fun _ h => nomatch h
  | c :: cs, i, h => fun d hd => by
    rcases List.mem_cons.mp hd with rfl | hd
    · refine pl_tup (by cases c <;> simp [Ch.body]) fun d hd => ?_
      rcases List.mem_cons.mp hd with rfl | hd
      · exact pl_int
      · exact pl_body (h c List.mem_cons_self) n d hd
    · exact pl_logD (fun x hx => h x (List.mem_cons_of_mem _ hx)) d hd
theorem pl_logT {n i : Nat} {cs : List Ch} (hl : cs.length ≤ 10000) (h : ∀ c ∈ cs, c.Ok) : Pl (.tup (logD i cs)) (n + 3) := pl_tup (by rw [logD_len]; omega) (pl_logD h)
theorem logD_lt (n : Nat) : ∀ (i : Nat) (cs : List Ch), D.lts n (logD i cs)
  | _, [] => by unfold logD D.lts; trivial
  | i, c :: cs => by
    unfold logD D.lts
    refine ⟨?_, logD_lt n _ cs⟩
    unfold D.lt
    refine D.lts_iff.mpr fun d hd => ?_
    cases c <;> (simp only [Ch.body, List.mem_cons, List.not_mem_nil, or_false] at hd; rcases hd with rfl | rfl | rfl | rfl | rfl | rfl | rfl) <;> (unfold D.lt; trivial)
theorem SOk.parts (ls : List (List Nat)) : SOk (partsL ls) := SOk.app (SOk.app (sumL_ok _) (by unfold SOk; decide)) (SOk.num _)
end AB
namespace AB
open PySem PySem.Spec PyProof.Rows L2 TL
/-! ### a sign looked for in a text -/
open Builtin.Str in
theorem S_sub (l : List Nat) (i j : Nat) : strSub (S l) i j = S ((l.drop i).take (j - i)) := by
  unfold strSub S
  congr 1
  rw [List.extract_toArray]
def cutsAt (c : Nat) : Nat → List Nat → List Nat
  | _, [] => []
  | i, x :: xs => if x = c then i :: cutsAt c (i + 1) xs else cutsAt c (i + 1) xs
theorem cutsAt_none {c : Nat} : ∀ {xs : List Nat} {i : Nat}, c ∉ xs → cutsAt c i xs = []
  | [], _, _ => rfl
  | x :: xs, i, h => by
    unfold cutsAt
    rw [if_neg (fun z : x = c => h (by rw [z]; exact List.mem_cons_self)), cutsAt_none fun z => h (List.mem_cons_of_mem _ z)]
def upTo (c : Nat) (xs : List Nat) : List Nat := xs.takeWhile fun x => decide (x ≠ c)
theorem cutsAt_head {c : Nat} : ∀ {xs : List Nat} {i : Nat}, c ∈ xs → ∃ r, cutsAt c i xs = (i + (upTo c xs).length) :: r
  | x :: xs, i, h => by
    unfold cutsAt upTo
    by_cases e : x = c
    · rw [if_pos e, List.takeWhile_cons_of_neg (by simp [e])]
      exact ⟨_, rfl⟩
    · have hm : c ∈ xs := by
        rcases List.mem_cons.mp h with z | z
        · exact absurd z.symm e
        · exact z
      obtain ⟨r, hr⟩ := cutsAt_head (i := i + 1) hm
      rw [if_neg e, hr, List.takeWhile_cons_of_pos (by simp [e])]
      refine ⟨r, ?_⟩
      congr 1
      unfold upTo
      rw [List.length_cons]
      omega
theorem upTo_split {c : Nat} : ∀ {xs : List Nat}, c ∈ xs → ∃ r, xs = upTo c xs ++ c :: r
  | x :: xs, h => by
    unfold upTo
    by_cases e : x = c
    · rw [List.takeWhile_cons_of_neg (by simp [e])]
      exact ⟨xs, by rw [e]; rfl⟩
    · have hm : c ∈ xs := by
        rcases List.mem_cons.mp h with z | z
        · exact absurd z.symm e
        · exact z
      obtain ⟨r, hr⟩ := upTo_split hm
      rw [List.takeWhile_cons_of_pos (by simp [e])]
      exact ⟨r, by rw [List.cons_append]; exact congrArg _ hr⟩
theorem upTo_not {c : Nat} : ∀ (xs : List Nat), c ∉ upTo c xs
  | [], h => by cases h
  | x :: xs, h => by
    unfold upTo at h
    by_cases e : x = c
    · rw [List.takeWhile_cons_of_neg (by simp [e])] at h
      cases h
    · rw [List.takeWhile_cons_of_pos (by simp [e])] at h
      rcases List.mem_cons.mp h with z | z
      · exact e z.symm
      · exact upTo_not xs z
theorem cutsAt_app {c : Nat} : ∀ (xs ys : List Nat) (i : Nat), cutsAt c i (xs ++ ys) = cutsAt c i xs ++ cutsAt c (i + xs.length) ys
  | [], _, _ => rfl
  | x :: xs, ys, i => by
    have ih := cutsAt_app (c := c) xs ys (i + 1)
    have e : i + 1 + xs.length = i + (xs.length + 1) := by omega
    rw [e] at ih
    show (if x = c then i :: cutsAt c (i + 1) (xs ++ ys) else cutsAt c (i + 1) (xs ++ ys)) = (if x = c then i :: cutsAt c (i + 1) xs else cutsAt c (i + 1) xs) ++ cutsAt c (i + (xs.length + 1)) ys
    rw [ih]
    split <;> rfl
theorem cutsAt_len {c : Nat} : ∀ (xs : List Nat) (i : Nat), (cutsAt c i xs).length = xs.count c
  | [], _ => rfl
  | x :: xs, i => by
    unfold cutsAt
    rw [List.count_cons]
    by_cases e : x = c
    · rw [if_pos e, List.length_cons, cutsAt_len xs, if_pos (by simp [e])]
    · rw [if_neg e, cutsAt_len xs, if_neg (by simp [e])]; rfl
theorem cutsAt_le {c : Nat} (xs : List Nat) (i : Nat) : (cutsAt c i xs).length ≤ xs.length := by rw [cutsAt_len]; exact List.count_le_length
section
open Builtin Builtin.Str StrLaws
theorem occ_run (a : List Nat) (c limit : Nat) : ∀ (xs : List Nat) (lo : Nat) (arr : Array Nat) (free : Nat), a.drop lo = xs → free ≤ lo →
    (forIn (List.range' lo (xs.length + 1)) (arr, free) (occBody (S a) ⟨#[c]⟩ (S a).length limit)).run.fst.toList = arr.toList ++ (cutsAt c lo xs).take (limit - arr.size)
  | [], lo, arr, free, h, hf => by
    have hn : a[lo]? = none := by
      have := congrArg List.head? h
      rw [List.head?_drop] at this
      exact this
    show (forIn [lo] (arr, free) (occBody (S a) ⟨#[c]⟩ (S a).length limit)).run.fst.toList = _
    rw [List.forIn_cons]
    unfold occBody
    rw [if_neg]
    · simp [cutsAt]
    · intro z
      have := (subAt_one (S a) c lo).mp ⟨z.1.2, z.2⟩
      rw [show (S a).cps.toList = a from rfl, hn] at this
      cases this
  | x :: xs, lo, arr, free, h, hf => by
    have hx : a[lo]? = some x := by
      have := congrArg List.head? h
      rw [List.head?_drop] at this
      exact this
    have h2 : a.drop (lo + 1) = xs := by
      have := congrArg List.tail h
      rw [List.tail_drop] at this
      exact this
    rw [List.length_cons, List.range'_succ, List.forIn_cons]
    unfold occBody
    have hiff := subAt_one (S a) c lo
    rw [show (S a).cps.toList = a from rfl, hx] at hiff
    by_cases e : x = c
    · by_cases hs : arr.size < limit
      · have hc := hiff.mpr (by rw [e])
        rw [if_pos ⟨⟨⟨hs, hf⟩, hc.1⟩, hc.2⟩]
        refine (occ_run a c limit xs (lo + 1) (arr.push lo) (lo + 1) h2 (Nat.le_refl _)).trans ?_
        rw [Array.toList_push, Array.size_push, List.append_assoc]
        congr 1
        rw [show cutsAt c lo (x :: xs) = if x = c then lo :: cutsAt c (lo + 1) xs else cutsAt c (lo + 1) xs from rfl, if_pos e]
        have : limit - arr.size = (limit - (arr.size + 1)) + 1 := by omega
        rw [this, List.take_succ_cons]
        rfl
      · rw [if_neg (fun z => hs z.1.1.1)]
        refine (occ_run a c limit xs (lo + 1) arr free h2 (by omega)).trans ?_
        have : limit - arr.size = 0 := by omega
        rw [this, List.take_zero, List.take_zero]
    · rw [if_neg (fun z => e (Option.some.inj (hiff.mp ⟨z.1.2, z.2⟩)))]
      refine (occ_run a c limit xs (lo + 1) arr free h2 (by omega)).trans ?_
      congr 2
      show _ = if x = c then _ else _
      rw [if_neg e]
theorem occ_pos (a : List Nat) (c lo limit : Nat) (h : lo ≤ a.length) : occurrences (S a) ⟨#[c]⟩ lo (S a).length limit = (cutsAt c lo (a.drop lo)).take limit := by
  rw [occ_eq]
  have := occ_run a c limit (a.drop lo) lo #[] lo rfl (Nat.le_refl _)
  rw [List.length_drop] at this
  rw [S_len, show a.length + 1 - lo = a.length - lo + 1 from by omega]
  rw [S_len] at this
  rw [this]
  simp
theorem find3_pos {a : List Nat} {c lo : Nat} (h : lo ≤ a.length) : Txt.find3 (S a) (S [c]) (lo : Nat) = if c ∈ a.drop lo then (((lo + (upTo c (a.drop lo)).length : Nat)) : Int) else -1 := by
  have hf : fromIndex (S a).length (lo : Nat) = lo := by
    unfold fromIndex
    rw [if_neg (by omega)]
    omega
  show (match occurrences (S a) ⟨#[c]⟩ (fromIndex (S a).length (lo : Nat)) (S a).length 1 with | k :: _ => (k : Int) | [] => -1) = _
  rw [hf, occ_pos a c lo 1 h]
  split
  · rename_i k r hk
    by_cases e : c ∈ a.drop lo
    · obtain ⟨r2, hr2⟩ := cutsAt_head (i := lo) e
      rw [hr2, List.take_succ_cons] at hk
      rw [if_pos e, ← (List.cons.inj hk).1]
    · rw [cutsAt_none e] at hk
      cases hk
  · rename_i hk
    by_cases e : c ∈ a.drop lo
    · obtain ⟨r2, hr2⟩ := cutsAt_head (i := lo) e
      rw [hr2, List.take_succ_cons] at hk
      cases hk
    · rw [if_neg e]
theorem kind_one {c : Nat} (h : c < 256) : Builtin.Str.strKind (⟨#[c]⟩ : Str) = 1 := by
  unfold Builtin.Str.strKind
  rw [if_pos]
  simp [h]
theorem kind_pos (x : Str) : 1 ≤ Builtin.Str.strKind x := by
  unfold Builtin.Str.strKind
  split
  · exact Nat.le_refl _
  · split <;> decide
theorem split_cuts {l : List Nat} {c : Nat} (hc : c < 256) (hm : c ∈ l) : Txt.split (S l) (S [c]) = partsFrom (S l) 1 0 (cutsAt c 0 l) := by
  have hl : 0 < l.length := List.length_pos_of_mem hm
  show Txt.split (S l) ⟨#[c]⟩ = _
  unfold Txt.split
  rw [if_neg, occ_pos l c 0 _ (Nat.zero_le _), List.drop_zero, List.take_of_length_le (by rw [S_len]; exact Nat.le_succ_of_le (cutsAt_le l 0)), if_neg, partsBetween_eq]
  · rfl
  · obtain ⟨r, hr⟩ := cutsAt_head (i := 0) hm
    rw [hr]
    exact Bool.false_ne_true
  · rw [kind_one hc]
    have := kind_pos (S l)
    rw [decide_eq_false (by rw [S_len]; show ¬ l.length < 1; omega), decide_eq_false (by omega)]
    exact Bool.false_ne_true
theorem split_head {l : List Nat} {c : Nat} (hc : c < 256) (hm : c ∈ l) : ∃ r, Txt.split (S l) (S [c]) = S (upTo c l) :: r := by
  obtain ⟨r, hr⟩ := cutsAt_head (i := 0) hm
  rw [split_cuts hc hm, hr]
  refine ⟨partsFrom (S l) 1 (0 + (upTo c l).length + 1) r, ?_⟩
  show strSub (S l) 0 (0 + (upTo c l).length) :: _ = _
  rw [S_sub]
  congr 2
  obtain ⟨r2, hr2⟩ := upTo_split hm
  rw [List.drop_zero, Nat.zero_add, Nat.sub_zero]
  exact (congrArg (List.take _) hr2).trans List.take_left
theorem split_two {u v : List Nat} {c : Nat} (hc : c < 256) (hu : c ∉ u) (hv : c ∉ v) : Txt.split (S (u ++ c :: v)) (S [c]) = [S u, S v] := by
  rw [split_cuts hc (by simp), cutsAt_app, cutsAt_none hu, List.nil_append]
  have e : cutsAt c (0 + u.length) (c :: v) = [u.length] := by
    unfold cutsAt
    rw [if_pos rfl, cutsAt_none hv, Nat.zero_add]
  rw [e]
  show [strSub (S (u ++ c :: v)) 0 u.length, strSub (S (u ++ c :: v)) (u.length + 1) (S (u ++ c :: v)).length] = _
  rw [S_sub, S_sub, S_len]
  congr 2
  · simp
  · congr 1
    simp [List.drop_append]
    rw [List.drop_eq_nil_of_le (Nat.le_succ _), List.nil_append, List.take_of_length_le (by omega)]
theorem count_sign (l : List Nat) (c : Nat) : Txt.count (S l) (S [c]) = (l.count c : Nat) := by
  show ((occurrences (S l) ⟨#[c]⟩ 0 (S l).length ((S l).length + 1)).length : Int) = _
  rw [occ_pos l c 0 _ (Nat.zero_le _), List.drop_zero, List.take_of_length_le (by rw [S_len]; exact Nat.le_succ_of_le (cutsAt_le l 0)), cutsAt_len]
end
/-! ### entries of keys -/
theorem ent_no {key p : List Nat} : entL key p [] = key := by unfold entL; rw [if_pos rfl]
theorem ent_sign {key p : List Nat} {c : Nat} (h : p.length ≤ key.length) : entL key p [c] = if c ∈ key.drop p.length then key.take p.length ++ upTo c (key.drop p.length) ++ [c] else key := by
  unfold entL findT
  rw [if_neg (fun z => nomatch z), find3_pos h]
  by_cases e : c ∈ key.drop p.length
  · rw [if_pos e, if_pos e, if_neg (by omega)]
    obtain ⟨r, hr⟩ := upTo_split e
    have hk : key = key.take p.length ++ (upTo c (key.drop p.length) ++ c :: r) := by rw [← hr, List.take_append_drop]
    have hl : (key.take p.length).length = p.length := by rw [List.length_take]; omega
    have e2 : (((p.length + (upTo c (key.drop p.length)).length : Nat) : Int) + 1).toNat = (key.take p.length ++ upTo c (key.drop p.length) ++ [c]).length := by
      rw [List.length_append, List.length_append, hl, List.length_singleton]; omega
    rw [e2]
    have e3 : key.take p.length ++ (upTo c (key.drop p.length) ++ c :: r) = (key.take p.length ++ upTo c (key.drop p.length) ++ [c]) ++ r := by simp
    exact (congrArg (List.take _) (hk.trans e3)).trans List.take_left
  · rw [if_neg e, if_neg e, if_pos (by decide)]
theorem inD_strs (l : List Nat) : ∀ ls : List (List Nat), inD (.str (S l)) (ls.map fun x => .str (S x)) = decide (l ∈ ls)
  | [] => rfl
  | x :: ls => by
    have ih := inD_strs l ls
    unfold inD at ih ⊢
    rw [List.map_cons, List.any_cons, ih]
    have e : eqD (.str (S x)) (.str (S l)) = decide (l = x) := by
      show (S x == S l) = _
      by_cases h : l = x
      · rw [h]; simp
      · rw [decide_eq_false h, beq_eq_false_iff_ne]
        exact fun z => h (S_inj.mp z).symm
    rw [e]
    by_cases h : l = x
    · simp [h]
    · simp [h]
theorem v_inStrs {θ : Th} {k : AK} {d : D} {l : List Nat} {ls : List (List Nat)} (h : asS θ d = some (ls.map fun x => .str (S x))) (q : k (.bl (decide (l ∈ ls))) θ) : fIn (.str (S l)) d θ k :=
  ⟨_, .inr (.inl ⟨_, h, rfl, by rw [List.all_map]; exact List.all_eq_true.mpr fun _ _ => rfl, rfl⟩), by rw [inD_strs]; exact q⟩
theorem v_ninStrs {θ : Th} {k : AK} {d : D} {l : List Nat} {ls : List (List Nat)} (h : asS θ d = some (ls.map fun x => .str (S x))) (q : k (.bl (!decide (l ∈ ls))) θ) : fNotIn (.str (S l)) d θ k :=
  ⟨_, .inr (.inl ⟨_, h, rfl, by rw [List.all_map]; exact List.all_eq_true.mpr fun _ _ => rfl, rfl⟩), by rw [inD_strs]; exact q⟩
theorem asL_app {θ es : Th} {d : D} {ds : List D} (h : asL θ d = some ds) : asL (θ ++ es) d = some ds := by
  cases d with
  | obj n =>
    have h' : (match θ[n]? with | some (.lst ds) => some ds | _ => none) = some ds := h
    show (match (θ ++ es)[n]? with | some (.lst ds) => some ds | _ => none) = some ds
    cases e : θ[n]? with
    | none => rw [e] at h'; cases h'
    | some x => rw [e] at h'; rw [th_app e]; exact h'
  | _ => exact h
theorem atI_get {α : Type} {f : α → D} {ls : List α} {z : Int} (h0 : 0 ≤ z) (h1 : z < (ls.length : Nat)) : ∃ l ∈ ls, atI (ls.map f) z = some (f l) := by
  obtain ⟨j, rfl⟩ := Int.eq_ofNat_of_zero_le h0
  have hj : j < ls.length := by omega
  refine ⟨ls[j], List.getElem_mem hj, ?_⟩
  rw [atI_nat (j := j) (v := f ls[j])]
  rw [List.getElem?_map, List.getElem?_eq_getElem hj]; rfl
/-! ### a list by a plain walk -/
def listedStep (p m after : List Nat) (acc : List (List Nat)) (k : List Nat) : List (List Nat) := if k.take p.length = p then (if after < entL k p m ∧ entL k p m ∉ acc then acc ++ [entL k p m] else acc) else acc
def listedL (keys : List (List Nat)) (p m after : List Nat) : List (List Nat) := keys.foldl (listedStep p m after) []
theorem listedL_snoc (keys : List (List Nat)) (k p m after : List Nat) : listedL (keys ++ [k]) p m after = listedStep p m after (listedL keys p m after) k := by unfold listedL; rw [List.foldl_append]; rfl
theorem listedL_nodup (p m after : List Nat) (keys : List (List Nat)) : (listedL keys p m after).Nodup := by
  refine snoc_ind (P := fun keys => (listedL keys p m after).Nodup) List.nodup_nil (fun keys k ih => ?_) keys
  rw [listedL_snoc]
  unfold listedStep
  split
  · split
    · rename_i h
      rw [List.nodup_append]
      exact ⟨ih, by simp, fun a ha b hb => by
        have hb' : b = entL k p m := by simpa using hb
        rw [hb']
        exact fun z => h.2 (z ▸ ha)⟩
    · exact ih
  · exact ih
theorem listedL_mem (p m after e : List Nat) (keys : List (List Nat)) : e ∈ listedL keys p m after ↔ after < e ∧ ∃ k ∈ keys, k.take p.length = p ∧ entL k p m = e := by
  refine snoc_ind (P := fun keys => e ∈ listedL keys p m after ↔ after < e ∧ ∃ k ∈ keys, k.take p.length = p ∧ entL k p m = e) ⟨fun h => (nomatch h), fun ⟨_, _, h, _⟩ => nomatch h⟩ (fun keys k ih => ?_) keys
  rw [listedL_snoc]
  have hx : (∃ j ∈ keys ++ [k], j.take p.length = p ∧ entL j p m = e) ↔ (∃ j ∈ keys, j.take p.length = p ∧ entL j p m = e) ∨ (k.take p.length = p ∧ entL k p m = e) := by
    constructor
    · rintro ⟨j, hj, h⟩
      rcases List.mem_append.mp hj with hj | hj
      · exact .inl ⟨j, hj, h⟩
      · have : j = k := by simpa using hj
        exact .inr (this ▸ h)
    · rintro (⟨j, hj, h⟩ | h)
      · exact ⟨j, List.mem_append_left _ hj, h⟩
      · exact ⟨k, List.mem_append_right _ (List.mem_singleton.mpr rfl), h⟩
  rw [hx]
  unfold listedStep
  split
  · rename_i h1
    split
    · rename_i h2
      rw [List.mem_append, ih, List.mem_singleton]
      constructor
      · rintro (⟨h3, h4⟩ | h3)
        · exact ⟨h3, .inl h4⟩
        · exact ⟨h3 ▸ h2.1, .inr ⟨h1, h3.symm⟩⟩
      · rintro ⟨h3, h4 | h4⟩
        · exact .inl ⟨h3, h4⟩
        · exact .inr h4.2.symm
    · rename_i h2
      constructor
      · intro h3
        have h4 := ih.mp h3
        exact ⟨h4.1, .inl h4.2⟩
      · rintro ⟨h3, h4 | h4⟩
        · exact ih.mpr ⟨h3, h4⟩
        · have h5 : entL k p m ∈ listedL keys p m after := Classical.byContradiction fun z => h2 ⟨h4.2 ▸ h3, z⟩
          rw [h4.2] at h5
          exact h5
  · rename_i h1
    rw [ih]
    constructor
    · rintro ⟨h3, h4⟩
      exact ⟨h3, .inl h4⟩
    · rintro ⟨h3, h4 | h4⟩
      · exact ⟨h3, h4⟩
      · exact absurd h4.1 h1
theorem foundL_mem (p m e : List Nat) (keys : List (List Nat)) : e ∈ (foundL keys p m).map (·.1) ↔ ∃ k ∈ keys, k.take p.length = p ∧ entL k p m = e := by
  refine snoc_ind (P := fun keys => e ∈ (foundL keys p m).map (·.1) ↔ ∃ k ∈ keys, k.take p.length = p ∧ entL k p m = e) ⟨fun h => (nomatch h), fun ⟨_, h, _⟩ => nomatch h⟩ (fun keys k ih => ?_) keys
  have hx : (∃ j ∈ keys ++ [k], j.take p.length = p ∧ entL j p m = e) ↔ (∃ j ∈ keys, j.take p.length = p ∧ entL j p m = e) ∨ (k.take p.length = p ∧ entL k p m = e) := by
    constructor
    · rintro ⟨j, hj, h⟩
      rcases List.mem_append.mp hj with hj | hj
      · exact .inl ⟨j, hj, h⟩
      · have : j = k := by simpa using hj
        exact .inr (this ▸ h)
    · rintro (⟨j, hj, h⟩ | h)
      · exact ⟨j, List.mem_append_left _ hj, h⟩
      · exact ⟨k, List.mem_append_right _ (List.mem_singleton.mpr rfl), h⟩
  rw [foundL_snoc, hx, S_starts]
  by_cases h1 : k.take p.length = p
  · rw [decide_eq_true h1, if_pos rfl]
    have hk : ∀ x, x ∈ (putG (foundL keys p m) (entL k p m) true).map (·.1) ↔ x ∈ (foundL keys p m).map (·.1) ∨ x = entL k p m := fun x => by
      cases ev : valG (foundL keys p m) (entL k p m) with
      | none => rw [putG_new ev, List.map_append, List.mem_append]; simp
      | some v =>
        rw [keys_putG (by rw [ev]; rfl)]
        refine ⟨.inl, fun h => h.elim id fun h => ?_⟩
        rw [h]
        exact List.mem_map.mpr ⟨_, valG_mem ev, rfl⟩
    rw [hk, ih]
    constructor
    · rintro (h | h)
      · exact .inl h
      · exact .inr ⟨h1, h.symm⟩
    · rintro (h | h)
      · exact .inl h
      · exact .inr h.2.symm
  · rw [decide_eq_false h1, if_neg Bool.false_ne_true, ih]
    exact ⟨.inl, fun h => h.elim id fun h => absurd h.1 h1⟩
theorem foundL_nodup (p m : List Nat) (keys : List (List Nat)) : ((foundL keys p m).map (·.1)).Nodup := by
  refine snoc_ind (P := fun keys => ((foundL keys p m).map (·.1)).Nodup) List.nodup_nil (fun keys k ih => ?_) keys
  rw [foundL_snoc]
  split
  · exact nodup_putG ih
  · exact ih
theorem page_listed (keys : List (List Nat)) (p m after : List Nat) : pageL keys p m after = ssort (listedL keys p m after) := by
  refine riseC_eq ?_ ?_ (ssort_rise _)
  · refine (List.perm_ext_iff_of_nodup ?_ ?_).mpr fun e => ?_
    · exact List.Nodup.sublist List.filter_sublist ((ssort_perm _).nodup_iff.mpr (foundL_nodup p m keys))
    · exact (ssort_perm _).nodup_iff.mpr (listedL_nodup p m after keys)
    · unfold pageL
      rw [List.mem_filter, ssort_mem, ssort_mem, foundL_mem, listedL_mem, decide_eq_true_eq]
      exact ⟨fun h => ⟨h.2, h.1⟩, fun h => ⟨h.2, h.1⟩⟩
  · exact List.Pairwise.sublist List.filter_sublist (ssort_rise _)
theorem page_same {keys ks : List (List Nat)} (h : ∀ k, k ∈ keys ↔ k ∈ ks) (p m after : List Nat) : pageL keys p m after = pageL ks p m after := by
  rw [page_listed, page_listed]
  refine riseC_eq ?_ (ssort_rise _) (ssort_rise _)
  refine ((ssort_perm _).trans ((List.perm_ext_iff_of_nodup (listedL_nodup _ _ _ _) (listedL_nodup _ _ _ _)).mpr fun e => ?_)).trans (ssort_perm _).symm
  rw [listedL_mem, listedL_mem]
  exact ⟨fun ⟨a, k, hk, b⟩ => ⟨a, k, (h k).mp hk, b⟩, fun ⟨a, k, hk, b⟩ => ⟨a, k, (h k).mpr hk, b⟩⟩
theorem listedL_len (p m after : List Nat) (keys : List (List Nat)) : (listedL keys p m after).length ≤ keys.length := by
  refine snoc_ind (P := fun keys => (listedL keys p m after).length ≤ keys.length) (Nat.le_refl _) (fun keys k ih => ?_) keys
  rw [listedL_snoc, List.length_append, List.length_singleton]
  unfold listedStep
  split
  · split
    · rw [List.length_append]; exact Nat.succ_le_succ ih
    · exact Nat.le_succ_of_le ih
  · exact Nat.le_succ_of_le ih
theorem pl_pageD {keys : List (List Nat)} {p m after : List Nat} {most n : Nat} (h64 : keys.length < 64) (h : ∀ e ∈ pageL keys p m after, SOk e) : Pl (pageD keys p m after most) (n + 3) := by
  have hl : (pageL keys p m after).length ≤ 64 := by
    refine Nat.le_trans (List.length_filter_le _ _) ?_
    rw [ssort_len, List.length_map]
    exact Nat.le_trans (foundL_len p m keys) (by omega)
  unfold pageD
  refine pl_tup (by show 2 ≤ 100000; decide) fun d hd => ?_
  simp only [List.mem_cons, List.not_mem_nil, or_false] at hd
  rcases hd with rfl | rfl
  · refine pl_tup (by rw [List.length_map, List.length_take]; omega) fun d hd => ?_
    obtain ⟨e, he, rfl⟩ := List.mem_map.mp hd
    exact pl_str (h e (List.mem_of_mem_take he))
  · exact pl_bl
theorem ent_ok {key p m : List Nat} (h : SOk key) : SOk (entL key p m) := by
  unfold entL
  split
  · exact h
  · split
    · exact h
    · exact SOk.take h
theorem page_ok {keys : List (List Nat)} {p m after : List Nat} (h : ∀ k ∈ keys, SOk k) : ∀ e ∈ pageL keys p m after, SOk e := fun e he => by
  rw [page_listed, ssort_mem, listedL_mem] at he
  obtain ⟨_, k, hk, _, rfl⟩ := he
  exact ent_ok (h k hk)
end AB
namespace XT
open PySem PySem.Spec PyProof.Rows L2 TL
/-! ### more readings: list.extend, str.find of one sign, a dict whose kind the walk chooses -/
open Builtin in
theorem ext_tup (l : Addr) (items : Array Value) (n : Nat) (b : Addr) (items2 : Array Value) (n2 : Nat) (dd : Option Addr) (sl : Array (Option Value)) (hs0 : ¬(!items.isEmpty && Builtin.List.listTooLong (items.size + items2.size)) = true) (hs1 : items.size ≤ sizeLine) (hs2 : items.size + items2.size ≤ sizeLine + 1) :
    Meets (Builtin.«list.extend» ⟨[.ref l, .ref b], []⟩) (fun _ R s => s.heap.get? l = some { cls := .type "list", dict := none, data := .seq items n, slots := #[] } ∧ s.heap.get? b = some { cls := .type "tuple", dict := dd, data := .seq items2 n2, slots := sl } ∧ R (.ok (.ret Value.none)) { s with heap := s.heap.update l (Obj.mapSeq fun x => x ++ items2), toks := s.toks }) :=
  .of_wp fun prog w A R s h => by
    obtain ⟨hp, g, d, tk, os⟩ := s
    obtain ⟨hl, hb, h⟩ := h
    have f1 := PySem.AutoSeq1.idx_int
    have f2 := PySem.AutoSeq1.sub_tuple_tuple
    have f3 := PySem.AutoSeq1.sub_list_list
    have f4 := PySem.AutoSeq1.sub_tuple_list
    have f5 := PySem.AutoSeq1.sub_list_tuple
    have hz : (items ++ items2).size ≤ sizeLine + 1 := by rw [Array.size_append]; exact hs2
    wp_walk using (wpAny_updateSeq hl rfl (hz := hs1) (_hz' := hz)), PySem.AutoSeq1.wpAny_loadPart' hl, PySem.AutoSeq1.wpAny_loadPart' hb
    exact ⟨_, rfl, h⟩
def rExt (K : PySem.W.Frag) : V → List V → Hp → VK → Prop := fun x vs H Q => ∃ l b xs zs, x = .ref l ∧ vs = [.ref b] ∧ H l = some (.lst xs) ∧ (Rd H b (.lst zs) ∨ SqT K H b zs) ∧ xs.length + zs.length ≤ 100000 ∧ Q .non (upd H l (.lst (xs ++ zs)))
theorem small {n : Nat} (h : n ≤ 100000) : n ≤ sizeLine := by rw [sizeLine_eq]; omega
theorem mt_ext {X : Cx} : MtR X "list.extend" (rExt X.K) := by
  intro pins s σ H x vs v us Q I rx rv h
  obtain ⟨l, b, xs, zs, rfl, rfl, hH, hB, hz, q⟩ := h
  cases rx
  obtain ⟨u, rfl, ru⟩ := rv.one
  cases ru
  obtain ⟨z, its, n, r, hl, e⟩ := I.lstM hH
  have fin : ∀ (its2 : List Value), Vals zs its2 → ∀ s2 : Shared, s2 = { s with heap := s.heap.update l (Obj.mapSeq fun x => x ++ its2.toArray), toks := s.toks } → EP X pins σ Q .none s2 := fun its2 r2 s2 e2 => by
    subst e2
    refine ⟨.non, _, I.lset (its' := its ++ its2) hH e (by simp) (r.append r2) ?_, rfl, q⟩
    rw [List.length_append]
    have := small hz
    omega
  have sz : ∀ its2 : List Value, Vals zs its2 → its.toArray.size + its2.toArray.size ≤ sizeLine := fun its2 r2 => by
    have h2 := r2.length
    have := small hz
    rw [List.size_toArray, List.size_toArray]; omega
  have long : ∀ its2 : List Value, Vals zs its2 → ¬ (!its.toArray.isEmpty && Builtin.List.listTooLong (its.toArray.size + its2.toArray.size)) = true := fun its2 r2 => by
    rw [notLongL (sz its2 r2), Bool.and_false]
    exact Bool.false_ne_true
  rcases hB with hB | hB
  · obtain ⟨z2, its2, n2, r2, e2⟩ := hB.ok I.hok
    exact call_meets F.slot_list_extend ⟨_, e, rfl⟩ F.entry_list_extend (F.args_list_extend_2 _ _)
      (AutoSeq1.list_extend_list_list_0 l its.toArray n b its2.toArray n2 (long its2 r2) (by rw [List.size_toArray]; omega) (Nat.le_succ_of_le (sz its2 r2))) ⟨e, e2, fin its2 r2 _ rfl⟩
  · obtain ⟨its2, r2, ⟨o2, e2, hc2, n2, hd2⟩, z2⟩ := I.tuple hB
    obtain ⟨ocls, odict, odata, oslots⟩ := o2
    simp only at hc2 hd2
    subst hc2; subst hd2
    exact call_meets F.slot_list_extend ⟨_, e, rfl⟩ F.entry_list_extend (F.args_list_extend_2 _ _)
      (ext_tup l its.toArray n b its2.toArray n2 odict oslots (long its2 r2) (by rw [List.size_toArray]; omega) (Nat.le_succ_of_le (sz its2 r2))) ⟨e, e2, fin its2 r2 _ rfl⟩
end XT
namespace AB
open PySem PySem.Spec PyProof.Rows L2 TL
/-- the items of a tuple or of a list, frozen or not -/
def asE (θ : Th) : D → Option (List D)
  | .tup ds => some ds
  | d => asR θ d
def fExtend : FM := fun x xs θ k => ∃ n ds d es, x = .obj n ∧ xs = [d] ∧ θ[n]? = some (.lst ds) ∧ asE θ d = some es ∧ ds.length + es.length ≤ 100000 ∧ k .non (θ.set n (.lst (ds ++ es)))
theorem sim_extend {K : PySem.W.Frag} : SimM K fExtend (XT.rExt K) := by
  intro α θ H x xs v vs k Q S rx rs ⟨n, ds, d, es, e1, e2, hn, he, hl, q⟩ lk
  subst e1 e2
  obtain ⟨w, rfl, rd⟩ := rep1 rs
  unfold Rep at rx
  obtain ⟨_, rfl⟩ := rx
  obtain ⟨us, h1, h2⟩ := S.ent n _ hn
  have hd : ∃ b zs, w = .ref b ∧ (Rd H b (.lst zs) ∨ SqT K H b zs) ∧ Reps K H α θ.length es zs := by
    cases d with
    | tup ts =>
      unfold Rep at rd
      obtain ⟨b, zs, rfl, hb, rz⟩ := rd
      cases he
      exact ⟨b, zs, rfl, .inr (SqT.of hb), rz⟩
    | _ =>
      obtain ⟨b, zs, rfl, hb, rz⟩ := asR_rd S rd he
      exact ⟨b, zs, rfl, .inl hb, rz⟩
  obtain ⟨b, zs, rfl, hb, rz⟩ := hd
  refine ⟨α n, b, us, zs, rfl, rfl, h1, hb, by rw [← h2.length, ← rz.length]; exact hl, ?_⟩
  exact ent_set (e' := .lst (ds ++ es)) S hn h1 trivial (fun H' nx e => ⟨_, e, (Reps.mono nx _ _ h2).append (Reps.mono nx _ _ rz)⟩) (d := .non) (by unfold Rep; rfl) q lk
@[reducible] def fFind : FM := fun x xs θ k => ∃ a b, x = .str a ∧ xs = [.str b] ∧ k (.int (Txt.find a b)) θ
theorem sim_find {K : PySem.W.Frag} : SimM K fFind (fun x xs H Q => ∃ a b, x = .str a ∧ xs = [.str b] ∧ Q (.int (Txt.find a b)) H) := by
  intro α θ H x xs v vs k Q S rx rs ⟨a, b, e1, e2, q⟩ lk
  subst e1 e2
  obtain ⟨w, rfl, rd⟩ := rep1 rs
  unfold Rep at rx rd; subst rx rd
  exact ⟨a, b, rfl, rfl, lk.at S (by unfold Rep; rfl) q⟩
section
variable {X : Cx} {W : WX} {o e : Expr} {es : List Expr} {ro : AR} {rs : AAR} {apos cpos pos : Pos}
theorem xm_extend (ho : XE' X W o ro) (ha : XA X W (e :: es) rs)
    (hbase : attributeBase o "extend" X.env (eval o X.env) = eval o X.env := by rfl)
    (hfew : ((backTo cpos (starEach (e :: es) X.env)).all (fun x => !x.1) && (backToKw cpos (keywordEach [] X.env)).all (fun x => x.1.isSome)
      && decide ((e :: es).length + ([] : List Keyword).length + (if ([] : List Keyword).isEmpty then 0 else 1) < 30)) = true := by rfl)
    (hline : (apos.endLine == cpos.line) = true := by rfl) (hs : starEach (e :: es) X.env = (false, eval e X.env) :: starEach es X.env := by rfl) (hplain : (backTo cpos (starEach es X.env)).any (·.1) = false := by rfl) :
    XE' X W (.Call (.Attribute o "extend" apos) (e :: es) [] cpos) (aBM "list" fExtend ro rs) := xe_bm PySem.F.plainAttrs_list PySem.F.slot_list_extend PySem.F.type_list_extend XT.mt_ext sim_extend ho ha hbase hfew hline hs hplain
theorem xm_find (ho : XE' X W o ro) (ha : XA X W (e :: es) rs)
    (hbase : attributeBase o "find" X.env (eval o X.env) = eval o X.env := by rfl)
    (hfew : ((backTo cpos (starEach (e :: es) X.env)).all (fun x => !x.1) && (backToKw cpos (keywordEach [] X.env)).all (fun x => x.1.isSome)
      && decide ((e :: es).length + ([] : List Keyword).length + (if ([] : List Keyword).isEmpty then 0 else 1) < 30)) = true := by rfl)
    (hline : (apos.endLine == cpos.line) = true := by rfl) (hs : starEach (e :: es) X.env = (false, eval e X.env) :: starEach es X.env := by rfl) (hplain : (backTo cpos (starEach es X.env)).any (·.1) = false := by rfl) :
    XE' X W (.Call (.Attribute o "find" apos) (e :: es) [] cpos) (aBM "str" fFind ro rs) := xe_bm PySem.F.plainAttrs_str PySem.F.slot_str_find PySem.F.type_str_find mt_find sim_find ho ha hbase hfew hline hs hplain
/-- {}: the walk chooses which kind of keys -/
def aDicA : AR := fun _ θ k _ => k (.obj θ.length) (θ ++ [.dK []]) ∨ k (.obj θ.length) (θ ++ [.dT []])
theorem xe_dicA : XE' X W (.Dict [] [] pos) aDicA := by
  refine ⟨fun pins s σ H Q I h => ?_⟩
  obtain ⟨α, θ, Γ, k, kx, S, G, q, lk, lx⟩ := h
  rcases q with q | q
  · exact (xe_dicK (X := X) (W := W) (pos := pos)).run pins s σ H Q I ⟨α, θ, Γ, k, kx, S, G, q, lk, lx⟩
  · exact (xe_dicT (X := X) (W := W) (pos := pos)).run pins s σ H Q I ⟨α, θ, Γ, k, kx, S, G, q, lk, lx⟩
end
section
variable {θ θ2 : Th} {k : AK} {n : Nat} {ds es : List D} {d : D}
theorem v_extend (h : θ[n]? = some (.lst ds)) (he : asE θ d = some es) (hl : ds.length + es.length ≤ 100000) (h2 : θ.set n (.lst (ds ++ es)) = θ2) (q : k .non θ2) : fExtend (.obj n) [d] θ k :=
  ⟨n, ds, d, es, rfl, rfl, h, he, hl, by rw [h2]; exact q⟩
theorem asE_obj (h : θ[n]? = some (.lst ds)) : asE θ (.obj n) = some ds := by
  show (match θ[n]? with | some (.lst ds) => some ds | _ => none) = _
  rw [h]
end
theorem find_sign {a : List Nat} {c : Nat} (h : c ∈ a) : Txt.find (S a) (S [c]) = ((upTo c a).length : Nat) := by
  have h0 := find3_pos (a := a) (c := c) (lo := 0) (Nat.zero_le _)
  rw [List.drop_zero, if_pos h, Nat.zero_add] at h0
  exact h0
end AB
namespace AB
open PySem PySem.Spec PyProof.Rows L2 TL
/-! ### a law's book: the same data as a store's, in a dict -/
def kMost : List Nat := [109, 111, 115, 116]
def bkL (n : Nat) (s : Sto) : List (List Nat × D) := [([109, 111, 115, 116], .int s.most), ([100, 97, 121], .int s.today), ([108, 97, 115, 116], .int s.last), ([98, 101, 103, 117, 110], .int s.up.last),
  ([114, 111, 119, 115], .obj (n + 1)), ([104, 101, 108, 100], .obj (n + 2)), ([111, 112, 101, 110], .obj (n + 3)), ([112, 97, 114, 116, 115], .obj (n + 4)), ([108, 111, 103], .obj (n + 5))]
def bkD (n : Nat) (s : Sto) : List (Key × D) := mapG rowsK id (bkL n s)
def mdl (n : Nat) (ix : Int → Nat) (s : Sto) : Th := [.dK (bkD n s), .dK s.sh.rowsD, .dT s.sh.tilD, .dK s.up.opD, .dK (s.up.pcD (n + 6) ix), .lst (logD 1 s.log)]
theorem bk_val {n : Nat} {s : Sto} {key : List Nat} : valG (bkD n s) (Sum.inr (S key)) = valG (bkL n s) key := (valG_map (f := rowsK) (g := id) inj_rows (bkL n s) key).trans (by cases valG (bkL n s) key <;> rfl)
theorem bk_put {n : Nat} {s : Sto} {key : List Nat} {v : D} : putG (bkD n s) (Sum.inr (S key)) v = mapG rowsK id (putG (bkL n s) key v) := putG_map (f := rowsK) (g := id) inj_rows (bkL n s) key v
theorem v_bk {θ : Th} {m n : Nat} {s : Sto} {key : List Nat} {d : D} {k : AK} (h : θ[m]? = some (.dK (bkD n s))) (e : valG (bkL n s) key = some d) (q : k d θ) : fIx (.obj m) (.str (S key)) θ k :=
  v_ixD (by rw [dGet_K (kk := Sum.inr (S key)) h rfl, bk_val, e]) q
section
variable {n : Nat} {ix : Int → Nat} {s s' : Sto} {pre post es : Th} {xs ys : List D}
theorem mdl_snoc : (pre ++ (mdl n ix s ++ post)) ++ es = pre ++ (mdl n ix s ++ (post ++ es)) := by simp only [List.append_assoc]
theorem mdl_nil : pre ++ mdl n ix s = pre ++ (mdl n ix s ++ []) := by rw [List.append_nil]
theorem mdl_len : (mdl n ix s).length = 6 := rfl
theorem mdl_get [h : Len pre n] (j : Nat) : (pre ++ (mdl n ix s ++ post))[n + 6 + j]? = post[j]? := by
  rw [Nat.add_assoc, ga, Nat.add_comm 6 j]
  rfl
theorem mdl_set [h : Len pre n] (j : Nat) (x : Ent) : (pre ++ (mdl n ix s ++ post)).set (n + 6 + j) x = pre ++ (mdl n ix s ++ post.set j x) := by
  rw [Nat.add_assoc, sa, Nat.add_comm 6 j]
  rfl
theorem mdl_0 [h : Len pre n] : (pre ++ (mdl n ix s ++ post))[n]? = some (.dK (bkD n s)) := by rw [ga0]; rfl
theorem mdl_1 [h : Len pre n] : (pre ++ (mdl n ix s ++ post))[n + 1]? = some (.dK s.sh.rowsD) := by rw [ga]; rfl
theorem mdl_2 [h : Len pre n] : (pre ++ (mdl n ix s ++ post))[n + 2]? = some (.dT s.sh.tilD) := by rw [ga]; rfl
theorem mdl_3 [h : Len pre n] : (pre ++ (mdl n ix s ++ post))[n + 3]? = some (.dK s.up.opD) := by rw [ga]; rfl
theorem mdl_4 [h : Len pre n] : (pre ++ (mdl n ix s ++ post))[n + 4]? = some (.dK (s.up.pcD (n + 6) ix)) := by rw [ga]; rfl
theorem mdl_5 [h : Len pre n] : (pre ++ (mdl n ix s ++ post))[n + 5]? = some (.lst (logD 1 s.log)) := by rw [ga]; rfl
/-- one of the book's numbers is put -/
theorem bkS {nx : AB.G → Th → Prop} {Γ : AB.G} {key : List Nat} {v : D} [h : Len pre n] (e : putG (bkL n s) key v = bkL n s') (e1 : s'.sh = s.sh) (e2 : s'.up.op = s.up.op) (e3 : s'.up.pc = s.up.pc) (e4 : s'.log = s.log) (q : nx Γ (pre ++ (mdl n ix s' ++ post))) :
    ∃ n' E E', D.obj n = .obj n' ∧ (pre ++ (mdl n ix s ++ post))[n']? = some E ∧ (∀ xs, E ≠ .lst xs) ∧ dPutE E (.str (S key)) v = some E' ∧ nx Γ ((pre ++ (mdl n ix s ++ post)).set n' E') := by
  refine ⟨n, _, _, rfl, mdl_0, (fun _ z => nomatch z), dPutE_K (kk := Sum.inr (S key)) (by show (9 : Nat) < 100000; decide) rfl, ?_⟩
  rw [sa0]
  have he : mdl n ix s' = .dK (putG (bkD n s) (Sum.inr (S key)) v) :: [.dK s.sh.rowsD, .dT s.sh.tilD, .dK s.up.opD, .dK (s.up.pcD (n + 6) ix), .lst (logD 1 s.log)] := by
    unfold mdl
    rw [bk_put, e, e1, e4]
    unfold Up.opD Up.pcD Up.pcA
    rw [e2, e3]
    rfl
  rw [he] at q
  exact q
end
section
variable {n : Nat} {ix : Int → Nat} {s : Sto} {pre post : Th}
theorem mdl_rows [h : Len pre n] (key : List Nat) (rs : List Rw) : (pre ++ (mdl n ix s ++ post)).set (n + 1) (.dK (putG s.sh.rowsD (Sum.inr (S key)) (.lst (rs.map Rw.d)))) = pre ++ (mdl n ix { s with sh := ⟨putG s.sh.rows key rs, s.sh.til⟩ } ++ post) := by
  have e : putG s.sh.rowsD (Sum.inr (S key)) (.lst (rs.map Rw.d)) = mapG rowsK rowsV (putG s.sh.rows key rs) := shl_put (s := s.sh) key rs
  rw [e, sa]
  rfl
theorem mdl_tilp [h : Len pre n] (key : List Nat) (v u : Int) : (pre ++ (mdl n ix s ++ post)).set (n + 2) (.dT (putG s.sh.tilD [Sum.inr (S key), Sum.inl v] (.int u))) = pre ++ (mdl n ix { s with sh := ⟨s.sh.rows, putG s.sh.til (key, v) u⟩ } ++ post) := by
  rw [til_put, sa]
  rfl
theorem mdl_tild [h : Len pre n] (key : List Nat) (v : Int) : (pre ++ (mdl n ix s ++ post)).set (n + 2) (.dT (dropG s.sh.tilD [Sum.inr (S key), Sum.inl v])) = pre ++ (mdl n ix { s with sh := ⟨s.sh.rows, dropG s.sh.til (key, v)⟩ } ++ post) := by
  rw [til_drop, sa]
  rfl
theorem mdl_log [h : Len pre n] (c : Ch) : (pre ++ (mdl n ix s ++ post)).set (n + 5) (.lst (logD 1 s.log ++ [.tup (.int (((s.log.length : Nat) : Int) + 1) :: c.body)])) = pre ++ (mdl n ix { s with log := s.log ++ [c] } ++ post) := by
  have e : logD 1 (s.log ++ [c]) = logD 1 s.log ++ [.tup (.int (((s.log.length : Nat) : Int) + 1) :: c.body)] := by
    rw [logD_app, show (1 : Nat) + s.log.length = s.log.length + 1 from Nat.add_comm _ _]
    rfl
  rw [sa]
  show pre ++ (_ :: _ :: _ :: _ :: _ :: _ :: _) = _
  unfold mdl
  rw [show ({ s with log := s.log ++ [c] } : Sto).log = s.log ++ [c] from rfl, e]
  rfl
end
theorem v_putAt {nx : AB.G → Th → Prop} {Γ : AB.G} {θ es : Th} {e e' : Ent} {y v : D} (hx : ∀ xs, e ≠ .lst xs) (hp : dPutE e y v = some e') (q : nx Γ (θ ++ e' :: es)) :
    ∃ n' E E', D.obj θ.length = .obj n' ∧ (θ ++ e :: es)[n']? = some E ∧ (∀ xs, E ≠ .lst xs) ∧ dPutE E y v = some E' ∧ nx Γ ((θ ++ e :: es).set n' E') := by
  refine ⟨θ.length, e, e', rfl, ?_, hx, hp, ?_⟩
  · rw [List.getElem?_append_right (Nat.le_refl _), Nat.sub_self]; rfl
  · rw [List.set_append_right _ _ (Nat.le_refl _), Nat.sub_self]
    exact q
theorem bkput {m : List (List Nat × D)} {key : List Nat} {v : D} : putG (mapG rowsK id m) (Sum.inr (S key)) v = mapG rowsK id (putG m key v) := putG_map (f := rowsK) (g := id) inj_rows m key v
def keys4 (c : Int) : List (List Nat) := (List.range 4).map fun j => keyZ (c + 11 * (0 + (j : Nat)))
/-- the book's parts of an open upload -/
theorem mdl_part {n : Nat} {ix : Int → Nat} {s : Sto} {pre post : Th} {b : Nat} {i : Int} {p : List (Int × List Nat)} [h : Len pre n] (F : s.up.Fine ix post b) (hp : valG s.up.pc i = some p) : (pre ++ (mdl n ix s ++ post))[n + 6 + ix i]? = some (.dK (partD p)) := by
  rw [mdl_get]
  exact F.pt _ (valG_mem hp)
end AB
/-! sets of whole numbers and of texts, made of a list or a tuple; sorted(set(..)) -/
namespace SK
open PySem PySem.Spec PyProof.Rows L2
def bk : Value → Key
  | .int k _ => Sum.inl k
  | .str x _ => Sum.inr x
  | _ => Sum.inl 0
theorem bk_rel {k : Key} {v : Value} (r : RelV (kV k) v) : bk v = k := by
  cases k with
  | inl i => obtain ⟨t, rfl⟩ := r; rfl
  | inr x => obtain ⟨t, rfl⟩ := r; rfl
def Gd (w : World) (e : Int × Value) : Prop := ∃ k : Key, RelV (kV k) e.2 ∧ e.1 = keyH w k
def kOf (e : Int × Value) : Key := bk e.2
section
variable {P : Program} {w : World}
theorem gd_is {e : Int × Value} (g : Gd w e) (k : Key) : (mixKind P w).is k e.2 = true ↔ kOf e = k := by
  obtain ⟨j, r, _⟩ := g
  have hj : kOf e = j := bk_rel r
  rw [hj]
  refine ⟨fun h => (mixKind P w).inj _ _ _ (kV_is r) h, fun h => ?_⟩
  subst h
  exact kV_is r
theorem gd_mem {l : List (Int × Value)} (g : ∀ e ∈ l, Gd w e) (k : Key) : k ∈ l.map kOf ↔ ∃ e ∈ l, (mixKind P w).is k e.2 = true := by
  refine ⟨fun z => ?_, fun ⟨e, he, q⟩ => List.mem_map.mpr ⟨e, he, (gd_is (P := P) (g e he) k).mp q⟩⟩
  obtain ⟨e, he, q⟩ := List.mem_map.mp z
  exact ⟨e, he, (gd_is (P := P) (g e he) k).mpr q⟩
theorem gd_elems {l : List (Int × Value)} (g : ∀ e ∈ l, Gd w e) : ElemsOf (mixKind P w) l := fun e he => by
  obtain ⟨k, r, h⟩ := g e he
  exact ⟨⟨k, kV_is r, h⟩, key_scan r⟩
/-- what is told of the entries and the table of a set made of ks -/
structure In (w : World) (ks : List Key) (es : Array (Int × Value)) (t : SetTable) : Prop where
  g : ∀ e ∈ es.toList, Gd w e
  nd : (es.toList.map kOf).Nodup
  m : ∀ k, k ∈ es.toList.map kOf ↔ k ∈ ks
  b : es.size < scanBound
  n : es.size ≤ ks.length
  f : t.fits es.size = true
  r : Ris t.place.toList
  l : w.params.followText "set-order" = true ∨ t.led = true
def Is (w : World) (ks : List Key) (h : Heap) (a : Addr) : Prop := ∃ o es ep t, h.get? a = some o ∧ o.ExactSet ∧ o.data = .set es ep t ∧ In w ks es t
theorem Is.at {ks : List Key} {h h' : Heap} {a : Addr} (R : Is w ks h a) (k : ∀ o, h.get? a = some o → h'.get? a = some o) : Is w ks h' a := by
  obtain ⟨o, es, ep, t, ho, r⟩ := R
  exact ⟨o, es, ep, t, k o ho, r⟩
section
variable {A : Around} {E : Value → Shared → Prop} {s : Shared} {a : Addr}
theorem add_tail {ks : List Key} {gv : Bool → Sem Unit} (hgv : ∀ (b : Bool) (s1 : Shared) (Q1 : Unit → Shared → Prop), Q1 () s1 → wpAny (model P w) A (gv b) Q1 E s1)
    {o : Obj} {es es1 : Array (Int × Value)} {ep : Nat} {t t2 : SetTable} (ho : s.heap.get? a = some o) (hex : o.ExactSet) (hd : o.data = .set es ep t) (I1 : In w ks es1 t2) {dummy : Bool} {R : Option Bool → Shared → Prop}
    (hR : ∀ h', Heap.SameBut a s.heap h' → Is w ks h' a → R (some true) { s with heap := h' }) :
    wpAny (model P w) A (do
      storeSet a es1 t2
      if (!dummy && t2.tooFull) = true then do
        gv (relayAll t2 es1 (SetTable.grown es1.size)).2.2
        storeSet a (relayAll t2 es1 (SetTable.grown es1.size)).1 (relayAll t2 es1 (SetTable.grown es1.size)).2.1
        pure (some true)
      else pure (some true)) R E s := by
  refine wpAny_bind (wpAny_storeSet_of ho hd ?_ (fits_of_scanBound I1.b))
  have ho1 := store_at (es' := es1) (t' := t2) ho hd
  have sb := Heap.SameBut.update s.heap a (Obj.putSet es1 t2)
  by_cases hc : (!dummy && t2.tooFull) = true
  · rw [if_pos hc]
    have z1 := relayAll_perm t2 es1 (SetTable.grown es1.size)
    have z2 := relayAll_fits t2 es1 (SetTable.grown es1.size)
    have z3 := relayAll_ris t2 es1 (SetTable.grown es1.size)
    have z4 := relayAll_led t2 es1 (SetTable.grown es1.size)
    generalize relayAll t2 es1 (SetTable.grown es1.size) = Z at z1 z2 z3 z4 ⊢
    obtain ⟨es2, t3, gave⟩ := Z
    dsimp only at z1 z2 z3 z4 ⊢
    have zl : es2.size = es1.size := by
      have := z1.length_eq
      rw [Array.length_toList, Array.length_toList] at this
      exact this
    refine wpAny_bind (hgv _ _ _ (wpAny_bind (wpAny_storeSet_of ho1 rfl ?_ (fits_of_scanBound (by rw [zl]; exact I1.b)))))
    exact wpAny_pure (hR _ (sb.trans (Heap.SameBut.update _ a _)) ⟨_, es2, _, t3, store_at (es' := es2) (t' := t3) ho1 rfl, hex, rfl,
      { g := fun e he => I1.g e (z1.mem_iff.mp he), nd := (z1.map kOf).nodup_iff.mpr I1.nd, m := fun k => (z1.map kOf).mem_iff.trans (I1.m k), b := by rw [zl]; exact I1.b, n := by rw [zl]; exact I1.n, f := z2, r := z3, l := I1.l.imp id fun z => by rw [z4]; exact z }⟩)
  · rw [if_neg hc]
    exact wpAny_pure (hR _ sb ⟨_, es1, _, t2, ho1, hex, rfl, I1⟩)
theorem add_key {ks : List Key} {k : Key} {v : Value} (rv : RelV (kV k) v) {Q : Bool → Shared → Prop} (R : Is w ks s.heap a) (room : ks.length + 1 < scanBound)
    (hQ : ∀ (b : Bool) (h' : Heap), Heap.SameBut a s.heap h' → Is w (ks ++ [k]) h' a → Q b { s with heap := h' }) :
    wpAny (model P w) A (setAddHashed a v ((mixKind P w).hash k)) Q E s := by
  obtain ⟨o, es, ep, t, ho, hex, hd, I0⟩ := R
  have hkey : (mixKind P w).is k v = true := kV_is rv
  have hsc := key_scan rv
  have hel : ElemsOf (mixKind P w) es.toList := gd_elems I0.g
  unfold setAddHashed setAddHashedIn
  refine wpAny_holding (wpAny_bind (wpAny_setState_of ho hd I0.f ?_))
  dsimp only
  rw [byScan_of hsc I0.b hel]
  simp only [↓reduceIte]
  unfold setAddByScan
  refine wpAny_bind (wpAny_bind (wpAny_rule (wpAny_bind (wpAny_setScan_of hkey ho hd I0.f hel ?_))))
  cases hfi : List.findIdx? (fun e => (mixKind P w).is k e.2) es.toList with
  | some j =>
    dsimp only
    obtain ⟨hj, pj, _⟩ := List.findIdx?_eq_some_iff_getElem.mp hfi
    have hin : k ∈ ks := (I0.m k).mp ((gd_mem (P := P) I0.g k).mpr ⟨es.toList[j], List.getElem_mem hj, pj⟩)
    refine wpAny_pure (wpAny_pure (hQ _ s.heap (Heap.SameBut.refl a s.heap) ⟨o, es, ep, t, ho, hex, hd, { I0 with m := fun i => ?_, n := ?_ }⟩))
    · rw [I0.m i, List.mem_append, List.mem_singleton]
      exact ⟨.inl, fun z => z.elim id fun e => e ▸ hin⟩
    · rw [List.length_append]
      exact Nat.le_add_right_of_le I0.n
  | none =>
    dsimp only
    have hno : k ∉ es.toList.map kOf := fun z => by
      obtain ⟨e, he, q⟩ := (gd_mem (P := P) I0.g k).mp z
      have c := List.findIdx?_eq_none_iff.mp hfi e he
      rw [q] at c
      exact nomatch c
    have hgv : ∀ (b : Bool) {s1 : Shared} {Q1 : Unit → Shared → Prop}, Q1 () s1 → wpAny (model P w) A (match b with | true => rule "set.scan.the-table-gave-way" | false => pure ()) Q1 E s1 :=
      fun b s1 Q1 q => by cases b <;> first | exact wpAny_pure q | exact wpAny_rule q
    have z1 := layNew_perm t es ((mixKind P w).hash k) v
    have z2 := layNew_fits t es ((mixKind P w).hash k) v
    have z3 := layNew_ris t es ((mixKind P w).hash k) v I0.r
    have z4 := layNew_led t es ((mixKind P w).hash k) v
    generalize layNew t es ((mixKind P w).hash k) v = Z at z1 z2 z3 z4 ⊢
    obtain ⟨es1, t1, dummy, gave⟩ := Z
    dsimp only at z1 z2 z3 z4 ⊢
    rw [Array.toList_push] at z1
    have pc : es1.toList.Perm (((mixKind P w).hash k, v) :: es.toList) := z1.trans (List.perm_append_singleton _ _)
    have pk : (es1.toList.map kOf).Perm (k :: es.toList.map kOf) := by
      have := pc.map kOf
      rw [List.map_cons, show kOf ((mixKind P w).hash k, v) = k from bk_rel rv] at this
      exact this
    have hsz : es1.size = es.size + 1 := by
      have := pc.length_eq
      rw [List.length_cons, Array.length_toList, Array.length_toList] at this
      exact this
    have hn := I0.n
    have mk : ∀ t9 : SetTable, t9.fits es1.size = true → Ris t9.place.toList → (w.params.followText "set-order" = true ∨ t9.led = true) → In w (ks ++ [k]) es1 t9 := fun t9 f9 r9 l9 =>
      { g := fun e he => by
          rcases List.mem_cons.mp (pc.mem_iff.mp he) with z | z
          · rw [z]; exact ⟨k, rv, rfl⟩
          · exact I0.g e z
        nd := pk.nodup_iff.mpr (List.nodup_cons.mpr ⟨hno, I0.nd⟩)
        m := fun i => by
          rw [pk.mem_iff, List.mem_cons, I0.m i, List.mem_append, List.mem_singleton]
          exact Or.comm
        b := by omega
        n := by rw [List.length_append, List.length_singleton]; omega
        f := f9, r := r9, l := l9 }
    have hled : w.params.followText "set-order" = true ∨ t1.led = true := I0.l.imp id fun z => by rw [z4]; exact z
    refine wpAny_bind (hgv _ ?_)
    split
    · refine wpAny_bind ?_
      rw [hashByValue_scannable 8 hsc]
      refine wpAny_pure (add_tail (ks := ks ++ [k]) (fun b s1 Q1 q => by cases b <;> first | exact wpAny_pure q | exact wpAny_rule q) ho hex hd (mk _ ?_ ?_ ?_) fun h' sb r => ?_)
      · first | (split <;> first | exact z2 | exact SetTable.fits_plain_off z2) | exact z2
      · first | (split <;> exact z3) | exact z3
      · first | (split <;> exact hled) | exact hled
      · dsimp only; exact wpAny_pure (hQ _ h' sb r)
    · refine wpAny_bind (wpAny_pure ?_)
      simp only [↓reduceIte]
      refine add_tail (ks := ks ++ [k]) (fun b s1 Q1 q => by cases b <;> first | exact wpAny_pure q | exact wpAny_rule q) ho hex hd (mk _ z2 z3 hled) fun h' sb r => ?_
      dsimp only; exact wpAny_pure (hQ _ h' sb r)
abbrev new0 (w : World) : Obj := { cls := .type "set", dict := none, data := .set #[] 0 (.fresh 0 0 (!w.params.followText "set-order")) }
theorem led0 : w.params.followText "set-order" = true ∨ (SetTable.fresh 0 0 !w.params.followText "set-order").led = true := by
  show _ ∨ (!w.params.followText "set-order") = true
  cases w.params.followText "set-order"
  · exact .inr rfl
  · exact .inl rfl
theorem is_new {h : Heap} (ho : h.get? a = some (new0 w)) : Is w [] h a :=
  ⟨_, #[], 0, _, ho, ⟨rfl, rfl, rfl⟩, rfl, { g := fun e he => by simp at he, nd := by simp, m := fun k => by simp, b := by decide, n := Nat.le_refl 0, f := by rfl, r := List.Pairwise.nil, l := led0 }⟩
theorem fill {I : Addr} {fp wr : List Addr} {G : Array GenState → Array GenState → Prop} {n : Nat} {Pv : Nat → Value → Prop} {St : Nat → Shared → Prop} {R : Result → Shared → Prop}
    (W : WalksS P w A.in1 I fp wr G n Pv St) (T : Addr) (hT : T ∉ fp) (ks : List Key) (hn : n = ks.length) (hb : ks.length + 1 < scanBound) (hval : ∀ i v, Pv i v → ∃ k, ks[i]? = some k ∧ RelV (kV k) v) :
    ∀ (m i : Nat) (s : Shared), n - i = m → i ≤ n → St i s → Is w (ks.take i) s.heap T → (∀ s', Moved (T :: wr) G s s' → Is w ks s'.heap T → R (.ok (.ret .none)) s') →
      codeAny (model P w) A (.builtin "set.update.loop" ⟨[.ref T, .ref I], []⟩) R s := by
  have hTw : T ∉ wr := fun h => hT (W.sub _ h)
  have hsub : ∀ b ∈ wr, b ∈ T :: wr := fun b hb => List.mem_cons_of_mem _ hb
  intro m
  induction m with
  | zero =>
    intro i s hm hi hst hS hR
    have hin : i = n := by omega
    subst hin
    refine codeAny_builtin F.entry_set_update_loop ?_
    rw [Around.under_plainId F.plain_set_update_loop _]
    show wpAny _ A.in1 (pyNext (.ref I) >>= _) _ _ s
    refine wpAny_bind (W.done s _ _ hst fun s' hm => ?_)
    show wpAny _ A.in1 (ret Value.none) _ _ s'
    rw [List.take_of_length_le (by omega)] at hS
    exact wpAny_pure (hR s' (hm.mono hsub) (hS.at fun o e => hm.heap T o hTw e))
  | succ m ih =>
    intro i s hm hi hst hS hR
    have hlt : i < n := by omega
    refine codeAny_builtin F.entry_set_update_loop ?_
    rw [Around.under_plainId F.plain_set_update_loop _]
    show wpAny _ A.in1 (pyNext (.ref I) >>= _) _ _ s
    refine wpAny_bind (W.item i s _ _ hlt hst fun v s' hP hst' hmv => ?_)
    obtain ⟨k, hk, rv⟩ := hval i v hP
    have hS' : Is w (ks.take i) s'.heap T := hS.at fun o e => hmv.heap T o hTw e
    show wpAny _ A.in1 (holding [v] (setAdd T v) >>= _) _ _ s'
    refine wpAny_bind (wpAny_holding ?_)
    unfold setAdd
    refine wpAny_holding (wpAny_bind ((mixKind P w).pyHash (k := k) (kV_is rv) ?_))
    refine add_key (s := { s' with toks := s'.toks + 1 }) rv hS' (by rw [List.length_take]; omega) fun b h' hsb hS2 => ?_
    have e : ks.take (i + 1) = ks.take i ++ [k] := by rw [List.take_add_one, hk]; rfl
    rw [← e] at hS2
    refine wpAny_pure ⟨plainId_quiet F.plain_set_update_loop _, ih (i + 1) _ (by omega) hlt (W.frame _ s' _ _ hst' (Nat.le_succ _) fun b hb o e => ?_) hS2 fun s'' hm'' hS'' => ?_⟩
    · rw [hsb.2 b (fun h : b = T => hT (by rw [← h]; exact hb))]; exact e
    · refine hR s'' (Moved.trans W.gtrans ((hmv.mono hsub).then_heap (Nat.le_succ _) fun b o hb e => ?_) hm'') hS''
      rw [hsb.2 b (fun h : b = T => hb (by rw [h]; exact List.mem_cons_self))]; exact e
set_option maxRecDepth 100000 in
set_option maxHeartbeats 3200000 in
theorem of_tuple {l : Addr} {items : Array Value} {ks : List Key} {Q : Value → Shared → Prop} (hh : A.handled = none) (hl : s.heap.IsTuple l items) (hz : items.size = ks.length) (hit : ∀ (i : Nat) (v : Value), items[i]? = some v → ∃ k, ks[i]? = some k ∧ RelV (kV k) v) (hb : ks.length + 1 < scanBound)
    (h : ∀ (h' : Heap) (tk : Nat), Is w ks h' s.heap.objs.size → (∀ b o, s.heap.get? b = some o → h'.get? b = some o) → Q (.ref s.heap.objs.size) { s with heap := h', toks := tk }) :
    wpAny (model P w) A (call (.type "set") [.ref l]) Q E s := by
  obtain ⟨c, tl, hmro⟩ := F.called_set.mro
  have hmade := F.called_set.made
  have hsub := F.called_set.sub
  refine wpAny_call (codeAny_of_tree ?_)
  show wpAny _ _ (callAny (.type "set") _) _ _ _
  refine wpAny_pure ⟨Code.quiet_builtin _ (by decide +kernel), codeAny_builtin F.entry_type_call ?_⟩
  rw [Around.under_plain (weight_type_call_type "set" [.ref l] []) rfl]
  have h1 := F.called_set.notType
  have h2 := F.called_set.canCreate
  have hct := F.typeCall_set_1 (.ref l)
  repeat (any_goals (first | assumption | wp_step))
  refine codeAny_mono (code_set_led1 (.ref l) (E := E) (Q₁ := fun obj s1 => obj = .ref s.heap.objs.size ∧ s1 = { s with heap := s.heap.push (new0 w) }) ⟨rfl, rfl⟩) fun r s1 hr => ?_
  cases r with
  | error e => exact hr
  | ok fl =>
    cases fl with
    | ret obj =>
      obtain ⟨rfl, rfl⟩ := hr
      have hS : (s.heap.push (new0 w)).get? s.heap.objs.size = some (new0 w) := Heap.get?_push_size _ rfl
      have hT : Shared.TypeIs { s with heap := s.heap.push (new0 w) } (.ref s.heap.objs.size) "set" := ⟨_, hS, rfl⟩
      have hli := F.called_set.init.lookup
      have hbi := F.called_set.init.bind (.ref s.heap.objs.size)
      repeat (any_goals (first | assumption | wp_step))
      refine codeAny_mono (codeAny_call_builtin (R := wants (fun r s2 => r = .none ∧ ∃ h' tk, s2 = { s with heap := h', toks := tk } ∧ Is w ks h' s.heap.objs.size ∧ (∀ b o, s.heap.get? b = some o → h'.get? b = some o)) E) F.called_set.init.plain F.entry_set_init (check_set_init_1 hT ?_)) fun r2 s2 hr2 => ?_
      · obtain ⟨⟨ocls, odict, odata, oslots⟩, hol, hcl, nl, hdl⟩ := hl
        simp only at hcl hdl
        subst hcl; subst hdl
        have hol' : (s.heap.push (new0 w)).get? l = some { cls := .type "tuple", dict := odict, data := .seq items nl, slots := oslots } := Heap.get?_push_of_some _ hol
        have hsls := F.sub_tuple_set
        have hslf := F.sub_tuple_frozenset
        have hne : (Value.type "tuple" == Value.type "dict") = false := by decide
        have hl1 : (s.heap.push (new0 w)).IsTuple l items := ⟨_, hol', rfl, nl, rfl⟩
        unfold Builtin.«set.__init__» noKeywords Builtin.Frozenset.updateFrom
        generalize hPI : pyIter = PI
        wp_walk
        subst hPI
        refine wpAny_pyIter_tuple hl1 ?_
        refine wpAny_bind (wpAny_runValue ?_)
        have hlS : l < s.heap.objs.size := Heap.lt_size hol
        have hh3 : A.in1.in1.in1.handled = none := by simp [hh]
        have hsz1 : (s.heap.push (new0 w)).objs.size = s.heap.objs.size + 1 := Heap.size_push ..
        have hneI : l ≠ (s.heap.push (new0 w)).objs.size := by rw [hsz1]; exact Nat.ne_of_lt (Nat.lt_succ_of_lt hlS)
        have hTf : s.heap.objs.size ∉ [(s.heap.push (new0 w)).objs.size, l] := by
          rw [hsz1]; simp only [List.mem_cons, List.not_mem_nil, or_false, not_or]
          exact ⟨Nat.ne_of_lt (Nat.lt_succ_self _), Nat.ne_of_gt hlS⟩
        refine fill ((Walks.tuple hh3 _ l hneI items).toS) s.heap.objs.size hTf ks hz hb hit (items.size - 0) 0 _ (by omega) (Nat.zero_le _)
          ⟨⟨_, Heap.get?_push_size _ rfl, rfl, rfl⟩, (hl1.push _)⟩ (is_new (Heap.get?_push_of_some _ hS)) fun s' hm hS' => ?_
        obtain ⟨h', g2, d', tk', os'⟩ := s'
        have eg : g2 = s.gens := hm.gens
        have ed : d' = s.drawn := hm.drawn
        have eo : os' = s.os := hm.os
        subst eg; subst ed; subst eo
        show wpAny _ _ _ _ _ _
        refine wpAny_pure ?_
        show wpAny _ _ (ret Value.none) _ _ _
        refine wpAny_pure ⟨rfl, h', tk', rfl, hS', fun b o e => ?_⟩
        have hb0 : b < s.heap.objs.size := Heap.lt_size e
        exact hm.heap b o (by simp only [List.mem_cons, List.not_mem_nil, or_false, not_or]; exact ⟨Nat.ne_of_lt hb0, by rw [hsz1]; exact Nat.ne_of_lt (Nat.lt_succ_of_lt hb0)⟩) (Heap.get?_push_of_some _ (Heap.get?_push_of_some _ e))
      · cases r2 with
        | error e => exact hr2
        | ok fl2 =>
          cases fl2 with
          | ret r =>
            obtain ⟨rfl, h', tk, rfl, hS', hk'⟩ := hr2
            repeat (any_goals (first | assumption | wp_step))
            exact h _ _ hS' hk'
          | _ => exact hr2.elim
    | _ => exact hr.elim
set_option maxRecDepth 100000 in
set_option maxHeartbeats 3200000 in
theorem of_list {l : Addr} {items : Array Value} {ks : List Key} {Q : Value → Shared → Prop} (hh : A.handled = none) (hl : s.heap.IsList l items) (hz : items.size = ks.length) (hit : ∀ (i : Nat) (v : Value), items[i]? = some v → ∃ k, ks[i]? = some k ∧ RelV (kV k) v) (hb : ks.length + 1 < scanBound)
    (h : ∀ (h' : Heap) (tk : Nat), Is w ks h' s.heap.objs.size → (∀ b o, s.heap.get? b = some o → h'.get? b = some o) → Q (.ref s.heap.objs.size) { s with heap := h', toks := tk }) :
    wpAny (model P w) A (call (.type "set") [.ref l]) Q E s := by
  obtain ⟨c, tl, hmro⟩ := F.called_set.mro
  have hmade := F.called_set.made
  have hsub := F.called_set.sub
  refine wpAny_call (codeAny_of_tree ?_)
  show wpAny _ _ (callAny (.type "set") _) _ _ _
  refine wpAny_pure ⟨Code.quiet_builtin _ (by decide +kernel), codeAny_builtin F.entry_type_call ?_⟩
  rw [Around.under_plain (weight_type_call_type "set" [.ref l] []) rfl]
  have h1 := F.called_set.notType
  have h2 := F.called_set.canCreate
  have hct := F.typeCall_set_1 (.ref l)
  repeat (any_goals (first | assumption | wp_step))
  refine codeAny_mono (code_set_led1 (.ref l) (E := E) (Q₁ := fun obj s1 => obj = .ref s.heap.objs.size ∧ s1 = { s with heap := s.heap.push (new0 w) }) ⟨rfl, rfl⟩) fun r s1 hr => ?_
  cases r with
  | error e => exact hr
  | ok fl =>
    cases fl with
    | ret obj =>
      obtain ⟨rfl, rfl⟩ := hr
      have hS : (s.heap.push (new0 w)).get? s.heap.objs.size = some (new0 w) := Heap.get?_push_size _ rfl
      have hT : Shared.TypeIs { s with heap := s.heap.push (new0 w) } (.ref s.heap.objs.size) "set" := ⟨_, hS, rfl⟩
      have hli := F.called_set.init.lookup
      have hbi := F.called_set.init.bind (.ref s.heap.objs.size)
      repeat (any_goals (first | assumption | wp_step))
      refine codeAny_mono (codeAny_call_builtin (R := wants (fun r s2 => r = .none ∧ ∃ h' tk, s2 = { s with heap := h', toks := tk } ∧ Is w ks h' s.heap.objs.size ∧ (∀ b o, s.heap.get? b = some o → h'.get? b = some o)) E) F.called_set.init.plain F.entry_set_init (check_set_init_1 hT ?_)) fun r2 s2 hr2 => ?_
      · obtain ⟨⟨ocls, odict, odata, oslots⟩, hol, hcl, nl, hdl⟩ := hl
        simp only at hcl hdl
        subst hcl; subst hdl
        have hol' : (s.heap.push (new0 w)).get? l = some { cls := .type "list", dict := odict, data := .seq items nl, slots := oslots } := Heap.get?_push_of_some _ hol
        have hsls := F.sub_list_set
        have hslf := F.sub_list_frozenset
        have hne : (Value.type "list" == Value.type "dict") = false := by decide
        have hl1 : (s.heap.push (new0 w)).IsList l items := ⟨_, hol', rfl, nl, rfl⟩
        unfold Builtin.«set.__init__» noKeywords Builtin.Frozenset.updateFrom
        generalize hPI : pyIter = PI
        wp_walk
        subst hPI
        refine wpAny_pyIter_list hl1 ?_
        refine wpAny_bind (wpAny_runValue ?_)
        have hlS : l < s.heap.objs.size := Heap.lt_size hol
        have hh3 : A.in1.in1.in1.handled = none := by simp [hh]
        have hsz1 : (s.heap.push (new0 w)).objs.size = s.heap.objs.size + 1 := Heap.size_push ..
        have hneI : l ≠ (s.heap.push (new0 w)).objs.size := by rw [hsz1]; exact Nat.ne_of_lt (Nat.lt_succ_of_lt hlS)
        have hTf : s.heap.objs.size ∉ [(s.heap.push (new0 w)).objs.size, l] := by
          rw [hsz1]; simp only [List.mem_cons, List.not_mem_nil, or_false, not_or]
          exact ⟨Nat.ne_of_lt (Nat.lt_succ_self _), Nat.ne_of_gt hlS⟩
        refine fill ((Walks.list hh3 _ l hneI items).toS) s.heap.objs.size hTf ks hz hb hit (items.size - 0) 0 _ (by omega) (Nat.zero_le _)
          ⟨⟨_, Heap.get?_push_size _ rfl, rfl, rfl⟩, (hl1.push _)⟩ (is_new (Heap.get?_push_of_some _ hS)) fun s' hm hS' => ?_
        obtain ⟨h', g2, d', tk', os'⟩ := s'
        have eg : g2 = s.gens := hm.gens
        have ed : d' = s.drawn := hm.drawn
        have eo : os' = s.os := hm.os
        subst eg; subst ed; subst eo
        show wpAny _ _ _ _ _ _
        refine wpAny_pure ?_
        show wpAny _ _ (ret Value.none) _ _ _
        refine wpAny_pure ⟨rfl, h', tk', rfl, hS', fun b o e => ?_⟩
        have hb0 : b < s.heap.objs.size := Heap.lt_size e
        exact hm.heap b o (by simp only [List.mem_cons, List.not_mem_nil, or_false, not_or]; exact ⟨Nat.ne_of_lt hb0, by rw [hsz1]; exact Nat.ne_of_lt (Nat.lt_succ_of_lt hb0)⟩) (Heap.get?_push_of_some _ (Heap.get?_push_of_some _ e))
      · cases r2 with
        | error e => exact hr2
        | ok fl2 =>
          cases fl2 with
          | ret r =>
            obtain ⟨rfl, h', tk, rfl, hS', hk'⟩ := hr2
            repeat (any_goals (first | assumption | wp_step))
            exact h _ _ hS' hk'
          | _ => exact hr2.elim
    | _ => exact hr.elim
end
end
end SK
namespace SK
open PySem PySem.Spec PyProof.Rows L2
theorem are_bkI {ns : List Int} : ∀ {vs : List Value}, (∀ v ∈ vs, ∃ k : Int, k ∈ ns ∧ RelV (kV (Sum.inl k)) v) → ∃ zs : List Int, IntsAre vs zs ∧ vs.map bk = zs.map Sum.inl
  | [], _ => ⟨[], .nil, rfl⟩
  | v :: vs, h => by
    obtain ⟨zs, h1, h2⟩ := are_bkI (vs := vs) fun x hx => h x (List.mem_cons_of_mem _ hx)
    obtain ⟨k, _, t, rfl⟩ := h v List.mem_cons_self
    exact ⟨k :: zs, .cons k t h1, by rw [List.map_cons, List.map_cons, h2]; rfl⟩
theorem are_bkS {ns : List Str} : ∀ {vs : List Value}, (∀ v ∈ vs, ∃ k : Str, k ∈ ns ∧ RelV (kV (Sum.inr k)) v) → ∃ zs : List Str, StrsAre vs zs ∧ vs.map bk = zs.map Sum.inr
  | [], _ => ⟨[], .nil, rfl⟩
  | v :: vs, h => by
    obtain ⟨zs, h1, h2⟩ := are_bkS (vs := vs) fun x hx => h x (List.mem_cons_of_mem _ hx)
    obtain ⟨k, _, t, rfl⟩ := h v List.mem_cons_self
    exact ⟨k :: zs, .cons k t h1, by rw [List.map_cons, List.map_cons, h2]; rfl⟩
section
variable {P : Program} {w : World} {A : Around} {E : Value → Shared → Prop} {s : Shared} {a : Addr}
theorem sorted_I {ns : List Int} {Q : Value → Shared → Prop} (R : Is w (ns.map Sum.inl) s.heap a) (hh : A.handled = none) (h64 : ns.length < 64)
    (hQ : ∀ s' p (out : Array Value) (c : Nat) (ms : List Int), (∀ b o, s.heap.get? b = some o → s'.heap.get? b = some o) → s'.gens = s.gens → s'.os = s.os → s.heap.objs.size ≤ p →
      s'.heap.get? p = some (seqObj "list" out c) → IntsAre out.toList ms → ms.Pairwise (· ≤ ·) → ms.Nodup → (∀ k, k ∈ ms ↔ k ∈ ns) → ms.length < 64 → Q (.ref p) s') :
    wpAny (model P w) A (call (.builtin "sorted") [.ref a]) Q E s := by
  obtain ⟨o, es, ep, t, ho, hex, hd, I0⟩ := R
  have hes : es.size ≤ ns.length := by have := I0.n; rw [List.length_map] at this; exact this
  refine Calls.call_function_entry kind_sorted plain_sorted entry_sorted (args_sorted1 _) ?_
  unfold Builtin.«sorted»
  refine wpAny_bind (m := checkCount "sorted" 1 1 _) (wpAny_pure ?_)
  refine wpAny_bind (collect_set (A := A.in1) hh ⟨o, ho, hex.1, hd⟩ I0.f I0.b I0.r I0.l fun s1 vs k1 hz g1 o1 pm => ?_)
  have hvl : vs.length ≤ ns.length := by rw [pm.length_eq, List.length_map, Array.length_toList]; exact hes
  have hv : ∀ v ∈ vs, ∃ k : Int, k ∈ ns ∧ RelV (kV (Sum.inl k)) v := fun v hv => by
    obtain ⟨e, he, rfl⟩ := List.mem_map.mp (pm.mem_iff.mp hv)
    obtain ⟨j, rj, _⟩ := I0.g e he
    have hj : j ∈ ns.map Sum.inl := (I0.m j).mp (List.mem_map.mpr ⟨e, he, bk_rel rj⟩)
    obtain ⟨k, hk, rfl⟩ := List.mem_map.mp hj
    exact ⟨k, hk, rj⟩
  have pk : (vs.map bk).Perm (es.toList.map kOf) := by
    have q := pm.map bk
    rw [List.map_map] at q
    exact q
  obtain ⟨zs, hS, hzs⟩ := are_bkI hv
  have nz : zs.Nodup := by
    have h1 : (zs.map (Sum.inl : Int → Key)).Nodup := by rw [← hzs]; exact pk.nodup_iff.mpr I0.nd
    exact List.Pairwise.of_map (Sum.inl : Int → Key) (fun x y h z => h (by rw [z])) h1
  have mz : ∀ k, k ∈ zs ↔ k ∈ ns := fun k => by
    have h1 : (Sum.inl k : Key) ∈ zs.map (Sum.inl : Int → Key) ↔ (Sum.inl k : Key) ∈ ns.map (Sum.inl : Int → Key) := by rw [← hzs, pk.mem_iff]; exact I0.m _
    have hinj : ∀ l : List Int, (Sum.inl k : Key) ∈ l.map (Sum.inl : Int → Key) ↔ k ∈ l := fun l => ⟨fun h => by obtain ⟨j, hj, e⟩ := List.mem_map.mp h; cases e; exact hj, fun h => List.mem_map.mpr ⟨k, h, rfl⟩⟩
    rw [hinj, hinj] at h1
    exact h1
  have lz : zs.length < 64 := by
    have := congrArg List.length hzs
    rw [List.length_map, List.length_map] at this
    omega
  refine wpAny_bind (wpAny_newList ?_ (by rw [sizeLine_eq]; omega))
  have hoL : (s1.heap.push (seqObj "list" vs.toArray 0)).get? s1.heap.objs.size = some (seqObj "list" vs.toArray 0) := Heap.get?_push_size _ rfl
  refine wpAny_bind (wpAny_holding (wpAny_call_entry slot_list_sort ⟨_, hoL, rfl⟩ entry_list_sort (list_sort_tree hoL hS (by omega) fun out ns' a1 a2 a3 => ⟨_, rfl, ?_⟩) (args_list_sort _)))
  obtain ⟨c, hc⟩ := sortedHeap_at (vs := vs) (out := out) hoL
  refine wpAny_pure ⟨_, rfl, hQ _ s1.heap.objs.size _ c ns' (fun b u e => ?_) g1 o1 hz hc a1 a3 (a2.nodup_iff.mpr nz) (fun k => a2.mem_iff.trans (mz k)) (by rw [a2.length_eq]; exact lz)⟩
  have q := k1 b u e
  have hlt := Heap.lt_size q
  show (sortedHeap (s1.heap.push (seqObj "list" vs.toArray 0)) s1.heap.objs.size vs out).get? b = some u
  rw [sortedHeap_old (Nat.ne_of_lt hlt) (by rw [size_push']; exact Nat.lt_succ_of_lt hlt)]
  exact Heap.get?_push_of_some _ q
theorem sorted_S {ns : List Str} {Q : Value → Shared → Prop} (R : Is w (ns.map Sum.inr) s.heap a) (hh : A.handled = none) (h64 : ns.length < 64)
    (hQ : ∀ s' p (out : Array Value) (c : Nat) (ms : List Str), (∀ b o, s.heap.get? b = some o → s'.heap.get? b = some o) → s'.gens = s.gens → s'.os = s.os → s.heap.objs.size ≤ p →
      s'.heap.get? p = some (seqObj "list" out c) → StrsAre out.toList ms → sortedS ms = true → ms.Nodup → (∀ k, k ∈ ms ↔ k ∈ ns) → ms.length < 64 → Q (.ref p) s') :
    wpAny (model P w) A (call (.builtin "sorted") [.ref a]) Q E s := by
  obtain ⟨o, es, ep, t, ho, hex, hd, I0⟩ := R
  have hes : es.size ≤ ns.length := by have := I0.n; rw [List.length_map] at this; exact this
  refine Calls.call_function_entry kind_sorted plain_sorted entry_sorted (args_sorted1 _) ?_
  unfold Builtin.«sorted»
  refine wpAny_bind (m := checkCount "sorted" 1 1 _) (wpAny_pure ?_)
  refine wpAny_bind (collect_set (A := A.in1) hh ⟨o, ho, hex.1, hd⟩ I0.f I0.b I0.r I0.l fun s1 vs k1 hz g1 o1 pm => ?_)
  have hvl : vs.length ≤ ns.length := by rw [pm.length_eq, List.length_map, Array.length_toList]; exact hes
  have hv : ∀ v ∈ vs, ∃ k : Str, k ∈ ns ∧ RelV (kV (Sum.inr k)) v := fun v hv => by
    obtain ⟨e, he, rfl⟩ := List.mem_map.mp (pm.mem_iff.mp hv)
    obtain ⟨j, rj, _⟩ := I0.g e he
    have hj : j ∈ ns.map Sum.inr := (I0.m j).mp (List.mem_map.mpr ⟨e, he, bk_rel rj⟩)
    obtain ⟨k, hk, rfl⟩ := List.mem_map.mp hj
    exact ⟨k, hk, rj⟩
  have pk : (vs.map bk).Perm (es.toList.map kOf) := by
    have q := pm.map bk
    rw [List.map_map] at q
    exact q
  obtain ⟨zs, hS, hzs⟩ := are_bkS hv
  have nz : zs.Nodup := by
    have h1 : (zs.map (Sum.inr : Str → Key)).Nodup := by rw [← hzs]; exact pk.nodup_iff.mpr I0.nd
    exact List.Pairwise.of_map (Sum.inr : Str → Key) (fun x y h z => h (by rw [z])) h1
  have mz : ∀ k, k ∈ zs ↔ k ∈ ns := fun k => by
    have h1 : (Sum.inr k : Key) ∈ zs.map (Sum.inr : Str → Key) ↔ (Sum.inr k : Key) ∈ ns.map (Sum.inr : Str → Key) := by rw [← hzs, pk.mem_iff]; exact I0.m _
    have hinj : ∀ l : List Str, (Sum.inr k : Key) ∈ l.map (Sum.inr : Str → Key) ↔ k ∈ l := fun l => ⟨fun h => by obtain ⟨j, hj, e⟩ := List.mem_map.mp h; cases e; exact hj, fun h => List.mem_map.mpr ⟨k, h, rfl⟩⟩
    rw [hinj, hinj] at h1
    exact h1
  have lz : zs.length < 64 := by
    have := congrArg List.length hzs
    rw [List.length_map, List.length_map] at this
    omega
  refine wpAny_bind (wpAny_newList ?_ (by rw [sizeLine_eq]; omega))
  have hoL : (s1.heap.push (seqObj "list" vs.toArray 0)).get? s1.heap.objs.size = some (seqObj "list" vs.toArray 0) := Heap.get?_push_size _ rfl
  refine wpAny_bind (wpAny_holding (wpAny_call_entry slot_list_sort ⟨_, hoL, rfl⟩ entry_list_sort (list_sort_treeK PyProof.Rows.strKind_oneLt hoL hS.keysOf (fun v1 v2 rest e => keyKind_strs (by rw [← e]; exact hS)) (by omega) fun st' hp hs => ⟨_, rfl, ?_⟩) (args_list_sort _)))
  obtain ⟨ns', a1, a2, a3⟩ := sorted_out_str hS hp hs
  obtain ⟨c, hc⟩ := sortedHeap_at (vs := vs) (out := ((arrOf st').map (·.2))) hoL
  refine wpAny_pure ⟨_, rfl, hQ _ s1.heap.objs.size _ c ns' (fun b u e => ?_) g1 o1 hz hc a1 a3 (a2.nodup_iff.mpr nz) (fun k => a2.mem_iff.trans (mz k)) (by rw [a2.length_eq]; exact lz)⟩
  have q := k1 b u e
  have hlt := Heap.lt_size q
  show (sortedHeap (s1.heap.push (seqObj "list" vs.toArray 0)) s1.heap.objs.size vs ((arrOf st').map (·.2))).get? b = some u
  rw [sortedHeap_old (Nat.ne_of_lt hlt) (by rw [size_push']; exact Nat.lt_succ_of_lt hlt)]
  exact Heap.get?_push_of_some _ q
end
/-! ### as rules -/
def SO (w : World) (a : Addr) (ks : List Key) : HO := .ext fun h => Is w ks h a
theorem so_new {w : World} {P : Program} {H : Hp} {h : Heap} {a : Addr} {ks : List Key} (R : Is w ks h a) : ObjOk P w H h a (SO w a ks) := by
  have ⟨o, _, _, _, ho, _⟩ := R
  exact ⟨R, ⟨o, ho⟩, fun h1 h2 p k => p.at k⟩
section
variable {X : Cx}
theorem so_get {pins : List (Addr × Obj)} {σ : L2.St} {H : Hp} {s : Shared} {a : Addr} {ks : List Key} (I : Inv X pins σ H s) (ha : H a = some (SO X.w a ks)) : Is X.w ks s.heap a := (I.hok a _ ha).1
def rSet (K : PySem.W.Frag) (w : World) : List V → Hp → VK → Prop := fun xs H Q => ∃ (l : Addr) (ks : List Key), xs = [.ref l] ∧ (SqL K H l (ks.map kV) ∨ SqT K H l (ks.map kV)) ∧ ks.length < 64 ∧ ∀ p, H p = none → Q (.ref p) (upd H p (SO w p ks))
theorem vals_keys : ∀ {ks : List Key} {us : List Value}, Vals (ks.map kV) us → ∀ (i : Nat) (v : Value), us[i]? = some v → ∃ k, ks[i]? = some k ∧ RelV (kV k) v
  | [], us, h, i, v, e => by cases h; cases e
  | k :: ks, us, h, i, v, e => by
    cases h with
    | cons r t =>
      cases i with
      | zero => cases e; exact ⟨k, rfl, r⟩
      | succ i => exact vals_keys t i v e
theorem small : ∀ {n : Nat}, n < 64 → n + 1 < scanBound := fun h => Nat.lt_trans (Nat.succ_lt_succ h) (by decide)
theorem cr_set (hc : X.calm = true) : CallR X (.type "set") (rSet X.K X.w) := by
  intro pins s σ H xs us Q I r h
  obtain ⟨l, ks, rfl, hl, h64, q⟩ := h
  rw [Vals.ref1 r]
  have fin : ∀ (h' : Heap) (tk : Nat), Is X.w ks h' s.heap.objs.size → (∀ b o, s.heap.get? b = some o → h'.get? b = some o) → EP X pins σ Q (.ref s.heap.objs.size) { s with heap := h', toks := tk } := fun h' tk R k =>
    ⟨.ref _, upd H s.heap.objs.size (SO X.w s.heap.objs.size ks), I.laid (t' := tk) (fun b u e => k b u e) (Nat.le_refl _) (so_new R), rfl, q _ (I.hok.fresh (Nat.le_refl _))⟩
  rcases hl with hl | hl
  · obtain ⟨its, rv, hL, hz⟩ := I.list hl
    have hlen := rv.length
    rw [List.length_map] at hlen
    exact of_list (I.ok.hd hc) hL.isList (by rw [List.size_toArray]; exact hlen.symm) (fun i v e => vals_keys rv i v (by rw [List.getElem?_toArray] at e; exact e)) (small h64) fin
  · obtain ⟨its, rv, hT, hz⟩ := I.tuple hl
    have hlen := rv.length
    rw [List.length_map] at hlen
    exact of_tuple (I.ok.hd hc) hT (by rw [List.size_toArray]; exact hlen.symm) (fun i v e => vals_keys rv i v (by rw [List.getElem?_toArray] at e; exact e)) (small h64) fin
def rSort (w : World) : List V → Hp → VK → Prop := fun vs H Q => ∃ (a : Addr) (ks : List Key), vs = [V.ref a] ∧ H a = some (SO w a ks) ∧ ks.length < 64 ∧
  ((∃ ns : List Int, ks = ns.map Sum.inl ∧ ∀ (ms : List Int) (p : Addr), ms.Pairwise (· ≤ ·) → ms.Nodup → (∀ k, k ∈ ms ↔ k ∈ ns) → H p = none → Q (.ref p) (upd H p (.lst (ms.map V.int)))) ∨
   ∃ ns : List Str, ks = ns.map Sum.inr ∧ ∀ (ms : List Str) (p : Addr), sortedS ms = true → ms.Nodup → (∀ k, k ∈ ms ↔ k ∈ ns) → H p = none → Q (.ref p) (upd H p (.lst (ms.map V.str))))
theorem cr_sort (hc : X.calm = true) : CallR X (.builtin "sorted") (rSort X.w) := by
  intro pins s σ H vs us Q I r h
  obtain ⟨a, ks, rfl, ha, h64, q⟩ := h
  have R := so_get I ha
  rw [Vals.ref1 r]
  have fin : ∀ (s' : Shared) (p : Addr) (out : Array Value) (c : Nat) (xs : List V), xs.length < 64 → (∀ b o, s.heap.get? b = some o → s'.heap.get? b = some o) → s'.gens = s.gens → s'.os = s.os → s.heap.objs.size ≤ p → s'.heap.get? p = some (seqObj "list" out c) → Vals xs out.toList →
      (H p = none → Q (.ref p) (upd H p (.lst xs))) → EP X pins σ Q (.ref p) s' := fun s' p out c xs hl k g o hp hg hv q1 => by
    have hlen : xs.length ≤ sizeLine := by rw [sizeLine_eq]; omega
    have hn : H p = none := I.hok.fresh hp
    have J : Inv X pins σ (upd H p (.lst xs)) { s with heap := s'.heap, gens := s'.gens, drawn := s'.drawn, toks := s'.toks } :=
      I.call (ch := []) (Un.laid k hp hn) (I.hok.laid k hp ⟨hlen, out.toList, c, hv, hg⟩) (by rw [g]; exact I.bare) (fun _ z => nomatch z)
    have e : s' = { s with heap := s'.heap, gens := s'.gens, drawn := s'.drawn, toks := s'.toks } := by
      cases s'
      cases s
      cases o
      rfl
    rw [e]
    exact ⟨.ref p, _, J, rfl, q1 hn⟩
  rcases q with ⟨ns, rfl, q⟩ | ⟨ns, rfl, q⟩
  · rw [List.length_map] at h64
    exact sorted_I R (I.ok.hd hc) h64 fun s' p out c ms k g o hp hg hi h1 h2 h3 h4 => fin s' p out c _ (by rw [List.length_map]; exact h4) k g o hp hg (vals_of_ints hi) (q ms p h1 h2 h3)
  · rw [List.length_map] at h64
    exact sorted_S R (I.ok.hd hc) h64 fun s' p out c ms k g o hp hg hi h1 h2 h3 h4 => fin s' p out c _ (by rw [List.length_map]; exact h4) k g o hp hg (vals_of_strs hi) (q ms p h1 h2 h3)
end
end SK
namespace AB
open PySem PySem.Spec PyProof.Rows L2 TL
def ddp {α : Type} [DecidableEq α] : List α → List α
  | [] => []
  | x :: xs => if x ∈ xs then ddp xs else x :: ddp xs
theorem ddp_mem {α : Type} [DecidableEq α] {x : α} : ∀ {xs : List α}, x ∈ ddp xs ↔ x ∈ xs
  | [] => Iff.rfl
  | y :: xs => by
    unfold ddp
    split
    · rename_i h
      rw [ddp_mem, List.mem_cons]
      exact ⟨.inr, fun z => z.elim (fun e => e ▸ h) id⟩
    · rw [List.mem_cons, List.mem_cons, ddp_mem]
theorem ddp_nodup {α : Type} [DecidableEq α] : ∀ xs : List α, (ddp xs).Nodup
  | [] => List.nodup_nil
  | y :: xs => by
    unfold ddp
    split
    · exact ddp_nodup xs
    · rename_i h
      exact List.nodup_cons.mpr ⟨fun z => h (ddp_mem.mp z), ddp_nodup xs⟩
theorem ddp_len {α : Type} [DecidableEq α] : ∀ xs : List α, (ddp xs).length ≤ xs.length
  | [] => Nat.le_refl _
  | y :: xs => by
    unfold ddp
    have := ddp_len xs
    split
    · exact Nat.le_succ_of_le this
    · exact Nat.succ_le_succ this
/-- the list set(x), sorted -/
def usortI (xs : List Int) : List Int := isort (ddp xs)
def usortS (xs : List (List Nat)) : List (List Nat) := ssort (ddp xs)
theorem usortI_eq {ms xs : List Int} (h1 : ms.Pairwise (· ≤ ·)) (h2 : ms.Nodup) (h3 : ∀ k, k ∈ ms ↔ k ∈ xs) : ms = usortI xs :=
  isort_eq ((List.perm_ext_iff_of_nodup h2 (ddp_nodup xs)).mpr fun k => (h3 k).trans ddp_mem.symm) h1
theorem usortS_eq {ms : List Str} {xs : List (List Nat)} (h1 : sortedS ms = true) (h2 : ms.Nodup) (h3 : ∀ k, k ∈ ms ↔ k ∈ xs.map S) : ms = (usortS xs).map S := by
  refine ssort_eq ?_ h1
  refine (List.perm_ext_iff_of_nodup h2 (List.Pairwise.map _ (fun a b h z => h (S_inj.mp z)) (ddp_nodup xs))).mpr fun k => ?_
  rw [h3 k, List.mem_map, List.mem_map]
  exact ⟨fun ⟨x, hx, e⟩ => ⟨x, ddp_mem.mpr hx, e⟩, fun ⟨x, hx, e⟩ => ⟨x, ddp_mem.mp hx, e⟩⟩
/-- sorted(set(x)) -/
@[reducible] def aSSet (ra : AR) : AR := fun Γ θ k kx => ra Γ θ (fun x θ1 => ∃ ds, asS θ1 x = some ds ∧ ds.length < 64 ∧
  ((∃ ns : List Int, ds = ns.map D.int ∧ k (.lst ((usortI ns).map D.int)) θ1) ∨ ∃ ls : List (List Nat), ds = ls.map (fun l => .str (S l)) ∧ k (.lst ((usortS ls).map fun l => .str (S l))) θ1)) kx
section
variable {X : Cx} {W : WX} {a : Expr} {ra : AR} {p p2 q pos : Pos}
theorem vals_ints {K : PySem.W.Frag} {H : Hp} {α : Nat → Addr} {N : Nat} {ns : List Int} {vs : List V} (r : Reps K H α N (ns.map D.int) vs) : vs = (ns.map (Sum.inl : Int → Key)).map kV := by
  rw [of_ints r, List.map_map]; rfl
theorem vals_txts {K : PySem.W.Frag} {H : Hp} {α : Nat → Addr} {N : Nat} {ls : List (List Nat)} {vs : List V} (r : Reps K H α N (ls.map fun l => D.str (S l)) vs) : vs = ((ls.map S).map (Sum.inr : Str → Key)).map kV := by
  rw [show (ls.map fun l => D.str (S l)) = (ls.map S).map D.str from by rw [List.map_map]; rfl] at r
  rw [of_strs r, List.map_map, List.map_map, List.map_map]; rfl
theorem xe_sset (hc : X.calm = true) (hg : Gl X "sorted") (hm : X.mg "sorted" = none) (hg2 : Gl X "set") (hm2 : X.mg "set" = none) (ha : XE' X W a ra)
    (na : starEach [a] X.env = (false, eval a X.env) :: starEach [] X.env := by rfl) (nb : starEach [.Call (.Name "set" p2) [a] [] q] X.env = (false, eval (.Call (.Name "set" p2) [a] [] q) X.env) :: starEach [] X.env := by rfl) :
    XE' X W (.Call (.Name "sorted" p) [.Call (.Name "set" p2) [a] [] q] [] pos) (aSSet ra) := by
  refine pe_imp (pe_frz (pe_callB (SK.cr_sort hc) hg hm bt_sorted (pa_cons (pe_callTy (SK.cr_set hc) hg2 hm2 bt_set (pa_cons ha pa_nil na) (he := na)) pa_nil nb) (he := nb))) ?_
  rintro σ H Q ⟨α, θ, Γ, k, kx, S0, G, q0, lk, lx⟩
  refine ⟨α, θ, Γ, _, kx, S0, G, q0, fun x θ1 α1 H1 v n1 S1 r1 ⟨ds, e1, h64, q1⟩ => ?_, lx⟩
  obtain ⟨l, vs, rfl, hl, rv⟩ := asS_sq S1 r1 e1
  have lk1 := lk.on n1
  have hvl := rv.length
  rcases q1 with ⟨ns, rfl, q1⟩ | ⟨ls, rfl, q1⟩
  · have ev := vals_ints rv
    rw [ev] at hl
    rw [List.length_map] at h64
    refine ⟨l, ns.map Sum.inl, rfl, hl, by rw [List.length_map]; exact h64, fun p hp => ⟨p, ns.map Sum.inl, rfl, upd_same, by rw [List.length_map]; exact h64, .inl ⟨ns, rfl, fun ms t h1 h2 h3 ht => ?_⟩⟩⟩
    rw [usortI_eq h1 h2 h3]
    exact frz_newQ (S1.same (same_new hp)) ht (reps_ints _) q1 (lk1.on (Nx.of _ _ (Pers.same (same_new hp))))
  · have ev := vals_txts rv
    rw [ev] at hl
    rw [List.length_map] at h64
    refine ⟨l, (ls.map S).map Sum.inr, rfl, hl, by rw [List.length_map, List.length_map]; exact h64, fun p hp => ⟨p, (ls.map S).map Sum.inr, rfl, upd_same, by rw [List.length_map, List.length_map]; exact h64, .inr ⟨ls.map S, rfl, fun ms t h1 h2 h3 ht => ?_⟩⟩⟩
    rw [usortS_eq h1 h2 h3]
    have e2 : ((usortS ls).map fun l => D.str (S l)) = ((usortS ls).map S).map D.str := by rw [List.map_map]; rfl
    rw [e2] at q1
    exact frz_newQ (S1.same (same_new hp)) ht (reps_strs _) q1 (lk1.on (Nx.of _ _ (Pers.same (same_new hp))))
end
end AB
namespace K13
open PySem PySem.Spec PyProof.Rows L2 AB TL

local macro_rules | `(tactic| walk_at "gs") => `(tactic| (apply AB.w_start; (· (simp only [startG, List.map_cons, List.map_nil, List.length_cons, List.length_nil, Nat.reduceAdd, Nat.reduceSub, List.replicate_succ, List.replicate_zero, List.cons_append, List.nil_append]; try exact rfl))))
local macro_rules | `(tactic| walk_at "gb") => `(tactic| (first | exact rfl | decide | omega | (apply AB.natAbs_small <;> omega) | (simp only [List.length_append, List.length_map, List.length_cons, List.length_nil, List.length_take, List.length_drop, rep_len, Int.reduceToNat, List.length_range, List.length_reverse, nums_len, signs_len, zipD_len]; omega)))
local macro_rules | `(tactic| walk_at "gh") => `(tactic| (first | exact rfl | assumption | exact AB.sto_get0 | (simp only [List.append_assoc, sa0, sa, ga0, ga, shl, upl, sto, List.cons_append, List.nil_append, List.set_cons_succ, List.set_cons_zero, List.getElem?_cons_zero, List.getElem?_cons_succ]; first | done | exact rfl)))
local macro_rules | `(tactic| walk_at "gx") => `(tactic| first | ((with_reducible apply c_mix); (· decide); (· decide); (· first | decide | omega)) | ((with_reducible apply c_cellI); (· omega)) | (with_reducible apply c_key) | (with_reducible apply c_data))
local macro_rules | `(tactic| walk_at "go1") => `(tactic| ((with_reducible conv => whnf); first
  | ((with_reducible apply Exists.intro); (with_reducible apply And.intro); (· exact rfl))
  | (with_reducible first | apply AB.w_onO | apply AB.w_onN | apply AB.w_tryAs | apply AB.w_tryOnly | apply AB.w_lstRng | apply AB.v_addI | apply AB.w_back | apply AB.v_eqI | apply AB.v_eqSS | apply AB.v_eqS | apply AB.v_eqSI | apply AB.v_eqIS | apply AB.w_ifN | apply AB.v_slT2 | apply AB.v_lt | apply AB.v_gt | apply AB.v_slL | apply AB.v_ordSS | apply AB.v_neI | apply AB.v_neSS | apply AB.v_neS | apply AB.v_inSS | apply AB.v_ninSS | apply AB.v_lenT | apply AB.v_lenL | apply AB.v_lenK | apply AB.v_ltSS | apply AB.v_gtSS | apply AB.v_eqB | apply AB.v_intI | apply AB.v_intB | apply AB.v_allL | apply AB.v_anyL | apply AB.v_sumL | apply AB.v_tupL | apply AB.v_tupT | apply AB.w_ifT | apply AB.w_ifF | apply AB.w_elEnd)
  | ((with_reducible apply AB.w_gN); (· (simp only [List.set_cons_succ, List.set_cons_zero]; try exact rfl)))
  | ((with_reducible apply AB.v_isE); (· assumption); (· assumption))
  | ((with_reducible apply AB.v_isET); (· assumption); (· assumption))
  | ((with_reducible apply AB.v_addSS); (· (first | exact rfl | decide | omega | (apply AB.natAbs_small <;> omega) | (simp only [List.length_append, List.length_map, List.length_cons, List.length_nil, List.length_take, List.length_drop, rep_len, Int.reduceToNat, List.length_range, List.length_reverse, nums_len, signs_len, zipD_len]; omega))))
  | ((with_reducible apply AB.v_addT2); (· (first | exact rfl | decide | omega | (apply AB.natAbs_small <;> omega) | (simp only [List.length_append, List.length_map, List.length_cons, List.length_nil, List.length_take, List.length_drop, rep_len, Int.reduceToNat, List.length_range, List.length_reverse, nums_len, signs_len, zipD_len]; omega))))
  | ((with_reducible apply AB.v_mul); (· (first | exact .inr ⟨by decide, by decide⟩ | exact .inl ⟨by decide, by decide⟩ | omega)))
  | ((with_reducible apply AB.v_lenSS); (· (first | exact rfl | decide | omega | (apply AB.natAbs_small <;> omega) | (simp only [List.length_append, List.length_map, List.length_cons, List.length_nil, List.length_take, List.length_drop, rep_len, Int.reduceToNat, List.length_range, List.length_reverse, nums_len, signs_len, zipD_len]; omega))))
  | ((with_reducible apply AB.v_slS); (· (first | exact rfl | decide | omega | (apply AB.natAbs_small <;> omega) | (simp only [List.length_append, List.length_map, List.length_cons, List.length_nil, List.length_take, List.length_drop, rep_len, Int.reduceToNat, List.length_range, List.length_reverse, nums_len, signs_len, zipD_len]; omega))))
  | ((with_reducible apply AB.v_addL); (· (first | exact rfl | decide | omega | (apply AB.natAbs_small <;> omega) | (simp only [List.length_append, List.length_map, List.length_cons, List.length_nil, List.length_take, List.length_drop, rep_len, Int.reduceToNat, List.length_range, List.length_reverse, nums_len, signs_len, zipD_len]; omega))))
  | ((with_reducible apply AB.v_mulSS); (· (first | exact rfl | decide | omega | (apply AB.natAbs_small <;> omega) | (simp only [List.length_append, List.length_map, List.length_cons, List.length_nil, List.length_take, List.length_drop, rep_len, Int.reduceToNat, List.length_range, List.length_reverse, nums_len, signs_len, zipD_len]; omega))); (· (first | exact rfl | decide | omega | (apply AB.natAbs_small <;> omega) | (simp only [List.length_append, List.length_map, List.length_cons, List.length_nil, List.length_take, List.length_drop, rep_len, Int.reduceToNat, List.length_range, List.length_reverse, nums_len, signs_len, zipD_len]; omega))); (· (first | exact rfl | decide | omega | (apply AB.natAbs_small <;> omega) | (simp only [List.length_append, List.length_map, List.length_cons, List.length_nil, List.length_take, List.length_drop, rep_len, Int.reduceToNat, List.length_range, List.length_reverse, nums_len, signs_len, zipD_len]; omega))))
  | ((with_reducible apply AB.v_isi); (· exact rfl); (· (first | exact AB.kb_NoneType_str | exact AB.kb_NoneType_int | exact AB.kb_NoneType_bool | exact AB.kb_NoneType_tuple | exact AB.kb_NoneType_list | exact AB.kb_bool_str | exact AB.kb_bool_int | exact AB.kb_bool_bool | exact AB.kb_bool_tuple | exact AB.kb_bool_list | exact AB.kb_int_str | exact AB.kb_int_int | exact AB.kb_int_bool | exact AB.kb_int_tuple | exact AB.kb_int_list | exact AB.kb_str_str | exact AB.kb_str_int | exact AB.kb_str_bool | exact AB.kb_str_tuple | exact AB.kb_str_list | exact AB.kb_tuple_str | exact AB.kb_tuple_int | exact AB.kb_tuple_bool | exact AB.kb_tuple_tuple | exact AB.kb_tuple_list | exact AB.kb_list_str | exact AB.kb_list_int | exact AB.kb_list_bool | exact AB.kb_list_tuple | exact AB.kb_list_list)))
  | ((with_reducible apply AB.v_isi2); (· exact rfl); (· (first | exact AB.kb_NoneType_str | exact AB.kb_NoneType_int | exact AB.kb_NoneType_bool | exact AB.kb_NoneType_tuple | exact AB.kb_NoneType_list | exact AB.kb_bool_str | exact AB.kb_bool_int | exact AB.kb_bool_bool | exact AB.kb_bool_tuple | exact AB.kb_bool_list | exact AB.kb_int_str | exact AB.kb_int_int | exact AB.kb_int_bool | exact AB.kb_int_tuple | exact AB.kb_int_list | exact AB.kb_str_str | exact AB.kb_str_int | exact AB.kb_str_bool | exact AB.kb_str_tuple | exact AB.kb_str_list | exact AB.kb_tuple_str | exact AB.kb_tuple_int | exact AB.kb_tuple_bool | exact AB.kb_tuple_tuple | exact AB.kb_tuple_list | exact AB.kb_list_str | exact AB.kb_list_int | exact AB.kb_list_bool | exact AB.kb_list_tuple | exact AB.kb_list_list)); (· (first | exact AB.kb_NoneType_str | exact AB.kb_NoneType_int | exact AB.kb_NoneType_bool | exact AB.kb_NoneType_tuple | exact AB.kb_NoneType_list | exact AB.kb_bool_str | exact AB.kb_bool_int | exact AB.kb_bool_bool | exact AB.kb_bool_tuple | exact AB.kb_bool_list | exact AB.kb_int_str | exact AB.kb_int_int | exact AB.kb_int_bool | exact AB.kb_int_tuple | exact AB.kb_int_list | exact AB.kb_str_str | exact AB.kb_str_int | exact AB.kb_str_bool | exact AB.kb_str_tuple | exact AB.kb_str_list | exact AB.kb_tuple_str | exact AB.kb_tuple_int | exact AB.kb_tuple_bool | exact AB.kb_tuple_tuple | exact AB.kb_tuple_list | exact AB.kb_list_str | exact AB.kb_list_int | exact AB.kb_list_bool | exact AB.kb_list_tuple | exact AB.kb_list_list)); (· first | exact Bool.or_true _ | exact Bool.true_or _ | exact Bool.or_false _))
  | ((with_reducible apply AB.w_lc); (· (simp only [wipeG, List.set_cons_succ, List.set_cons_zero]; try exact rfl)))
  | ((with_reducible apply AB.w_lcS); (· (simp only [wipeG, List.set_cons_succ, List.set_cons_zero]; try exact rfl)))
  | ((with_reducible apply AB.v_lstRng); (· (first | exact rfl | decide | omega | (apply AB.natAbs_small <;> omega) | (simp only [List.length_append, List.length_map, List.length_cons, List.length_nil, List.length_take, List.length_drop, rep_len, Int.reduceToNat, List.length_range, List.length_reverse, nums_len, signs_len, zipD_len]; omega))); (· (first | exact rfl | decide | omega | (apply AB.natAbs_small <;> omega) | (simp only [List.length_append, List.length_map, List.length_cons, List.length_nil, List.length_take, List.length_drop, rep_len, Int.reduceToNat, List.length_range, List.length_reverse, nums_len, signs_len, zipD_len]; omega))))
  | ((with_reducible apply AB.w_elY); (· (simp only [List.set_cons_succ, List.set_cons_zero]; try exact rfl)))
  | ((with_reducible apply AB.w_el); (· (simp only [List.set_cons_succ, List.set_cons_zero]; try exact rfl)))
  | ((with_reducible apply AB.v_append); (· (first | exact rfl | assumption | exact AB.sto_get0 | (simp only [List.append_assoc, sa0, sa, ga0, ga, shl, upl, sto, List.cons_append, List.nil_append, List.set_cons_succ, List.set_cons_zero, List.getElem?_cons_zero, List.getElem?_cons_succ]; first | done | exact rfl))); (· (first | exact rfl | decide | omega | (apply AB.natAbs_small <;> omega) | (simp only [List.length_append, List.length_map, List.length_cons, List.length_nil, List.length_take, List.length_drop, rep_len, Int.reduceToNat, List.length_range, List.length_reverse, nums_len, signs_len, zipD_len]; omega))); (· (simp only [List.set_cons_succ, List.set_cons_zero]; try exact rfl)))
  | ((with_reducible apply AB.v_lenO); (· (first | exact rfl | assumption | exact AB.sto_get0 | (simp only [List.append_assoc, sa0, sa, ga0, ga, shl, upl, sto, List.cons_append, List.nil_append, List.set_cons_succ, List.set_cons_zero, List.getElem?_cons_zero, List.getElem?_cons_succ]; first | done | exact rfl))))
  | ((with_reducible apply AB.v_slO); (· (first | exact rfl | assumption | exact AB.sto_get0 | (simp only [List.append_assoc, sa0, sa, ga0, ga, shl, upl, sto, List.cons_append, List.nil_append, List.set_cons_succ, List.set_cons_zero, List.getElem?_cons_zero, List.getElem?_cons_succ]; first | done | exact rfl))))
  | ((with_reducible apply AB.v_tupO); (· (first | exact rfl | assumption | exact AB.sto_get0 | (simp only [List.append_assoc, sa0, sa, ga0, ga, shl, upl, sto, List.cons_append, List.nil_append, List.set_cons_succ, List.set_cons_zero, List.getElem?_cons_zero, List.getElem?_cons_succ]; first | done | exact rfl))))
  | ((with_reducible apply AB.w_exO); (· (first | exact rfl | assumption | exact AB.sto_get0 | (simp only [List.append_assoc, sa0, sa, ga0, ga, shl, upl, sto, List.cons_append, List.nil_append, List.set_cons_succ, List.set_cons_zero, List.getElem?_cons_zero, List.getElem?_cons_succ]; first | done | exact rfl))))
  | ((with_reducible apply AB.w_truO); (· (first | exact rfl | assumption | exact AB.sto_get0 | (simp only [List.append_assoc, sa0, sa, ga0, ga, shl, upl, sto, List.cons_append, List.nil_append, List.set_cons_succ, List.set_cons_zero, List.getElem?_cons_zero, List.getElem?_cons_succ]; first | done | exact rfl))))
  | ((with_reducible apply AB.v_ixT); (· first | exact rfl | exact atI_nat (j := 0) rfl | exact atI_nat (j := 1) rfl | exact atI_nat (j := 2) rfl))
  | ((with_reducible apply AB.v_ixL); (· first | exact rfl | exact atI_nat (j := 0) rfl))
  | ((with_reducible apply AB.w_elTY); (· (simp only [setLG, List.set_cons_succ, List.set_cons_zero]; try exact rfl)); (· exact rfl))
  | ((with_reducible apply AB.w_elT); (· (simp only [setLG, List.set_cons_succ, List.set_cons_zero]; try exact rfl)); (· exact rfl))
  | ((with_reducible apply AB.w_exR); (· (first | exact rfl | decide | omega | (apply AB.natAbs_small <;> omega) | (simp only [List.length_append, List.length_map, List.length_cons, List.length_nil, List.length_take, List.length_drop, rep_len, Int.reduceToNat, List.length_range, List.length_reverse, nums_len, signs_len, zipD_len]; omega))); (· (first | exact rfl | decide | omega | (apply AB.natAbs_small <;> omega) | (simp only [List.length_append, List.length_map, List.length_cons, List.length_nil, List.length_take, List.length_drop, rep_len, Int.reduceToNat, List.length_range, List.length_reverse, nums_len, signs_len, zipD_len]; omega))))
  | ((with_reducible refine And.intro ?_ ?_); (· first | (exact v_tyS) | (exact v_tyO (by (first | exact rfl | assumption | exact AB.sto_get0 | (simp only [List.append_assoc, sa0, sa, ga0, ga, shl, upl, sto, List.cons_append, List.nil_append, List.set_cons_succ, List.set_cons_zero, List.getElem?_cons_zero, List.getElem?_cons_succ]; first | done | exact rfl)))) | (exact fun _ => trivial) | (exact fun _ => rfl) | (first | exact rfl | assumption | exact AB.sto_get0 | (simp only [List.append_assoc, sa0, sa, ga0, ga, shl, upl, sto, List.cons_append, List.nil_append, List.set_cons_succ, List.set_cons_zero, List.getElem?_cons_zero, List.getElem?_cons_succ]; first | done | exact rfl)) | (exact v_isDK (by (first | exact rfl | assumption | exact AB.sto_get0 | (simp only [List.append_assoc, sa0, sa, ga0, ga, shl, upl, sto, List.cons_append, List.nil_append, List.set_cons_succ, List.set_cons_zero, List.getElem?_cons_zero, List.getElem?_cons_succ]; first | done | exact rfl)))) | (exact v_isDT (by (first | exact rfl | assumption | exact AB.sto_get0 | (simp only [List.append_assoc, sa0, sa, ga0, ga, shl, upl, sto, List.cons_append, List.nil_append, List.set_cons_succ, List.set_cons_zero, List.getElem?_cons_zero, List.getElem?_cons_succ]; first | done | exact rfl)))) | (first | exact rfl | decide | omega | (apply AB.natAbs_small <;> omega) | (simp only [List.length_append, List.length_map, List.length_cons, List.length_nil, List.length_take, List.length_drop, rep_len, Int.reduceToNat, List.length_range, List.length_reverse, nums_len, signs_len, zipD_len]; omega))))
  | ((with_reducible apply Exists.intro); (with_reducible apply Exists.intro); (with_reducible apply Exists.intro); (with_reducible apply Exists.intro); (with_reducible apply And.intro); (· exact rfl); (with_reducible apply And.intro); (· (first | exact rfl | assumption | exact AB.sto_get0 | (simp only [List.append_assoc, sa0, sa, ga0, ga, shl, upl, sto, List.cons_append, List.nil_append, List.set_cons_succ, List.set_cons_zero, List.getElem?_cons_zero, List.getElem?_cons_succ]; first | done | exact rfl))); (with_reducible apply And.intro); (· assumption); (with_reducible apply And.intro); (· assumption); (with_reducible apply And.intro); (· exact rfl))
  | ((with_reducible apply Exists.intro); (with_reducible apply Exists.intro); (with_reducible apply Exists.intro); (with_reducible apply And.intro); (· exact rfl); (with_reducible apply And.intro); (· (first | exact rfl | assumption | exact AB.sto_get0 | (simp only [List.append_assoc, sa0, sa, ga0, ga, shl, upl, sto, List.cons_append, List.nil_append, List.set_cons_succ, List.set_cons_zero, List.getElem?_cons_zero, List.getElem?_cons_succ]; first | done | exact rfl))); (with_reducible apply And.intro); (· assumption); (with_reducible apply And.intro); (· assumption); (with_reducible apply And.intro); (· exact of_decide_eq_true rfl))
  | ((with_reducible apply Exists.intro); (with_reducible apply Exists.intro); (with_reducible apply Exists.intro); (with_reducible apply Exists.intro); (with_reducible apply And.intro); (· exact rfl); (with_reducible apply And.intro); (· (first | exact rfl | assumption | exact AB.sto_get0 | (simp only [List.append_assoc, sa0, sa, ga0, ga, shl, upl, sto, List.cons_append, List.nil_append, List.set_cons_succ, List.set_cons_zero, List.getElem?_cons_zero, List.getElem?_cons_succ]; first | done | exact rfl))); (with_reducible apply And.intro); (· assumption); (with_reducible apply And.intro); (· exact rfl))
  | ((with_reducible apply Exists.intro); (with_reducible apply Exists.intro); (with_reducible apply Exists.intro); (with_reducible apply And.intro); (· exact rfl); (with_reducible apply And.intro); (· (first | exact rfl | assumption | exact AB.sto_get0 | (simp only [List.append_assoc, sa0, sa, ga0, ga, shl, upl, sto, List.cons_append, List.nil_append, List.set_cons_succ, List.set_cons_zero, List.getElem?_cons_zero, List.getElem?_cons_succ]; first | done | exact rfl))); (with_reducible apply And.intro); (· (intro _ z; cases z)); (with_reducible apply And.intro); (· (first | (apply AB.dPutE_K; (· (first | omega | assumption)); (· exact rfl)) | (apply AB.dPutE_T; (· (first | omega | assumption)); (· exact rfl)))))
  | ((with_reducible apply Exists.intro); (with_reducible apply Exists.intro); (with_reducible apply Exists.intro); (with_reducible apply Exists.intro); (with_reducible apply And.intro); (· exact rfl); (with_reducible apply And.intro); (· (first | exact rfl | assumption | exact AB.sto_get0 | (simp only [List.append_assoc, sa0, sa, ga0, ga, shl, upl, sto, List.cons_append, List.nil_append, List.set_cons_succ, List.set_cons_zero, List.getElem?_cons_zero, List.getElem?_cons_succ]; first | done | exact rfl))); (with_reducible apply And.intro); (· exact rfl); (with_reducible apply And.intro); (· assumption))
  | ((with_reducible apply Exists.intro); (with_reducible apply Exists.intro); (with_reducible apply Exists.intro); (with_reducible apply Exists.intro); (with_reducible apply Exists.intro); (with_reducible apply And.intro); (· exact rfl); (with_reducible apply And.intro); (· exact rfl); (with_reducible apply And.intro); (· (first | exact rfl | assumption | exact AB.sto_get0 | (simp only [List.append_assoc, sa0, sa, ga0, ga, shl, upl, sto, List.cons_append, List.nil_append, List.set_cons_succ, List.set_cons_zero, List.getElem?_cons_zero, List.getElem?_cons_succ]; first | done | exact rfl))); (with_reducible apply And.intro); (· exact rfl); (with_reducible apply And.intro); (· assumption))
  | ((with_reducible apply Exists.intro); (with_reducible apply And.intro); (· (first | (apply AB.dGet_K; (· (first | exact rfl | assumption | exact AB.sto_get0 | (simp only [List.append_assoc, sa0, sa, ga0, ga, shl, upl, sto, List.cons_append, List.nil_append, List.set_cons_succ, List.set_cons_zero, List.getElem?_cons_zero, List.getElem?_cons_succ]; first | done | exact rfl))); (· exact rfl)) | (apply AB.dGet_T; (· (first | exact rfl | assumption | exact AB.sto_get0 | (simp only [List.append_assoc, sa0, sa, ga0, ga, shl, upl, sto, List.cons_append, List.nil_append, List.set_cons_succ, List.set_cons_zero, List.getElem?_cons_zero, List.getElem?_cons_succ]; first | done | exact rfl))); (· exact rfl)) | (apply AB.dGet_L; (· (first | exact rfl | assumption | exact AB.sto_get0 | (simp only [List.append_assoc, sa0, sa, ga0, ga, shl, upl, sto, List.cons_append, List.nil_append, List.set_cons_succ, List.set_cons_zero, List.getElem?_cons_zero, List.getElem?_cons_succ]; first | done | exact rfl))); (· exact rfl)))))
  | ((with_reducible apply Exists.intro); (with_reducible apply Exists.intro); (with_reducible apply And.intro); (· exact rfl); (with_reducible apply And.intro); (· (first | exact rfl | assumption | exact AB.sto_get0 | (simp only [List.append_assoc, sa0, sa, ga0, ga, shl, upl, sto, List.cons_append, List.nil_append, List.set_cons_succ, List.set_cons_zero, List.getElem?_cons_zero, List.getElem?_cons_succ]; first | done | exact rfl))))
  | ((with_reducible apply Exists.intro); (with_reducible apply And.intro); (· ((apply AB.asL_obj); (· (first | exact rfl | assumption | exact AB.sto_get0 | (simp only [List.append_assoc, sa0, sa, ga0, ga, shl, upl, sto, List.cons_append, List.nil_append, List.set_cons_succ, List.set_cons_zero, List.getElem?_cons_zero, List.getElem?_cons_succ]; first | done | exact rfl))))))
  | ((with_reducible apply AB.v_inD); (· (first | (apply AB.dGet_K; (· (first | exact rfl | assumption | exact AB.sto_get0 | (simp only [List.append_assoc, sa0, sa, ga0, ga, shl, upl, sto, List.cons_append, List.nil_append, List.set_cons_succ, List.set_cons_zero, List.getElem?_cons_zero, List.getElem?_cons_succ]; first | done | exact rfl))); (· exact rfl)) | (apply AB.dGet_T; (· (first | exact rfl | assumption | exact AB.sto_get0 | (simp only [List.append_assoc, sa0, sa, ga0, ga, shl, upl, sto, List.cons_append, List.nil_append, List.set_cons_succ, List.set_cons_zero, List.getElem?_cons_zero, List.getElem?_cons_succ]; first | done | exact rfl))); (· exact rfl)) | (apply AB.dGet_L; (· (first | exact rfl | assumption | exact AB.sto_get0 | (simp only [List.append_assoc, sa0, sa, ga0, ga, shl, upl, sto, List.cons_append, List.nil_append, List.set_cons_succ, List.set_cons_zero, List.getElem?_cons_zero, List.getElem?_cons_succ]; first | done | exact rfl))); (· exact rfl)))))
  | ((with_reducible apply AB.v_ninD); (· (first | (apply AB.dGet_K; (· (first | exact rfl | assumption | exact AB.sto_get0 | (simp only [List.append_assoc, sa0, sa, ga0, ga, shl, upl, sto, List.cons_append, List.nil_append, List.set_cons_succ, List.set_cons_zero, List.getElem?_cons_zero, List.getElem?_cons_succ]; first | done | exact rfl))); (· exact rfl)) | (apply AB.dGet_T; (· (first | exact rfl | assumption | exact AB.sto_get0 | (simp only [List.append_assoc, sa0, sa, ga0, ga, shl, upl, sto, List.cons_append, List.nil_append, List.set_cons_succ, List.set_cons_zero, List.getElem?_cons_zero, List.getElem?_cons_succ]; first | done | exact rfl))); (· exact rfl)) | (apply AB.dGet_L; (· (first | exact rfl | assumption | exact AB.sto_get0 | (simp only [List.append_assoc, sa0, sa, ga0, ga, shl, upl, sto, List.cons_append, List.nil_append, List.set_cons_succ, List.set_cons_zero, List.getElem?_cons_zero, List.getElem?_cons_succ]; first | done | exact rfl))); (· exact rfl)))))
  | ((with_reducible apply Exists.intro); (with_reducible apply Exists.intro); (with_reducible apply And.intro); (· exact rfl); (with_reducible apply And.intro); (· exact rfl))
  | ((with_reducible apply Exists.intro); (with_reducible apply Exists.intro); (with_reducible apply And.intro); (· exact rfl))
  | walk_at "gx"))
local macro_rules | `(tactic| walk_at "go") => `(tactic| ((repeat walk_at "go1"); try (with_reducible conv => whnf)))
local macro_rules | `(tactic| walk_at "gd") => `(tactic| ((repeat first | walk_at "go1" | ((with_reducible conv => whnf); (with_reducible apply AB.w_ifP); (· first | decide | exact rfl | omega)) | ((with_reducible conv => whnf); (with_reducible apply AB.w_ifQ); (· first | decide | omega))); try (with_reducible conv => whnf)))
local macro_rules | `(tactic| walk_at "gk") => `(tactic| ((repeat ((with_reducible conv => whnf); (fail_if_success (with_reducible apply AB.is_back)); walk_at "go1")); try (with_reducible conv => whnf)))
local macro_rules | `(tactic| walk_at "gx") => `(tactic| ((with_reducible apply AB.v_bk); (· first | exact AB.mdl_0 | assumption); (· exact rfl)))
def top (i : Nat) : Stmt := PySem.Challenge.pw_greatkeep_k13_whole_pages.main.body.getD i (.Pass ⟨0, 0, 0, 0⟩)
abbrev s_entry_of : Stmt := top 1
abbrev N_entry_of : List Str := ["key", "prefix", "mark", "place"]
theorem sc_entry_of : FnScope N_entry_of ["key", "prefix", "mark"] (defScope s_entry_of) := ⟨rfl, rfl, rfl, by decide +kernel, rfl, by decide +kernel, by decide +kernel⟩
abbrev s_listed : Stmt := top 2
abbrev N_listed : List Str := ["keys", "prefix", "mark", "after", "most", "found", "key", "some", "entry"]
theorem sc_listed : FnScope N_listed ["keys", "prefix", "mark", "after", "most"] (defScope s_listed) := ⟨rfl, rfl, rfl, by decide +kernel, rfl, by decide +kernel, by decide +kernel⟩
abbrev s_law_cell : Stmt := top 4
abbrev N_law_cell : List Str := ["_law_script", "_law_k"]
theorem sc_law_cell : FnScope N_law_cell ["_law_script", "_law_k"] (defScope s_law_cell) := ⟨rfl, rfl, rfl, by decide +kernel, rfl, by decide +kernel, by decide +kernel⟩
abbrev s_law_mix : Stmt := top 5
abbrev N_law_mix : List Str := ["_law_cell_here", "_law_prime", "_law_many", "_law_blend"]
theorem sc_law_mix : FnScope N_law_mix ["_law_cell_here", "_law_prime", "_law_many"] (defScope s_law_mix) := ⟨rfl, rfl, rfl, by decide +kernel, rfl, by decide +kernel, by decide +kernel⟩
abbrev s_law_key : Stmt := top 7
abbrev N_law_key : List Str := ["_law_cell_here", "_law_signs", "_law_many", "_law_k"]
theorem sc_law_key : FnScope N_law_key ["_law_cell_here"] (defScope s_law_key) := ⟨rfl, rfl, rfl, by decide +kernel, rfl, by decide +kernel, by decide +kernel⟩
abbrev s_law_pages : Stmt := top 8
abbrev N_law_pages : List Str := ["_law_keys", "_law_prefix", "_law_mark", "_law_sizes", "_law_found", "_law_after", "_law_turn", "_law_many", "_law_entries", "_law_more"]
theorem sc_law_pages : FnScope N_law_pages ["_law_keys", "_law_prefix", "_law_mark", "_law_sizes"] (defScope s_law_pages) := ⟨rfl, rfl, rfl, by decide +kernel, rfl, by decide +kernel, by decide +kernel⟩
abbrev s_law_has : Stmt := top 9
abbrev N_law_has : List Str := ["_law_entries", "_law_key_here", "_law_prefix", "_law_mark", "_law_folders", "_law_rest", "_law_entry", "_law_folder"]
theorem sc_law_has : FnScope N_law_has ["_law_entries", "_law_key_here", "_law_prefix", "_law_mark"] (defScope s_law_has) := ⟨rfl, rfl, rfl, by decide +kernel, rfl, by decide +kernel, by decide +kernel⟩
abbrev s_law : Stmt := top 10
abbrev N_law : List Str := ["_law_script", "_law_k", "_law_cell_here", "_law_keys", "_law_j", "_law_key_here", "_law_prefix", "_law_mark", "_law_whole", "_law_more", "_law_sizes", "_law_entry"]
theorem sc_law : FnScope N_law ["_law_script"] (defScope s_law) := ⟨rfl, rfl, rfl, by decide +kernel, rfl, by decide +kernel, by decide +kernel⟩
structure Txt (K : PySem.W.Frag) (mg : Str → Option Value) : Prop where
  n_all : mg "all" = none
  n_any : mg "any" = none
  n_len : mg "len" = none
  n_list : mg "list" = none
  n_range : mg "range" = none
  n_set : mg "set" = none
  n_sorted : mg "sorted" = none
  n_tuple : mg "tuple" = none
inductive A_entry_of : List D → Th → AK → AX → Prop where
  | mk {key prefix_ mark : List Nat} {th : Th} {k : AK} {kx : AX} (hk : key.length ≤ 1000) (hp : prefix_.length ≤ 1000) (q : k (.str (S (entL key prefix_ mark))) th) : A_entry_of [.str (S key), .str (S prefix_), .str (S mark)] (th) k kx
theorem len_entry_of : ∀ ds θ k kx, A_entry_of ds θ k kx → ds.length = 3 := by rintro _ _ _ _ ⟨⟩ <;> rfl
theorem A_entry_of.up {ds : List D} {θ : Th} {k k2 : AK} {kx kx2 : AX} (h : A_entry_of ds θ k kx) (hKK : ∀ d θ, k d θ → k2 d θ) (hXX : ∀ c θ, kx c θ → kx2 c θ) : A_entry_of ds θ k2 kx2 := by
  obtain @⟨key, prefix_, mark, th, k, kx, hk, hp, q⟩ := h
  exact .mk hk hp (by first | exact hKK _ _ q | exact AB.on_imp (fun _ z => hKK _ _ z) (fun _ z => hXX _ _ z) q | exact fun a => hKK _ _ (q a) | exact fun a => hXX _ _ (q a) | exact fun a b => hKK _ _ (q a b) | exact fun a b => hXX _ _ (q a b) | exact fun a b c d => hKK _ _ (q a b c d))
theorem lk0 : aC (D.str ("" : Str)) = aC (D.str (S [])) := congrArg (fun z => aC (D.str z)) (by decide +kernel)
def t_entry_of : ASR := aSeq (aIfS (aTst (aBin fEq (aVar 2) (aC (.str "")))) (aRet (aVar 0)) (aNext)) (aSeq (aAsg (aBM "str" fFind3 (aVar 0) (aCons (aVar 2) (aCons (aCB fLen (aCons (aVar 1) (aNil))) (aNil)))) (gN 3)) (aSeq (aIfS (aTst (aBin fLt (aVar 3) (aC (.int 0)))) (aRet (aVar 0)) (aNext)) (aRet (aSl (aVar 0) oNone (oSome (aBin fAdd (aVar 3) (aC (.int 1))))))))
local macro_rules | `(tactic| walk_at "lits_entry_of") => `(tactic| simp only [lk0])
theorem run_entry_of  : ∀ ds θ k kx, (∀ e ∈ θ, Ent.lt θ.length e) → A_entry_of ds θ k kx → t_entry_of (eBody θ.length k kx) (startG 4 ds) θ := by
  intro ds θ k kx hlt hA
  obtain @⟨key, prefix_, mark, th, k, kx, hk, hp, q⟩ := hA
  walk_at "gs"
  unfold t_entry_of
  walk_at "lits_entry_of"
  walk_at "go"
  unfold entL findT at q
  refine w_if (fun h => ?_) (fun h => ?_)
  · rw [if_pos h] at q
    walk_at "go"
    exact q
  · rw [if_neg h] at q
    walk_at "go"
    refine ⟨_, _, _, rfl, rfl, ?_⟩
    walk_at "go"
    refine w_if (fun h2 => ?_) (fun h2 => ?_)
    · rw [if_pos h2] at q
      walk_at "go"
      exact q
    · rw [if_neg h2] at q
      walk_at "go"
      rw [cutL_take (by omega)]
      exact q
inductive A_listed : List D → Th → AK → AX → Prop where
  | mk {keys : List (List Nat)} {prefix_ mark after : List Nat} {most : Nat} {th : Th} {k : AK} {kx : AX} (h64 : keys.length < 64) (hk : ∀ l ∈ keys, l.length ≤ 1000) (hp : prefix_.length ≤ 1000) (q : k (pageD keys prefix_ mark after most) th) : A_listed [.tup (keys.map fun l => .str (S l)), .str (S prefix_), .str (S mark), .str (S after), .int (most : Nat)] (th) k kx
theorem len_listed : ∀ ds θ k kx, A_listed ds θ k kx → ds.length = 5 := by rintro _ _ _ _ ⟨⟩ <;> rfl
theorem A_listed.up {ds : List D} {θ : Th} {k k2 : AK} {kx kx2 : AX} (h : A_listed ds θ k kx) (hKK : ∀ d θ, k d θ → k2 d θ) (hXX : ∀ c θ, kx c θ → kx2 c θ) : A_listed ds θ k2 kx2 := by
  obtain @⟨keys, prefix_, mark, after, most, th, k, kx, h64, hk, hp, q⟩ := h
  exact .mk h64 hk hp (by first | exact hKK _ _ q | exact AB.on_imp (fun _ z => hKK _ _ z) (fun _ z => hXX _ _ z) q | exact fun a => hKK _ _ (q a) | exact fun a => hXX _ _ (q a) | exact fun a b => hKK _ _ (q a b) | exact fun a b => hXX _ _ (q a b) | exact fun a b c d => hKK _ _ (q a b c d))
def t_listed : ASR := aSeq (aAsg (aDicK) (gN 5)) (aSeq (aFor (aItT (aVar 0)) (gN 6) (aIfS (aTru (aBM "str" fStarts (aVar 6) (aCons (aVar 1) (aNil)))) (aPutS (aVar 5) (aCall A_entry_of (aCons (aVar 6) (aCons (aVar 1) (aCons (aVar 2) (aNil))))) (aC (.bl true))) (aNext))) (aSeq (aAsg (aLc (aItL (aCB fSortA (aCons (aVar 5) (aNil)))) (.one 8) (aTst (aBin fGt (aVar 8) (aVar 3))) (aVar 8) [8]) (gN 7)) (aRet (aTup (aCons (aCB fTuple (aCons (aSl (aVar 7) oNone (oSome (aVar 4))) (aNil))) (aCons (aBin fGt (aCB fLen (aCons (aVar 7) (aNil))) (aVar 4)) (aNil)))))))
theorem run_listed  : ∀ ds θ k kx, (∀ e ∈ θ, Ent.lt θ.length e) → A_listed ds θ k kx → t_listed (eBody θ.length k kx) (startG 9 ds) θ := by
  intro ds θ k kx hlt hA
  obtain @⟨keys, prefix_, mark, after, most, th, k, kx, h64, hk, hp, q⟩ := hA
  walk_at "gs"
  unfold t_listed
  walk_at "go"
  refine loop_inv (fun i Γ θ' => θ' = θ ++ [.dK (mapG rowsK D.bl (foundL (keys.take i) prefix_ mark))] ∧ ∃ x6 x7 x8 : Option D,
    Γ = [some (.tup (keys.map fun l => .str (S l))), some (.str (S prefix_)), some (.str (S mark)), some (.str (S after)), some (.int (most : Nat)), some (.obj θ.length), x6, x7, x8]) ⟨rfl, _, _, _, rfl⟩ (fun _ _ _ _ => trivial) ?_ ?_
  · rintro i d Γ θ' kk hd ⟨rfl, x6, x7, x8, rfl⟩ hk2
    obtain ⟨l, hl, rfl⟩ := map_get hd
    have hll := hk l (List.mem_of_getElem? hl)
    have hfl := foundL_len prefix_ mark (keys.take i)
    have hti : (keys.take i).length ≤ keys.length := by rw [List.length_take]; omega
    have hfs := foundL_snoc (keys.take i) l prefix_ mark
    rw [← take_snoc hl] at hfs
    have hfm : (mapG rowsK D.bl (foundL (keys.take i) prefix_ mark)).length ≤ 64 := by rw [mapG_len]; omega
    walk_at "go"
    cases hst : Txt.startswith (S l) (S prefix_) with
    | true =>
      rw [hst, if_pos rfl] at hfs
      refine w_ifTe rfl ?_
      walk_at "go"
      refine A_entry_of.mk hll hp ?_
      walk_at "go"
      refine ⟨_, _, _, rfl, at_end, (by intro _ z; cases z), dPutE_K (by omega) rfl, ?_⟩
      have e : putG (mapG rowsK D.bl (foundL (keys.take i) prefix_ mark)) (Sum.inr (S (entL l prefix_ mark))) (.bl true) = mapG rowsK D.bl (foundL (keys.take (i + 1)) prefix_ mark) := by
        rw [hfs]; exact putG_map inj_rows _ _ _
      rw [e, set_end]
      exact hk2 _ _ ⟨rfl, _, _, _, rfl⟩
    | false =>
      rw [hst, if_neg (fun z => nomatch z)] at hfs
      refine w_ifFe rfl ?_
      walk_at "go"
      rw [← hfs]
      exact hk2 _ _ ⟨rfl, _, _, _, rfl⟩
  · rintro Γ θ' ⟨rfl, x6, x7, x8, rfl⟩
    rw [List.length_map, List.take_of_length_le (Nat.le_refl _)]
    have hfl := foundL_len prefix_ mark keys
    walk_at "go"
    refine v_sortDS (ks := (foundL keys prefix_ mark).map (·.1)) (.inl at_end) (by rw [keysG_map]; rfl) (by rw [List.length_map]; omega) ?_
    have hsl := ssort_len ((foundL keys prefix_ mark).map (·.1))
    rw [List.length_map] at hsl
    walk_at "go"
    refine cl_filter (fun e => decide (after < e)) (fun l => .str (S l)) (fun e he acc ko q => ?_) ?_
    · walk_at "go"
      refine w_if (fun h => ?_) (fun h => ?_)
      · rw [if_pos (by simpa using h)] at q
        walk_at "go"
        exact q
      · rw [if_neg (by simpa using h)] at q
        exact q
    refine And.intro (lts_strs _) ?_
    have hpl : (pageL keys prefix_ mark after).length ≤ 64 := by
      refine Nat.le_trans (List.length_filter_le _ _) ?_
      rw [ssort_len, List.length_map]; omega
    walk_at "gk"
    rw [cutL_map, cutL_take (by omega), Int.toNat_natCast, List.length_map]
    unfold pageD at q
    have hdl : decide (((most : Nat) : Int) < (((pageL keys prefix_ mark after).length : Nat) : Int)) = decide (most < (pageL keys prefix_ mark after).length) := decide_eq_decide.mpr (by omega)
    rw [← hdl] at q
    refine .inr ⟨θ, _, rfl, Nat.le_refl _, ?_, hlt, q⟩
    unfold D.lt
    refine D.lts_iff.mpr fun d hd => ?_
    simp only [List.mem_cons, List.not_mem_nil, or_false] at hd
    rcases hd with rfl | rfl
    · unfold D.lt; exact lts_strs _
    · unfold D.lt; trivial
end K13
namespace K13
open PySem PySem.Spec PyProof.Rows L2 AB TL

local macro_rules | `(tactic| walk_at "gs") => `(tactic| (apply AB.w_start; (· (simp only [startG, List.map_cons, List.map_nil, List.length_cons, List.length_nil, Nat.reduceAdd, Nat.reduceSub, List.replicate_succ, List.replicate_zero, List.cons_append, List.nil_append]; try exact rfl))))
local macro_rules | `(tactic| walk_at "gb") => `(tactic| (first | exact rfl | decide | omega | (apply AB.natAbs_small <;> omega) | (simp only [List.length_append, List.length_map, List.length_cons, List.length_nil, List.length_take, List.length_drop, rep_len, Int.reduceToNat, List.length_range, List.length_reverse, nums_len, signs_len, zipD_len]; omega)))
local macro_rules | `(tactic| walk_at "gh") => `(tactic| (first | exact rfl | assumption | exact AB.sto_get0 | (simp only [List.append_assoc, sa0, sa, ga0, ga, shl, upl, sto, List.cons_append, List.nil_append, List.set_cons_succ, List.set_cons_zero, List.getElem?_cons_zero, List.getElem?_cons_succ]; first | done | exact rfl)))
local macro_rules | `(tactic| walk_at "gx") => `(tactic| first | ((with_reducible apply c_mix); (· decide); (· decide); (· first | decide | omega)) | ((with_reducible apply c_cellI); (· omega)) | (with_reducible apply c_key) | (with_reducible apply c_data))
local macro_rules | `(tactic| walk_at "go1") => `(tactic| ((with_reducible conv => whnf); first
  | ((with_reducible apply Exists.intro); (with_reducible apply And.intro); (· exact rfl))
  | (with_reducible first | apply AB.w_onO | apply AB.w_onN | apply AB.w_tryAs | apply AB.w_tryOnly | apply AB.w_lstRng | apply AB.v_addI | apply AB.w_back | apply AB.v_eqI | apply AB.v_eqSS | apply AB.v_eqS | apply AB.v_eqSI | apply AB.v_eqIS | apply AB.w_ifN | apply AB.v_slT2 | apply AB.v_lt | apply AB.v_gt | apply AB.v_slL | apply AB.v_ordSS | apply AB.v_neI | apply AB.v_neSS | apply AB.v_neS | apply AB.v_inSS | apply AB.v_ninSS | apply AB.v_lenT | apply AB.v_lenL | apply AB.v_lenK | apply AB.v_ltSS | apply AB.v_gtSS | apply AB.v_eqB | apply AB.v_intI | apply AB.v_intB | apply AB.v_allL | apply AB.v_anyL | apply AB.v_sumL | apply AB.v_tupL | apply AB.v_tupT | apply AB.w_ifT | apply AB.w_ifF | apply AB.w_elEnd)
  | ((with_reducible apply AB.w_gN); (· (simp only [List.set_cons_succ, List.set_cons_zero]; try exact rfl)))
  | ((with_reducible apply AB.v_isE); (· assumption); (· assumption))
  | ((with_reducible apply AB.v_isET); (· assumption); (· assumption))
  | ((with_reducible apply AB.v_addSS); (· (first | exact rfl | decide | omega | (apply AB.natAbs_small <;> omega) | (simp only [List.length_append, List.length_map, List.length_cons, List.length_nil, List.length_take, List.length_drop, rep_len, Int.reduceToNat, List.length_range, List.length_reverse, nums_len, signs_len, zipD_len]; omega))))
  | ((with_reducible apply AB.v_addT2); (· (first | exact rfl | decide | omega | (apply AB.natAbs_small <;> omega) | (simp only [List.length_append, List.length_map, List.length_cons, List.length_nil, List.length_take, List.length_drop, rep_len, Int.reduceToNat, List.length_range, List.length_reverse, nums_len, signs_len, zipD_len]; omega))))
  | ((with_reducible apply AB.v_mul); (· (first | exact .inr ⟨by decide, by decide⟩ | exact .inl ⟨by decide, by decide⟩ | omega)))
  | ((with_reducible apply AB.v_lenSS); (· (first | exact rfl | decide | omega | (apply AB.natAbs_small <;> omega) | (simp only [List.length_append, List.length_map, List.length_cons, List.length_nil, List.length_take, List.length_drop, rep_len, Int.reduceToNat, List.length_range, List.length_reverse, nums_len, signs_len, zipD_len]; omega))))
  | ((with_reducible apply AB.v_slS); (· (first | exact rfl | decide | omega | (apply AB.natAbs_small <;> omega) | (simp only [List.length_append, List.length_map, List.length_cons, List.length_nil, List.length_take, List.length_drop, rep_len, Int.reduceToNat, List.length_range, List.length_reverse, nums_len, signs_len, zipD_len]; omega))))
  | ((with_reducible apply AB.v_addL); (· (first | exact rfl | decide | omega | (apply AB.natAbs_small <;> omega) | (simp only [List.length_append, List.length_map, List.length_cons, List.length_nil, List.length_take, List.length_drop, rep_len, Int.reduceToNat, List.length_range, List.length_reverse, nums_len, signs_len, zipD_len]; omega))))
  | ((with_reducible apply AB.v_mulSS); (· (first | exact rfl | decide | omega | (apply AB.natAbs_small <;> omega) | (simp only [List.length_append, List.length_map, List.length_cons, List.length_nil, List.length_take, List.length_drop, rep_len, Int.reduceToNat, List.length_range, List.length_reverse, nums_len, signs_len, zipD_len]; omega))); (· (first | exact rfl | decide | omega | (apply AB.natAbs_small <;> omega) | (simp only [List.length_append, List.length_map, List.length_cons, List.length_nil, List.length_take, List.length_drop, rep_len, Int.reduceToNat, List.length_range, List.length_reverse, nums_len, signs_len, zipD_len]; omega))); (· (first | exact rfl | decide | omega | (apply AB.natAbs_small <;> omega) | (simp only [List.length_append, List.length_map, List.length_cons, List.length_nil, List.length_take, List.length_drop, rep_len, Int.reduceToNat, List.length_range, List.length_reverse, nums_len, signs_len, zipD_len]; omega))))
  | ((with_reducible apply AB.v_isi); (· exact rfl); (· (first | exact AB.kb_NoneType_str | exact AB.kb_NoneType_int | exact AB.kb_NoneType_bool | exact AB.kb_NoneType_tuple | exact AB.kb_NoneType_list | exact AB.kb_bool_str | exact AB.kb_bool_int | exact AB.kb_bool_bool | exact AB.kb_bool_tuple | exact AB.kb_bool_list | exact AB.kb_int_str | exact AB.kb_int_int | exact AB.kb_int_bool | exact AB.kb_int_tuple | exact AB.kb_int_list | exact AB.kb_str_str | exact AB.kb_str_int | exact AB.kb_str_bool | exact AB.kb_str_tuple | exact AB.kb_str_list | exact AB.kb_tuple_str | exact AB.kb_tuple_int | exact AB.kb_tuple_bool | exact AB.kb_tuple_tuple | exact AB.kb_tuple_list | exact AB.kb_list_str | exact AB.kb_list_int | exact AB.kb_list_bool | exact AB.kb_list_tuple | exact AB.kb_list_list)))
  | ((with_reducible apply AB.v_isi2); (· exact rfl); (· (first | exact AB.kb_NoneType_str | exact AB.kb_NoneType_int | exact AB.kb_NoneType_bool | exact AB.kb_NoneType_tuple | exact AB.kb_NoneType_list | exact AB.kb_bool_str | exact AB.kb_bool_int | exact AB.kb_bool_bool | exact AB.kb_bool_tuple | exact AB.kb_bool_list | exact AB.kb_int_str | exact AB.kb_int_int | exact AB.kb_int_bool | exact AB.kb_int_tuple | exact AB.kb_int_list | exact AB.kb_str_str | exact AB.kb_str_int | exact AB.kb_str_bool | exact AB.kb_str_tuple | exact AB.kb_str_list | exact AB.kb_tuple_str | exact AB.kb_tuple_int | exact AB.kb_tuple_bool | exact AB.kb_tuple_tuple | exact AB.kb_tuple_list | exact AB.kb_list_str | exact AB.kb_list_int | exact AB.kb_list_bool | exact AB.kb_list_tuple | exact AB.kb_list_list)); (· (first | exact AB.kb_NoneType_str | exact AB.kb_NoneType_int | exact AB.kb_NoneType_bool | exact AB.kb_NoneType_tuple | exact AB.kb_NoneType_list | exact AB.kb_bool_str | exact AB.kb_bool_int | exact AB.kb_bool_bool | exact AB.kb_bool_tuple | exact AB.kb_bool_list | exact AB.kb_int_str | exact AB.kb_int_int | exact AB.kb_int_bool | exact AB.kb_int_tuple | exact AB.kb_int_list | exact AB.kb_str_str | exact AB.kb_str_int | exact AB.kb_str_bool | exact AB.kb_str_tuple | exact AB.kb_str_list | exact AB.kb_tuple_str | exact AB.kb_tuple_int | exact AB.kb_tuple_bool | exact AB.kb_tuple_tuple | exact AB.kb_tuple_list | exact AB.kb_list_str | exact AB.kb_list_int | exact AB.kb_list_bool | exact AB.kb_list_tuple | exact AB.kb_list_list)); (· first | exact Bool.or_true _ | exact Bool.true_or _ | exact Bool.or_false _))
  | ((with_reducible apply AB.w_lc); (· (simp only [wipeG, List.set_cons_succ, List.set_cons_zero]; try exact rfl)))
  | ((with_reducible apply AB.w_lcS); (· (simp only [wipeG, List.set_cons_succ, List.set_cons_zero]; try exact rfl)))
  | ((with_reducible apply AB.v_lstRng); (· (first | exact rfl | decide | omega | (apply AB.natAbs_small <;> omega) | (simp only [List.length_append, List.length_map, List.length_cons, List.length_nil, List.length_take, List.length_drop, rep_len, Int.reduceToNat, List.length_range, List.length_reverse, nums_len, signs_len, zipD_len]; omega))); (· (first | exact rfl | decide | omega | (apply AB.natAbs_small <;> omega) | (simp only [List.length_append, List.length_map, List.length_cons, List.length_nil, List.length_take, List.length_drop, rep_len, Int.reduceToNat, List.length_range, List.length_reverse, nums_len, signs_len, zipD_len]; omega))))
  | ((with_reducible apply AB.w_elY); (· (simp only [List.set_cons_succ, List.set_cons_zero]; try exact rfl)))
  | ((with_reducible apply AB.w_el); (· (simp only [List.set_cons_succ, List.set_cons_zero]; try exact rfl)))
  | ((with_reducible apply AB.v_append); (· (first | exact rfl | assumption | exact AB.sto_get0 | (simp only [List.append_assoc, sa0, sa, ga0, ga, shl, upl, sto, List.cons_append, List.nil_append, List.set_cons_succ, List.set_cons_zero, List.getElem?_cons_zero, List.getElem?_cons_succ]; first | done | exact rfl))); (· (first | exact rfl | decide | omega | (apply AB.natAbs_small <;> omega) | (simp only [List.length_append, List.length_map, List.length_cons, List.length_nil, List.length_take, List.length_drop, rep_len, Int.reduceToNat, List.length_range, List.length_reverse, nums_len, signs_len, zipD_len]; omega))); (· (simp only [List.set_cons_succ, List.set_cons_zero]; try exact rfl)))
  | ((with_reducible apply AB.v_lenO); (· (first | exact rfl | assumption | exact AB.sto_get0 | (simp only [List.append_assoc, sa0, sa, ga0, ga, shl, upl, sto, List.cons_append, List.nil_append, List.set_cons_succ, List.set_cons_zero, List.getElem?_cons_zero, List.getElem?_cons_succ]; first | done | exact rfl))))
  | ((with_reducible apply AB.v_slO); (· (first | exact rfl | assumption | exact AB.sto_get0 | (simp only [List.append_assoc, sa0, sa, ga0, ga, shl, upl, sto, List.cons_append, List.nil_append, List.set_cons_succ, List.set_cons_zero, List.getElem?_cons_zero, List.getElem?_cons_succ]; first | done | exact rfl))))
  | ((with_reducible apply AB.v_tupO); (· (first | exact rfl | assumption | exact AB.sto_get0 | (simp only [List.append_assoc, sa0, sa, ga0, ga, shl, upl, sto, List.cons_append, List.nil_append, List.set_cons_succ, List.set_cons_zero, List.getElem?_cons_zero, List.getElem?_cons_succ]; first | done | exact rfl))))
  | ((with_reducible apply AB.w_exO); (· (first | exact rfl | assumption | exact AB.sto_get0 | (simp only [List.append_assoc, sa0, sa, ga0, ga, shl, upl, sto, List.cons_append, List.nil_append, List.set_cons_succ, List.set_cons_zero, List.getElem?_cons_zero, List.getElem?_cons_succ]; first | done | exact rfl))))
  | ((with_reducible apply AB.w_truO); (· (first | exact rfl | assumption | exact AB.sto_get0 | (simp only [List.append_assoc, sa0, sa, ga0, ga, shl, upl, sto, List.cons_append, List.nil_append, List.set_cons_succ, List.set_cons_zero, List.getElem?_cons_zero, List.getElem?_cons_succ]; first | done | exact rfl))))
  | ((with_reducible apply AB.v_ixT); (· first | exact rfl | exact atI_nat (j := 0) rfl | exact atI_nat (j := 1) rfl | exact atI_nat (j := 2) rfl))
  | ((with_reducible apply AB.v_ixL); (· first | exact rfl | exact atI_nat (j := 0) rfl))
  | ((with_reducible apply AB.w_elTY); (· (simp only [setLG, List.set_cons_succ, List.set_cons_zero]; try exact rfl)); (· exact rfl))
  | ((with_reducible apply AB.w_elT); (· (simp only [setLG, List.set_cons_succ, List.set_cons_zero]; try exact rfl)); (· exact rfl))
  | ((with_reducible apply AB.w_exR); (· (first | exact rfl | decide | omega | (apply AB.natAbs_small <;> omega) | (simp only [List.length_append, List.length_map, List.length_cons, List.length_nil, List.length_take, List.length_drop, rep_len, Int.reduceToNat, List.length_range, List.length_reverse, nums_len, signs_len, zipD_len]; omega))); (· (first | exact rfl | decide | omega | (apply AB.natAbs_small <;> omega) | (simp only [List.length_append, List.length_map, List.length_cons, List.length_nil, List.length_take, List.length_drop, rep_len, Int.reduceToNat, List.length_range, List.length_reverse, nums_len, signs_len, zipD_len]; omega))))
  | ((with_reducible refine And.intro ?_ ?_); (· first | (exact v_tyS) | (exact v_tyO (by (first | exact rfl | assumption | exact AB.sto_get0 | (simp only [List.append_assoc, sa0, sa, ga0, ga, shl, upl, sto, List.cons_append, List.nil_append, List.set_cons_succ, List.set_cons_zero, List.getElem?_cons_zero, List.getElem?_cons_succ]; first | done | exact rfl)))) | (exact fun _ => trivial) | (exact fun _ => rfl) | (first | exact rfl | assumption | exact AB.sto_get0 | (simp only [List.append_assoc, sa0, sa, ga0, ga, shl, upl, sto, List.cons_append, List.nil_append, List.set_cons_succ, List.set_cons_zero, List.getElem?_cons_zero, List.getElem?_cons_succ]; first | done | exact rfl)) | (exact v_isDK (by (first | exact rfl | assumption | exact AB.sto_get0 | (simp only [List.append_assoc, sa0, sa, ga0, ga, shl, upl, sto, List.cons_append, List.nil_append, List.set_cons_succ, List.set_cons_zero, List.getElem?_cons_zero, List.getElem?_cons_succ]; first | done | exact rfl)))) | (exact v_isDT (by (first | exact rfl | assumption | exact AB.sto_get0 | (simp only [List.append_assoc, sa0, sa, ga0, ga, shl, upl, sto, List.cons_append, List.nil_append, List.set_cons_succ, List.set_cons_zero, List.getElem?_cons_zero, List.getElem?_cons_succ]; first | done | exact rfl)))) | (first | exact rfl | decide | omega | (apply AB.natAbs_small <;> omega) | (simp only [List.length_append, List.length_map, List.length_cons, List.length_nil, List.length_take, List.length_drop, rep_len, Int.reduceToNat, List.length_range, List.length_reverse, nums_len, signs_len, zipD_len]; omega))))
  | ((with_reducible apply Exists.intro); (with_reducible apply Exists.intro); (with_reducible apply Exists.intro); (with_reducible apply Exists.intro); (with_reducible apply And.intro); (· exact rfl); (with_reducible apply And.intro); (· (first | exact rfl | assumption | exact AB.sto_get0 | (simp only [List.append_assoc, sa0, sa, ga0, ga, shl, upl, sto, List.cons_append, List.nil_append, List.set_cons_succ, List.set_cons_zero, List.getElem?_cons_zero, List.getElem?_cons_succ]; first | done | exact rfl))); (with_reducible apply And.intro); (· assumption); (with_reducible apply And.intro); (· assumption); (with_reducible apply And.intro); (· exact rfl))
  | ((with_reducible apply Exists.intro); (with_reducible apply Exists.intro); (with_reducible apply Exists.intro); (with_reducible apply And.intro); (· exact rfl); (with_reducible apply And.intro); (· (first | exact rfl | assumption | exact AB.sto_get0 | (simp only [List.append_assoc, sa0, sa, ga0, ga, shl, upl, sto, List.cons_append, List.nil_append, List.set_cons_succ, List.set_cons_zero, List.getElem?_cons_zero, List.getElem?_cons_succ]; first | done | exact rfl))); (with_reducible apply And.intro); (· assumption); (with_reducible apply And.intro); (· assumption); (with_reducible apply And.intro); (· exact of_decide_eq_true rfl))
  | ((with_reducible apply Exists.intro); (with_reducible apply Exists.intro); (with_reducible apply Exists.intro); (with_reducible apply Exists.intro); (with_reducible apply And.intro); (· exact rfl); (with_reducible apply And.intro); (· (first | exact rfl | assumption | exact AB.sto_get0 | (simp only [List.append_assoc, sa0, sa, ga0, ga, shl, upl, sto, List.cons_append, List.nil_append, List.set_cons_succ, List.set_cons_zero, List.getElem?_cons_zero, List.getElem?_cons_succ]; first | done | exact rfl))); (with_reducible apply And.intro); (· assumption); (with_reducible apply And.intro); (· exact rfl))
  | ((with_reducible apply Exists.intro); (with_reducible apply Exists.intro); (with_reducible apply Exists.intro); (with_reducible apply And.intro); (· exact rfl); (with_reducible apply And.intro); (· (first | exact rfl | assumption | exact AB.sto_get0 | (simp only [List.append_assoc, sa0, sa, ga0, ga, shl, upl, sto, List.cons_append, List.nil_append, List.set_cons_succ, List.set_cons_zero, List.getElem?_cons_zero, List.getElem?_cons_succ]; first | done | exact rfl))); (with_reducible apply And.intro); (· (intro _ z; cases z)); (with_reducible apply And.intro); (· (first | (apply AB.dPutE_K; (· (first | omega | assumption)); (· exact rfl)) | (apply AB.dPutE_T; (· (first | omega | assumption)); (· exact rfl)))))
  | ((with_reducible apply Exists.intro); (with_reducible apply Exists.intro); (with_reducible apply Exists.intro); (with_reducible apply Exists.intro); (with_reducible apply And.intro); (· exact rfl); (with_reducible apply And.intro); (· (first | exact rfl | assumption | exact AB.sto_get0 | (simp only [List.append_assoc, sa0, sa, ga0, ga, shl, upl, sto, List.cons_append, List.nil_append, List.set_cons_succ, List.set_cons_zero, List.getElem?_cons_zero, List.getElem?_cons_succ]; first | done | exact rfl))); (with_reducible apply And.intro); (· exact rfl); (with_reducible apply And.intro); (· assumption))
  | ((with_reducible apply Exists.intro); (with_reducible apply Exists.intro); (with_reducible apply Exists.intro); (with_reducible apply Exists.intro); (with_reducible apply Exists.intro); (with_reducible apply And.intro); (· exact rfl); (with_reducible apply And.intro); (· exact rfl); (with_reducible apply And.intro); (· (first | exact rfl | assumption | exact AB.sto_get0 | (simp only [List.append_assoc, sa0, sa, ga0, ga, shl, upl, sto, List.cons_append, List.nil_append, List.set_cons_succ, List.set_cons_zero, List.getElem?_cons_zero, List.getElem?_cons_succ]; first | done | exact rfl))); (with_reducible apply And.intro); (· exact rfl); (with_reducible apply And.intro); (· assumption))
  | ((with_reducible apply Exists.intro); (with_reducible apply And.intro); (· (first | (apply AB.dGet_K; (· (first | exact rfl | assumption | exact AB.sto_get0 | (simp only [List.append_assoc, sa0, sa, ga0, ga, shl, upl, sto, List.cons_append, List.nil_append, List.set_cons_succ, List.set_cons_zero, List.getElem?_cons_zero, List.getElem?_cons_succ]; first | done | exact rfl))); (· exact rfl)) | (apply AB.dGet_T; (· (first | exact rfl | assumption | exact AB.sto_get0 | (simp only [List.append_assoc, sa0, sa, ga0, ga, shl, upl, sto, List.cons_append, List.nil_append, List.set_cons_succ, List.set_cons_zero, List.getElem?_cons_zero, List.getElem?_cons_succ]; first | done | exact rfl))); (· exact rfl)) | (apply AB.dGet_L; (· (first | exact rfl | assumption | exact AB.sto_get0 | (simp only [List.append_assoc, sa0, sa, ga0, ga, shl, upl, sto, List.cons_append, List.nil_append, List.set_cons_succ, List.set_cons_zero, List.getElem?_cons_zero, List.getElem?_cons_succ]; first | done | exact rfl))); (· exact rfl)))))
  | ((with_reducible apply Exists.intro); (with_reducible apply Exists.intro); (with_reducible apply And.intro); (· exact rfl); (with_reducible apply And.intro); (· (first | exact rfl | assumption | exact AB.sto_get0 | (simp only [List.append_assoc, sa0, sa, ga0, ga, shl, upl, sto, List.cons_append, List.nil_append, List.set_cons_succ, List.set_cons_zero, List.getElem?_cons_zero, List.getElem?_cons_succ]; first | done | exact rfl))))
  | ((with_reducible apply Exists.intro); (with_reducible apply And.intro); (· ((apply AB.asL_obj); (· (first | exact rfl | assumption | exact AB.sto_get0 | (simp only [List.append_assoc, sa0, sa, ga0, ga, shl, upl, sto, List.cons_append, List.nil_append, List.set_cons_succ, List.set_cons_zero, List.getElem?_cons_zero, List.getElem?_cons_succ]; first | done | exact rfl))))))
  | ((with_reducible apply AB.v_inD); (· (first | (apply AB.dGet_K; (· (first | exact rfl | assumption | exact AB.sto_get0 | (simp only [List.append_assoc, sa0, sa, ga0, ga, shl, upl, sto, List.cons_append, List.nil_append, List.set_cons_succ, List.set_cons_zero, List.getElem?_cons_zero, List.getElem?_cons_succ]; first | done | exact rfl))); (· exact rfl)) | (apply AB.dGet_T; (· (first | exact rfl | assumption | exact AB.sto_get0 | (simp only [List.append_assoc, sa0, sa, ga0, ga, shl, upl, sto, List.cons_append, List.nil_append, List.set_cons_succ, List.set_cons_zero, List.getElem?_cons_zero, List.getElem?_cons_succ]; first | done | exact rfl))); (· exact rfl)) | (apply AB.dGet_L; (· (first | exact rfl | assumption | exact AB.sto_get0 | (simp only [List.append_assoc, sa0, sa, ga0, ga, shl, upl, sto, List.cons_append, List.nil_append, List.set_cons_succ, List.set_cons_zero, List.getElem?_cons_zero, List.getElem?_cons_succ]; first | done | exact rfl))); (· exact rfl)))))
  | ((with_reducible apply AB.v_ninD); (· (first | (apply AB.dGet_K; (· (first | exact rfl | assumption | exact AB.sto_get0 | (simp only [List.append_assoc, sa0, sa, ga0, ga, shl, upl, sto, List.cons_append, List.nil_append, List.set_cons_succ, List.set_cons_zero, List.getElem?_cons_zero, List.getElem?_cons_succ]; first | done | exact rfl))); (· exact rfl)) | (apply AB.dGet_T; (· (first | exact rfl | assumption | exact AB.sto_get0 | (simp only [List.append_assoc, sa0, sa, ga0, ga, shl, upl, sto, List.cons_append, List.nil_append, List.set_cons_succ, List.set_cons_zero, List.getElem?_cons_zero, List.getElem?_cons_succ]; first | done | exact rfl))); (· exact rfl)) | (apply AB.dGet_L; (· (first | exact rfl | assumption | exact AB.sto_get0 | (simp only [List.append_assoc, sa0, sa, ga0, ga, shl, upl, sto, List.cons_append, List.nil_append, List.set_cons_succ, List.set_cons_zero, List.getElem?_cons_zero, List.getElem?_cons_succ]; first | done | exact rfl))); (· exact rfl)))))
  | ((with_reducible apply Exists.intro); (with_reducible apply Exists.intro); (with_reducible apply And.intro); (· exact rfl); (with_reducible apply And.intro); (· exact rfl))
  | ((with_reducible apply Exists.intro); (with_reducible apply Exists.intro); (with_reducible apply And.intro); (· exact rfl))
  | walk_at "gx"))
local macro_rules | `(tactic| walk_at "go") => `(tactic| ((repeat walk_at "go1"); try (with_reducible conv => whnf)))
local macro_rules | `(tactic| walk_at "gd") => `(tactic| ((repeat first | walk_at "go1" | ((with_reducible conv => whnf); (with_reducible apply AB.w_ifP); (· first | decide | exact rfl | omega)) | ((with_reducible conv => whnf); (with_reducible apply AB.w_ifQ); (· first | decide | omega))); try (with_reducible conv => whnf)))
local macro_rules | `(tactic| walk_at "gk") => `(tactic| ((repeat ((with_reducible conv => whnf); (fail_if_success (with_reducible apply AB.is_back)); walk_at "go1")); try (with_reducible conv => whnf)))
local macro_rules | `(tactic| walk_at "gx") => `(tactic| ((with_reducible apply AB.v_bk); (· first | exact AB.mdl_0 | assumption); (· exact rfl)))
def afterOf (W : List (List Nat)) (n : Nat) : List Nat := if n = 0 then [] else W.getD (n - 1) []
theorem page_strict (keys : List (List Nat)) (p m after : List Nat) : (pageL keys p m after).Pairwise fun a b => a < b := by
  rw [page_listed]
  have h1 := ssort_rise (listedL keys p m after)
  have h2 : (ssort (listedL keys p m after)).Nodup := (ssort_perm _).nodup_iff.mpr (listedL_nodup p m after keys)
  refine (h1.and h2).imp fun {a b} h => ?_
  have h3 : ltCps b a = false := by
    have := h.1
    unfold leC at this
    simpa using this
  cases e : ltCps a b with
  | true => rw [ltC_dec] at e; exact of_decide_eq_true e
  | false => exact absurd (ltC_anti e h3) h.2
theorem lt_trans_l {a b c : List Nat} (h1 : a < b) (h2 : b < c) : a < c := by
  have e1 : ltCps a b = true := by rw [ltC_dec]; exact decide_eq_true h1
  have e2 : ltCps b c = true := by rw [ltC_dec]; exact decide_eq_true h2
  have := ltC_trans e1 e2
  rw [ltC_dec] at this
  exact of_decide_eq_true this
theorem lt_irr_l (a : List Nat) : ¬ a < a := fun h => by
  have := ltC_irr a
  rw [ltC_dec] at this
  exact of_decide_eq_false this h
theorem strict_after : ∀ {W : List (List Nat)}, W.Pairwise (fun a b => a < b) → ∀ n, n < W.length → W.filter (fun e => decide (W.getD n [] < e)) = W.drop (n + 1)
  | x :: W, h, 0, _ => by
    rw [List.pairwise_cons] at h
    show (x :: W).filter (fun e => decide (x < e)) = W
    rw [List.filter_cons, if_neg (by simpa using lt_irr_l x)]
    exact List.filter_eq_self.mpr fun e he => decide_eq_true (h.1 e he)
  | x :: W, h, n + 1, hn => by
    rw [List.pairwise_cons] at h
    have hn' : n < W.length := by simpa using hn
    show (x :: W).filter (fun e => decide (W.getD n [] < e)) = W.drop (n + 1)
    have hx : ¬ W.getD n [] < x := fun z => by
      have hm : W.getD n [] ∈ W := by rw [List.getD_eq_getElem?_getD, List.getElem?_eq_getElem hn']; exact List.getElem_mem hn'
      exact lt_irr_l _ (lt_trans_l z (h.1 _ hm))
    rw [List.filter_cons, if_neg (by simpa using hx), strict_after h.2 n hn']
theorem page_after (keys : List (List Nat)) (p m : List Nat) (n : Nat) (h : n ≤ (pageL keys p m []).length) : pageL keys p m (afterOf (pageL keys p m []) n) = (pageL keys p m []).drop n := by
  unfold afterOf
  by_cases e : n = 0
  · rw [if_pos e, e, List.drop_zero]
  · rw [if_neg e]
    have hs := strict_after (page_strict keys p m []) (n - 1) (by omega)
    rw [show n - 1 + 1 = n from by omega] at hs
    rw [← hs]
    generalize (pageL keys p m []).getD (n - 1) [] = a
    unfold pageL
    rw [List.filter_filter]
    refine List.filter_congr fun e he => ?_
    cases e with
    | nil =>
      have h1 : ¬ a < [] := fun z => by cases z
      rw [decide_eq_false h1, decide_eq_false (lt_irr_l [])]; rfl
    | cons x e => rw [decide_eq_true (List.nil_lt_cons x e), Bool.and_true]
inductive A_law_pages : List D → Th → AK → AX → Prop where
  | mk {keys : List (List Nat)} {p m : List Nat} {sz : List Nat} {th : Th} {k : AK} {kx : AX} (h64 : keys.length < 64) (hk : ∀ l ∈ keys, l.length ≤ 1000) (hp : p.length ≤ 1000) (hz : ∀ z ∈ sz, 1 ≤ z) (hne : 0 < sz.length) (hs : sz.length ≤ 100) (q : k (.obj th.length) (th ++ [.lst ((pageL keys p m []).map fun l => .str (S l))])) : A_law_pages [.tup (keys.map fun l => .str (S l)), .str (S p), .str (S m), .lst (sz.map fun z => .int (z : Nat))] (th) k kx
theorem len_law_pages : ∀ ds θ k kx, A_law_pages ds θ k kx → ds.length = 4 := by rintro _ _ _ _ ⟨⟩ <;> rfl
theorem A_law_pages.up {ds : List D} {θ : Th} {k k2 : AK} {kx kx2 : AX} (h : A_law_pages ds θ k kx) (hKK : ∀ d θ, k d θ → k2 d θ) (hXX : ∀ c θ, kx c θ → kx2 c θ) : A_law_pages ds θ k2 kx2 := by
  obtain @⟨keys, p, m, sz, th, k, kx, h64, hk, hp, hz, hne, hs, q⟩ := h
  exact .mk h64 hk hp hz hne hs (by first | exact hKK _ _ q | exact AB.on_imp (fun _ z => hKK _ _ z) (fun _ z => hXX _ _ z) q | exact fun a => hKK _ _ (q a) | exact fun a => hXX _ _ (q a) | exact fun a b => hKK _ _ (q a b) | exact fun a b => hXX _ _ (q a b) | exact fun a b c d => hKK _ _ (q a b c d))
theorem ll0 : aC (D.str ("" : Str)) = aC (D.str (S [])) := congrArg (fun z => aC (D.str z)) (by decide +kernel)
def t_law_pages : ASR := aSeq (aAsg (aLstM (aNil)) (gN 4)) (aSeq (aAsg (aC (.str "")) (gN 5)) (aSeq (aFor (aRng (aCons (aBin fAdd (aCB fLen (aCons (aVar 0) (aNil))) (aC (.int 2))) (aNil))) (gN 6) (aSeq (aAsg (aBin fIx (aVar 3) (aBin fMod (aVar 6) (aCB fLen (aCons (aVar 3) (aNil))))) (gN 7)) (aSeq (aAsg (aCall A_listed (aCons (aVar 0) (aCons (aVar 1) (aCons (aVar 2) (aCons (aVar 5) (aCons (aVar 7) (aNil))))))) (gTupA 2 (gsCons (gN 8) (gsCons (gN 9) (gsNil))))) (aSeq (aIfS (aOr (aTst (aBin fGt (aCB fLen (aCons (aVar 8) (aNil))) (aVar 7))) (aAnd (aTru (aVar 9)) (aTst (aBin fLt (aCB fLen (aCons (aVar 8) (aNil))) (aVar 7))))) (aRet (aC .non)) (aNext)) (aSeq (aDrop (aBM "list" fExtend (aVar 4) (aCons (aVar 8) (aNil)))) (aSeq (aIfS (aNot (aTru (aVar 9))) (aRet (aVar 4)) (aNext)) (aAsg (aBin fIx (aVar 8) (aUn fNeg (aC (.int 1)))) (gN 5)))))))) (aRet (aC .non))))
local macro_rules | `(tactic| walk_at "lits_law_pages") => `(tactic| simp only [ll0])
theorem run_law_pages  : ∀ ds θ k kx, (∀ e ∈ θ, Ent.lt θ.length e) → A_law_pages ds θ k kx → t_law_pages (eBody θ.length k kx) (startG 10 ds) θ := by
  intro ds θ k kx hlt hA
  obtain @⟨keys, p, m, sz, th, k, kx, h64, hk, hp, hz, hne, hs, q⟩ := hA
  walk_at "gs"
  unfold t_law_pages
  walk_at "lits_law_pages"
  walk_at "go"
  generalize hW : pageL keys p m [] = W at q ⊢
  have hWl : W.length ≤ keys.length := by
    rw [← hW, page_listed, ssort_len]; exact listedL_len p m [] keys
  refine loop_inv (fun i Γ θ' => ∃ n, i ≤ n ∧ n ≤ W.length ∧ θ' = θ ++ [.lst ((W.take n).map fun l => .str (S l))] ∧ ∃ x6 x7 x8 x9 : Option D,
    Γ = [some (.tup (keys.map fun l => .str (S l))), some (.str (S p)), some (.str (S m)), some (.lst (sz.map fun z => .int (z : Nat))), some (.obj θ.length), some (.str (S (afterOf W n))), x6, x7, x8, x9]) ⟨0, Nat.le_refl _, Nat.zero_le _, rfl, _, _, _, _, rfl⟩ (fun _ _ _ _ => trivial) ?_ ?_
  · rintro i e Γ θ' kk he ⟨n, hin, hnW, rfl, x6, x7, x8, x9, rfl⟩ hk2
    obtain ⟨hi, rfl⟩ := nums_get0 he
    walk_at "go"
    rw [List.length_map]
    have hmod : 0 ≤ ((i : Nat) : Int) % (sz.length : Nat) ∧ ((i : Nat) : Int) % (sz.length : Nat) < (sz.length : Nat) := ⟨Int.emod_nonneg _ (by omega), Int.emod_lt_of_pos _ (by omega)⟩
    obtain ⟨z, hzm, hza⟩ := atI_get (f := fun z : Nat => D.int (z : Nat)) (ls := sz) hmod.1 hmod.2
    have hz1 := hz z hzm
    refine v_ixL hza ?_
    walk_at "go"
    refine A_listed.mk h64 hk hp ?_
    unfold pageD
    rw [← hW, page_after keys p m n (by rw [hW]; exact hnW), hW, List.length_drop]
    walk_at "go"
    rw [List.length_map, List.length_take, List.length_drop]
    have hd1 : decide (((z : Nat) : Int) < ((min z (W.length - n) : Nat) : Int)) = false := decide_eq_false (by omega)
    rw [hd1]
    walk_at "go"
    refine w_if (fun hm => ?_) (fun hm => ?_)
    · walk_at "go"
      rw [List.length_map, List.length_take, List.length_drop]
      refine w_ifQ (by omega) ?_
      walk_at "go"
      refine And.intro (v_tyO at_end) ?_
      walk_at "go"
      refine v_extend (ds := (W.take n).map fun l => .str (S l)) (es := ((W.drop n).take z).map fun l => .str (S l)) at_end rfl (by rw [List.length_map, List.length_map, List.length_take, List.length_take, List.length_drop]; omega) set_end ?_
      rw [← List.map_append, show W.take n ++ (W.drop n).take z = W.take (n + z) from by rw [List.take_add]]
      walk_at "go"
      refine w_ifP hm ?_
      walk_at "go"
      have hlast : atI (((W.drop n).take z).map fun l => D.str (S l)) (-1) = some (.str (S (afterOf W (n + z)))) := by
        have hl : ((W.drop n).take z).length = z := by rw [List.length_take, List.length_drop]; omega
        have h1 : ((W.drop n).take z)[z - 1]? = some (W[n + z - 1]'(by omega)) := by
          rw [List.getElem?_take_of_lt (by omega), List.getElem?_drop, show n + (z - 1) = n + z - 1 from by omega, List.getElem?_eq_getElem (by omega)]
        have h2 : afterOf W (n + z) = W[n + z - 1]'(by omega) := by
          unfold afterOf
          rw [if_neg (by omega), List.getD_eq_getElem?_getD, List.getElem?_eq_getElem (by omega)]; rfl
        obtain ⟨A, x, hA⟩ : ∃ A x, (W.drop n).take z = A ++ [x] := by
          rcases List.eq_nil_or_concat ((W.drop n).take z) with h | ⟨A, x, h⟩
          · rw [h] at hl; simp at hl; omega
          · exact ⟨A, x, by rw [h, List.concat_eq_append]⟩
        have hAl : A.length = z - 1 := by
          have := congrArg List.length hA
          rw [hl, List.length_append, List.length_singleton] at this
          omega
        rw [hA, ← hAl, List.getElem?_append_right (Nat.le_refl _), Nat.sub_self] at h1
        have hx : x = W[n + z - 1]'(by omega) := by simpa using h1
        rw [h2, hA, List.map_append, ← hx]
        exact atI_last _ _
      refine v_ixT hlast ?_
      walk_at "go"
      exact hk2 _ _ ⟨n + z, by omega, by omega, rfl, _, _, _, _, rfl⟩
    · walk_at "go"
      refine And.intro (v_tyO at_end) ?_
      walk_at "go"
      refine v_extend (ds := (W.take n).map fun l => .str (S l)) (es := ((W.drop n).take z).map fun l => .str (S l)) at_end rfl (by rw [List.length_map, List.length_map, List.length_take, List.length_take, List.length_drop]; omega) set_end ?_
      rw [← List.map_append, show W.take n ++ (W.drop n).take z = W from by rw [← List.take_add, List.take_of_length_le (by omega)]]
      walk_at "go"
      refine w_ifQ hm ?_
      walk_at "go"
      exact q
  · rintro Γ θ' ⟨n, hin, hnW, rfl, x6, x7, x8, x9, rfl⟩
    exfalso
    unfold nums at hin
    rw [List.length_map, List.length_range, List.length_map] at hin
    omega
theorem upTo_eq {c : Nat} {u r : List Nat} (h : c ∉ u) : upTo c (u ++ c :: r) = u := by
  induction u with
  | nil => unfold AB.upTo; rw [List.nil_append, List.takeWhile_cons_of_neg (by simp)]
  | cons x u ih =>
    have hx : x ≠ c := fun z => h (by rw [z]; exact List.mem_cons_self)
    unfold AB.upTo at ih ⊢
    rw [List.cons_append, List.takeWhile_cons_of_pos (by simp [hx]), ih fun z => h (List.mem_cons_of_mem _ z)]
theorem cut_last {e : List Nat} : cutL e (some (-1)) none = e.drop (e.length - 1) := by
  rw [cutL_last (by decide)]
  congr 1
  omega
theorem has_one {W keys : List (List Nat)} {p key : List Nat} {c : Nat} (nd : W.Nodup) (hmem : ∀ e, e ∈ W ↔ [] < e ∧ ∃ k ∈ keys, k.take p.length = p ∧ entL k p [c] = e) (hk : ∀ l ∈ keys, l.length ≤ 1000) (hkl : key.length ≤ 1000 ∧ key ≠ []) (hin : key ∈ keys) (h1 : key.take p.length = p) (h2 : c ∈ key.drop p.length) (hpl : p.length ≤ key.length) :
    (W.filter fun e => decide (([c] : List Nat) ≠ [] ∧ cutL e (some (-1)) none = [c] ∧ cutL key none (some ((e.length : Nat) : Int)) = e)).filter (fun e => decide (p.length < e.length)) = [p ++ upTo c (key.drop p.length) ++ [c]] := by
  have hes := ent_sign (c := c) hpl
  rw [h1, if_pos h2] at hes
  obtain ⟨r, hr⟩ := upTo_split h2
  have hkey : key = (p ++ upTo c (key.drop p.length) ++ [c]) ++ r := by
    have : key = key.take p.length ++ key.drop p.length := (List.take_append_drop _ _).symm
    rw [h1] at this
    conv => lhs; rw [this, hr]
    simp
  rw [List.filter_filter]
  refine filter_one nd ((hmem _).mpr ⟨?_, key, hin, h1, hes⟩) fun x hx => ⟨fun h => ?_, fun h => ?_⟩
  · cases p with
    | nil =>
      cases upTo c (key.drop ([] : List Nat).length) with
      | nil => exact List.nil_lt_cons _ _
      | cons y l => exact List.nil_lt_cons _ _
    | cons y l => exact List.nil_lt_cons _ _
  · obtain ⟨g2, g1⟩ := (Bool.and_eq_true _ _).mp h |> fun h => (⟨h.1, h.2⟩ : _ ∧ _)
    have g2 := of_decide_eq_true g2
    obtain ⟨_, g3, g4⟩ := of_decide_eq_true g1
    rw [cut_last] at g3
    rw [cutL_take (by omega), Int.toNat_natCast] at g4
    obtain ⟨_, k2, hk2, ht2, he2⟩ := (hmem x).mp hx
    have hpl2 : p.length ≤ k2.length := by
      have := congrArg List.length ht2
      rw [List.length_take] at this
      omega
    have hs2 := ent_sign (c := c) hpl2
    rw [ht2] at hs2
    by_cases e : c ∈ k2.drop p.length
    · rw [if_pos e] at hs2
      have hx2 : x = p ++ upTo c (k2.drop p.length) ++ [c] := he2.symm.trans hs2
      have hk3 : key = x ++ key.drop x.length := by
        conv => rhs; lhs; rw [← g4]
        exact (List.take_append_drop _ _).symm
      have hd : key.drop p.length = upTo c (k2.drop p.length) ++ c :: key.drop x.length := by
        have hk4 : key = p ++ (upTo c (k2.drop p.length) ++ c :: key.drop x.length) := by
          conv => lhs; rw [hk3, hx2]
          conv => rhs; rw [hx2]
          simp
        have := congrArg (List.drop p.length) hk4
        rw [List.drop_left] at this
        exact this
      have hu : upTo c (key.drop p.length) = upTo c (k2.drop p.length) := by
        conv => lhs; rw [hd]
        exact upTo_eq (upTo_not _)
      rw [hu]
      exact hx2
    · rw [if_neg e] at hs2
      exfalso
      have hx2 : x = k2 := he2.symm.trans hs2
      refine e ?_
      rw [← hx2]
      have : x.drop (x.length - 1) = (x.drop p.length).drop (x.length - 1 - p.length) := by
        rw [List.drop_drop]; congr 1; omega
      rw [this] at g3
      have hc : c ∈ (x.drop p.length).drop (x.length - 1 - p.length) := by rw [g3]; exact List.mem_cons_self
      exact List.mem_of_mem_drop hc
  · have hl : (p ++ upTo c (key.drop p.length) ++ [c]).length = p.length + (upTo c (key.drop p.length)).length + 1 := by simp; omega
    subst h
    refine (Bool.and_eq_true _ _).mpr ⟨decide_eq_true (by rw [hl]; omega), decide_eq_true ⟨fun z => (nomatch z), ?_, ?_⟩⟩
    · rw [cut_last, hl, show p.length + (upTo c (key.drop p.length)).length + 1 - 1 = (p ++ upTo c (key.drop p.length)).length from by simp]
      exact List.drop_left
    · rw [cutL_take (by omega), Int.toNat_natCast]
      exact (congrArg (List.take _) hkey).trans List.take_left
inductive A_law_has : List D → Th → AK → AX → Prop where
  | mk {keys : List (List Nat)} {p m key : List Nat} {th : Th} {k : AK} {kx : AX} (h64 : keys.length < 64) (hk : ∀ l ∈ keys, l.length ≤ 1000 ∧ l ≠ []) (hp : p.length ≤ 1000) (hm : m = [] ∨ ∃ c, c < 256 ∧ m = [c]) (hin : key ∈ keys) (q : k (.bl true) th) : A_law_has [.tup ((pageL keys p m []).map fun l => .str (S l)), .str (S key), .str (S p), .str (S m)] (th) k kx
theorem len_law_has : ∀ ds θ k kx, A_law_has ds θ k kx → ds.length = 4 := by rintro _ _ _ _ ⟨⟩ <;> rfl
theorem A_law_has.up {ds : List D} {θ : Th} {k k2 : AK} {kx kx2 : AX} (h : A_law_has ds θ k kx) (hKK : ∀ d θ, k d θ → k2 d θ) (hXX : ∀ c θ, kx c θ → kx2 c θ) : A_law_has ds θ k2 kx2 := by
  obtain @⟨keys, p, m, key, th, k, kx, h64, hk, hp, hm, hin, q⟩ := h
  exact .mk h64 hk hp hm hin (by first | exact hKK _ _ q | exact AB.on_imp (fun _ z => hKK _ _ z) (fun _ z => hXX _ _ z) q | exact fun a => hKK _ _ (q a) | exact fun a => hXX _ _ (q a) | exact fun a b => hKK _ _ (q a b) | exact fun a b => hXX _ _ (q a b) | exact fun a b c d => hKK _ _ (q a b c d))
def t_law_has : ASR := aSeq (aIfS (aTst (aBin fNe (aSl (aVar 1) oNone (oSome (aCB fLen (aCons (aVar 2) (aNil))))) (aVar 2))) (aRet (aC (.bl true))) (aNext)) (aSeq (aAsg (aLc (aItT (aVar 0)) (.one 6) (aAnd (aTst (aBin fNe (aVar 3) (aC (.str "")))) (aAnd (aTst (aBin fEq (aSl (aVar 6) (oSome (aUn fNeg (aC (.int 1)))) oNone) (aVar 3))) (aTst (aBin fEq (aSl (aVar 1) oNone (oSome (aCB fLen (aCons (aVar 6) (aNil))))) (aVar 6))))) (aVar 6) [6]) (gN 4)) (aSeq (aAsg (aSl (aVar 1) (oSome (aCB fLen (aCons (aVar 2) (aNil)))) oNone) (gN 5)) (aSeq (aIfS (aOr (aTst (aBin fEq (aVar 3) (aC (.str "")))) (aTst (aBin fNotIn (aVar 3) (aVar 5)))) (aRet (aBin fIn (aVar 1) (aVar 0))) (aNext)) (aRet (aBin fEq (aLc (aItL (aVar 4)) (.one 7) (aTst (aBin fGt (aCB fLen (aCons (aVar 7) (aNil))) (aCB fLen (aCons (aVar 2) (aNil))))) (aCB fLen (aCons (aVar 7) (aNil))) [7]) (aLst (aCons (aBin fAdd (aBin fAdd (aCB fLen (aCons (aVar 2) (aNil))) (aBM "str" fFind (aVar 5) (aCons (aVar 3) (aNil)))) (aC (.int 1))) (aNil))))))))
local macro_rules | `(tactic| walk_at "lits_law_has") => `(tactic| simp only [ll0])
theorem run_law_has  : ∀ ds θ k kx, (∀ e ∈ θ, Ent.lt θ.length e) → A_law_has ds θ k kx → t_law_has (eBody θ.length k kx) (startG 8 ds) θ := by
  intro ds θ k kx hlt hA
  obtain @⟨keys, p, m, key, th, k, kx, h64, hk, hp, hm, hin, q⟩ := hA
  walk_at "gs"
  unfold t_law_has
  walk_at "lits_law_has"
  walk_at "go"
  have hkl := hk key hin
  have hcp : cutL key none (some ((p.length : Nat) : Int)) = key.take p.length := by rw [cutL_take (by omega), Int.toNat_natCast]
  have hcd : cutL key (some ((p.length : Nat) : Int)) none = key.drop p.length := by rw [cutL_drop (by omega), Int.toNat_natCast]
  have hWl : (pageL keys p m []).length ≤ keys.length := by
    rw [page_listed, ssort_len]; exact listedL_len p m [] keys
  have hmem : ∀ e, e ∈ pageL keys p m [] ↔ [] < e ∧ ∃ k ∈ keys, k.take p.length = p ∧ entL k p m = e := fun e => by rw [page_listed, ssort_mem, listedL_mem]
  have hnd : (pageL keys p m []).Nodup := by rw [page_listed]; exact (ssort_perm _).nodup_iff.mpr (listedL_nodup p m [] keys)
  have hlen1 : ∀ e ∈ pageL keys p m [], e.length ≤ 1000 := fun e he => by
    obtain ⟨_, k2, hk2, _, rfl⟩ := (hmem e).mp he
    have := (hk k2 hk2).1
    unfold entL
    split
    · exact this
    · split
      · exact this
      · exact Nat.le_trans (List.length_take_le' _ _) this
  generalize hW : pageL keys p m [] = W at hWl hmem hnd hlen1 ⊢
  walk_at "go"
  rw [hcp]
  refine w_if (fun h1 => ?_) (fun h1 => ?_)
  · have hpl : p.length ≤ key.length := by
      have := congrArg List.length h1
      rw [List.length_take] at this
      omega
    walk_at "go"
    refine cl_filter (fun e => decide (m ≠ [] ∧ cutL e (some (-1)) none = m ∧ cutL key none (some ((e.length : Nat) : Int)) = e)) (fun e => .str (S e)) (fun e he acc ko q => ?_) ?_
    · have hel := hlen1 e he
      walk_at "go"
      refine w_if (fun g1 => ?_) (fun g1 => ?_)
      · rw [if_neg (by simp [g1])] at q
        walk_at "go"
        exact q
      · walk_at "go"
        refine w_if (fun g2 => ?_) (fun g2 => ?_)
        · walk_at "go"
          refine w_if (fun g3 => ?_) (fun g3 => ?_)
          · rw [if_pos (decide_eq_true ⟨g1, g2, g3⟩)] at q
            walk_at "go"
            exact q
          · rw [if_neg (fun z => g3 (of_decide_eq_true z).2.2)] at q
            walk_at "go"
            exact q
        · rw [if_neg (fun z => g2 (of_decide_eq_true z).2.1)] at q
          walk_at "go"
          exact q
    refine And.intro (lts_strs _) ?_
    walk_at "go"
    rw [hcd]
    have hin2 : ∀ (hself : entL key p m = key), key ∈ W := fun hself => by
      refine (hmem key).mpr ⟨?_, key, hin, h1, hself⟩
      cases key with
      | nil => exact absurd rfl hkl.2
      | cons x l => exact List.nil_lt_cons x l
    rcases hm with rfl | ⟨c, hc, rfl⟩
    · refine w_ifP rfl ?_
      walk_at "go"
      refine v_inStrs rfl ?_
      rw [decide_eq_true (hin2 ent_no)]
      walk_at "go"
      exact q
    · refine w_ifQ (fun z => nomatch z) ?_
      walk_at "go"
      have hes := ent_sign (c := c) hpl
      rw [h1] at hes
      refine w_if (fun h2 => ?_) (fun h2 => ?_)
      · rw [if_pos h2] at hes
        walk_at "go"
        have hfl : ((W.filter fun e => decide (([c] : List Nat) ≠ [] ∧ cutL e (some (-1)) none = [c] ∧ cutL key none (some ((e.length : Nat) : Int)) = e)).map fun l => D.str (S l)).length ≤ 64 := by
          rw [List.length_map]
          exact Nat.le_trans (List.length_filter_le _ _) (by omega)
        refine And.intro (by omega) (And.intro (fun _ => rfl) ?_)
        refine cl_filter (fun e => decide (p.length < e.length)) (fun e => .int (e.length : Nat)) (fun e he acc ko q => ?_) ?_
        · have hel := hlen1 e (List.mem_filter.mp he).1
          walk_at "go"
          refine w_if (fun g => ?_) (fun g => ?_)
          · rw [if_pos (decide_eq_true (by omega))] at q
            walk_at "go"
            exact q
          · rw [if_neg (fun z => g (by have := of_decide_eq_true z; omega))] at q
            walk_at "go"
            exact q
        refine And.intro (lts_map (fun e => by unfold D.lt; trivial) _) ?_
        rw [has_one hnd hmem (fun l hl => (hk l hl).1) hkl hin h1 h2 hpl]
        have hfi := find_sign h2
        walk_at "go"
        rw [hfi]
        have hok : D.ok (.lst [.int ((p.length : Nat) + ((upTo c (key.drop p.length)).length : Nat) + 1)]) 64 := by simp [D.ok, D.oks]
        rw [show ([p ++ upTo c (key.drop p.length) ++ [c]].map fun e => D.int (e.length : Nat)) = [.int ((p.length : Nat) + ((upTo c (key.drop p.length)).length : Nat) + 1)] from by simp; omega]
        refine v_eqG hok hok ?_
        rw [eqv_refl _ _ hok]
        exact .inl q
      · rw [if_neg h2] at hes
        walk_at "go"
        refine v_inStrs rfl ?_
        rw [decide_eq_true (hin2 hes)]
        walk_at "go"
        exact q
  · walk_at "go"
    exact q
def M13 : List (List Nat) := [[47], [], [45], [47], [97]]
theorem M13_ok {m : List Nat} (h : m ∈ M13) : m = [] ∨ ∃ c, c < 256 ∧ m = [c] := by
  simp only [M13, List.mem_cons, List.not_mem_nil, or_false] at h
  rcases h with rfl | rfl | rfl | rfl | rfl
  · exact .inr ⟨47, by decide, rfl⟩
  · exact .inl rfl
  · exact .inr ⟨45, by decide, rfl⟩
  · exact .inr ⟨47, by decide, rfl⟩
  · exact .inr ⟨97, by decide, rfl⟩
def pre13 (keys : List (List Nat)) (i : Nat) : List (List Nat) := [[]] ++ keys.map (List.take (1 + i)) ++ keys
theorem pre13_ok {keys : List (List Nat)} {i : Nat} (o : ∀ l ∈ keys, SOk l ∧ 1 ≤ l.length ∧ l.length ≤ 20) : ∀ l ∈ pre13 keys i, SOk l ∧ l.length ≤ 20 := fun l hl => by
  unfold pre13 at hl
  rcases List.mem_append.mp hl with hl | hl
  · rcases List.mem_append.mp hl with hl | hl
    · rw [List.mem_singleton.mp hl]; exact ⟨fun _ h => (nomatch h), by decide⟩
    · obtain ⟨x, hx, rfl⟩ := List.mem_map.mp hl
      exact ⟨SOk.take (o x hx).1, Nat.le_trans (List.length_take_le' _ _) (o x hx).2.2⟩
  · exact ⟨(o l hl).1, (o l hl).2.2⟩
abbrev A_law : ASp := aLaw
theorem len_law : ∀ ds θ k kx, A_law ds θ k kx → ds.length = 1 := by rintro _ _ _ _ ⟨_, rfl, _⟩; rfl
theorem ll1 : aC (D.str ("/" : Str)) = aC (D.str (S [47])) := congrArg (fun z => aC (D.str z)) (by decide +kernel)
theorem ll2 : aC (D.str ("-" : Str)) = aC (D.str (S [45])) := congrArg (fun z => aC (D.str z)) (by decide +kernel)
theorem ll3 : aC (D.str ("a" : Str)) = aC (D.str (S [97])) := congrArg (fun z => aC (D.str z)) (by decide +kernel)
def t_law : ASR := aSeq (aFor (aRng (aCons (aC (.int 3)) (aNil))) (gN 1) (aSeq (aAsg (aBin fAdd (aCall A_law_cell (aCons (aVar 0) (aCons (aVar 1) (aNil)))) (aVar 1)) (gN 2)) (aSeq (aAsg (aLstM (aNil)) (gN 3)) (aSeq (aFor (aRng (aCons (aCall A_law_mix (aCons (aVar 2) (aCons (aC (.int 9811)) (aCons (aC (.int 13)) (aNil))))) (aNil))) (gN 4) (aSeq (aAsg (aCall A_law_key (aCons (aBin fAdd (aCall A_law_cell (aCons (aVar 0) (aCons (aBin fAdd (aC (.int 3)) (aBin fMod (aVar 4) (aC (.int 4)))) (aNil)))) (aBin fMul (aC (.int 7)) (aVar 4))) (aNil))) (gN 5)) (aSeq (aIfS (aAnd (aTst (aBin fEq (aCall A_law_mix (aCons (aBin fAdd (aVar 2) (aVar 4)) (aCons (aC (.int 9803)) (aCons (aC (.int 3)) (aNil))))) (aC (.int 0)))) (aTru (aVar 3))) (aAsg (aSl (aBin fAdd (aBin fAdd (aBin fIx (aVar 3) (aC (.int 0))) (aC (.str "/"))) (aVar 5)) oNone (oSome (aC (.int 20)))) (gN 5)) (aNext)) (aIfS (aTst (aBin fNotIn (aVar 5) (aVar 3))) (aDrop (aBM "list" fAppend (aVar 3) (aCons (aVar 5) (aNil)))) (aNext))))) (aSeq (aAsg (aBin fIx (aBin fAdd (aBin fAdd (aLst (aCons (aC (.str "")) (aNil))) (aLc (aItL (aVar 3)) (.one 5) (aYes) (aSl (aVar 5) oNone (oSome (aBin fAdd (aC (.int 1)) (aVar 1)))) [5])) (aVar 3)) (aCall A_law_mix (aCons (aVar 2) (aCons (aC (.int 9791)) (aCons (aBin fAdd (aC (.int 1)) (aBin fMul (aC (.int 2)) (aCB fLen (aCons (aVar 3) (aNil))))) (aNil)))))) (gN 6)) (aSeq (aAsg (aBin fIx (aTup (aCons (aC (.str "/")) (aCons (aC (.str "")) (aCons (aC (.str "-")) (aCons (aC (.str "/")) (aCons (aC (.str "a")) (aNil))))))) (aCall A_law_mix (aCons (aVar 2) (aCons (aC (.int 9787)) (aCons (aC (.int 5)) (aNil)))))) (gN 7)) (aSeq (aAsg (aCall A_listed (aCons (aCB fTuple (aCons (aVar 3) (aNil))) (aCons (aVar 6) (aCons (aVar 7) (aCons (aC (.str "")) (aCons (aC (.int 99)) (aNil))))))) (gTupA 2 (gsCons (gN 8) (gsCons (gN 9) (gsNil))))) (aSeq (aIfS (aOr (aTst (aBin fIsN (aVar 9) (aC (.bl false)))) (aTst (aBin fNe (aCB fList (aCons (aVar 8) (aNil))) (aSSet (aVar 8))))) (aRet (aC (.bl false))) (aNext)) (aSeq (aIfS (aNot (aTru (aCB fAll (aCons (aLc (aItL (aVar 3)) (.one 5) (aYes) (aCall A_law_has (aCons (aVar 8) (aCons (aVar 5) (aCons (aVar 6) (aCons (aVar 7) (aNil)))))) [5]) (aNil))))) (aRet (aC (.bl false))) (aNext)) (aSeq (aIfS (aNot (aTru (aCB fAll (aCons (aLc (aItT (aVar 8)) (.one 11) (aYes) (aCB fAny (aCons (aLc (aItL (aVar 3)) (.one 5) (aYes) (aAndV (aBM "str" fStarts (aVar 5) (aCons (aVar 11) (aNil))) (aBM "str" fStarts (aVar 11) (aCons (aVar 6) (aNil)))) [5]) (aNil))) [11]) (aNil))))) (aRet (aC (.bl false))) (aNext)) (aFor (aItT (aTup (aCons (aLst (aCons (aC (.int 1)) (aNil))) (aCons (aLst (aCons (aBin fAdd (aC (.int 1)) (aCall A_law_mix (aCons (aVar 2) (aCons (aC (.int 9781)) (aCons (aC (.int 4)) (aNil)))))) (aNil))) (aCons (aLst (aCons (aC (.int 3)) (aCons (aC (.int 1)) (aCons (aC (.int 2)) (aNil))))) (aNil)))))) (gN 10) (aIfS (aTst (aBin fNe (aCall A_law_pages (aCons (aCB fTuple (aCons (aVar 3) (aNil))) (aCons (aVar 6) (aCons (aVar 7) (aCons (aVar 10) (aNil)))))) (aCB fList (aCons (aVar 8) (aNil))))) (aRet (aC (.bl false))) (aNext))))))))))))) (aRet (aC (.bl true)))
local macro_rules | `(tactic| walk_at "lits_law") => `(tactic| simp only [ll1, ll0, ll2, ll3])
theorem run_law  : ∀ ds θ k kx, (∀ e ∈ θ, Ent.lt θ.length e) → A_law ds θ k kx → t_law (eBody θ.length k kx) (startG 12 ds) θ := by
  intro ds θ k kx hlt hA
  obtain ⟨ns, rfl, hns, -, q⟩ := hA
  obtain ⟨n, hn⟩ : ∃ n, Len θ n := ⟨_, ⟨rfl⟩⟩
  walk_at "gs"
  unfold t_law
  walk_at "lits_law"
  walk_at "go"
  refine loop_inv (fun i Γ θ' => ∃ x1 x2 x3 x4 x5 x6 x7 x8 x9 x10 x11 : Option D, Γ = [some (.lsk (ns.map D.int)), x1, x2, x3, x4, x5, x6, x7, x8, x9, x10, x11]) ⟨_, _, _, _, _, _, _, _, _, _, _, rfl⟩ (fun _ _ _ _ => trivial) ?_ ?_
  · rintro i e Γ θ1 kk he ⟨x1, x2, x3, x4, x5, x6, x7, x8, x9, x10, x11, rfl⟩ hk
    obtain ⟨hi, rfl⟩ := nums_get0 he
    walk_at "go"
    have a0 := mix0 (cellI ns (i : Nat) + (i : Nat)) 9811 (m := 13) (by decide)
    have a1 := mix1 (cellI ns (i : Nat) + (i : Nat)) 9811 (m := 13) (by decide)
    walk_at "go"
    refine loop_inv (fun j Γ θ' => ∃ keys : List (List Nat), (∀ l ∈ keys, SOk l ∧ 1 ≤ l.length ∧ l.length ≤ 20) ∧ keys.length ≤ j ∧ θ' = θ1 ++ [.lst (keys.map fun l => .str (S l))] ∧ ∃ x4 x5 : Option D, Γ = [some (.lsk (ns.map D.int)), some (.int (i : Nat)), some (.int (cellI ns (i : Nat) + (i : Nat))), some (.obj θ1.length), x4, x5, x6, x7, x8, x9, x10, x11]) ⟨[], fun _ h => (nomatch h), Nat.le_refl _, rfl, _, _, rfl⟩ (fun _ _ _ _ => trivial) ?_ ?_
    · rintro j e Γ θ' kk he ⟨keys, o1, hl, rfl, x4, x5, rfl⟩ hk2
      obtain ⟨hj, rfl⟩ := nums_get0 he
      have hat : (θ1 ++ [Ent.lst (keys.map fun l => D.str (S l))])[θ1.length]? = some (.lst (keys.map fun l => D.str (S l))) := at_end
      have hj10 : j < 13 := by omega
      have hkk := keyZ_ok (cellI ns (3 + (j : Nat) % 4) + 7 * (j : Nat))
      have hko := SOk.key hkk
      have hkl := hkk.2.1
      have hk1 := hkk.1
      walk_at "go"
      generalize keyZ (cellI ns (3 + (j : Nat) % 4) + 7 * (j : Nat)) = key at hkk hko hkl hk1 ⊢
      refine w_if (fun h1 => ?_) (fun h1 => ?_)
      · walk_at "go"
        refine ⟨_, .inl ⟨_, hat, rfl⟩, ?_⟩
        rcases hkeys : keys with _ | ⟨k0, rest⟩
        · refine w_ifFe rfl ?_
          walk_at "go"
          rw [← hkeys]
          refine v_ninStrs (asL_obj hat) ?_
          walk_at "go"
          refine w_if (fun hin => ?_) (fun hin => ?_)
          · walk_at "go"
            exact hk2 _ _ ⟨keys, o1, by omega, rfl, _, _, rfl⟩
          · walk_at "go"
            refine v_append hat (by rw [List.length_map]; omega) set_end ?_
            walk_at "go"
            refine hk2 _ _ ⟨keys ++ [key], fun l hl => ?_, by rw [List.length_append, List.length_singleton]; omega, by rw [List.map_append]; rfl, _, _, rfl⟩
            rcases List.mem_append.mp hl with hl | hl
            · exact o1 l hl
            · rw [List.mem_singleton.mp hl]; exact ⟨hko, hk1, hkl⟩
        · have h0 := o1 k0 (by rw [hkeys]; exact List.mem_cons_self)
          refine w_ifTe rfl ?_
          rw [← hkeys]
          walk_at "go"
          refine v_ixO hat (d := .str (S k0)) (by rw [hkeys]; exact atI_nat (j := 0) rfl) ?_
          walk_at "go"
          rw [cutL_take (by decide)]
          have hk3 : SOk ((k0 ++ [47] ++ key).take 20) ∧ 1 ≤ ((k0 ++ [47] ++ key).take 20).length ∧ ((k0 ++ [47] ++ key).take 20).length ≤ 20 := ⟨SOk.take (SOk.app (SOk.app h0.1 (by unfold SOk; decide)) hko), by rw [List.length_take, List.length_append, List.length_append, List.length_singleton]; omega, by rw [List.length_take]; omega⟩
          rw [show Int.toNat 20 = 20 from rfl]
          refine v_ninStrs (asL_obj hat) ?_
          walk_at "go"
          refine w_if (fun hin => ?_) (fun hin => ?_)
          · walk_at "go"
            exact hk2 _ _ ⟨keys, o1, by omega, rfl, _, _, rfl⟩
          · walk_at "go"
            refine v_append hat (by rw [List.length_map]; omega) set_end ?_
            walk_at "go"
            refine hk2 _ _ ⟨keys ++ [(k0 ++ [47] ++ key).take 20], fun l hl => ?_, by rw [List.length_append, List.length_singleton]; omega, by rw [List.map_append]; rfl, _, _, rfl⟩
            rcases List.mem_append.mp hl with hl | hl
            · exact o1 l hl
            · rw [List.mem_singleton.mp hl]; exact hk3
      · walk_at "go"
        refine v_ninStrs (asL_obj hat) ?_
        walk_at "go"
        refine w_if (fun hin => ?_) (fun hin => ?_)
        · walk_at "go"
          exact hk2 _ _ ⟨keys, o1, by omega, rfl, _, _, rfl⟩
        · walk_at "go"
          refine v_append hat (by rw [List.length_map]; omega) set_end ?_
          walk_at "go"
          refine hk2 _ _ ⟨keys ++ [key], fun l hl => ?_, by rw [List.length_append, List.length_singleton]; omega, by rw [List.map_append]; rfl, _, _, rfl⟩
          rcases List.mem_append.mp hl with hl | hl
          · exact o1 l hl
          · rw [List.mem_singleton.mp hl]; exact ⟨hko, hk1, hkl⟩
    · rintro Γ θ' ⟨keys, o1, hl, rfl, x4, x5, rfl⟩
      have hl13 : keys.length ≤ 13 := by
        unfold nums at hl
        rw [List.length_map, List.length_range] at hl
        omega
      have hat : (θ1 ++ [Ent.lst (keys.map fun l => D.str (S l))])[θ1.length]? = some (.lst (keys.map fun l => D.str (S l))) := at_end
      walk_at "go"
      refine And.intro (fun x => asL_app (asL_obj hat)) ?_
      refine cl_map (fun l : List Nat => .str (S (l.take (1 + i)))) (fun l hl acc ko q => ?_) ?_
      · have := (o1 l hl).2
        walk_at "go"
        rw [cutL_take (by omega), show (1 + ((i : Nat) : Int)).toNat = 1 + i from by omega]
        exact q
      refine And.intro (lts_strs _) ?_
      walk_at "go"
      refine v_addLO hat (by simp; omega) ?_
      have hsp : ([D.str (S [])] ++ keys.map (fun l => D.str (S (l.take (1 + i)))) ++ keys.map (fun l => D.str (S l))) = (pre13 keys i).map (fun l => D.str (S l)) := by unfold pre13; simp
      rw [hsp]
      have hpl : (pre13 keys i).length = 1 + 2 * keys.length := by unfold pre13; simp; omega
      have opr := pre13_ok (i := i) o1
      generalize pre13 keys i = sm at hpl opr ⊢
      walk_at "go"
      generalize cellI ns (i : Nat) + (i : Nat) = seed
      rw [List.length_map]
      walk_at "go"
      obtain ⟨p, hp, hpa⟩ := atI_get (f := fun l : List Nat => D.str (S l)) (ls := sm) (mix0 seed 9791 (m := 1 + 2 * (keys.length : Nat)) (by omega)) (by have := mix1 seed 9791 (m := 1 + 2 * ((keys.length : Nat) : Int)) (by omega); omega)
      obtain ⟨m, hm, hma⟩ := atI_get (f := fun l : List Nat => D.str (S l)) (ls := M13) (mix0 seed 9787 (m := 5) (by decide)) (mix1 seed 9787 (m := 5) (by decide))
      refine v_ixL hpa ?_
      walk_at "go"
      refine v_ixT hma ?_
      walk_at "go"
      have ok1 := fun l hl => Nat.le_trans (o1 l hl).2.2 (show 20 ≤ 1000 by decide)
      have opp := Nat.le_trans (opr p hp).2 (show 20 ≤ 1000 by decide)
      have okk : ∀ l ∈ keys, SOk l := fun l hl => (o1 l hl).1
      refine A_listed.mk (after := []) (most := 99) (by omega) ok1 opp ?_
      have hWl : (pageL keys p m []).length ≤ keys.length := by
        rw [page_listed, ssort_len]; exact listedL_len p m [] keys
      have hmem : ∀ e, e ∈ pageL keys p m [] ↔ [] < e ∧ ∃ k ∈ keys, k.take p.length = p ∧ entL k p m = e := fun e => by rw [page_listed, ssort_mem, listedL_mem]
      have hnd : (pageL keys p m []).Nodup := by rw [page_listed]; exact (ssort_perm _).nodup_iff.mpr (listedL_nodup p m [] keys)
      have hWo := page_ok (p := p) (m := m) (after := []) okk
      have hus : usortS (pageL keys p m []) = pageL keys p m [] := by
        unfold usortS
        refine (riseC_eq ?_ ?_ (ssort_rise _)).symm
        · exact ((List.perm_ext_iff_of_nodup hnd (ddp_nodup _)).mpr fun e => ddp_mem.symm).trans (ssort_perm _).symm
        · unfold pageL; exact List.Pairwise.sublist List.filter_sublist (ssort_rise _)
      unfold pageD
      rw [List.take_of_length_le (by omega), show decide (99 < (pageL keys p m []).length) = false from decide_eq_false (by omega)]
      walk_at "go"
      refine w_ifP rfl ?_
      walk_at "go"
      refine ⟨_, _, rfl, rfl, ?_⟩
      walk_at "go"
      refine .inr ⟨pageL keys p m [], rfl, ?_⟩
      rw [hus]
      have hok : D.ok (.lst ((pageL keys p m []).map fun l => .str (S l))) 64 := by unfold D.ok; exact ⟨by decide, ok_strs (f := fun l => l) _ hWo⟩
      refine v_neG hok hok ?_
      rw [eqv_refl _ _ hok]
      walk_at "go"
      refine And.intro (fun x => asL_app (asL_obj hat)) ?_
      refine cl_map (fun l : List Nat => .bl true) (fun l hl acc ko q => ?_) ?_
      · walk_at "go"
        refine A_law_has.mk (by omega) (fun l hl => ⟨ok1 l hl, fun z => by have := (o1 l hl).2.1; rw [z] at this; exact absurd this (by decide)⟩) opp (M13_ok hm) hl ?_
        walk_at "go"
        exact q
      refine And.intro (lts_bls _) ?_
      walk_at "go"
      rw [show (keys.all fun a => true) = true from List.all_eq_true.mpr fun _ _ => rfl]
      walk_at "go"
      refine cl_map (fun e : List Nat => .bl true) (fun e he acc ko q => ?_) ?_
      · walk_at "go"
        refine ⟨_, asL_app (asL_obj hat), by rw [List.length_map]; omega, fun x => asL_app (asL_app (asL_obj hat)), ?_⟩
        refine cl_map (fun l : List Nat => .bl (Txt.startswith (S l) (S e) && Txt.startswith (S e) (S p))) (fun l hl acc ko q => ?_) ?_
        · walk_at "go"
          cases h : Txt.startswith (S l) (S e) with
          | true =>
            rw [h] at q
            refine w_ifTe rfl ?_
            walk_at "go"
            exact q
          | false =>
            rw [h] at q
            refine w_ifFe rfl ?_
            exact ⟨rfl, q⟩
        refine And.intro (lts_bls _) ?_
        walk_at "go"
        have hany : (keys.any fun l => Txt.startswith (S l) (S e) && Txt.startswith (S e) (S p)) = true := by
          obtain ⟨_, k2, hk2, ht2, he2⟩ := (hmem e).mp he
          refine List.any_eq_true.mpr ⟨k2, hk2, ?_⟩
          have hpl2 : p.length ≤ k2.length := by
            have := congrArg List.length ht2
            rw [List.length_take] at this
            omega
          rw [S_starts, S_starts]
          have g : k2.take e.length = e ∧ e.take p.length = p := by
            rcases M13_ok hm with rfl | ⟨c, hc, rfl⟩
            · rw [ent_no] at he2
              subst he2
              exact ⟨List.take_length, ht2⟩
            · rw [ent_sign hpl2, ht2] at he2
              split at he2
              · rename_i hcm
                obtain ⟨r, hr⟩ := upTo_split hcm
                have hk3 : k2 = e ++ r := by
                  rw [← he2]
                  have : k2 = k2.take p.length ++ k2.drop p.length := (List.take_append_drop _ _).symm
                  rw [ht2] at this
                  conv => lhs; rw [this, hr]
                  simp
                refine ⟨(congrArg (List.take _) hk3).trans List.take_left, ?_⟩
                rw [← he2, List.append_assoc]
                exact List.take_left
              · subst he2
                exact ⟨List.take_length, ht2⟩
          rw [decide_eq_true g.1, decide_eq_true g.2]; rfl
        rw [hany]
        walk_at "go"
        exact q
      refine And.intro (lts_bls _) ?_
      walk_at "go"
      rw [show ((pageL keys p m []).all fun a => true) = true from List.all_eq_true.mpr fun _ _ => rfl]
      walk_at "go"
      refine loop_inv (fun j Γ θ' => ∃ es, θ' = θ1 ++ [.lst (keys.map fun l => .str (S l))] ++ es ∧ ∃ x4 x5 x10 x11 : Option D, Γ = [some (.lsk (ns.map D.int)), some (.int (i : Nat)), some (.int seed), some (.obj θ1.length), x4, x5, some (.str (S p)), some (.str (S m)), some (.tup ((pageL keys p m []).map fun l => .str (S l))), some (.bl false), x10, x11]) ⟨[], by rw [List.append_nil], _, _, _, _, rfl⟩ (fun _ _ _ _ => trivial) ?_ ?_
      · rintro j d Γ θ' kk he ⟨es, rfl, x4, x5, x10, x11, rfl⟩ hk2
        obtain ⟨szs, rfl, hz1, hz2, hz3⟩ : ∃ szs : List Nat, d = .lst (szs.map fun z => .int (z : Nat)) ∧ (∀ z ∈ szs, 1 ≤ z) ∧ 0 < szs.length ∧ szs.length ≤ 100 := by
          have hm := List.mem_of_getElem? he
          have b0 := mix0 seed 9781 (m := 4) (by decide)
          simp only [List.mem_cons, List.not_mem_nil, or_false] at hm
          rcases hm with rfl | rfl | rfl
          · exact ⟨[1], rfl, by decide, by decide, by decide⟩
          · obtain ⟨z, hz⟩ := Int.eq_ofNat_of_zero_le (a := 1 + mixZ seed 9781 4) (by omega)
            refine ⟨[z], by rw [hz]; rfl, fun y hy => ?_, Nat.succ_pos _, by show 1 ≤ 100; decide⟩
            rw [List.mem_singleton.mp hy]; omega
          · exact ⟨[3, 1, 2], rfl, by decide, by decide, by decide⟩
        have hat2 := th_app (es := es) hat
        walk_at "go"
        refine A_law_pages.mk (by omega) ok1 opp hz1 hz2 hz3 ?_
        walk_at "go"
        refine ⟨_, _, rfl, rfl, ?_⟩
        have hsee := seeD_obj (θ := θ1 ++ [Ent.lst (keys.map fun l => D.str (S l))] ++ es ++ [Ent.lst ((pageL keys p m []).map fun l => D.str (S l))]) (n := (θ1 ++ [Ent.lst (keys.map fun l => D.str (S l))] ++ es).length) at_end
        refine v_neO (by rw [hsee]; exact hok) hok ?_
        rw [hsee]
        have hsy : seeD (θ1 ++ [Ent.lst (keys.map fun l => D.str (S l))] ++ es ++ [Ent.lst ((pageL keys p m []).map fun l => D.str (S l))]) (.lst ((pageL keys p m []).map fun l => .str (S l))) = .lst ((pageL keys p m []).map fun l => .str (S l)) := rfl
        rw [hsy, eqv_refl _ _ hok]
        walk_at "go"
        refine hk2 _ _ ⟨es ++ [.lst ((pageL keys p m []).map fun l => .str (S l))], by simp only [List.append_assoc], _, _, _, _, rfl⟩
      · rintro Γ θ' ⟨es, rfl, x4, x5, x10, x11, rfl⟩
        exact hk _ _ ⟨_, _, _, _, _, _, _, _, _, _, _, rfl⟩
  · rintro Γ θ' ⟨x1, x2, x3, x4, x5, x6, x7, x8, x9, x10, x11, rfl⟩
    walk_at "go"
    exact q _
section
variable {P : Program} {w : World} {K : PySem.W.Frag} {mg : Str → Option Value} {base : Heap}
theorem ok_entry_of {f : Addr} {fd : FuncData} (T : Txt K mg)  (F : Fun K "entry_of" "entry_of" s_entry_of f fd) : FnOk P w K mg base (L2.CX P w) 1 f fd ["key", "prefix", "mark"] (LF K A_entry_of) := by
  refine okA (t := aSeq (aIfS (aTst (aBin fEq (aVar 2) (aC (.str "")))) (aRet (aVar 0)) (aNext)) (aSeq (aAsg (aBM "str" fFind3 (aVar 0) (aCons (aVar 2) (aCons (aCB fLen (aCons (aVar 1) (aNil))) (aNil)))) (gN 3)) (aSeq (aIfS (aTst (aBin fLt (aVar 3) (aC (.int 0)))) (aRet (aVar 0)) (aNext)) (aRet (aSl (aVar 0) oNone (oSome (aBin fAdd (aVar 3) (aC (.int 1))))))))) (lv := 0) F sc_entry_of len_entry_of (fun cdv Ar outer s H E hr => ?hb) ?run
  case hb =>
    have hu1 := hu_of hr
    have hu64 := hr.units
    exact xss_cons (xs_if (xt_cmp (op_eqA hu64) sim_eq (xe_var (pv 2)) (xe_str) (nomark _)) (xss_one (xs_ret (xe_var (pv 0)))) (xss_nil)) (xss_cons (xs_set (i := 3) sc_entry_of.nd rfl (by first | exact Or.inl rfl | exact Or.inr rfl) (xm_find3 (xe_var (pv 0)) (xa_cons (xe_var (pv 2)) (xa_cons (xf_len rfl T.n_len (xa_cons (xe_var (pv 1)) (xa_nil))) (xa_nil))))) (xss_cons (xs_if (xt_cmp (op_ltA) sim_lt (xe_var (pv 3)) (xe_int) (nomark _)) (xss_one (xs_ret (xe_var (pv 0)))) (xss_nil)) (xss_one (xs_ret (xe_sl (xe_var (pv 0)) xo_none (xo_some (xe_add (xe_var (pv 3)) (xe_int))))))))
  case run => exact run_entry_of
theorem ok_listed {f : Addr} {fd : FuncData} (T : Txt K mg) (G_entry_of : GF P w K mg base 1 "entry_of" A_entry_of) (F : Fun K "listed" "listed" s_listed f fd) : FnOk P w K mg base (L2.CX P w) 2 f fd ["keys", "prefix", "mark", "after", "most"] (LF K A_listed) := by
  refine okA (t := aSeq (aAsg (aDicK) (gN 5)) (aSeq (aFor (aItT (aVar 0)) (gN 6) (aIfS (aTru (aBM "str" fStarts (aVar 6) (aCons (aVar 1) (aNil)))) (aPutS (aVar 5) (aCall A_entry_of (aCons (aVar 6) (aCons (aVar 1) (aCons (aVar 2) (aNil))))) (aC (.bl true))) (aNext))) (aSeq (aAsg (aLc (aItL (aCB fSortA (aCons (aVar 5) (aNil)))) (.one 8) (aTst (aBin fGt (aVar 8) (aVar 3))) (aVar 8) [8]) (gN 7)) (aRet (aTup (aCons (aCB fTuple (aCons (aSl (aVar 7) oNone (oSome (aVar 4))) (aNil))) (aCons (aBin fGt (aCB fLen (aCons (aVar 7) (aNil))) (aVar 4)) (aNil)))))))) (lv := 1) F sc_listed len_listed (fun cdv Ar outer s H E hr => ?hb) ?run
  case hb =>
    have hu1 := hu_of hr
    have hu64 := hr.units
    exact xss_cons (xs_set (i := 5) sc_listed.nd rfl (by first | exact Or.inl rfl | exact Or.inr rfl) (xe_dicK)) (xss_cons (xs_for (passes_of rfl) rfl (xi_tup (xe_var (pv 0))) (xg_name (pg_name (i := 6) sc_listed.nd rfl (by first | exact Or.inl rfl | exact Or.inr rfl))) (xss_one (xs_if (xt_tru (xm_startswith (xe_var (pv 6)) (xa_cons (xe_var (pv 1)) (xa_nil))) (fun _ => rfl)) (xss_one (xs_put hu1 (xe_var (pv 5)) (xe_call G_entry_of (hr.mono (by decide)) (takes_of rfl rfl rfl rfl) rfl (xa_cons (xe_var (pv 6)) (xa_cons (xe_var (pv 1)) (xa_cons (xe_var (pv 2)) (xa_nil))))) (xe_bl))) (xss_nil)))) (xss_cons (xs_setLc (i := 7) (own := [("entry", 8)]) (t := (.one 8)) rfl sc_listed.nd rfl rfl (sw_true rfl rfl rfl (by rfl)) (xi_list (xf_sortedA rfl rfl T.n_sorted (xa_cons (xe_var (pv 5)) (xa_nil)))) (blkOk_by (N := N_listed) (sc := defScope s_listed) (by decide +kernel)) (by decide) (fun _ _ _ _ _ => pg_name (i := 8) sc_listed.nd rfl (by first | exact Or.inl rfl | exact Or.inr rfl)) (fun _ _ _ _ _ => xts_one (xt_cmp (op_gtA) sim_gt (xe_var (pv 8)) (xe_var (pv 3)) (nomark _))) (fun _ _ _ _ _ => xe_var (pv 8))) (xss_one (xs_ret (xe_tup (xa_cons (xf_tuple rfl T.n_tuple (xa_cons (xe_sl (xe_var (pv 7)) xo_none (xo_some (xe_var (pv 4)))) (xa_nil))) (xa_cons (xe_cmp (op_gtA) sim_gt (xf_len rfl T.n_len (xa_cons (xe_var (pv 7)) (xa_nil))) (xe_var (pv 4)) (nomark _)) (xa_nil))))))))
  case run => exact run_listed
theorem ok_law_cell {f : Addr} {fd : FuncData} (T : Txt K mg)  (F : Fun K "_law_cell" "_law_cell" s_law_cell f fd) : FnOk P w K mg base (L2.CX P w) 1 f fd ["_law_script", "_law_k"] (LF K A_law_cell) := by
  refine okA (t := aSeq (aIfS (aTst (aBin fLt (aVar 1) (aCB fLen (aCons (aVar 0) (aNil))))) (aRet (aBin fIx (aVar 0) (aVar 1))) (aNext)) (aRet (aC (.int 0)))) (lv := 0) F sc_law_cell len_law_cell (fun cdv Ar outer s H E hr => ?hb) ?run
  case hb =>
    have hu1 := hu_of hr
    have hu64 := hr.units
    exact xss_cons (xs_if (xt_cmp (op_ltA) sim_lt (xe_var (pv 1)) (xf_len rfl T.n_len (xa_cons (xe_var (pv 0)) (xa_nil))) (nomark _)) (xss_one (xs_ret (xe_ix (ix_all hu1) sim_ix (xe_var (pv 0)) (xe_var (pv 1)) (fun _ _ => rfl)))) (xss_nil)) (xss_one (xs_ret (xe_int)))
  case run => exact run_law_cell
theorem ok_law_mix {f : Addr} {fd : FuncData} (T : Txt K mg)  (F : Fun K "_law_mix" "_law_mix" s_law_mix f fd) : FnOk P w K mg base (L2.CX P w) 1 f fd ["_law_cell_here", "_law_prime", "_law_many"] (LF K A_law_mix) := by
  refine okA (t := aSeq (aAsg (aBin fMod (aBin fMul (aVar 0) (aC (.int 48271))) (aVar 1)) (gN 3)) (aRet (aBin fMod (aBin fMod (aBin fMul (aVar 3) (aBin fAdd (aVar 3) (aC (.int 7)))) (aVar 1)) (aVar 2)))) (lv := 0) F sc_law_mix len_law_mix (fun cdv Ar outer s H E hr => ?hb) ?run
  case hb =>
    have hu1 := hu_of hr
    have hu64 := hr.units
    exact xss_cons (xs_set (i := 3) sc_law_mix.nd rfl (by first | exact Or.inl rfl | exact Or.inr rfl) (xe_mod (xe_mul (xe_var (pv 0)) (xe_int)) (xe_var (pv 1)))) (xss_one (xs_ret (xe_mod (xe_mod (xe_mul (xe_var (pv 3)) (xe_add (xe_var (pv 3)) (xe_int))) (xe_var (pv 1))) (xe_var (pv 2)))))
  case run => exact run_law_mix
theorem ok_law_key {f : Addr} {fd : FuncData} (T : Txt K mg) (G_law_mix : GF P w K mg base 1 "_law_mix" A_law_mix) (F : Fun K "_law_key" "_law_key" s_law_key f fd) : FnOk P w K mg base (L2.CX P w) 2 f fd ["_law_cell_here"] (LF K A_law_key) := by
  refine okA (t := aSeq (aAsg (aC (.str "abcdefghijklmnopqrstuvwxyz0123456789/-.")) (gN 1)) (aSeq (aIfS (aTst (aBin fEq (aBin fMod (aVar 0) (aC (.int 3))) (aC (.int 0)))) (aRet (aBin fIx (aTup (aCons (aC (.str "a")) (aCons (aC (.str "a/b")) (aCons (aC (.str "a/c")) (aCons (aC (.str "a/b/c")) (aCons (aC (.str "b")) (aCons (aC (.str "/")) (aCons (aC (.str "a-1")) (aCons (aC (.str "a.")) (aNil)))))))))) (aCall A_law_mix (aCons (aVar 0) (aCons (aC (.int 9973)) (aCons (aC (.int 8)) (aNil))))))) (aNext)) (aSeq (aAsg (aBin fAdd (aC (.int 1)) (aCall A_law_mix (aCons (aVar 0) (aCons (aC (.int 9967)) (aCons (aC (.int 20)) (aNil)))))) (gN 2)) (aRet (aBM "str" fJoin (aC (.str "")) (aCons (aLc (aRng (aCons (aVar 2) (aNil))) (.one 3) (aYes) (aBin fIx (aVar 1) (aCall A_law_mix (aCons (aBin fAdd (aVar 0) (aBin fMul (aC (.int 7)) (aVar 3))) (aCons (aC (.int 9949)) (aCons (aC (.int 39)) (aNil)))))) [3]) (aNil))))))) (lv := 1) F sc_law_key len_law_key (fun cdv Ar outer s H E hr => ?hb) ?run
  case hb =>
    have hu1 := hu_of hr
    have hu64 := hr.units
    exact xss_cons (xs_set (i := 1) sc_law_key.nd rfl (by first | exact Or.inl rfl | exact Or.inr rfl) (xe_str)) (xss_cons (xs_if (xt_cmp (op_eqA hu64) sim_eq (xe_mod (xe_var (pv 0)) (xe_int)) (xe_int) (nomark _)) (xss_one (xs_ret (xe_ix (ix_all hu1) sim_ix (xe_tup (xa_cons (xe_str) (xa_cons (xe_str) (xa_cons (xe_str) (xa_cons (xe_str) (xa_cons (xe_str) (xa_cons (xe_str) (xa_cons (xe_str) (xa_cons (xe_str) (xa_nil)))))))))) (xe_call G_law_mix (hr.mono (by decide)) (takes_of rfl rfl rfl rfl) rfl (xa_cons (xe_var (pv 0)) (xa_cons (xe_int) (xa_cons (xe_int) (xa_nil))))) (fun _ _ => rfl)))) (xss_nil)) (xss_cons (xs_set (i := 2) sc_law_key.nd rfl (by first | exact Or.inl rfl | exact Or.inr rfl) (xe_add (xe_int) (xe_call G_law_mix (hr.mono (by decide)) (takes_of rfl rfl rfl rfl) rfl (xa_cons (xe_var (pv 0)) (xa_cons (xe_int) (xa_cons (xe_int) (xa_nil))))))) (xss_one (xs_ret (xm_join (xe_str) (xa_cons (xe_lc (own := [("_law_k", 3)]) (t := (.one 3)) rfl sc_law_key.nd (xi_rng rfl T.n_range (xa_cons (xe_var (pv 2)) (xa_nil))) (blkOk_by (N := N_law_key) (sc := defScope s_law_key) (by decide +kernel)) (by decide) (fun _ _ _ _ _ => pg_name (i := 3) sc_law_key.nd rfl (by first | exact Or.inl rfl | exact Or.inr rfl)) (fun _ _ _ _ _ => xts_nil) (fun _ _ _ _ _ => xe_ix (ix_all hu1) sim_ix (xe_var (pv 1)) (xe_call G_law_mix (hr.mono (by decide)) takes0 rfl (xa_cons (xe_add (xe_var (pv 0)) (xe_mul (xe_int) (xe_var (pv 3)))) (xa_cons (xe_int) (xa_cons (xe_int) (xa_nil))))) (fun _ _ => rfl))) (xa_nil)))))))
  case run => exact run_law_key
theorem ok_law_pages {f : Addr} {fd : FuncData} (T : Txt K mg) (G_listed : GF P w K mg base 2 "listed" A_listed) (F : Fun K "_law_pages" "_law_pages" s_law_pages f fd) : FnOk P w K mg base (L2.CX P w) 3 f fd ["_law_keys", "_law_prefix", "_law_mark", "_law_sizes"] (LF K A_law_pages) := by
  refine okA (t := aSeq (aAsg (aLstM (aNil)) (gN 4)) (aSeq (aAsg (aC (.str "")) (gN 5)) (aSeq (aFor (aRng (aCons (aBin fAdd (aCB fLen (aCons (aVar 0) (aNil))) (aC (.int 2))) (aNil))) (gN 6) (aSeq (aAsg (aBin fIx (aVar 3) (aBin fMod (aVar 6) (aCB fLen (aCons (aVar 3) (aNil))))) (gN 7)) (aSeq (aAsg (aCall A_listed (aCons (aVar 0) (aCons (aVar 1) (aCons (aVar 2) (aCons (aVar 5) (aCons (aVar 7) (aNil))))))) (gTupA 2 (gsCons (gN 8) (gsCons (gN 9) (gsNil))))) (aSeq (aIfS (aOr (aTst (aBin fGt (aCB fLen (aCons (aVar 8) (aNil))) (aVar 7))) (aAnd (aTru (aVar 9)) (aTst (aBin fLt (aCB fLen (aCons (aVar 8) (aNil))) (aVar 7))))) (aRet (aC .non)) (aNext)) (aSeq (aDrop (aBM "list" fExtend (aVar 4) (aCons (aVar 8) (aNil)))) (aSeq (aIfS (aNot (aTru (aVar 9))) (aRet (aVar 4)) (aNext)) (aAsg (aBin fIx (aVar 8) (aUn fNeg (aC (.int 1)))) (gN 5)))))))) (aRet (aC .non))))) (lv := 2) F sc_law_pages len_law_pages (fun cdv Ar outer s H E hr => ?hb) ?run
  case hb =>
    have hu1 := hu_of hr
    have hu64 := hr.units
    exact xss_cons (xs_set (i := 4) sc_law_pages.nd rfl (by first | exact Or.inl rfl | exact Or.inr rfl) (xe_lstM (xa_nil))) (xss_cons (xs_set (i := 5) sc_law_pages.nd rfl (by first | exact Or.inl rfl | exact Or.inr rfl) (xe_str)) (xss_cons (xs_for (passes_of rfl) rfl (xi_rng rfl T.n_range (xa_cons (xe_add (xf_len rfl T.n_len (xa_cons (xe_var (pv 0)) (xa_nil))) (xe_int)) (xa_nil))) (xg_name (pg_name (i := 6) sc_law_pages.nd rfl (by first | exact Or.inl rfl | exact Or.inr rfl))) (xss_cons (xs_set (i := 7) sc_law_pages.nd rfl (by first | exact Or.inl rfl | exact Or.inr rfl) (xe_ix (ix_all hu1) sim_ix (xe_var (pv 3)) (xe_mod (xe_var (pv 6)) (xf_len rfl T.n_len (xa_cons (xe_var (pv 3)) (xa_nil)))) (fun _ _ => rfl))) (xss_cons (xs_asg (xe_call G_listed (hr.mono (by decide)) (takes_of rfl rfl rfl rfl) rfl (xa_cons (xe_var (pv 0)) (xa_cons (xe_var (pv 1)) (xa_cons (xe_var (pv 2)) (xa_cons (xe_var (pv 5)) (xa_cons (xe_var (pv 7)) (xa_nil))))))) (xg_tup rfl (xgs_cons (xg_name (pg_name (i := 8) sc_law_pages.nd rfl (by first | exact Or.inl rfl | exact Or.inr rfl))) (xgs_cons (xg_name (pg_name (i := 9) sc_law_pages.nd rfl (by first | exact Or.inl rfl | exact Or.inr rfl))) (xgs_nil))))) (xss_cons (xs_if (XW.pt (xw_or (xt_cmp (op_gtA) sim_gt (xf_len rfl T.n_len (xa_cons (xe_var (pv 8)) (xa_nil))) (xe_var (pv 7)) (nomark _)) (xw_or1 (XW.pt (xw_and (xt_tru (xe_var (pv 9)) (fun _ => rfl)) (xw_and1 (xt_cmp (op_ltA) sim_lt (xf_len rfl T.n_len (xa_cons (xe_var (pv 8)) (xa_nil))) (xe_var (pv 7)) (nomark _)))))))) (xss_one (xs_ret (xe_non))) (xss_nil)) (xss_cons (xs_expr (xm_extend (xe_var (pv 4)) (xa_cons (xe_var (pv 8)) (xa_nil)))) (xss_cons (xs_if (xt_not (xt_tru (xe_var (pv 9)) (fun _ => rfl))) (xss_one (xs_ret (xe_var (pv 4)))) (xss_nil)) (xss_one (xs_set (i := 5) sc_law_pages.nd rfl (by first | exact Or.inl rfl | exact Or.inr rfl) (xe_ix (ix_all hu1) sim_ix (xe_var (pv 8)) (xe_neg (xe_int)) (fun _ _ => rfl)))))))))) (xss_one (xs_ret (xe_non)))))
  case run => exact run_law_pages
theorem ok_law_has {f : Addr} {fd : FuncData} (T : Txt K mg)  (F : Fun K "_law_has" "_law_has" s_law_has f fd) : FnOk P w K mg base (L2.CX P w) 1 f fd ["_law_entries", "_law_key_here", "_law_prefix", "_law_mark"] (LF K A_law_has) := by
  refine okA (t := aSeq (aIfS (aTst (aBin fNe (aSl (aVar 1) oNone (oSome (aCB fLen (aCons (aVar 2) (aNil))))) (aVar 2))) (aRet (aC (.bl true))) (aNext)) (aSeq (aAsg (aLc (aItT (aVar 0)) (.one 6) (aAnd (aTst (aBin fNe (aVar 3) (aC (.str "")))) (aAnd (aTst (aBin fEq (aSl (aVar 6) (oSome (aUn fNeg (aC (.int 1)))) oNone) (aVar 3))) (aTst (aBin fEq (aSl (aVar 1) oNone (oSome (aCB fLen (aCons (aVar 6) (aNil))))) (aVar 6))))) (aVar 6) [6]) (gN 4)) (aSeq (aAsg (aSl (aVar 1) (oSome (aCB fLen (aCons (aVar 2) (aNil)))) oNone) (gN 5)) (aSeq (aIfS (aOr (aTst (aBin fEq (aVar 3) (aC (.str "")))) (aTst (aBin fNotIn (aVar 3) (aVar 5)))) (aRet (aBin fIn (aVar 1) (aVar 0))) (aNext)) (aRet (aBin fEq (aLc (aItL (aVar 4)) (.one 7) (aTst (aBin fGt (aCB fLen (aCons (aVar 7) (aNil))) (aCB fLen (aCons (aVar 2) (aNil))))) (aCB fLen (aCons (aVar 7) (aNil))) [7]) (aLst (aCons (aBin fAdd (aBin fAdd (aCB fLen (aCons (aVar 2) (aNil))) (aBM "str" fFind (aVar 5) (aCons (aVar 3) (aNil)))) (aC (.int 1))) (aNil))))))))) (lv := 0) F sc_law_has len_law_has (fun cdv Ar outer s H E hr => ?hb) ?run
  case hb =>
    have hu1 := hu_of hr
    have hu64 := hr.units
    exact xss_cons (xs_if (xt_cmp (op_neA hu64) sim_ne (xe_sl (xe_var (pv 1)) xo_none (xo_some (xf_len rfl T.n_len (xa_cons (xe_var (pv 2)) (xa_nil))))) (xe_var (pv 2)) (nomark _)) (xss_one (xs_ret (xe_bl))) (xss_nil)) (xss_cons (xs_setLc (i := 4) (own := [("_law_entry", 6)]) (t := (.one 6)) rfl sc_law_has.nd rfl rfl (sw_true rfl rfl rfl (by rfl)) (xi_tup (xe_var (pv 0))) (blkOk_by (N := N_law_has) (sc := defScope s_law_has) (by decide +kernel)) (by decide) (fun _ _ _ _ _ => pg_name (i := 6) sc_law_has.nd rfl (by first | exact Or.inl rfl | exact Or.inr rfl)) (fun _ _ _ _ _ => xts_one (XW.pt (xw_and (xt_cmp (op_neA hu64) sim_ne (xe_var (pv 3)) (xe_str) (nomark _)) (xw_and (xt_cmp (op_eqA hu64) sim_eq (xe_sl (xe_var (pv 6)) (xo_some (xe_neg (xe_int))) xo_none) (xe_var (pv 3)) (nomark _)) (xw_and1 (xt_cmp (op_eqA hu64) sim_eq (xe_sl (xe_var (pv 1)) xo_none (xo_some (xf_len rfl T.n_len (xa_cons (xe_var (pv 6)) (xa_nil))))) (xe_var (pv 6)) (nomark _))))))) (fun _ _ _ _ _ => xe_var (pv 6))) (xss_cons (xs_set (i := 5) sc_law_has.nd rfl (by first | exact Or.inl rfl | exact Or.inr rfl) (xe_sl (xe_var (pv 1)) (xo_some (xf_len rfl T.n_len (xa_cons (xe_var (pv 2)) (xa_nil)))) xo_none)) (xss_cons (xs_if (XW.pt (xw_or (xt_cmp (op_eqA hu64) sim_eq (xe_var (pv 3)) (xe_str) (nomark _)) (xw_or1 (xt_cmp (op_notInAll hu1) sim_notIn (xe_var (pv 3)) (xe_var (pv 5)) (by with_unfolding_all rfl))))) (xss_one (xs_ret (xe_cmp (op_inAll hu1) sim_in (xe_var (pv 1)) (xe_var (pv 0)) (by with_unfolding_all rfl)))) (xss_nil)) (xss_one (xs_ret (xe_cmp (op_eqA hu64) sim_eq (xe_lc (own := [("_law_folder", 7)]) (t := (.one 7)) rfl sc_law_has.nd (xi_list (xe_var (pv 4))) (blkOk_by (N := N_law_has) (sc := defScope s_law_has) (by decide +kernel)) (by decide) (fun _ _ _ _ _ => pg_name (i := 7) sc_law_has.nd rfl (by first | exact Or.inl rfl | exact Or.inr rfl)) (fun _ _ _ _ _ => xts_one (xt_cmp (op_gtA) sim_gt (xf_len rfl T.n_len (xa_cons (xe_var (pv 7)) (xa_nil))) (xf_len rfl T.n_len (xa_cons (xe_var (pv 2)) (xa_nil))) (nomark _))) (fun _ _ _ _ _ => xf_len rfl T.n_len (xa_cons (xe_var (pv 7)) (xa_nil)))) (xe_lst (xa_cons (xe_add (xe_add (xf_len rfl T.n_len (xa_cons (xe_var (pv 2)) (xa_nil))) (xm_find (xe_var (pv 5)) (xa_cons (xe_var (pv 3)) (xa_nil)))) (xe_int)) (xa_nil))) (nomark _)))))))
  case run => exact run_law_has
theorem ok_law {f : Addr} {fd : FuncData} (T : Txt K mg) (G_law_cell : GF P w K mg base 1 "_law_cell" A_law_cell) (G_law_has : GF P w K mg base 1 "_law_has" A_law_has) (G_law_key : GF P w K mg base 2 "_law_key" A_law_key) (G_law_mix : GF P w K mg base 1 "_law_mix" A_law_mix) (G_law_pages : GF P w K mg base 3 "_law_pages" A_law_pages) (G_listed : GF P w K mg base 2 "listed" A_listed) (F : Fun K "law" "law" s_law f fd) : FnOk P w K mg base (L2.CX P w) 4 f fd ["_law_script"] (LF K A_law) := by
  refine okA (t := aSeq (aFor (aRng (aCons (aC (.int 3)) (aNil))) (gN 1) (aSeq (aAsg (aBin fAdd (aCall A_law_cell (aCons (aVar 0) (aCons (aVar 1) (aNil)))) (aVar 1)) (gN 2)) (aSeq (aAsg (aLstM (aNil)) (gN 3)) (aSeq (aFor (aRng (aCons (aCall A_law_mix (aCons (aVar 2) (aCons (aC (.int 9811)) (aCons (aC (.int 13)) (aNil))))) (aNil))) (gN 4) (aSeq (aAsg (aCall A_law_key (aCons (aBin fAdd (aCall A_law_cell (aCons (aVar 0) (aCons (aBin fAdd (aC (.int 3)) (aBin fMod (aVar 4) (aC (.int 4)))) (aNil)))) (aBin fMul (aC (.int 7)) (aVar 4))) (aNil))) (gN 5)) (aSeq (aIfS (aAnd (aTst (aBin fEq (aCall A_law_mix (aCons (aBin fAdd (aVar 2) (aVar 4)) (aCons (aC (.int 9803)) (aCons (aC (.int 3)) (aNil))))) (aC (.int 0)))) (aTru (aVar 3))) (aAsg (aSl (aBin fAdd (aBin fAdd (aBin fIx (aVar 3) (aC (.int 0))) (aC (.str "/"))) (aVar 5)) oNone (oSome (aC (.int 20)))) (gN 5)) (aNext)) (aIfS (aTst (aBin fNotIn (aVar 5) (aVar 3))) (aDrop (aBM "list" fAppend (aVar 3) (aCons (aVar 5) (aNil)))) (aNext))))) (aSeq (aAsg (aBin fIx (aBin fAdd (aBin fAdd (aLst (aCons (aC (.str "")) (aNil))) (aLc (aItL (aVar 3)) (.one 5) (aYes) (aSl (aVar 5) oNone (oSome (aBin fAdd (aC (.int 1)) (aVar 1)))) [5])) (aVar 3)) (aCall A_law_mix (aCons (aVar 2) (aCons (aC (.int 9791)) (aCons (aBin fAdd (aC (.int 1)) (aBin fMul (aC (.int 2)) (aCB fLen (aCons (aVar 3) (aNil))))) (aNil)))))) (gN 6)) (aSeq (aAsg (aBin fIx (aTup (aCons (aC (.str "/")) (aCons (aC (.str "")) (aCons (aC (.str "-")) (aCons (aC (.str "/")) (aCons (aC (.str "a")) (aNil))))))) (aCall A_law_mix (aCons (aVar 2) (aCons (aC (.int 9787)) (aCons (aC (.int 5)) (aNil)))))) (gN 7)) (aSeq (aAsg (aCall A_listed (aCons (aCB fTuple (aCons (aVar 3) (aNil))) (aCons (aVar 6) (aCons (aVar 7) (aCons (aC (.str "")) (aCons (aC (.int 99)) (aNil))))))) (gTupA 2 (gsCons (gN 8) (gsCons (gN 9) (gsNil))))) (aSeq (aIfS (aOr (aTst (aBin fIsN (aVar 9) (aC (.bl false)))) (aTst (aBin fNe (aCB fList (aCons (aVar 8) (aNil))) (aSSet (aVar 8))))) (aRet (aC (.bl false))) (aNext)) (aSeq (aIfS (aNot (aTru (aCB fAll (aCons (aLc (aItL (aVar 3)) (.one 5) (aYes) (aCall A_law_has (aCons (aVar 8) (aCons (aVar 5) (aCons (aVar 6) (aCons (aVar 7) (aNil)))))) [5]) (aNil))))) (aRet (aC (.bl false))) (aNext)) (aSeq (aIfS (aNot (aTru (aCB fAll (aCons (aLc (aItT (aVar 8)) (.one 11) (aYes) (aCB fAny (aCons (aLc (aItL (aVar 3)) (.one 5) (aYes) (aAndV (aBM "str" fStarts (aVar 5) (aCons (aVar 11) (aNil))) (aBM "str" fStarts (aVar 11) (aCons (aVar 6) (aNil)))) [5]) (aNil))) [11]) (aNil))))) (aRet (aC (.bl false))) (aNext)) (aFor (aItT (aTup (aCons (aLst (aCons (aC (.int 1)) (aNil))) (aCons (aLst (aCons (aBin fAdd (aC (.int 1)) (aCall A_law_mix (aCons (aVar 2) (aCons (aC (.int 9781)) (aCons (aC (.int 4)) (aNil)))))) (aNil))) (aCons (aLst (aCons (aC (.int 3)) (aCons (aC (.int 1)) (aCons (aC (.int 2)) (aNil))))) (aNil)))))) (gN 10) (aIfS (aTst (aBin fNe (aCall A_law_pages (aCons (aCB fTuple (aCons (aVar 3) (aNil))) (aCons (aVar 6) (aCons (aVar 7) (aCons (aVar 10) (aNil)))))) (aCB fList (aCons (aVar 8) (aNil))))) (aRet (aC (.bl false))) (aNext))))))))))))) (aRet (aC (.bl true)))) (lv := 3) F sc_law len_law (fun cdv Ar outer s H E hr => ?hb) ?run
  case hb =>
    have hu1 := hu_of hr
    have hu64 := hr.units
    exact xss_cons (xs_for (passes_of rfl) rfl (xi_rng rfl T.n_range (xa_cons (xe_int) (xa_nil))) (xg_name (pg_name (i := 1) sc_law.nd rfl (by first | exact Or.inl rfl | exact Or.inr rfl))) (xss_cons (xs_set (i := 2) sc_law.nd rfl (by first | exact Or.inl rfl | exact Or.inr rfl) (xe_add (xe_call G_law_cell (hr.mono (by decide)) (takes_of rfl rfl rfl rfl) rfl (xa_cons (xe_var (pv 0)) (xa_cons (xe_var (pv 1)) (xa_nil)))) (xe_var (pv 1)))) (xss_cons (xs_set (i := 3) sc_law.nd rfl (by first | exact Or.inl rfl | exact Or.inr rfl) (xe_lstM (xa_nil))) (xss_cons (xs_for (passes_of rfl) rfl (xi_rng rfl T.n_range (xa_cons (xe_call G_law_mix (hr.mono (by decide)) (takes_of rfl rfl rfl rfl) rfl (xa_cons (xe_var (pv 2)) (xa_cons (xe_int) (xa_cons (xe_int) (xa_nil))))) (xa_nil))) (xg_name (pg_name (i := 4) sc_law.nd rfl (by first | exact Or.inl rfl | exact Or.inr rfl))) (xss_cons (xs_set (i := 5) sc_law.nd rfl (by first | exact Or.inl rfl | exact Or.inr rfl) (xe_call G_law_key (hr.mono (by decide)) (takes_of rfl rfl rfl rfl) rfl (xa_cons (xe_add (xe_call G_law_cell (hr.mono (by decide)) (takes_of rfl rfl rfl rfl) rfl (xa_cons (xe_var (pv 0)) (xa_cons (xe_add (xe_int) (xe_mod (xe_var (pv 4)) (xe_int))) (xa_nil)))) (xe_mul (xe_int) (xe_var (pv 4)))) (xa_nil)))) (xss_cons (xs_if (XW.pt (xw_and (xt_cmp (op_eqA hu64) sim_eq (xe_call G_law_mix (hr.mono (by decide)) (takes_of rfl rfl rfl rfl) rfl (xa_cons (xe_add (xe_var (pv 2)) (xe_var (pv 4))) (xa_cons (xe_int) (xa_cons (xe_int) (xa_nil))))) (xe_int) (nomark _)) (xw_and1 (xt_tru (xe_var (pv 3)) (fun _ => rfl))))) (xss_one (xs_set (i := 5) sc_law.nd rfl (by first | exact Or.inl rfl | exact Or.inr rfl) (xe_sl (xe_add (xe_add (xe_ix (ix_all hu1) sim_ix (xe_var (pv 3)) (xe_int) (fun _ _ => rfl)) (xe_str)) (xe_var (pv 5))) xo_none (xo_some (xe_int))))) (xss_nil)) (xss_one (xs_if (xt_cmp (op_notInAll hu1) sim_notIn (xe_var (pv 5)) (xe_var (pv 3)) (by with_unfolding_all rfl)) (xss_one (xs_expr (xm_append (xe_var (pv 3)) (xa_cons (xe_var (pv 5)) (xa_nil))))) (xss_nil)))))) (xss_cons (xs_set (i := 6) sc_law.nd rfl (by first | exact Or.inl rfl | exact Or.inr rfl) (xe_ix (ix_all hu1) sim_ix (xe_add (xe_add (xe_lst (xa_cons (xe_str) (xa_nil))) (xe_lc (own := [("_law_key_here", 5)]) (t := (.one 5)) rfl sc_law.nd (xi_list (xe_var (pv 3))) (blkOk_by (N := N_law) (sc := defScope s_law) (by decide +kernel)) (by decide) (fun _ _ _ _ _ => pg_name (i := 5) sc_law.nd rfl (by first | exact Or.inl rfl | exact Or.inr rfl)) (fun _ _ _ _ _ => xts_nil) (fun _ _ _ _ _ => xe_sl (xe_var (pv 5)) xo_none (xo_some (xe_add (xe_int) (xe_var (pv 1))))))) (xe_var (pv 3))) (xe_call G_law_mix (hr.mono (by decide)) (takes_of rfl rfl rfl rfl) rfl (xa_cons (xe_var (pv 2)) (xa_cons (xe_int) (xa_cons (xe_add (xe_int) (xe_mul (xe_int) (xf_len rfl T.n_len (xa_cons (xe_var (pv 3)) (xa_nil))))) (xa_nil))))) (fun _ _ => rfl))) (xss_cons (xs_set (i := 7) sc_law.nd rfl (by first | exact Or.inl rfl | exact Or.inr rfl) (xe_ix (ix_all hu1) sim_ix (xe_tup (xa_cons (xe_str) (xa_cons (xe_str) (xa_cons (xe_str) (xa_cons (xe_str) (xa_cons (xe_str) (xa_nil))))))) (xe_call G_law_mix (hr.mono (by decide)) (takes_of rfl rfl rfl rfl) rfl (xa_cons (xe_var (pv 2)) (xa_cons (xe_int) (xa_cons (xe_int) (xa_nil))))) (fun _ _ => rfl))) (xss_cons (xs_asg (xe_call G_listed (hr.mono (by decide)) (takes_of rfl rfl rfl rfl) rfl (xa_cons (xf_tuple rfl T.n_tuple (xa_cons (xe_var (pv 3)) (xa_nil))) (xa_cons (xe_var (pv 6)) (xa_cons (xe_var (pv 7)) (xa_cons (xe_str) (xa_cons (xe_int) (xa_nil))))))) (xg_tup rfl (xgs_cons (xg_name (pg_name (i := 8) sc_law.nd rfl (by first | exact Or.inl rfl | exact Or.inr rfl))) (xgs_cons (xg_name (pg_name (i := 9) sc_law.nd rfl (by first | exact Or.inl rfl | exact Or.inr rfl))) (xgs_nil))))) (xss_cons (xs_if (XW.pt (xw_or (xt_cmp (op_isNAll) sim_isN (xe_var (pv 9)) (xe_bl) (nomark _)) (xw_or1 (xt_cmp (op_neA hu64) sim_ne (xf_list rfl T.n_list (xa_cons (xe_var (pv 8)) (xa_nil))) (xe_sset rfl rfl T.n_sorted rfl T.n_set (xe_var (pv 8))) (nomark _))))) (xss_one (xs_ret (xe_bl))) (xss_nil)) (xss_cons (xs_if (xt_not (xt_tru (xf_all rfl rfl T.n_all (xa_cons (xe_lc (own := [("_law_key_here", 5)]) (t := (.one 5)) rfl sc_law.nd (xi_list (xe_var (pv 3))) (blkOk_by (N := N_law) (sc := defScope s_law) (by decide +kernel)) (by decide) (fun _ _ _ _ _ => pg_name (i := 5) sc_law.nd rfl (by first | exact Or.inl rfl | exact Or.inr rfl)) (fun _ _ _ _ _ => xts_nil) (fun _ _ _ _ _ => xe_call G_law_has (hr.mono (by decide)) takes0 rfl (xa_cons (xe_var (pv 8)) (xa_cons (xe_var (pv 5)) (xa_cons (xe_var (pv 6)) (xa_cons (xe_var (pv 7)) (xa_nil))))))) (xa_nil))) (fun _ => rfl))) (xss_one (xs_ret (xe_bl))) (xss_nil)) (xss_cons (xs_if (xt_not (xt_tru (xf_all rfl rfl T.n_all (xa_cons (xe_lc (own := [("_law_entry", 11)]) (t := (.one 11)) rfl sc_law.nd (xi_tup (xe_var (pv 8))) (blkOk_by (N := N_law) (sc := defScope s_law) (by decide +kernel)) (by decide) (fun _ _ _ _ _ => pg_name (i := 11) sc_law.nd rfl (by first | exact Or.inl rfl | exact Or.inr rfl)) (fun _ _ _ _ _ => xts_nil) (fun _ _ _ _ _ => xf_any rfl rfl T.n_any (xa_cons (xe_lc (own := [("_law_key_here", 5)]) (t := (.one 5)) rfl sc_law.nd (xi_list (xe_var (pv 3))) (blkOk_by (by rfl)) (by decide) (fun _ _ _ _ _ => pg_name (i := 5) sc_law.nd rfl (by first | exact Or.inl rfl | exact Or.inr rfl)) (fun _ _ _ _ _ => xts_nil) (fun _ _ _ _ _ => xe_and (xm_startswith (xe_var (pv 5)) (xa_cons (xe_var (pv 11)) (xa_nil))) (xe_one (xm_startswith (xe_var (pv 11)) (xa_cons (xe_var (pv 6)) (xa_nil)))))) (xa_nil)))) (xa_nil))) (fun _ => rfl))) (xss_one (xs_ret (xe_bl))) (xss_nil)) (xss_one (xs_for (passes_of rfl) rfl (xi_tup (xe_tup (xa_cons (xe_lst (xa_cons (xe_int) (xa_nil))) (xa_cons (xe_lst (xa_cons (xe_add (xe_int) (xe_call G_law_mix (hr.mono (by decide)) (takes_of rfl rfl rfl rfl) rfl (xa_cons (xe_var (pv 2)) (xa_cons (xe_int) (xa_cons (xe_int) (xa_nil)))))) (xa_nil))) (xa_cons (xe_lst (xa_cons (xe_int) (xa_cons (xe_int) (xa_cons (xe_int) (xa_nil))))) (xa_nil)))))) (xg_name (pg_name (i := 10) sc_law.nd rfl (by first | exact Or.inl rfl | exact Or.inr rfl))) (xss_one (xs_if (xt_cmp (op_neA hu64) sim_ne (xe_call G_law_pages (hr.mono (by decide)) (takes_of rfl rfl rfl rfl) rfl (xa_cons (xf_tuple rfl T.n_tuple (xa_cons (xe_var (pv 3)) (xa_nil))) (xa_cons (xe_var (pv 6)) (xa_cons (xe_var (pv 7)) (xa_cons (xe_var (pv 10)) (xa_nil)))))) (xf_list rfl T.n_list (xa_cons (xe_var (pv 8)) (xa_nil))) (nomark _)) (xss_one (xs_ret (xe_bl))) (xss_nil))))))))))))))) (xss_one (xs_ret (xe_bl)))
  case run => exact run_law
end
theorem all_mk {l : PySem.W.OpenLaw} {w : World} {K : PySem.W.Frag} {h : Heap} {mg : Str → Option Value} {fa fl f0 f1 f2 f3 f4 f5 f6 : Addr} (X : K.In h) (G : h.Ns mainGlobals mg) (hfa : mg "law" = some (.ref fa))
    {od0 an0 : Option Addr} {sl0 : Array (Option Value)} {oc0 kV0 dc0 pm0 cd0 ct0 : Value}
    {od1 an1 : Option Addr} {sl1 : Array (Option Value)} {oc1 kV1 dc1 pm1 cd1 ct1 : Value}
    {od2 an2 : Option Addr} {sl2 : Array (Option Value)} {oc2 kV2 dc2 pm2 cd2 ct2 : Value}
    {od3 an3 : Option Addr} {sl3 : Array (Option Value)} {oc3 kV3 dc3 pm3 cd3 ct3 : Value}
    {od4 an4 : Option Addr} {sl4 : Array (Option Value)} {oc4 kV4 dc4 pm4 cd4 ct4 : Value}
    {od5 an5 : Option Addr} {sl5 : Array (Option Value)} {oc5 kV5 dc5 pm5 cd5 ct5 : Value}
    {od6 an6 : Option Addr} {sl6 : Array (Option Value)} {oc6 kV6 dc6 pm6 cd6 ct6 : Value}
    {od7 an7 : Option Addr} {sl7 : Array (Option Value)} {oc7 kV7 dc7 pm7 cd7 ct7 : Value}
    (a0 : PySem.W.nsIn K mainGlobals "entry_of" = some (some (.ref f0)))
    (l0 : K.lookup f0 = some ⟨oc0, od0, .func (PySem.W.fnOf "entry_of" "entry_of" (defArgs s_entry_of) (defBody s_entry_of) (defScope s_entry_of) .none kV0 dc0 pm0 an0 cd0 ct0), sl0⟩)
    (c0 : PySem.W.codeIn K cd0 "entry_of" = true)
    (k0 : PySem.W.keepIn K (.ref f0) = true)
    (a1 : PySem.W.nsIn K mainGlobals "listed" = some (some (.ref f1)))
    (l1 : K.lookup f1 = some ⟨oc1, od1, .func (PySem.W.fnOf "listed" "listed" (defArgs s_listed) (defBody s_listed) (defScope s_listed) .none kV1 dc1 pm1 an1 cd1 ct1), sl1⟩)
    (c1 : PySem.W.codeIn K cd1 "listed" = true)
    (k1 : PySem.W.keepIn K (.ref f1) = true)
    (a2 : PySem.W.nsIn K mainGlobals "_law_cell" = some (some (.ref f2)))
    (l2 : K.lookup f2 = some ⟨oc2, od2, .func (PySem.W.fnOf "_law_cell" "_law_cell" (defArgs s_law_cell) (defBody s_law_cell) (defScope s_law_cell) .none kV2 dc2 pm2 an2 cd2 ct2), sl2⟩)
    (c2 : PySem.W.codeIn K cd2 "_law_cell" = true)
    (k2 : PySem.W.keepIn K (.ref f2) = true)
    (a3 : PySem.W.nsIn K mainGlobals "_law_mix" = some (some (.ref f3)))
    (l3 : K.lookup f3 = some ⟨oc3, od3, .func (PySem.W.fnOf "_law_mix" "_law_mix" (defArgs s_law_mix) (defBody s_law_mix) (defScope s_law_mix) .none kV3 dc3 pm3 an3 cd3 ct3), sl3⟩)
    (c3 : PySem.W.codeIn K cd3 "_law_mix" = true)
    (k3 : PySem.W.keepIn K (.ref f3) = true)
    (a4 : PySem.W.nsIn K mainGlobals "_law_key" = some (some (.ref f4)))
    (l4 : K.lookup f4 = some ⟨oc4, od4, .func (PySem.W.fnOf "_law_key" "_law_key" (defArgs s_law_key) (defBody s_law_key) (defScope s_law_key) .none kV4 dc4 pm4 an4 cd4 ct4), sl4⟩)
    (c4 : PySem.W.codeIn K cd4 "_law_key" = true)
    (k4 : PySem.W.keepIn K (.ref f4) = true)
    (a5 : PySem.W.nsIn K mainGlobals "_law_pages" = some (some (.ref f5)))
    (l5 : K.lookup f5 = some ⟨oc5, od5, .func (PySem.W.fnOf "_law_pages" "_law_pages" (defArgs s_law_pages) (defBody s_law_pages) (defScope s_law_pages) .none kV5 dc5 pm5 an5 cd5 ct5), sl5⟩)
    (c5 : PySem.W.codeIn K cd5 "_law_pages" = true)
    (k5 : PySem.W.keepIn K (.ref f5) = true)
    (a6 : PySem.W.nsIn K mainGlobals "_law_has" = some (some (.ref f6)))
    (l6 : K.lookup f6 = some ⟨oc6, od6, .func (PySem.W.fnOf "_law_has" "_law_has" (defArgs s_law_has) (defBody s_law_has) (defScope s_law_has) .none kV6 dc6 pm6 an6 cd6 ct6), sl6⟩)
    (c6 : PySem.W.codeIn K cd6 "_law_has" = true)
    (k6 : PySem.W.keepIn K (.ref f6) = true)
    (a7 : PySem.W.nsIn K mainGlobals "law" = some (some (.ref fl)))
    (l7 : K.lookup fl = some ⟨oc7, od7, .func (PySem.W.fnOf "law" "law" (defArgs s_law) (defBody s_law) (defScope s_law) .none kV7 dc7 pm7 an7 cd7 ct7), sl7⟩)
    (c7 : PySem.W.codeIn K cd7 "law" = true)
    (k7 : PySem.W.keepIn K (.ref fl) = true)
    (y0 : PySem.W.nsIn K mainGlobals "all" = some none)
    (y1 : PySem.W.nsIn K mainGlobals "any" = some none)
    (y2 : PySem.W.nsIn K mainGlobals "len" = some none)
    (y3 : PySem.W.nsIn K mainGlobals "list" = some none)
    (y4 : PySem.W.nsIn K mainGlobals "range" = some none)
    (y5 : PySem.W.nsIn K mainGlobals "set" = some none)
    (y6 : PySem.W.nsIn K mainGlobals "sorted" = some none)
    (y7 : PySem.W.nsIn K mainGlobals "tuple" = some none) :
    ∃ fd : FuncData, (∀ (s : Shared) (v : Value), BindsTo s fd ⟨[v], []⟩ [("_law_script", v)]) ∧ ∀ base : Heap, K.In base → base.Ns mainGlobals mg → FnOk l.prog w K mg base (L2.CX l.prog w) 4 fa fd ["_law_script"] (LF K aLaw) := by
  have e := hfa.symm.trans (PySem.W.mg_of X G a7)
  cases e
  have T : Txt K mg := { n_all := PySem.W.mg_none_of X G y0, n_any := PySem.W.mg_none_of X G y1, n_len := PySem.W.mg_none_of X G y2, n_list := PySem.W.mg_none_of X G y3, n_range := PySem.W.mg_none_of X G y4, n_set := PySem.W.mg_none_of X G y5, n_sorted := PySem.W.mg_none_of X G y6, n_tuple := PySem.W.mg_none_of X G y7 }
  have F0 := fun_mk (st := s_entry_of) l0 c0 k0
  have b0 := F0.binds (ps := ["key", "prefix", "mark"]) fun _ _ _ _ _ _ us hl => match us, hl with | [_, _, _], _ => rfl
  have F1 := fun_mk (st := s_listed) l1 c1 k1
  have b1 := F1.binds (ps := ["keys", "prefix", "mark", "after", "most"]) fun _ _ _ _ _ _ us hl => match us, hl with | [_, _, _, _, _], _ => rfl
  have F2 := fun_mk (st := s_law_cell) l2 c2 k2
  have b2 := F2.binds (ps := ["_law_script", "_law_k"]) fun _ _ _ _ _ _ us hl => match us, hl with | [_, _], _ => rfl
  have F3 := fun_mk (st := s_law_mix) l3 c3 k3
  have b3 := F3.binds (ps := ["_law_cell_here", "_law_prime", "_law_many"]) fun _ _ _ _ _ _ us hl => match us, hl with | [_, _, _], _ => rfl
  have F4 := fun_mk (st := s_law_key) l4 c4 k4
  have b4 := F4.binds (ps := ["_law_cell_here"]) fun _ _ _ _ _ _ us hl => match us, hl with | [_], _ => rfl
  have F5 := fun_mk (st := s_law_pages) l5 c5 k5
  have b5 := F5.binds (ps := ["_law_keys", "_law_prefix", "_law_mark", "_law_sizes"]) fun _ _ _ _ _ _ us hl => match us, hl with | [_, _, _, _], _ => rfl
  have F6 := fun_mk (st := s_law_has) l6 c6 k6
  have b6 := F6.binds (ps := ["_law_entries", "_law_key_here", "_law_prefix", "_law_mark"]) fun _ _ _ _ _ _ us hl => match us, hl with | [_, _, _, _], _ => rfl
  have F7 := fun_mk (st := s_law) l7 c7 k7
  refine ⟨PySem.W.fnOf "law" "law" (defArgs s_law) (defBody s_law) (defScope s_law) .none kV7 dc7 pm7 an7 cd7 ct7, fun s v => .of_eq rfl, fun base _ _ => ?_⟩
  have G_entry_of : GF l.prog w K mg base 1 "entry_of" A_entry_of := ⟨f0, _, ["key", "prefix", "mark"], ok_entry_of T  F0, b0, PySem.W.mg_of X G a0, k0⟩
  have G_law_cell : GF l.prog w K mg base 1 "_law_cell" A_law_cell := ⟨f2, _, ["_law_script", "_law_k"], ok_law_cell T  F2, b2, PySem.W.mg_of X G a2, k2⟩
  have G_law_mix : GF l.prog w K mg base 1 "_law_mix" A_law_mix := ⟨f3, _, ["_law_cell_here", "_law_prime", "_law_many"], ok_law_mix T  F3, b3, PySem.W.mg_of X G a3, k3⟩
  have G_law_has : GF l.prog w K mg base 1 "_law_has" A_law_has := ⟨f6, _, ["_law_entries", "_law_key_here", "_law_prefix", "_law_mark"], ok_law_has T  F6, b6, PySem.W.mg_of X G a6, k6⟩
  have G_listed : GF l.prog w K mg base 2 "listed" A_listed := ⟨f1, _, ["keys", "prefix", "mark", "after", "most"], ok_listed T G_entry_of F1, b1, PySem.W.mg_of X G a1, k1⟩
  have G_law_key : GF l.prog w K mg base 2 "_law_key" A_law_key := ⟨f4, _, ["_law_cell_here"], ok_law_key T G_law_mix F4, b4, PySem.W.mg_of X G a4, k4⟩
  have G_law_pages : GF l.prog w K mg base 3 "_law_pages" A_law_pages := ⟨f5, _, ["_law_keys", "_law_prefix", "_law_mark", "_law_sizes"], ok_law_pages T G_listed F5, b5, PySem.W.mg_of X G a5, k5⟩
  exact ok_law T G_law_cell G_law_has G_law_key G_law_mix G_law_pages G_listed F7
end K13
open PySem PySem.W PyProof.Rows
set_option maxRecDepth 100000 in
set_option maxHeartbeats 0 in
theorem PySem.Challenge.cw_greatkeep_k13_whole_pages_holds : PySem.Challenge.rw_greatkeep_k13_whole_pages.Holds := by
  w_on; o_law; k_head; (case hw => w_witness2)
  k_fill
  refine AB.walkA (l := PySem.Challenge.rw_greatkeep_k13_whole_pages) (k := 4) (x := "_law_script") rfl rfl ⟨rfl, by decide, by decide⟩ (fun w h Y => PySem.W.kIn_of Y) ?F
  case F =>
    intro w mg fa h KX G hmg
    refine' K13.all_mk KX G hmg ?a0 ?l0 ?c0 ?k0 ?a1 ?l1 ?c1 ?k1 ?a2 ?l2 ?c2 ?k2 ?a3 ?l3 ?c3 ?k3 ?a4 ?l4 ?c4 ?k4 ?a5 ?l5 ?c5 ?k5 ?a6 ?l6 ?c6 ?k6 ?a7 ?l7 ?c7 ?k7 ?y0 ?y1 ?y2 ?y3 ?y4 ?y5 ?y6 ?y7
    (case a0 => k_is); (case l0 => k_is); (case c0 => k_is); (case k0 => k_is); (case a1 => k_is)
    (case l1 => k_is); (case c1 => k_is); (case k1 => k_is); (case a2 => k_is); (case l2 => k_is)
    (case c2 => k_is); (case k2 => k_is); (case a3 => k_is); (case l3 => k_is); (case c3 => k_is)
    (case k3 => k_is); (case a4 => k_is); (case l4 => k_is); (case c4 => k_is); (case k4 => k_is)
    (case a5 => k_is); (case l5 => k_is); (case c5 => k_is); (case k5 => k_is); (case a6 => k_is)
    (case l6 => k_is); (case c6 => k_is); (case k6 => k_is); (case a7 => k_is); (case l7 => k_is)
    (case c7 => k_is); (case k7 => k_is); (case y0 => k_is); (case y1 => k_is); (case y2 => k_is)
    (case y3 => k_is); (case y4 => k_is); (case y5 => k_is); (case y6 => k_is); (case y7 => k_is)
