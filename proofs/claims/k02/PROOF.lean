import PyProof.Rows.All
import Wide.All
import OpenK.AllK
import Wide.FinOn
import HandS.ForMost
import HandS.ForExc
import HandS.StrMore
import HandS.IsInst
import HandS.Style
import HandS.SortInts
import HandS.DictTup
import HandS.TryOnly
import HandS.Zip
import PySem.Challenge.RW_greatkeep_k02_sums
set_option Elab.async false
set_option linter.all false
set_option maxRecDepth 100000
set_option maxHeartbeats 4000000
/-! The abstract layer: Python values as data D, mutable objects as entries of a list, readings lifted to these. -/
namespace AB
open PySem L2

/-- a value: what never changes stands written out; obj n is the n-th entry of the state -/
inductive D where
  | non | bl (b : Bool) | int (i : Int) | str (x : Str) | tup (xs : List D) | lst (xs : List D) | lsk (xs : List D) | obj (n : Nat) | raw (v : V)
/-- what may change -/
inductive Ent where
  | lst (xs : List D) | dK (kvs : List (Key × D)) | lk (kvs : List (Key × D)) | dT (kvs : List (List Key × D)) | ins (C : Addr) (fs : List (Str × D)) | gone
abbrev Th := List Ent
abbrev G := List (Option D)

def FzL (H : Hp) (a : Addr) (xs : List V) : Prop := ∃ o, H a = some (.frz o (.lst xs))
theorem FzL.rd {H : Hp} {a : Addr} {xs : List V} (h : FzL H a xs) : Rd H a (.lst xs) := .inr h
/-- a list of the module's own, or a frozen one -/
def FkL (K : PySem.W.Frag) (H : Hp) (a : Addr) (xs : List V) : Prop := FzL H a xs ∨
    ∃ (o : Obj) (its : Array Value) (n : Nat), K.lookup a = some o ∧ o.cls = .type "list" ∧ o.dict = none ∧ o.data = .seq its n ∧ its.size ≤ sizeLine ∧ Vals xs its.toList
theorem FkL.sq {K : PySem.W.Frag} {H : Hp} {a : Addr} {xs : List V} (h : FkL K H a xs) : SqL K H a xs := by
  rcases h with h | h
  · exact .inl h.rd
  · exact .inr h

section
variable (K : PySem.W.Frag) (H : Hp) (α : Nat → Addr) (N : Nat)
mutual
def Rep : D → V → Prop
  | .non, v => v = .non
  | .bl b, v => v = .bl b
  | .int i, v => v = .int i
  | .str x, v => v = .str x
  | .tup ds, v => ∃ a vs, v = .ref a ∧ H a = some (.tup vs) ∧ Reps ds vs
  | .lst ds, v => ∃ a vs, v = .ref a ∧ FzL H a vs ∧ Reps ds vs
  | .lsk ds, v => ∃ a vs, v = .ref a ∧ FkL K H a vs ∧ Reps ds vs
  | .obj n, v => n < N ∧ v = .ref (α n)
  | .raw x, v => v = x
def Reps : List D → List V → Prop
  | [], vs => vs = []
  | d :: ds, vs => ∃ v ws, vs = v :: ws ∧ Rep d v ∧ Reps ds ws
end
def KRep {κ : Type} (kvs : List (κ × D)) (ws : List (κ × V)) : Prop := kvs.map (·.1) = ws.map (·.1) ∧ Reps K H α N (kvs.map (·.2)) (ws.map (·.2))
def EntAt (a : Addr) : Ent → Prop
  | .lst ds => ∃ vs, H a = some (.lst vs) ∧ Reps K H α N ds vs
  | .dK kvs => ∃ ws, H a = some (.dK ws) ∧ KRep K H α N kvs ws
  | .lk kvs => ∃ o ws, H a = some (.frz o (.dK ws)) ∧ KRep K H α N kvs ws
  | .dT kvs => ∃ ws, H a = some (.dT ws) ∧ KRep K H α N kvs ws
  | .ins C fs => ∃ dx ws, H a = some (.ins C dx ws) ∧ KRep K H α N fs ws
  | .gone => H a ≠ none
/-- the state: each entry stands at its own address -/
structure Sta (θ : Th) : Prop where
  ent : ∀ n e, θ[n]? = some e → EntAt K H α θ.length (α n) e
  inj : ∀ n m, n < θ.length → m < θ.length → α n = α m → n = m
/-- the frame's slots -/
def Slots (σ : L2.St) (Γ : G) : Prop := Γ.length = σ.length ∧ ∀ (i : Nat) (d : D), Γ[i]? = some (some d) → ∃ v : V, σ[i]? = some (some v) ∧ Rep K H α N d v
end
/-- what never changes stays -/
structure Pers (H H' : Hp) : Prop where
  tup : ∀ a vs, H a = some (.tup vs) → H' a = some (.tup vs)
  frz : ∀ a o vs, H a = some (.frz o (.lst vs)) → H' a = some (.frz o (.lst vs))
theorem Pers.refl (H : Hp) : Pers H H := ⟨fun _ _ h => h, fun _ _ _ h => h⟩
theorem Pers.trans {H H1 H2 : Hp} (a : Pers H H1) (b : Pers H1 H2) : Pers H H2 := ⟨fun c v h => b.tup c v (a.tup c v h), fun c o v h => b.frz c o v (a.frz c o v h)⟩
theorem Pers.same {H H' : Hp} (s : ∀ b o, H b = some o → H' b = some o) : Pers H H' := ⟨fun a vs h => s a _ h, fun a o vs h => s a _ h⟩
theorem same_new {H : Hp} {p : Addr} {o : HO} (h : H p = none) : ∀ b u, H b = some u → (upd H p o) b = some u := fun b u e => by rw [upd_ne (ne_of_none e h)]; exact e
theorem Pers.new {H : Hp} {p : Addr} {o : HO} (h : H p = none) : Pers H (upd H p o) := Pers.same (same_new h)
theorem Pers.write {H : Hp} {p : Addr} {u o : HO} (h : H p = some u) (mu : Mut (some u)) : Pers H (upd H p o) := by
  refine ⟨fun a vs e => ?_, fun a o vs e => ?_⟩
  · rw [upd_ne (ne_of e h (by rintro rfl; exact mu))]; exact e
  · rw [upd_ne (ne_of e h (by rintro rfl; exact mu))]; exact e

/-- from a state to a later one -/
structure Nx (α : Nat → Addr) (n : Nat) (H : Hp) (α' : Nat → Addr) (n' : Nat) (H' : Hp) : Prop where
  ag : ∀ m, m < n → α' m = α m
  le : n ≤ n'
  per : Pers H H'
theorem Nx.refl (α : Nat → Addr) (n : Nat) (H : Hp) : Nx α n H α n H := ⟨fun _ _ => rfl, Nat.le_refl _, Pers.refl H⟩
theorem Nx.trans {α α1 α2 : Nat → Addr} {n n1 n2 : Nat} {H H1 H2 : Hp} (a : Nx α n H α1 n1 H1) (b : Nx α1 n1 H1 α2 n2 H2) : Nx α n H α2 n2 H2 :=
  ⟨fun m h => (b.ag m (Nat.lt_of_lt_of_le h a.le)).trans (a.ag m h), Nat.le_trans a.le b.le, a.per.trans b.per⟩
theorem Nx.of (α : Nat → Addr) (n : Nat) {H H' : Hp} (p : Pers H H') : Nx α n H α n H' := ⟨fun _ _ => rfl, Nat.le_refl _, p⟩

section
variable {K : PySem.W.Frag} {H H' : Hp} {α α' : Nat → Addr} {N N' : Nat}
theorem FzL.mono {a : Addr} {xs : List V} (p : Pers H H') (h : FzL H a xs) : FzL H' a xs := let ⟨o, h⟩ := h; ⟨o, p.frz _ _ _ h⟩
theorem FkL.mono {a : Addr} {xs : List V} (p : Pers H H') (h : FkL K H a xs) : FkL K H' a xs := h.elim (fun h => .inl (h.mono p)) .inr
mutual
theorem Rep.mono (x : Nx α N H α' N' H') : ∀ (d : D) (v : V), Rep K H α N d v → Rep K H' α' N' d v
  | .non, _, h => h
  | .bl _, _, h => h
  | .int _, _, h => h
  | .str _, _, h => h
  | .tup ds, v, h => by
    unfold Rep at h ⊢
    obtain ⟨a, vs, e, h1, h2⟩ := h
    exact ⟨a, vs, e, x.per.tup _ _ h1, Reps.mono x ds vs h2⟩
  | .lst ds, v, h => by
    unfold Rep at h ⊢
    obtain ⟨a, vs, e, h1, h2⟩ := h
    exact ⟨a, vs, e, h1.mono x.per, Reps.mono x ds vs h2⟩
  | .lsk ds, v, h => by
    unfold Rep at h ⊢
    obtain ⟨a, vs, e, h1, h2⟩ := h
    exact ⟨a, vs, e, h1.mono x.per, Reps.mono x ds vs h2⟩
  | .obj n, v, h => by
    unfold Rep at h ⊢
    exact ⟨Nat.lt_of_lt_of_le h.1 x.le, by rw [x.ag n h.1]; exact h.2⟩
  | .raw _, _, h => h
theorem Reps.mono (x : Nx α N H α' N' H') : ∀ (ds : List D) (vs : List V), Reps K H α N ds vs → Reps K H' α' N' ds vs
  | [], _, h => h
  | d :: ds, vs, h => by
    unfold Reps at h ⊢
    obtain ⟨v, ws, e, h1, h2⟩ := h
    exact ⟨v, ws, e, Rep.mono x d v h1, Reps.mono x ds ws h2⟩
end
theorem KRep.mono {κ : Type} {kvs : List (κ × D)} {ws : List (κ × V)} (x : Nx α N H α' N' H') (h : KRep K H α N kvs ws) : KRep K H' α' N' kvs ws := ⟨h.1, Reps.mono x _ _ h.2⟩
/-- an entry whose object is as it was -/
theorem EntAt.mono {a : Addr} {e : Ent} (x : Nx α N H α' N' H') (h : EntAt K H α N a e) (s : ∀ o, H a = some o → H' a = some o) : EntAt K H' α' N' a e := by
  cases e with
  | lst ds => obtain ⟨vs, h1, h2⟩ := h; exact ⟨vs, s _ h1, Reps.mono x _ _ h2⟩
  | dK kvs => obtain ⟨vs, h1, h2⟩ := h; exact ⟨vs, s _ h1, h2.mono x⟩
  | lk kvs => obtain ⟨o, vs, h1, h2⟩ := h; exact ⟨o, vs, s _ h1, h2.mono x⟩
  | dT kvs => obtain ⟨vs, h1, h2⟩ := h; exact ⟨vs, s _ h1, h2.mono x⟩
  | ins C fs => obtain ⟨dx, vs, h1, h2⟩ := h; exact ⟨dx, vs, s _ h1, h2.mono x⟩
  | gone => 
    intro z
    cases q : H a with
    | none => exact h q
    | some o => rw [s o q] at z; cases z
theorem Slots.mono {σ : L2.St} {Γ : G} (x : Nx α N H α' N' H') (h : Slots K H α N σ Γ) : Slots K H' α' N' σ Γ :=
  ⟨h.1, fun i d e => let ⟨v, h1, h2⟩ := h.2 i d e; ⟨v, h1, Rep.mono x _ _ h2⟩⟩
theorem Reps.length : ∀ {ds : List D} {vs : List V}, Reps K H α N ds vs → ds.length = vs.length
  | [], vs, h => by unfold Reps at h; rw [h]; rfl
  | d :: ds, vs, h => by
    unfold Reps at h
    obtain ⟨v, ws, rfl, _, h2⟩ := h
    rw [List.length_cons, List.length_cons, Reps.length h2]
theorem Reps.nil : Reps K H α N [] [] := by unfold Reps; rfl
theorem Reps.cons {d : D} {v : V} {ds : List D} {vs : List V} (a : Rep K H α N d v) (b : Reps K H α N ds vs) : Reps K H α N (d :: ds) (v :: vs) := by
  unfold Reps; exact ⟨v, vs, rfl, a, b⟩
theorem Reps.uncons {d : D} {ds : List D} {vs : List V} (h : Reps K H α N (d :: ds) vs) : ∃ v ws, vs = v :: ws ∧ Rep K H α N d v ∧ Reps K H α N ds ws := by
  unfold Reps at h; exact h
theorem Reps.get : ∀ {ds : List D} {vs : List V} {i : Nat} {d : D}, Reps K H α N ds vs → ds[i]? = some d → ∃ v, vs[i]? = some v ∧ Rep K H α N d v
  | [], _, _, _, _, e => by simp at e
  | d :: ds, vs, 0, d', h, e => by
    obtain ⟨v, ws, rfl, h1, h2⟩ := h.uncons
    simp at e; subst e; exact ⟨v, rfl, h1⟩
  | d :: ds, vs, i + 1, d', h, e => by
    obtain ⟨v, ws, rfl, h1, h2⟩ := h.uncons
    obtain ⟨u, q1, q2⟩ := Reps.get (i := i) h2 (by simpa using e)
    exact ⟨u, by simpa using q1, q2⟩
theorem Reps.append : ∀ {ds es : List D} {vs ws : List V}, Reps K H α N ds vs → Reps K H α N es ws → Reps K H α N (ds ++ es) (vs ++ ws)
  | [], es, vs, ws, h, g => by unfold Reps at h; subst h; exact g
  | d :: ds, es, vs, ws, h, g => by
    obtain ⟨v, us, rfl, h1, h2⟩ := h.uncons
    exact Reps.cons h1 (Reps.append h2 g)
theorem Reps.set : ∀ {ds : List D} {vs : List V} {d : D} {v : V} (i : Nat), Rep K H α N d v → Reps K H α N ds vs → Reps K H α N (ds.set i d) (vs.set i v)
  | [], vs, _, _, _, _, h => by unfold Reps at h; subst h; exact Reps.nil
  | d :: ds, vs, _, _, 0, r, h => by
    obtain ⟨v, us, rfl, h1, h2⟩ := h.uncons
    exact Reps.cons r h2
  | d :: ds, vs, _, _, i + 1, r, h => by
    obtain ⟨v, us, rfl, h1, h2⟩ := h.uncons
    exact Reps.cons h1 (Reps.set i r h2)
theorem Reps.take : ∀ {ds : List D} {vs : List V} (n : Nat), Reps K H α N ds vs → Reps K H α N (ds.take n) (vs.take n)
  | [], vs, n, h => by unfold Reps at h; subst h; rw [List.take_nil, List.take_nil]; exact Reps.nil
  | d :: ds, vs, 0, h => by rw [List.take_zero, List.take_zero]; exact Reps.nil
  | d :: ds, vs, n + 1, h => by
    obtain ⟨v, us, rfl, h1, h2⟩ := h.uncons
    exact Reps.cons h1 (Reps.take n h2)
theorem Reps.drop : ∀ {ds : List D} {vs : List V} (n : Nat), Reps K H α N ds vs → Reps K H α N (ds.drop n) (vs.drop n)
  | [], vs, n, h => by unfold Reps at h; subst h; rw [List.drop_nil, List.drop_nil]; exact Reps.nil
  | d :: ds, vs, 0, h => h
  | d :: ds, vs, n + 1, h => by
    obtain ⟨v, us, rfl, h1, h2⟩ := h.uncons
    exact Reps.drop n h2
theorem Reps.reverse {ds : List D} {vs : List V} (h : Reps K H α N ds vs) : Reps K H α N ds.reverse vs.reverse := by
  induction ds generalizing vs with
  | nil => unfold Reps at h; subst h; exact Reps.nil
  | cons d ds ih =>
    obtain ⟨v, us, rfl, h1, h2⟩ := h.uncons
    rw [List.reverse_cons, List.reverse_cons]
    exact (ih h2).append (Reps.cons h1 Reps.nil)
theorem reps_map (f : D → V) (h : ∀ d ∈ (ds : List D), Rep K H α N d (f d)) : Reps K H α N ds (ds.map f) := by
  induction ds with
  | nil => exact Reps.nil
  | cons d ds ih => exact Reps.cons (h d List.mem_cons_self) (ih fun e he => h e (List.mem_cons_of_mem _ he))
theorem reps_ints : ∀ (ns : List Int), Reps K H α N (ns.map D.int) (ns.map V.int)
  | [] => Reps.nil
  | n :: ns => Reps.cons (by unfold Rep; rfl) (reps_ints ns)
theorem reps_strs : ∀ (ns : List Str), Reps K H α N (ns.map D.str) (ns.map V.str)
  | [] => Reps.nil
  | n :: ns => Reps.cons (by unfold Rep; rfl) (reps_strs ns)
theorem of_ints : ∀ {ns : List Int} {vs : List V}, Reps K H α N (ns.map D.int) vs → vs = ns.map V.int
  | [], vs, h => by unfold List.map Reps at h; exact h
  | n :: ns, vs, h => by
    obtain ⟨v, us, rfl, h1, h2⟩ := h.uncons
    unfold Rep at h1
    rw [h1, of_ints h2]; rfl
theorem of_strs : ∀ {ns : List Str} {vs : List V}, Reps K H α N (ns.map D.str) vs → vs = ns.map V.str
  | [], vs, h => by unfold List.map Reps at h; exact h
  | n :: ns, vs, h => by
    obtain ⟨v, us, rfl, h1, h2⟩ := h.uncons
    unfold Rep at h1
    rw [h1, of_strs h2]; rfl
theorem of_bls : ∀ {ns : List Bool} {vs : List V}, Reps K H α N (ns.map D.bl) vs → vs = ns.map V.bl
  | [], vs, h => by unfold List.map Reps at h; exact h
  | n :: ns, vs, h => by
    obtain ⟨v, us, rfl, h1, h2⟩ := h.uncons
    unfold Rep at h1
    rw [h1, of_bls h2]; rfl
/-- nothing written: new things may have come -/
theorem Sta.same {θ : Th} (s : ∀ b o, H b = some o → H' b = some o) (h : Sta K H α θ) : Sta K H' α θ :=
  ⟨fun n e he => (h.ent n e he).mono (Nx.of α _ (Pers.same s)) fun o => s _ o, h.inj⟩
/-- the address of an entry is tracked -/
theorem EntAt.there {a : Addr} {e : Ent} (h : EntAt K H α N a e) : ∃ o, H a = some o := by
  cases e with
  | lst ds => obtain ⟨vs, h1, h2⟩ := h; exact ⟨_, h1⟩
  | dK kvs => obtain ⟨vs, h1, h2⟩ := h; exact ⟨_, h1⟩
  | lk kvs => obtain ⟨o, vs, h1, h2⟩ := h; exact ⟨_, h1⟩
  | dT kvs => obtain ⟨vs, h1, h2⟩ := h; exact ⟨_, h1⟩
  | ins C fs => obtain ⟨dx, vs, h1, h2⟩ := h; exact ⟨_, h1⟩
  | gone =>
    cases q : H a with
    | none => exact absurd q h
    | some o => exact ⟨o, rfl⟩
end
/-! ### how far references go -/
mutual
def D.lt (n : Nat) : D → Prop
  | .obj m => m < n
  | .tup ds => D.lts n ds
  | .lst ds => D.lts n ds
  | .lsk ds => D.lts n ds
  | _ => True
def D.lts (n : Nat) : List D → Prop
  | [] => True
  | d :: ds => D.lt n d ∧ D.lts n ds
end
def Ent.lt (n : Nat) : Ent → Prop
  | .lst ds => D.lts n ds
  | .dK kvs => D.lts n (kvs.map (·.2))
  | .lk kvs => D.lts n (kvs.map (·.2))
  | .dT kvs => D.lts n (kvs.map (·.2))
  | .ins _ fs => D.lts n (fs.map (·.2))
  | .gone => True
theorem D.lts_iff {n : Nat} : ∀ {ds : List D}, D.lts n ds ↔ ∀ d ∈ ds, D.lt n d
  | [] => by unfold D.lts; simp
  | d :: ds => by unfold D.lts; rw [D.lts_iff (ds := ds)]; simp
section
variable {K : PySem.W.Frag} {H H' : Hp} {α α' : Nat → Addr} {N N' : Nat}
mutual
theorem Rep.lt : ∀ (d : D) (v : V), Rep K H α N d v → D.lt N d
  | .non, _, _ => by unfold D.lt; trivial
  | .bl _, _, _ => by unfold D.lt; trivial
  | .int _, _, _ => by unfold D.lt; trivial
  | .str _, _, _ => by unfold D.lt; trivial
  | .tup ds, v, h => by
    unfold Rep at h; unfold D.lt
    obtain ⟨a, vs, e, h1, h2⟩ := h
    exact Reps.lt ds vs h2
  | .lst ds, v, h => by
    unfold Rep at h; unfold D.lt
    obtain ⟨a, vs, e, h1, h2⟩ := h
    exact Reps.lt ds vs h2
  | .lsk ds, v, h => by
    unfold Rep at h; unfold D.lt
    obtain ⟨a, vs, e, h1, h2⟩ := h
    exact Reps.lt ds vs h2
  | .obj n, v, h => by
    unfold Rep at h; unfold D.lt
    exact h.1
  | .raw _, _, _ => by unfold D.lt; trivial
theorem Reps.lt : ∀ (ds : List D) (vs : List V), Reps K H α N ds vs → D.lts N ds
  | [], _, _ => by unfold D.lts; trivial
  | d :: ds, vs, h => by
    unfold Reps at h; unfold D.lts
    obtain ⟨v, ws, e, h1, h2⟩ := h
    exact ⟨Rep.lt d v h1, Reps.lt ds ws h2⟩
end
mutual
theorem Rep.shrink : ∀ (d : D) (v : V), Rep K H α N d v → D.lt N' d → Rep K H α N' d v
  | .non, _, h, _ => h
  | .bl _, _, h, _ => h
  | .int _, _, h, _ => h
  | .str _, _, h, _ => h
  | .tup ds, v, h, l => by
    unfold Rep at h ⊢; unfold D.lt at l
    obtain ⟨a, vs, e, h1, h2⟩ := h
    exact ⟨a, vs, e, h1, Reps.shrink ds vs h2 l⟩
  | .lst ds, v, h, l => by
    unfold Rep at h ⊢; unfold D.lt at l
    obtain ⟨a, vs, e, h1, h2⟩ := h
    exact ⟨a, vs, e, h1, Reps.shrink ds vs h2 l⟩
  | .lsk ds, v, h, l => by
    unfold Rep at h ⊢; unfold D.lt at l
    obtain ⟨a, vs, e, h1, h2⟩ := h
    exact ⟨a, vs, e, h1, Reps.shrink ds vs h2 l⟩
  | .obj n, v, h, l => by
    unfold Rep at h ⊢; unfold D.lt at l
    exact ⟨l, h.2⟩
  | .raw _, _, h, _ => h
theorem Reps.shrink : ∀ (ds : List D) (vs : List V), Reps K H α N ds vs → D.lts N' ds → Reps K H α N' ds vs
  | [], _, h, _ => h
  | d :: ds, vs, h, l => by
    unfold Reps at h ⊢; unfold D.lts at l
    obtain ⟨v, ws, e, h1, h2⟩ := h
    exact ⟨v, ws, e, Rep.shrink d v h1 l.1, Reps.shrink ds ws h2 l.2⟩
end
theorem EntAt.lt {a : Addr} {e : Ent} (h : EntAt K H α N a e) : Ent.lt N e := by
  cases e with
  | lst ds => obtain ⟨vs, h1, h2⟩ := h; exact Reps.lt _ _ h2
  | dK kvs => obtain ⟨vs, h1, h2⟩ := h; exact Reps.lt _ _ h2.2
  | lk kvs => obtain ⟨o, vs, h1, h2⟩ := h; exact Reps.lt _ _ h2.2
  | dT kvs => obtain ⟨vs, h1, h2⟩ := h; exact Reps.lt _ _ h2.2
  | ins C fs => obtain ⟨dx, vs, h1, h2⟩ := h; exact Reps.lt _ _ h2.2
  | gone => trivial
theorem EntAt.shrink {a : Addr} {e : Ent} (h : EntAt K H α N a e) (l : Ent.lt N' e) : EntAt K H α N' a e := by
  cases e with
  | lst ds => obtain ⟨vs, h1, h2⟩ := h; exact ⟨vs, h1, Reps.shrink _ _ h2 l⟩
  | dK kvs => obtain ⟨vs, h1, h2⟩ := h; exact ⟨vs, h1, h2.1, Reps.shrink _ _ h2.2 l⟩
  | lk kvs => obtain ⟨o, vs, h1, h2⟩ := h; exact ⟨o, vs, h1, h2.1, Reps.shrink _ _ h2.2 l⟩
  | dT kvs => obtain ⟨vs, h1, h2⟩ := h; exact ⟨vs, h1, h2.1, Reps.shrink _ _ h2.2 l⟩
  | ins C fs => obtain ⟨dx, vs, h1, h2⟩ := h; exact ⟨dx, vs, h1, h2.1, Reps.shrink _ _ h2.2 l⟩
  | gone => exact h
theorem Sta.lt {θ : Th} (h : Sta K H α θ) : ∀ e ∈ θ, Ent.lt θ.length e := fun e he => by
  obtain ⟨n, hn, q⟩ := List.mem_iff_getElem.mp he
  exact (h.ent n e (by rw [List.getElem?_eq_getElem hn, q])).lt
/-- the entries from m on are forgotten -/
theorem Sta.take {θ : Th} (h : Sta K H α θ) {m : Nat} (l : ∀ e ∈ θ.take m, Ent.lt (θ.take m).length e) : Sta K H α (θ.take m) := by
  have hl : (θ.take m).length ≤ θ.length := by rw [List.length_take]; omega
  refine ⟨fun n e he => ?_, fun a b ha hb => h.inj a b (by omega) (by omega)⟩
  have he' : θ[n]? = some e := by
    rw [List.getElem?_take] at he
    split at he
    · exact he
    · cases he
  exact (h.ent n e he').shrink (l e (List.mem_of_getElem? he))
/-- a new entry, at a new address -/
def put (α : Nat → Addr) (n : Nat) (p : Addr) : Nat → Addr := fun m => if m = n then p else α m
theorem put_same (α : Nat → Addr) (n : Nat) (p : Addr) : put α n p n = p := if_pos rfl
theorem put_ne (α : Nat → Addr) {n m : Nat} (p : Addr) (h : m ≠ n) : put α n p m = α m := if_neg h
theorem Nx.put {θ : Th} {p : Addr} {e : Ent} (hs : ∀ b o, H b = some o → H' b = some o) : Nx α θ.length H (put α θ.length p) (θ ++ [e]).length H' :=
  ⟨fun m h => put_ne α p (Nat.ne_of_lt h), by rw [List.length_append]; exact Nat.le_add_right _ _, Pers.same hs⟩
theorem Sta.new {θ : Th} {p : Addr} {e : Ent} (h : Sta K H α θ) (hp : H p = none) (hs : ∀ b o, H b = some o → H' b = some o) (he : EntAt K H' (put α θ.length p) (θ ++ [e]).length p e) : Sta K H' (put α θ.length p) (θ ++ [e]) := by
  have nx : Nx α θ.length H (AB.put α θ.length p) (θ ++ [e]).length H' := Nx.put hs
  have fresh : ∀ n, n < θ.length → α n ≠ p := fun n hn z => by
    obtain ⟨o, ho⟩ := (h.ent n θ[n] (List.getElem?_eq_getElem hn)).there
    rw [z, hp] at ho; cases ho
  refine ⟨fun n e' he' => ?_, fun a b ha hb q => ?_⟩
  · by_cases hn : n < θ.length
    · rw [List.getElem?_append_left hn] at he'
      rw [put_ne α p (Nat.ne_of_lt hn)]
      exact (h.ent n e' he').mono nx fun o => hs _ o
    · have hn' : n < (θ ++ [e]).length := (List.getElem?_eq_some_iff.mp he').1
      rw [List.length_append] at hn'
      have e1 : n = θ.length := by simp at hn'; omega
      subst e1
      rw [List.getElem?_append_right (Nat.le_refl _), Nat.sub_self] at he'
      have : e = e' := by simpa using he'
      subst this
      rw [put_same]; exact he
  · rw [List.length_append] at ha hb
    have ha' : a < θ.length ∨ a = θ.length := by simp at ha; omega
    have hb' : b < θ.length ∨ b = θ.length := by simp at hb; omega
    rcases ha' with ha' | ha' <;> rcases hb' with hb' | hb'
    · rw [put_ne α p (Nat.ne_of_lt ha'), put_ne α p (Nat.ne_of_lt hb')] at q
      exact h.inj a b ha' hb' q
    · subst hb'
      rw [put_ne α p (Nat.ne_of_lt ha'), put_same] at q
      exact absurd q (fresh a ha')
    · subst ha'
      rw [put_ne α p (Nat.ne_of_lt hb'), put_same] at q
      exact absurd q.symm (fresh b hb')
    · rw [ha', hb']
/-- an entry is changed -/
theorem Sta.write {θ : Th} {n : Nat} {e' : Ent} {u o : HO} (h : Sta K H α θ) (hn : n < θ.length) (hu : H (α n) = some u) (mu : Mut (some u)) (he : EntAt K (upd H (α n) o) α (θ.set n e').length (α n) e') : Sta K (upd H (α n) o) α (θ.set n e') := by
  have nx : Nx α θ.length H α (θ.set n e').length (upd H (α n) o) := ⟨fun _ _ => rfl, by rw [List.length_set]; exact Nat.le_refl _, Pers.write hu mu⟩
  refine ⟨fun m e q => ?_, fun a b ha hb => h.inj a b (by rwa [List.length_set] at ha) (by rwa [List.length_set] at hb)⟩
  by_cases hm : m = n
  · subst hm
    rw [List.getElem?_set_self hn] at q
    cases q; exact he
  · rw [List.getElem?_set_ne (Ne.symm hm)] at q
    have hml : m < θ.length := (List.getElem?_eq_some_iff.mp q).1
    have hne : α m ≠ α n := fun z => hm (h.inj m n hml hn z)
    exact (h.ent m e q).mono nx fun o' ho => by rw [upd_ne hne]; exact ho
theorem Nx.write {θ : Th} {n : Nat} {e' : Ent} {u o : HO} (hu : H (α n) = some u) (mu : Mut (some u)) : Nx α θ.length H α (θ.set n e').length (upd H (α n) o) :=
  ⟨fun _ _ => rfl, by rw [List.length_set]; exact Nat.le_refl _, Pers.write hu mu⟩
end
end AB
namespace AB
open PySem L2
/-! ### what follows: abstract and lifted -/
abbrev AK := D → Th → Prop
abbrev AX := Value → Th → Prop
abbrev AR := G → Th → AK → AX → Prop
abbrev ATR := G → Th → (Bool → Th → Prop) → AX → Prop
abbrev AAR := G → Th → (List D → Th → Prop) → AX → Prop
structure AE where
  nx : G → Th → Prop
  rt : AK
  bk : G → Th → Prop
  ct : G → Th → Prop
  ex : Value → G → Th → Prop
abbrev ASR := AE → G → Th → Prop
/-- a def's promise -/
abbrev ASp := List D → Th → AK → AX → Prop

section
variable (K : PySem.W.Frag) (α : Nat → Addr) (n : Nat) (H : Hp)
def LkV (k : AK) (Q : VK) : Prop := ∀ (d : D) (θ' : Th) (α' : Nat → Addr) (H' : Hp) (v : V), Nx α n H α' θ'.length H' → Sta K H' α' θ' → Rep K H' α' θ'.length d v → k d θ' → Q v H'
def LkA (k : List D → Th → Prop) (Q : List V → Hp → Prop) : Prop := ∀ (d : List D) (θ' : Th) (α' : Nat → Addr) (H' : Hp) (v : List V), Nx α n H α' θ'.length H' → Sta K H' α' θ' → Reps K H' α' θ'.length d v → k d θ' → Q v H'
def LkT (k : Bool → Th → Prop) (Q : Bool → Hp → Prop) : Prop := ∀ (b : Bool) (θ' : Th) (α' : Nat → Addr) (H' : Hp), Nx α n H α' θ'.length H' → Sta K H' α' θ' → k b θ' → Q b H'
def LkX (k : AX) (E : XK) : Prop := ∀ (c : Value) (θ' : Th) (α' : Nat → Addr) (H' : Hp), Nx α n H α' θ'.length H' → Sta K H' α' θ' → k c θ' → E c none H'
def LkS (k : G → Th → Prop) (Q : L2.St → Hp → Prop) : Prop := ∀ (Γ' : G) (θ' : Th) (α' : Nat → Addr) (σ' : L2.St) (H' : Hp), Nx α n H α' θ'.length H' → Sta K H' α' θ' → Slots K H' α' θ'.length σ' Γ' → k Γ' θ' → Q σ' H'
def LkW (k : Value → G → Th → Prop) (W : WX) : Prop := ∀ (c : Value) (Γ' : G) (θ' : Th) (α' : Nat → Addr) (σ' : L2.St) (H' : Hp), Nx α n H α' θ'.length H' → Sta K H' α' θ' → Slots K H' α' θ'.length σ' Γ' → k c Γ' θ' → W c none σ' H'
end
section
variable {K : PySem.W.Frag} {α α1 : Nat → Addr} {n n1 : Nat} {H H1 : Hp}
theorem LkV.on {k : AK} {Q : VK} (h : LkV K α n H k Q) (x : Nx α n H α1 n1 H1) : LkV K α1 n1 H1 k Q := fun d θ' α' H' v y => h d θ' α' H' v (x.trans y)
theorem LkA.on {k : List D → Th → Prop} {Q : List V → Hp → Prop} (h : LkA K α n H k Q) (x : Nx α n H α1 n1 H1) : LkA K α1 n1 H1 k Q := fun d θ' α' H' v y => h d θ' α' H' v (x.trans y)
theorem LkT.on {k : Bool → Th → Prop} {Q : Bool → Hp → Prop} (h : LkT K α n H k Q) (x : Nx α n H α1 n1 H1) : LkT K α1 n1 H1 k Q := fun d θ' α' H' y => h d θ' α' H' (x.trans y)
theorem LkX.on {k : AX} {E : XK} (h : LkX K α n H k E) (x : Nx α n H α1 n1 H1) : LkX K α1 n1 H1 k E := fun d θ' α' H' y => h d θ' α' H' (x.trans y)
theorem LkS.on {k : G → Th → Prop} {Q : L2.St → Hp → Prop} (h : LkS K α n H k Q) (x : Nx α n H α1 n1 H1) : LkS K α1 n1 H1 k Q := fun d θ' α' σ' H' y => h d θ' α' σ' H' (x.trans y)
theorem LkW.on {k : Value → G → Th → Prop} {W : WX} (h : LkW K α n H k W) (x : Nx α n H α1 n1 H1) : LkW K α1 n1 H1 k W := fun c d θ' α' σ' H' y => h c d θ' α' σ' H' (x.trans y)
end
/-- the lifted readings -/
def LE (K : PySem.W.Frag) (W : WX) (a : AR) : TE := fun σ H Q => ∃ (α : Nat → Addr) (θ : Th) (Γ : G) (k : AK) (kx : AX), Sta K H α θ ∧ Slots K H α θ.length σ Γ ∧ a Γ θ k kx ∧ LkV K α θ.length H k Q ∧ LkX K α θ.length H kx (WE W σ)
def LT (K : PySem.W.Frag) (W : WX) (a : ATR) : TT := fun σ H Q => ∃ (α : Nat → Addr) (θ : Th) (Γ : G) (k : Bool → Th → Prop) (kx : AX), Sta K H α θ ∧ Slots K H α θ.length σ Γ ∧ a Γ θ k kx ∧ LkT K α θ.length H k Q ∧ LkX K α θ.length H kx (WE W σ)
def LA (K : PySem.W.Frag) (W : WX) (a : AAR) : TA := fun σ H Q => ∃ (α : Nat → Addr) (θ : Th) (Γ : G) (k : List D → Th → Prop) (kx : AX), Sta K H α θ ∧ Slots K H α θ.length σ Γ ∧ a Γ θ k kx ∧ LkA K α θ.length H k Q ∧ LkX K α θ.length H kx (WE W σ)
structure LkE (K : PySem.W.Frag) (α : Nat → Addr) (n : Nat) (H : Hp) (W : WX) (E : AE) (Dn : Ends) : Prop where
  nx : LkS K α n H E.nx Dn.nx
  rt : LkV K α n H E.rt Dn.rt
  bk : LkS K α n H E.bk Dn.bk
  ct : LkS K α n H E.ct Dn.ct
  ex : LkW K α n H E.ex W
theorem LkE.on {K : PySem.W.Frag} {α α1 : Nat → Addr} {n n1 : Nat} {H H1 : Hp} {W : WX} {E : AE} {Dn : Ends} (h : LkE K α n H W E Dn) (x : Nx α n H α1 n1 H1) : LkE K α1 n1 H1 W E Dn :=
  ⟨h.nx.on x, h.rt.on x, h.bk.on x, h.ct.on x, h.ex.on x⟩
def LS (K : PySem.W.Frag) (W : WX) (a : ASR) : TS := fun Dn σ H => ∃ (α : Nat → Addr) (θ : Th) (Γ : G) (E : AE), Sta K H α θ ∧ Slots K H α θ.length σ Γ ∧ a E Γ θ ∧ LkE K α θ.length H W E Dn
/-- a def's promise, lifted -/
def LF (K : PySem.W.Frag) (A : ASp) : Sp := fun vs H Q E => ∃ (α : Nat → Addr) (θ : Th) (ds : List D) (k : AK) (kx : AX), Sta K H α θ ∧ Reps K H α θ.length ds vs ∧ A ds θ k kx ∧ LkV K α θ.length H k Q ∧ LkX K α θ.length H kx E

abbrev XE' (X : Cx) (W : WX) (e : Expr) (a : AR) : Prop := PE X e (LE X.K W a)
abbrev XT (X : Cx) (W : WX) (e : Expr) (a : ATR) : Prop := PT X e (LT X.K W a)
abbrev XA (X : Cx) (W : WX) (es : List Expr) (a : AAR) : Prop := PA X es (LA X.K W a)
abbrev XS (X : Cx) (W : WX) (s : Stmt) (a : ASR) : Prop := PS X s (LS X.K W a)
abbrev XSs (X : Cx) (W : WX) (s : List Stmt) (a : ASR) : Prop := PSs X s (LS X.K W a)

section
variable {X : Cx} {e : Expr} {es : List Expr} {st : Stmt} {sts : List Stmt}
theorem pe_imp {t t' : TE} (h : PE X e t) (i : ∀ σ H Q, t' σ H Q → t σ H Q) : PE X e t' := ⟨fun pins s σ H Q I q => h.run pins s σ H Q I (i _ _ _ q)⟩
theorem pt_imp {t t' : TT} (h : PT X e t) (i : ∀ σ H Q, t' σ H Q → t σ H Q) : PT X e t' := ⟨fun pins s σ H Q I q => h.run pins s σ H Q I (i _ _ _ q)⟩
theorem pw_imp {t t' : TT} (h : PW X e t) (i : ∀ σ H Q, t' σ H Q → t σ H Q) : PW X e t' := ⟨fun wh pins s σ H Q I q => h.run wh pins s σ H Q I (i _ _ _ q)⟩
theorem pa_imp {t t' : TA} (h : PA X es t) (i : ∀ σ H Q, t' σ H Q → t σ H Q) : PA X es t' := ⟨fun p pins s σ H Q I q => h.run p pins s σ H Q I (i _ _ _ q)⟩
theorem ps_imp {t t' : TS} (h : PS X st t) (i : ∀ Dn σ H, t' Dn σ H → t Dn σ H) : PS X st t' := ⟨fun pins s σ H Dn I q => h.run pins s σ H Dn I (i _ _ _ q)⟩
theorem pss_imp {t t' : TS} (h : PSs X sts t) (i : ∀ Dn σ H, t' Dn σ H → t Dn σ H) : PSs X sts t' := ⟨fun pins s σ H Dn I q => h.run pins s σ H Dn I (i _ _ _ q)⟩
end

/-! ### expressions -/
section
variable {X : Cx} {W : WX} {a b c : Expr} {ra rb rc : AR} {pos : Pos}
@[reducible] def aVar (i : Nat) : AR := fun Γ θ k _ => ∃ d, Γ[i]? = some (some d) ∧ k d θ
theorem go_var {i : Nat} {Γ : G} {θ : Th} {k : AK} {kx : AX} {d : D} (h : Γ[i]? = some (some d)) (q : k d θ) : aVar i Γ θ k kx := ⟨d, h, q⟩
theorem xe_var {i : Nat} {x : Str} (h : PE X (.Name x pos) (tVar i)) : XE' X W (.Name x pos) (aVar i) := by
  refine pe_imp h ?_
  rintro σ H Q ⟨α, θ, Γ, k, kx, S, G, ⟨d, e, q⟩, lk, lx⟩
  obtain ⟨v, e2, r⟩ := G.2 i d e
  exact ⟨v, e2, lk d θ α H v (Nx.refl _ _ _) S r q⟩
/-- a constant -/
@[reducible] def aC (d : D) : AR := fun _ θ k _ => k d θ
theorem go_c {d : D} {Γ : G} {θ : Th} {k : AK} {kx : AX} (q : k d θ) : aC d Γ θ k kx := q
theorem xe_c {d : D} {v : V} (h : PE X a (tC v)) (r : ∀ K H α N, Rep K H α N d v) : XE' X W a (aC d) := by
  refine pe_imp h ?_
  rintro σ H Q ⟨α, θ, Γ, k, kx, S, G, q, lk, lx⟩
  exact lk d θ α H v (Nx.refl _ _ _) S (r _ _ _ _) q
theorem xe_int {i : Int} {j} : XE' X W (.Constant (.int i) j pos) (aC (.int i)) := xe_c pe_int fun _ _ _ _ => by unfold Rep; rfl
theorem xe_str {x : Str} {j} : XE' X W (.Constant (.str x) j pos) (aC (.str x)) := xe_c pe_str fun _ _ _ _ => by unfold Rep; rfl
theorem xe_bl {b : Bool} {j} : XE' X W (.Constant (.bool b) j pos) (aC (.bl b)) := xe_c pe_bl fun _ _ _ _ => by unfold Rep; rfl
theorem xe_non {j} : XE' X W (.Constant .none j pos) (aC .non) := xe_c pe_non fun _ _ _ _ => by unfold Rep; rfl

/-- two values, an operation -/
abbrev F2 := D → D → Th → AK → Prop
def Sim2 (K : PySem.W.Frag) (f : F2) (r : R2) : Prop := ∀ (α : Nat → Addr) (θ : Th) (H : Hp) (x y : D) (v u : V) (k : AK) (Q : VK), Sta K H α θ → Rep K H α θ.length x v → Rep K H α θ.length y u → f x y θ k → LkV K α θ.length H k Q → r v u H Q
@[reducible] def aBin (f : F2) (ra rb : AR) : AR := fun Γ θ k kx => ra Γ θ (fun x θ1 => rb Γ θ1 (fun y θ2 => f x y θ2 k) kx) kx
theorem go_bin {f : F2} {Γ : G} {θ : Th} {k : AK} {kx : AX} (q : ra Γ θ (fun x θ1 => rb Γ θ1 (fun y θ2 => f x y θ2 k) kx) kx) : aBin f ra rb Γ θ k kx := q
theorem bin_imp {f : F2} {r : R2} (s : Sim2 X.K f r) {σ : L2.St} {H : Hp} {Q : VK} (h : LE X.K W (aBin f ra rb) σ H Q) : tOp r (LE X.K W ra) (LE X.K W rb) σ H Q := by
  obtain ⟨α, θ, Γ, k, kx, S, G, q, lk, lx⟩ := h
  refine ⟨α, θ, Γ, _, kx, S, G, q, fun x θ1 α1 H1 v n1 S1 r1 q1 => ?_, lx⟩
  refine ⟨α1, θ1, Γ, _, kx, S1, G.mono n1, q1, fun y θ2 α2 H2 u n2 S2 r2 q2 => ?_, lx.on n1⟩
  exact s α2 θ2 H2 x y v u k Q S2 (Rep.mono n2 _ _ r1) r2 q2 (lk.on (n1.trans n2))
theorem xe_op {op : Operator} {f : F2} {r : R2} (ho : OpR X (binaryOp op) r) (s : Sim2 X.K f r) (ha : XE' X W a ra) (hb : XE' X W b rb) : XE' X W (.BinOp a op b pos) (aBin f ra rb) :=
  pe_imp (pe_op ho ha hb) fun _ _ _ h => bin_imp s h
theorem xe_cmp {op : CmpOp} {f : F2} {r : R2} (ho : OpR X (compareOp op) r) (s : Sim2 X.K f r) (ha : XE' X W a ra) (hb : XE' X W b rb) (hm : behindInMarks op b = false) : XE' X W (.Compare a [op] [b] pos) (aBin f ra rb) :=
  pe_imp (pe_cmpR ho ha hb hm) fun _ _ _ h => bin_imp s h
theorem xe_ix {f : F2} {r : R2} (ho : IxR X r) (s : Sim2 X.K f r) (ha : XE' X W a ra) (hb : XE' X W b rb) (hs : PlainIx b) : XE' X W (.Subscript a b pos) (aBin f ra rb) :=
  pe_imp (pe_ix ho ha hb hs) fun _ _ _ h => bin_imp s h
/-- a value as a test -/
@[reducible] def aTst (ra : AR) : ATR := fun Γ θ k kx => ra Γ θ (fun x θ1 => ∃ b, x = .bl b ∧ k b θ1) kx
theorem go_tst {Γ : G} {θ : Th} {k : Bool → Th → Prop} {kx : AX} (q : ra Γ θ (fun x θ1 => ∃ b, x = .bl b ∧ k b θ1) kx) : aTst ra Γ θ k kx := q
theorem tst_imp {σ : L2.St} {H : Hp} {Q : Bool → Hp → Prop} (h : LT X.K W (aTst ra) σ H Q) : (LE X.K W ra) σ H fun x H1 => ∃ c, x = .bl c ∧ Q c H1 := by
  obtain ⟨α, θ, Γ, k, kx, S, G, q, lk, lx⟩ := h
  refine ⟨α, θ, Γ, _, kx, S, G, q, fun x θ1 α1 H1 v n1 S1 r1 ⟨b, e, q1⟩ => ?_, lx⟩
  subst e
  unfold Rep at r1
  exact ⟨b, r1, lk b θ1 α1 H1 n1 S1 q1⟩
theorem xt_cmp {op : CmpOp} {f : F2} {r : R2} (ho : OpR X (compareOp op) r) (s : Sim2 X.K f r) (ha : XE' X W a ra) (hb : XE' X W b rb) (hm : behindInMarks op b = false) : XT X W (.Compare a [op] [b] pos) (aTst (aBin f ra rb)) :=
  pt_imp (pt_cmp (op := op) (t := LE X.K W (aBin f ra rb)) ⟨fun pins s' σ H Q I h => by
    have h2 := bin_imp s h
    exact binT ha hb I h2 fun v u s2 x y H2 I2 rx ry q => ho pins s2 σ H2 x y v u Q I2 rx ry q⟩ hm) fun _ _ _ h => tst_imp h
theorem xt_val (ha : XE' X W a ra) (he : ∀ whole, isTrue a X.env whole = (do let v ← whole; standAt a.pos; holding [v] (truthy v))) : XT X W a (aTst ra) :=
  pt_imp (pt_val ha he) fun _ _ _ h => tst_imp h
end
end AB
namespace AB
open PySem L2
/-! ### lists: frozen, or an entry -/
def asR (θ : Th) : D → Option (List D)
  | .lst ds => some ds
  | .obj n => match θ[n]? with
    | some (.lst ds) => some ds
    | _ => none
  | _ => none
def asL (θ : Th) : D → Option (List D)
  | .lst ds => some ds
  | .lsk ds => some ds
  | .obj n => match θ[n]? with
    | some (.lst ds) => some ds
    | _ => none
  | _ => none
section
variable {K : PySem.W.Frag} {H : Hp} {α : Nat → Addr} {θ : Th}
theorem asR_rd (S : Sta K H α θ) {d : D} {v : V} {ds : List D} (r : Rep K H α θ.length d v) (e : asR θ d = some ds) : ∃ a vs, v = .ref a ∧ Rd H a (.lst vs) ∧ Reps K H α θ.length ds vs := by
  cases d with
  | lst es =>
    have : es = ds := Option.some.inj e
    subst this
    unfold Rep at r
    obtain ⟨a, vs, h1, h2, h3⟩ := r
    exact ⟨a, vs, h1, h2.rd, h3⟩
  | obj n =>
    unfold Rep at r
    have e' : (match θ[n]? with | some (.lst ds) => some ds | _ => none) = some ds := e
    split at e'
    · rename_i es he
      have : es = ds := Option.some.inj e'
      subst this
      obtain ⟨vs, h1, h2⟩ := S.ent n _ he
      exact ⟨α n, vs, r.2, .inl h1, h2⟩
    · cases e'
  | _ => cases e
theorem asL_sq (S : Sta K H α θ) {d : D} {v : V} {ds : List D} (r : Rep K H α θ.length d v) (e : asL θ d = some ds) : ∃ a vs, v = .ref a ∧ SqL K H a vs ∧ Reps K H α θ.length ds vs := by
  cases d with
  | lst es =>
    obtain ⟨a, vs, h1, h2, h3⟩ := asR_rd S (d := .lst es) (ds := ds) r e
    exact ⟨a, vs, h1, .inl h2, h3⟩
  | obj n =>
    obtain ⟨a, vs, h1, h2, h3⟩ := asR_rd S (d := .obj n) (ds := ds) r e
    exact ⟨a, vs, h1, .inl h2, h3⟩
  | lsk es =>
    have : es = ds := Option.some.inj e
    subst this
    unfold Rep at r
    obtain ⟨a, vs, h1, h2, h3⟩ := r
    exact ⟨a, vs, h1, h2.sq, h3⟩
  | _ => cases e
theorem sz5 {n : Nat} (h : n ≤ 100000) : n ≤ sizeLine := Nat.le_trans h (by rw [sizeLine_eq]; decide)
/-! ### a new list is frozen where it is made -/
def FrQ (Q : VK) : VK := fun v H => Q v H ∨ ∃ p xs, v = .ref p ∧ H p = some (.lst xs) ∧ ∀ o, Q v (upd H p (.frz o (.lst xs)))
theorem pe_frz {X : Cx} {e : Expr} {t : TE} (h : PE X e t) : PE X e (fun σ H Q => t σ H (FrQ Q)) := by
  refine ⟨fun pins s σ H Q I q => ?_⟩
  refine thn (h.run pins s σ H _ I q) fun v s1 ⟨x, H1, I1, r1, q1⟩ => ?_
  rcases q1 with q1 | ⟨p, xs, rfl, hp, q1⟩
  · exact ⟨x, H1, I1, r1, q1⟩
  · obtain ⟨o, I2⟩ := I1.lock hp trivial
    exact ⟨_, _, I2, r1, q1 o⟩
/-- a new list at p, then frozen: what the state is -/
theorem frz_new {p : Addr} {o : Obj} {xs : List V} {ds : List D} {k : AK} {Q : VK} (S : Sta K H α θ) (hp : H p = none) (r : Reps K H α θ.length ds xs) (q : k (.lst ds) θ) (lk : LkV K α θ.length H k Q) :
    Q (.ref p) (upd (upd H p (.lst xs)) p (.frz o (.lst xs))) := by
  rw [upd_upd]
  have s := same_new (o := HO.frz o (.lst xs)) hp
  have n : Nx α θ.length H α θ.length (upd H p (.frz o (.lst xs))) := Nx.of α _ (Pers.new hp)
  refine lk (.lst ds) θ α _ (.ref p) n (S.same s) ?_ q
  unfold Rep
  exact ⟨p, xs, rfl, ⟨o, upd_same⟩, Reps.mono n _ _ r⟩
theorem frz_newQ {p : Addr} {xs : List V} {ds : List D} {k : AK} {Q : VK} (S : Sta K H α θ) (hp : H p = none) (r : Reps K H α θ.length ds xs) (q : k (.lst ds) θ) (lk : LkV K α θ.length H k Q) :
    FrQ Q (.ref p) (upd H p (.lst xs)) := .inr ⟨p, xs, rfl, upd_same, fun _ => frz_new S hp r q lk⟩
theorem tup_new {p : Addr} {xs : List V} {ds : List D} {k : AK} {Q : VK} (S : Sta K H α θ) (hp : H p = none) (r : Reps K H α θ.length ds xs) (q : k (.tup ds) θ) (lk : LkV K α θ.length H k Q) :
    Q (.ref p) (upd H p (.tup xs)) := by
  have s := same_new (o := HO.tup xs) hp
  have n : Nx α θ.length H α θ.length (upd H p (.tup xs)) := Nx.of α _ (Pers.new hp)
  refine lk (.tup ds) θ α _ (.ref p) n (S.same s) ?_ q
  unfold Rep
  exact ⟨p, xs, rfl, upd_same, Reps.mono n _ _ r⟩
theorem ent_new {p : Addr} {u : HO} {e : Ent} {k : AK} {Q : VK} (S : Sta K H α θ) (hp : H p = none) (r : EntAt K (upd H p u) (put α θ.length p) (θ ++ [e]).length p e) (q : k (.obj θ.length) (θ ++ [e])) (lk : LkV K α θ.length H k Q) :
    Q (.ref p) (upd H p u) := by
  have s := same_new (o := u) hp
  refine lk (.obj θ.length) (θ ++ [e]) _ _ (.ref p) (Nx.put s) (S.new hp s r) ?_ q
  unfold Rep
  exact ⟨by rw [List.length_append]; exact Nat.lt_succ_self _, by rw [put_same]⟩
/-- a flat value -/
theorem LkV.at {k : AK} {Q : VK} (lk : LkV K α θ.length H k Q) (S : Sta K H α θ) {d : D} {v : V} (r : Rep K H α θ.length d v) (q : k d θ) : Q v H := lk d θ α H v (Nx.refl _ _ _) S r q
end
/-! ### operators -/
def fAdd : F2 := fun x y θ k => match x, y with
  | .int i, .int j => k (.int (i + j)) θ
  | .str a, .str b => a.length + b.length ≤ 100000 ∧ k (.str (a ++ b)) θ
  | .tup xs, .tup ys => xs ≠ [] ∧ xs.length + ys.length ≤ 100000 ∧ k (.tup (xs ++ ys)) θ
  | x, y => ∃ xs ys, asR θ x = some xs ∧ asR θ y = some ys ∧ xs.length + ys.length ≤ 100000 ∧ k (.lst (xs ++ ys)) θ
/-- list + list, frozen or not -/
def rCatR : R2 := fun x y H Q => ∃ l b xs zs, x = .ref l ∧ y = .ref b ∧ Rd H l (.lst xs) ∧ Rd H b (.lst zs) ∧ xs.length + zs.length ≤ sizeLine ∧ ∀ p, H p = none → Q (.ref p) (upd H p (.lst (xs ++ zs)))
theorem op_catR {X : Cx} : OpR X (binaryOp .Add) rCatR := by
  intro pins s σ H x y v u Q I rx ry h
  obtain ⟨l, b, xs, zs, rfl, rfl, hH, hB, hz, q⟩ := h
  cases rx
  cases ry
  obtain ⟨z, its, n, r, e⟩ := hH.ok I.hok
  obtain ⟨z2, its2, n2, r2, e2⟩ := hB.ok I.hok
  have l1 := r.length
  have l2 := r2.length
  refine PySem.P.add_list e e2 ?_ (by rw [List.size_toArray, List.size_toArray]; omega)
  have ea : its.toArray ++ its2.toArray = (its ++ its2).toArray := by simp
  rw [ea]
  exact ⟨.ref _, _, I.lnew (t' := s.toks) (r.append r2) (by rw [List.length_append]; omega), rfl, q _ I.fresh⟩
def rAddI : R2 := rI0 fun i j => .int (i + j)
def rAddStr : R2 := fun x y H Q => ∃ i j, x = .str i ∧ y = .str j ∧ i.length + j.length ≤ sizeLine ∧ Q (.str (i ++ j)) H
def rAddAll (K : PySem.W.Frag) : R2 := fun x y H Q => rAddI x y H Q ∨ rAddStr x y H Q ∨ rCatT K x y H Q ∨ rCatR x y H Q
theorem op_addAll {X : Cx} : OpR X (binaryOp .Add) (rAddAll X.K) := by
  intro pins s σ H x y v u Q I rx ry h
  rcases h with h | h | h | h
  · exact op_add pins s σ H x y v u Q I rx ry h
  · exact op_add_str pins s σ H x y v u Q I rx ry h
  · exact op_catT pins s σ H x y v u Q I rx ry h
  · exact op_catR pins s σ H x y v u Q I rx ry h
/-- with the list, if it is one, frozen -/
theorem sim_add {K : PySem.W.Frag} : Sim2 K fAdd (fun x y H Q => rAddAll K x y H (FrQ Q)) := by
  intro α θ H x y v u k Q S rx ry h lk
  have fl : ∀ {d : D} {v : V}, Rep K H α θ.length d v → k d θ → FrQ Q v H := fun r q => .inl (lk.at S r q)
  unfold fAdd at h
  split at h
  · unfold Rep at rx ry
    exact .inl ⟨_, _, rx, ry, fl (by unfold Rep; rfl) h⟩
  · unfold Rep at rx ry
    exact .inr (.inl ⟨_, _, rx, ry, sz5 h.1, fl (by unfold Rep; rfl) h.2⟩)
  · rename_i xs ys
    unfold Rep at rx ry
    obtain ⟨a, vs, rfl, ha, ra⟩ := rx
    obtain ⟨b, us, rfl, hb, rb⟩ := ry
    obtain ⟨h1, h2, h3⟩ := h
    have l1 := ra.length
    have l2 := rb.length
    refine .inr (.inr (.inl ⟨a, b, vs, us, rfl, rfl, SqT.of ha, SqT.of hb, fun z => h1 (List.eq_nil_of_length_eq_zero (by rw [l1, z]; rfl)), sz5 (by omega), fun z => ?_, fun z p hp => ?_⟩))
    · have z' : ys = [] := List.eq_nil_of_length_eq_zero (by rw [l2, z]; rfl)
      rw [z', List.append_nil] at h3
      exact fl (d := .tup xs) (by unfold Rep; exact ⟨a, vs, rfl, ha, ra⟩) h3
    · exact .inl (tup_new S hp (ra.append rb) h3 lk)
  · obtain ⟨xs, ys, e1, e2, h2, h3⟩ := h
    obtain ⟨a, vs, rfl, ha, ra⟩ := asR_rd S rx e1
    obtain ⟨b, us, rfl, hb, rb⟩ := asR_rd S ry e2
    have l1 := ra.length
    have l2 := rb.length
    exact .inr (.inr (.inr ⟨a, b, vs, us, rfl, rfl, ha, hb, sz5 (by omega), fun p hp => frz_newQ S hp (ra.append rb) h3 lk⟩))
section
variable {X : Cx} {W : WX} {a b : Expr} {ra rb : AR} {pos : Pos}
/-- an operation whose new list is frozen -/
theorem xe_opF {op : Operator} {f : F2} {r : R2} (ho : OpR X (binaryOp op) r) (s : Sim2 X.K f (fun x y H Q => r x y H (FrQ Q))) (ha : XE' X W a ra) (hb : XE' X W b rb) : XE' X W (.BinOp a op b pos) (aBin f ra rb) :=
  pe_imp (pe_frz (pe_op ho ha hb)) fun _ _ _ h => bin_imp (r := fun x y H Q => r x y H (FrQ Q)) s h
theorem xe_add (ha : XE' X W a ra) (hb : XE' X W b rb) : XE' X W (.BinOp a .Add b pos) (aBin fAdd ra rb) := xe_opF op_addAll sim_add ha hb
@[reducible] def fSub : F2 := fun x y θ k => match x, y with
  | .int i, .int j => k (.int (i - j)) θ
  | _, _ => False
theorem xe_sub (ha : XE' X W a ra) (hb : XE' X W b rb) : XE' X W (.BinOp a .Sub b pos) (aBin fSub ra rb) := xe_op op_sub (by
  intro α θ H x y v u k Q S rx ry h lk
  unfold fSub at h
  split at h
  · unfold Rep at rx ry
    exact ⟨_, _, rx, ry, lk.at S (by unfold Rep; rfl) h⟩
  · cases h) ha hb
@[reducible] def fMod : F2 := fun x y θ k => match x, y with
  | .int i, .int j => 0 < j ∧ k (.int (i % j)) θ
  | _, _ => False
theorem xe_mod (ha : XE' X W a ra) (hb : XE' X W b rb) : XE' X W (.BinOp a .Mod b pos) (aBin fMod ra rb) := xe_op op_mod (by
  intro α θ H x y v u k Q S rx ry h lk
  unfold fMod at h
  split at h
  · unfold Rep at rx ry
    exact ⟨_, _, rx, ry, h.1, lk.at S (by unfold Rep; rfl) h.2⟩
  · cases h) ha hb
end
end AB
namespace AB
open PySem L2
/-! ### products, comparisons -/
section
variable {X : Cx} {W : WX} {a b c : Expr} {ra rb rc : AR} {pos : Pos}
def strRep (x : Str) (n : Nat) : Str := ⟨(List.replicate n x.cps.toList).flatten.toArray⟩
theorem foldl_app (x : Array Nat) : ∀ (n : Nat) (acc : Array Nat), (List.replicate n x).foldl (· ++ ·) acc = acc ++ (List.replicate n x.toList).flatten.toArray
  | 0, acc => by simp
  | n + 1, acc => by
    rw [List.replicate_succ, List.foldl_cons, foldl_app x n, List.replicate_succ, List.flatten_cons]
    rw [Array.append_assoc]
    congr 1
    simp [← Array.toList_inj] 
def rMulS : R2 := fun x y H Q => ∃ z n, x = .str z ∧ y = .int n ∧ 0 ≤ n ∧ z.length * n.toNat ≤ 100000 ∧ n ≤ 100000 ∧ Q (.str (strRep z n.toNat)) H
theorem op_mulS : OpR X (binaryOp .Mult) rMulS := by
  intro pins s σ H x y v u Q I rx ry h
  obtain ⟨z, n, rfl, rfl, h0, hz, hn, q⟩ := h
  obtain ⟨t, rfl⟩ := rx
  obtain ⟨t', rfl⟩ := ry
  have fl : ∀ k, Builtin.Str.tooLong k = false ↔ ¬ (sizeLine < k) := fun k => by unfold Builtin.Str.tooLong; simp
  refine PySem.P.mul_str (by simp; omega) (fun h1 _ => ?_) (fun _ _ => (fl _).mpr (by rw [sizeLine_eq]; omega)) ?_
  · have h2 : 1 ≤ n := by omega
    have h3 : (z.length : Int) * n ≤ 100000 := by
      have : ((z.length * n.toNat : Nat) : Int) ≤ 100000 := by omega
      rw [Int.natCast_mul, Int.toNat_of_nonneg h0] at this
      exact this
    intro h4
    have h5 : (z.length : Int) ≤ 100000 := by
      have : (z.length : Int) * 1 ≤ (z.length : Int) * n := Int.mul_le_mul_of_nonneg_left h2 (by omega)
      omega
    have h6 : (100000 : Int) ≤ (2 ^ 63 - 1) / n := Int.le_ediv_of_mul_le (by omega) (by omega)
    omega
  · have e0 : strRep z 0 = Str.empty := rfl
    split
    · rename_i h1
      have e : n.toNat = 0 := by omega
      rw [e, e0] at q
      refine ⟨by rw [sizeLine_eq]; decide, ?_⟩
      exact ⟨.str Str.empty, H, I.tok _, ⟨_, rfl⟩, q⟩
    · split
      · rename_i h1 h2
        simp only [Bool.or_eq_true, beq_iff_eq] at h2
        have e1 : strRep z n.toNat = z := by
          rcases h2 with h2 | h2
          · have e : n.toNat = 1 := by omega
            rw [e]; unfold strRep; simp
          · have hz0 : z.cps = #[] := by
              have : z.cps.size = 0 := h2
              exact Array.eq_empty_of_size_eq_zero this
            obtain ⟨zc⟩ := z
            have hz0' : zc = #[] := hz0
            subst hz0'
            unfold strRep
            simp
        rw [e1] at q
        exact ⟨.str z, H, I, ⟨_, rfl⟩, q⟩
      · rename_i h1 h2
        refine ⟨?_, ?_⟩
        · show (Str.length _) ≤ sizeLine
          rw [foldl_app]
          have := sizeLine_eq
          show (#[] ++ (List.replicate n.toNat z.cps.toList).flatten.toArray).size ≤ sizeLine
          simp
          have hl : z.cps.size = z.length := rfl
          rw [hl, Nat.mul_comm]; omega
        · rw [foldl_app]
          refine ⟨.str _, H, I.tok _, ⟨_, rfl⟩, ?_⟩
          have : (⟨#[] ++ (List.replicate n.toNat z.cps.toList).flatten.toArray⟩ : Str) = strRep z n.toNat := by unfold strRep; simp
          rw [this]; exact q

def fMul : F2 := fun x y θ k => match x, y with
  | .int i, .int j => ((-(2 ^ 64) < i ∧ i < 2 ^ 64) ∨ (-(2 ^ 64) < j ∧ j < 2 ^ 64)) ∧ k (.int (i * j)) θ
  | .str z, .int n => 0 ≤ n ∧ z.length * n.toNat ≤ 100000 ∧ n ≤ 100000 ∧ k (.str (strRep z n.toNat)) θ
  | _, _ => False
theorem xe_mul (ha : XE' X W a ra) (hb : XE' X W b rb) : XE' X W (.BinOp a .Mult b pos) (aBin fMul ra rb) := xe_op (op_mul.or op_mulS) (by
  intro α θ H x y v u k Q S rx ry h lk
  unfold fMul at h
  split at h
  · unfold Rep at rx ry
    exact .inl ⟨_, _, rx, ry, h.1, lk.at S (by unfold Rep; rfl) h.2⟩
  · unfold Rep at rx ry
    exact .inr ⟨_, _, rx, ry, h.1, h.2.1, h.2.2.1, lk.at S (by unfold Rep; rfl) h.2.2.2⟩
  · cases h) ha hb
/-! ### order, is, in -/
def fLt : F2 := fun x y θ k => match x, y with
  | .int i, .int j => k (.bl (decide (i < j))) θ
  | .str i, .str j => k (.bl (decide (i.cps.toList < j.cps.toList))) θ
  | _, _ => False
def fGt : F2 := fun x y θ k => match x, y with
  | .int i, .int j => k (.bl (decide (j < i))) θ
  | .str i, .str j => k (.bl (decide (j.cps.toList < i.cps.toList))) θ
  | _, _ => False
@[reducible] def fLe : F2 := fun x y θ k => match x, y with
  | .int i, .int j => k (.bl (decide (i ≤ j))) θ
  | _, _ => False
@[reducible] def fGe : F2 := fun x y θ k => match x, y with
  | .int i, .int j => k (.bl (decide (j ≤ i))) θ
  | _, _ => False
theorem sim_lt {K : PySem.W.Frag} : Sim2 K fLt (fun x y H Q => rI0 (fun i j => .bl (decide (i < j))) x y H Q ∨ (∃ i j, x = .str i ∧ y = .str j ∧ Q (.bl (decide (i.cps.toList < j.cps.toList))) H)) := by
  intro α θ H x y v u k Q S rx ry h lk
  unfold fLt at h
  split at h
  · unfold Rep at rx ry
    exact .inl ⟨_, _, rx, ry, lk.at S (by unfold Rep; rfl) h⟩
  · unfold Rep at rx ry
    exact .inr ⟨_, _, rx, ry, lk.at S (by unfold Rep; rfl) h⟩
  · cases h
theorem sim_gt {K : PySem.W.Frag} : Sim2 K fGt (fun x y H Q => rI0 (fun i j => .bl (decide (j < i))) x y H Q ∨ (∃ i j, x = .str i ∧ y = .str j ∧ Q (.bl (decide (j.cps.toList < i.cps.toList))) H)) := by
  intro α θ H x y v u k Q S rx ry h lk
  unfold fGt at h
  split at h
  · unfold Rep at rx ry
    exact .inl ⟨_, _, rx, ry, lk.at S (by unfold Rep; rfl) h⟩
  · unfold Rep at rx ry
    exact .inr ⟨_, _, rx, ry, lk.at S (by unfold Rep; rfl) h⟩
  · cases h
theorem sim_le {K : PySem.W.Frag} : Sim2 K fLe (rI0 fun i j => .bl (decide (i ≤ j))) := by
  intro α θ H x y v u k Q S rx ry h lk
  unfold fLe at h
  split at h
  · unfold Rep at rx ry
    exact ⟨_, _, rx, ry, lk.at S (by unfold Rep; rfl) h⟩
  · cases h
theorem sim_ge {K : PySem.W.Frag} : Sim2 K fGe (rI0 fun i j => .bl (decide (j ≤ i))) := by
  intro α θ H x y v u k Q S rx ry h lk
  unfold fGe at h
  split at h
  · unfold Rep at rx ry
    exact ⟨_, _, rx, ry, lk.at S (by unfold Rep; rfl) h⟩
  · cases h
theorem op_ltA : OpR X (compareOp .Lt) (fun x y H Q => rI0 (fun i j => .bl (decide (i < j))) x y H Q ∨ (∃ i j, x = .str i ∧ y = .str j ∧ Q (.bl (decide (i.cps.toList < j.cps.toList))) H)) := op_lt.or op_lt_str
theorem op_gtA : OpR X (compareOp .Gt) (fun x y H Q => rI0 (fun i j => .bl (decide (j < i))) x y H Q ∨ (∃ i j, x = .str i ∧ y = .str j ∧ Q (.bl (decide (j.cps.toList < i.cps.toList))) H)) := op_gt.or op_gt_str
end
end AB
namespace AB
open PySem L2
/-! ### is, ==, in -/
def isD : D → D → Option Bool
  | .non, .non => some true
  | .bl a, .bl b => some (decide (a = b))
  | .bl _, .non => some false | .int _, .non => some false | .str _, .non => some false | .tup _, .non => some false | .lst _, .non => some false | .lsk _, .non => some false | .obj _, .non => some false
  | _, _ => none
@[reducible] def fIs : F2 := fun x y θ k => ∃ b, isD x y = some b ∧ k (.bl b) θ
@[reducible] def fIsN : F2 := fun x y θ k => ∃ b, isD x y = some b ∧ k (.bl (!b)) θ
def rIsAll : R2 := fun x y H Q => (y = .non ∧ Q (.bl (decide (x = .non))) H) ∨ rIsB x y H Q
def rIsNAll : R2 := fun x y H Q => (y = .non ∧ Q (.bl (!decide (x = .non))) H) ∨ rNotB x y H Q
theorem rep_isnon {K : PySem.W.Frag} {H : Hp} {α : Nat → Addr} {N : Nat} {x : D} {v : V} {b : Bool} (r : Rep K H α N x v) (e : isD x .non = some b) : decide (v = .non) = b := by
  cases x with
  | non => unfold Rep at r; subst r; cases e; rfl
  | bl _ => unfold Rep at r; subst r; cases e; rfl
  | int _ => unfold Rep at r; subst r; cases e; rfl
  | str _ => unfold Rep at r; subst r; cases e; rfl
  | tup _ => unfold Rep at r; obtain ⟨a, vs, rfl, _⟩ := r; cases e; rfl
  | lst _ => unfold Rep at r; obtain ⟨a, vs, rfl, _⟩ := r; cases e; rfl
  | lsk _ => unfold Rep at r; obtain ⟨a, vs, rfl, _⟩ := r; cases e; rfl
  | obj _ => unfold Rep at r; obtain ⟨_, rfl⟩ := r; cases e; rfl
  | raw _ => cases e
theorem sim_is {K : PySem.W.Frag} : Sim2 K fIs rIsAll := by
  intro α θ H x y v u k Q S rx ry ⟨b, e, h⟩ lk
  have q : Q (.bl b) H := lk.at S (by unfold Rep; rfl) h
  cases y with
  | non =>
    unfold Rep at ry
    exact .inl ⟨ry, by rw [rep_isnon rx e]; exact q⟩
  | bl c =>
    cases x with
    | bl a =>
      unfold Rep at rx ry
      cases e
      exact .inr ⟨a, c, rx, ry, q⟩
    | _ => cases e
  | _ => cases x <;> cases e
theorem sim_isN {K : PySem.W.Frag} : Sim2 K fIsN rIsNAll := by
  intro α θ H x y v u k Q S rx ry ⟨b, e, h⟩ lk
  have q : Q (.bl (!b)) H := lk.at S (by unfold Rep; rfl) h
  cases y with
  | non =>
    unfold Rep at ry
    exact .inl ⟨ry, by rw [rep_isnon rx e]; exact q⟩
  | bl c =>
    cases x with
    | bl a =>
      unfold Rep at rx ry
      cases e
      exact .inr ⟨a, c, rx, ry, q⟩
    | _ => cases e
  | _ => cases x <;> cases e
theorem op_isAll {X : Cx} : OpR X (compareOp .Is) rIsAll := op_isN.or op_isBl
theorem op_isNAll {X : Cx} : OpR X (compareOp .IsNot) rIsNAll := op_notN.or op_notBl
/- data that == looks into -/
mutual
def D.py : D → Option PyData
  | .non => some .none
  | .bl b => some (.bool b)
  | .int i => some (.int i)
  | .str x => some (.str x)
  | .tup ds => (D.pys ds).map .tuple
  | .lst ds => (D.pys ds).map .list
  | .lsk ds => (D.pys ds).map .list
  | .obj _ => none
  | .raw _ => none
def D.pys : List D → Option (List PyData)
  | [] => some []
  | d :: ds => (D.py d).bind fun p => (D.pys ds).map fun ps => p :: ps
end
section
variable {K : PySem.W.Frag} {H : Hp} {α : Nat → Addr} {N : Nat}
mutual
theorem D.py_dp : ∀ (d : D) (v : V) (p : PyData), Rep K H α N d v → D.py d = some p → Dp K H v p
  | .non, v, p, r, e => by unfold Rep at r; unfold D.py at e; cases e; subst r; exact .non
  | .bl b, v, p, r, e => by unfold Rep at r; unfold D.py at e; cases e; subst r; exact .bl b
  | .int b, v, p, r, e => by unfold Rep at r; unfold D.py at e; cases e; subst r; exact .int b
  | .str b, v, p, r, e => by unfold Rep at r; unfold D.py at e; cases e; subst r; exact .str b
  | .tup ds, v, p, r, e => by
    unfold Rep at r; unfold D.py at e
    obtain ⟨a, vs, rfl, h1, h2⟩ := r
    obtain ⟨ps, e1, e2⟩ := Option.map_eq_some_iff.mp e
    subst e2
    exact .tup (SqT.of h1) (D.pys_dp ds vs ps h2 e1)
  | .lst ds, v, p, r, e => by
    unfold Rep at r; unfold D.py at e
    obtain ⟨a, vs, rfl, h1, h2⟩ := r
    obtain ⟨ps, e1, e2⟩ := Option.map_eq_some_iff.mp e
    subst e2
    exact .lst (.inl h1.rd) (D.pys_dp ds vs ps h2 e1)
  | .lsk ds, v, p, r, e => by
    unfold Rep at r; unfold D.py at e
    obtain ⟨a, vs, rfl, h1, h2⟩ := r
    obtain ⟨ps, e1, e2⟩ := Option.map_eq_some_iff.mp e
    subst e2
    exact .lst h1.sq (D.pys_dp ds vs ps h2 e1)
  | .obj _, _, _, _, e => by unfold D.py at e; cases e
  | .raw _, _, _, _, e => by unfold D.py at e; cases e
theorem D.pys_dp : ∀ (ds : List D) (vs : List V) (ps : List PyData), Reps K H α N ds vs → D.pys ds = some ps → DpAll K H vs ps
  | [], vs, ps, r, e => by unfold Reps at r; unfold D.pys at e; cases e; subst r; exact .nil
  | d :: ds, vs, ps, r, e => by
    unfold Reps at r; unfold D.pys at e
    obtain ⟨v, ws, rfl, h1, h2⟩ := r
    obtain ⟨p, e1, e2⟩ := Option.bind_eq_some_iff.mp e
    obtain ⟨qs, e3, e4⟩ := Option.map_eq_some_iff.mp e2
    subst e4
    exact .cons (D.py_dp d v p h1 e1) (D.pys_dp ds ws qs h2 e3)
end
end
def pyD (θ : Th) : D → Option PyData
  | .obj n => match θ[n]? with
    | some (.lst ds) => (D.pys ds).map .list
    | _ => none
  | d => D.py d
theorem pyD_dp {K : PySem.W.Frag} {H : Hp} {α : Nat → Addr} {θ : Th} (S : Sta K H α θ) {d : D} {v : V} {p : PyData} (r : Rep K H α θ.length d v) (e : pyD θ d = some p) : Dp K H v p := by
  cases d with
  | obj n =>
    unfold Rep at r
    have e' : (match θ[n]? with | some (.lst ds) => (D.pys ds).map .list | _ => none) = some p := e
    split at e'
    · rename_i es he
      obtain ⟨ps, e1, e2⟩ := Option.map_eq_some_iff.mp e'
      subst e2
      obtain ⟨vs, h1, h2⟩ := S.ent n _ he
      rw [r.2]
      exact .lst (SqL.of h1) (D.pys_dp es vs ps h2 e1)
    · cases e'
  | _ => exact D.py_dp _ _ _ r e
def eqF : D → D → Option Bool
  | .int i, .int j => some (decide (i = j))
  | .str i, .str j => some (decide (i = j))
  | .bl i, .bl j => some (decide (i = j))
  | .non, .non => some true
  | .non, .int _ => some false | .int _, .non => some false | .non, .str _ => some false | .str _, .non => some false | .non, .bl _ => some false | .bl _, .non => some false
  | .int _, .str _ => some false | .str _, .int _ => some false | .bl _, .str _ => some false | .str _, .bl _ => some false
  | _, _ => none
def eqAns (θ : Th) (x y : D) (b : Bool) : Prop := eqF x y = some b ∨ ∃ p q, pyD θ x = some p ∧ pyD θ y = some q ∧ SeqAt.shaped p = true ∧ SeqAt.shaped q = true ∧ PyData.eqv p q = b
def fEq : F2 := fun x y θ k => ∃ b, eqAns θ x y b ∧ k (.bl b) θ
def fNe : F2 := fun x y θ k => ∃ b, eqAns θ x y b ∧ k (.bl (!b)) θ
theorem eqF_scal {K : PySem.W.Frag} {H : Hp} {α : Nat → Addr} {N : Nat} {x y : D} {v u : V} {b : Bool} (rx : Rep K H α N x v) (ry : Rep K H α N y u) (e : eqF x y = some b) : scal v u = true ∧ decide (v = u) = b := by
  unfold eqF at e
  split at e <;> (try cases e) <;> (unfold Rep at rx ry; subst rx ry; refine ⟨rfl, ?_⟩)
  · by_cases h : ‹Int› = ‹Int› <;> simp
  · simp
  · simp
  all_goals first | rfl | simp
theorem sim_eq {K : PySem.W.Frag} : Sim2 K fEq (fun x y H Q => rEq x y H Q ∨ rEqD K x y H Q) := by
  intro α θ H x y v u k Q S rx ry ⟨b, e, h⟩ lk
  have q : Q (.bl b) H := lk.at S (by unfold Rep; rfl) h
  rcases e with e | ⟨p, p', e1, e2, e3, e4, e5⟩
  · obtain ⟨h1, h2⟩ := eqF_scal rx ry e
    exact .inl ⟨h1, by rw [h2]; exact q⟩
  · exact .inr ⟨p, p', pyD_dp S rx e1, pyD_dp S ry e2, e3, e4, by rw [e5]; exact q⟩
theorem sim_ne {K : PySem.W.Frag} : Sim2 K fNe (fun x y H Q => rNe x y H Q ∨ rNeD K x y H Q) := by
  intro α θ H x y v u k Q S rx ry ⟨b, e, h⟩ lk
  have q : Q (.bl (!b)) H := lk.at S (by unfold Rep; rfl) h
  rcases e with e | ⟨p, p', e1, e2, e3, e4, e5⟩
  · obtain ⟨h1, h2⟩ := eqF_scal rx ry e
    exact .inl ⟨h1, by rw [h2]; exact q⟩
  · exact .inr ⟨p, p', pyD_dp S rx e1, pyD_dp S ry e2, e3, e4, by rw [e5]; exact q⟩
theorem op_eqA {X : Cx} (hu : X.A.units + 64 < cLine) : OpR X (compareOp .Eq) (fun x y H Q => rEq x y H Q ∨ rEqD X.K x y H Q) := op_eq.or (op_eqD hu)
theorem op_neA {X : Cx} (hu : X.A.units + 64 < cLine) : OpR X (compareOp .NotEq) (fun x y H Q => rNe x y H Q ∨ rNeD X.K x y H Q) := op_ne.or (op_neD hu)
/-! ### dicts, over any values -/
section
variable {κ β : Type} [DecidableEq κ]
def valG (kvs : List (κ × β)) (k : κ) : Option β := (kvs.find? fun kv => decide (kv.1 = k)).map (·.2)
def putG (kvs : List (κ × β)) (k : κ) (v : β) : List (κ × β) :=
  if (kvs.any fun kv => decide (kv.1 = k)) = true then kvs.map (fun kv => if kv.1 = k then (kv.1, v) else kv) else kvs ++ [(k, v)]
def dropG (kvs : List (κ × β)) (k : κ) : List (κ × β) := kvs.filter fun kv => decide (kv.1 ≠ k)
end
section
variable {K : PySem.W.Frag} {H : Hp} {α : Nat → Addr} {N : Nat} {κ : Type} [DecidableEq κ]
theorem KRep.nil : KRep K H α N ([] : List (κ × D)) [] := ⟨rfl, Reps.nil⟩
theorem KRep.cons {k : κ} {d : D} {v : V} {kvs : List (κ × D)} {ws : List (κ × V)} (r : Rep K H α N d v) (h : KRep K H α N kvs ws) : KRep K H α N ((k, d) :: kvs) ((k, v) :: ws) :=
  ⟨by rw [List.map_cons, List.map_cons, h.1], Reps.cons r h.2⟩
theorem KRep.cases {p : κ × D} {kvs : List (κ × D)} {ws : List (κ × V)} (h : KRep K H α N (p :: kvs) ws) : ∃ v us, ws = (p.1, v) :: us ∧ Rep K H α N p.2 v ∧ KRep K H α N kvs us := by
  obtain ⟨h1, h2⟩ := h
  cases ws with
  | nil => simp at h1
  | cons w us =>
    obtain ⟨k, v⟩ := w
    simp only [List.map_cons, List.cons.injEq] at h1
    obtain ⟨v', us', e, r1, r2⟩ := Reps.uncons h2
    simp only [List.map_cons, List.cons.injEq] at e
    obtain ⟨e1, e2⟩ := e
    subst e1 e2
    exact ⟨v, us, by rw [h1.1], r1, h1.2, r2⟩
theorem KRep.length {kvs : List (κ × D)} {ws : List (κ × V)} (h : KRep K H α N kvs ws) : kvs.length = ws.length := by
  have := congrArg List.length h.1
  simpa using this
theorem KRep.val : ∀ {kvs : List (κ × D)} {ws : List (κ × V)} (k : κ), KRep K H α N kvs ws → (valG kvs k = none ∧ valV ws k = none) ∨ ∃ d v, valG kvs k = some d ∧ valV ws k = some v ∧ Rep K H α N d v
  | [], ws, k, h => by
    have : ws = [] := List.eq_nil_of_length_eq_zero (by rw [← h.length]; rfl)
    subst this
    exact .inl ⟨rfl, rfl⟩
  | p :: kvs, ws, k, h => by
    obtain ⟨v, us, rfl, r, h'⟩ := h.cases
    by_cases e : p.1 = k
    · exact .inr ⟨p.2, v, by simp [valG, e], by simp [valV, e], r⟩
    · rcases KRep.val k h' with ⟨a, b⟩ | ⟨d, v', a, b, c⟩
      · exact .inl ⟨by unfold valG at a ⊢; simpa [e] using a, by unfold valV at b ⊢; simpa [e] using b⟩
      · exact .inr ⟨d, v', by unfold valG at a ⊢; simpa [e] using a, by unfold valV at b ⊢; simpa [e] using b, c⟩
theorem KRep.any {kvs : List (κ × D)} {ws : List (κ × V)} (k : κ) (h : KRep K H α N kvs ws) : (kvs.any fun kv => decide (kv.1 = k)) = ws.any fun kv => decide (kv.1 = k) := by
  have e : ∀ {β : Type} (l : List (κ × β)), (l.any fun kv => decide (kv.1 = k)) = (l.map (·.1)).any fun x => decide (x = k) := fun l => by rw [List.any_map]; rfl
  rw [e, e, h.1]
theorem KRep.append {kvs kvs' : List (κ × D)} {ws ws' : List (κ × V)} (h : KRep K H α N kvs ws) (h' : KRep K H α N kvs' ws') : KRep K H α N (kvs ++ kvs') (ws ++ ws') :=
  ⟨by rw [List.map_append, List.map_append, h.1, h'.1], by rw [List.map_append, List.map_append]; exact h.2.append h'.2⟩
theorem KRep.upd (k : κ) {d : D} {v : V} (r : Rep K H α N d v) : ∀ {kvs : List (κ × D)} {ws : List (κ × V)}, KRep K H α N kvs ws →
    KRep K H α N (kvs.map fun kv => if kv.1 = k then (kv.1, d) else kv) (ws.map fun kv => if kv.1 = k then (kv.1, v) else kv)
  | [], ws, h => by
    have : ws = [] := List.eq_nil_of_length_eq_zero (by rw [← h.length]; rfl)
    subst this
    exact KRep.nil
  | p :: kvs, ws, h => by
    obtain ⟨u, us, rfl, r', h'⟩ := h.cases
    rw [List.map_cons, List.map_cons]
    by_cases e : p.1 = k
    · rw [if_pos e, if_pos e]
      exact (KRep.upd k r h').cons r
    · rw [if_neg e, if_neg e]
      exact (KRep.upd k r h').cons r'
theorem KRep.put {kvs : List (κ × D)} {ws : List (κ × V)} (k : κ) {d : D} {v : V} (h : KRep K H α N kvs ws) (r : Rep K H α N d v) : KRep K H α N (putG kvs k d) (putK ws k v) := by
  unfold putG putK
  rw [h.any k]
  split
  · exact h.upd k r
  · exact h.append (KRep.nil.cons r)
theorem KRep.drop (k : κ) : ∀ {kvs : List (κ × D)} {ws : List (κ × V)}, KRep K H α N kvs ws → KRep K H α N (dropG kvs k) (dropK ws k)
  | [], ws, h => by
    have : ws = [] := List.eq_nil_of_length_eq_zero (by rw [← h.length]; rfl)
    subst this
    exact KRep.nil
  | p :: kvs, ws, h => by
    obtain ⟨u, us, rfl, r', h'⟩ := h.cases
    have ih := KRep.drop k h'
    unfold dropG dropK at ih ⊢
    rw [List.filter_cons, List.filter_cons]
    by_cases e : p.1 = k
    · rw [if_neg (by simp [e]), if_neg (by simp [e])]
      exact ih
    · rw [if_pos (by simp [e]), if_pos (by simp [e])]
      exact ih.cons r'
end
theorem length_putG {κ β : Type} [DecidableEq κ] (kvs : List (κ × β)) (k : κ) (v : β) : (putG kvs k v).length ≤ kvs.length + 1 := by
  unfold putG
  split
  · rw [List.length_map]; omega
  · rw [List.length_append]; exact Nat.le_refl _
/-- a key's datum -/
def keyD : D → Option Key
  | .int i => some (.inl i)
  | .str x => some (.inr x)
  | _ => none
def keysD : List D → Option (List Key)
  | [] => some []
  | d :: ds => (keyD d).bind fun k => (keysD ds).map fun ks => k :: ks
theorem keyD_v {K : PySem.W.Frag} {H : Hp} {α : Nat → Addr} {N : Nat} {d : D} {v : V} {k : Key} (r : Rep K H α N d v) (e : keyD d = some k) : v = kV k := by
  cases d <;> (try cases e) <;> (unfold Rep at r; exact r)
theorem keysD_v {K : PySem.W.Frag} {H : Hp} {α : Nat → Addr} {N : Nat} : ∀ {ds : List D} {vs : List V} {ks : List Key}, Reps K H α N ds vs → keysD ds = some ks → vs = ks.map kV
  | [], vs, ks, r, e => by unfold keysD at e; cases e; unfold Reps at r; exact r
  | d :: ds, vs, ks, r, e => by
    unfold keysD at e
    obtain ⟨k, e1, e2⟩ := Option.bind_eq_some_iff.mp e
    obtain ⟨ks', e3, e4⟩ := Option.map_eq_some_iff.mp e2
    subst e4
    obtain ⟨v, ws, rfl, h1, h2⟩ := Reps.uncons r
    rw [keyD_v h1 e1, keysD_v h2 e3]
    rfl
/-- what a look-up in the dict gives -/
def dGetE (e : Ent) (y : D) : Option (Option D) := match e with
  | .dK kvs => (keyD y).map (valG kvs)
  | .lk kvs => (keyD y).map (valG kvs)
  | .dT kvs => match y with
    | .tup ds => (keysD ds).map (valG kvs)
    | _ => none
  | _ => none
def dGet (θ : Th) (d y : D) : Option (Option D) := match d with
  | .obj n => θ[n]?.bind fun e => dGetE e y
  | _ => none
theorem dGet_get {K : PySem.W.Frag} {H : Hp} {α : Nat → Addr} {θ : Th} (S : Sta K H α θ) {d y : D} {v u : V} {r : Option D} (rd : Rep K H α θ.length d v) (ry : Rep K H α θ.length y u) (e : dGet θ d y = some r) :
    ∃ a o, v = .ref a ∧ DGet H a u o ∧ IsD H a ∧ ((r = none ∧ o = none) ∨ ∃ x w, r = some x ∧ o = some w ∧ Rep K H α θ.length x w) := by
  cases d with
  | obj n =>
    unfold Rep at rd
    obtain ⟨en, he, e'⟩ := Option.bind_eq_some_iff.mp (show θ[n]?.bind (fun e => dGetE e y) = some r from e)
    have ha := S.ent n _ he
    cases en with
    | dK kvs =>
      obtain ⟨k, e1, e2⟩ := Option.map_eq_some_iff.mp (show (keyD y).map (valG kvs) = some r from e')
      obtain ⟨ws, h1, h2⟩ := ha
      refine ⟨α n, valV ws k, rd.2, .inl ⟨ws, k, .inl h1, keyD_v ry e1, rfl⟩, .inl ⟨ws, .inl h1⟩, ?_⟩
      rw [← e2]
      rcases h2.val k with ⟨a, b⟩ | ⟨x, w, a, b, c⟩
      · exact .inl ⟨a, b⟩
      · exact .inr ⟨x, w, a, b, c⟩
    | lk kvs =>
      obtain ⟨k, e1, e2⟩ := Option.map_eq_some_iff.mp (show (keyD y).map (valG kvs) = some r from e')
      obtain ⟨o, ws, h1, h2⟩ := ha
      refine ⟨α n, valV ws k, rd.2, .inl ⟨ws, k, .inr ⟨o, h1⟩, keyD_v ry e1, rfl⟩, .inl ⟨ws, .inr ⟨o, h1⟩⟩, ?_⟩
      rw [← e2]
      rcases h2.val k with ⟨a, b⟩ | ⟨x, w, a, b, c⟩
      · exact .inl ⟨a, b⟩
      · exact .inr ⟨x, w, a, b, c⟩
    | dT kvs =>
      cases y with
      | tup ds =>
        obtain ⟨k, e1, e2⟩ := Option.map_eq_some_iff.mp (show (keysD ds).map (valG kvs) = some r from e')
        obtain ⟨ws, h1, h2⟩ := ha
        unfold Rep at ry
        obtain ⟨b, vs, rfl, hb, rb⟩ := ry
        rw [keysD_v rb e1] at hb
        refine ⟨α n, valV ws k, rd.2, .inr ⟨ws, k, b, .inl h1, rfl, hb, rfl⟩, .inr ⟨ws, .inl h1⟩, ?_⟩
        rw [← e2]
        rcases h2.val k with ⟨a, b⟩ | ⟨x, w, a, b, c⟩
        · exact .inl ⟨a, b⟩
        · exact .inr ⟨x, w, a, b, c⟩
      | _ => cases e'
    | _ => cases e'
  | _ => cases e
end AB
namespace AB
open PySem PySem.Spec PyProof.Rows L2
/-! ### in -/
def flatD : D → Bool
  | .non => true | .bl _ => true | .int _ => true | .str _ => true | _ => false
def eqD : D → D → Bool
  | .non, .non => true
  | .bl a, .bl b => a == b
  | .bl a, .int b => (if a then 1 else 0) == b
  | .int a, .bl b => a == (if b then 1 else 0)
  | .int a, .int b => a == b
  | .str a, .str b => a == b
  | _, _ => false
def inD (x : D) (xs : List D) : Bool := xs.any fun y => eqD y x
def asS (θ : Th) : D → Option (List D)
  | .tup ds => some ds
  | d => asL θ d
section
variable {K : PySem.W.Frag} {H : Hp} {α : Nat → Addr} {N : Nat} {θ : Th}
theorem flat_v {d : D} {v : V} (r : Rep K H α N d v) (f : flatD d = true) : flatV v = true := by
  cases d <;> first | (cases f; done) | (unfold Rep at r; subst r; rfl)
theorem flat_vs : ∀ {ds : List D} {vs : List V}, Reps K H α N ds vs → ds.all flatD = true → vs.all flatV = true
  | [], vs, r, _ => by unfold Reps at r; subst r; rfl
  | d :: ds, vs, r, f => by
    obtain ⟨v, ws, rfl, h1, h2⟩ := r.uncons
    rw [List.all_cons, Bool.and_eq_true] at f
    rw [List.all_cons, flat_v h1 f.1, flat_vs h2 f.2]; rfl
theorem eqD_v {x y : D} {v u : V} (rx : Rep K H α N x v) (ry : Rep K H α N y u) (fx : flatD x = true) (fy : flatD y = true) : eqV v u = eqD x y := by
  cases x <;> first | (cases fx; done) | (cases y <;> first | (cases fy; done) | (unfold Rep at rx ry; subst rx ry; rfl))
theorem inD_v {x : D} {v : V} (rx : Rep K H α N x v) (fx : flatD x = true) : ∀ {ds : List D} {vs : List V}, Reps K H α N ds vs → ds.all flatD = true → inV v vs = inD x ds
  | [], vs, r, _ => by unfold Reps at r; subst r; rfl
  | d :: ds, vs, r, f => by
    obtain ⟨u, ws, rfl, h1, h2⟩ := r.uncons
    rw [List.all_cons, Bool.and_eq_true] at f
    show (eqV u v || inV v ws) = (eqD d x || inD x ds)
    rw [eqD_v h1 rx f.1 fx, inD_v rx fx h2 f.2]
theorem asS_sq (S : Sta K H α θ) {d : D} {v : V} {ds : List D} (r : Rep K H α θ.length d v) (e : asS θ d = some ds) : ∃ a vs, v = .ref a ∧ (SqL K H a vs ∨ SqT K H a vs) ∧ Reps K H α θ.length ds vs := by
  cases d with
  | tup es =>
    have : es = ds := Option.some.inj e
    subst this
    unfold Rep at r
    obtain ⟨a, vs, h1, h2, h3⟩ := r
    exact ⟨a, vs, h1, .inr (SqT.of h2), h3⟩
  | _ =>
    obtain ⟨a, vs, h1, h2, h3⟩ := asL_sq S r e
    exact ⟨a, vs, h1, .inl h2, h3⟩
end
/-- the answer of x in y -/
def inAns (θ : Th) (x y : D) (b : Bool) : Prop :=
  (∃ n z, x = .str ⟨#[n]⟩ ∧ y = .str z ∧ b = decide (n ∈ z.cps.toList)) ∨ (∃ ys, asS θ y = some ys ∧ flatD x = true ∧ ys.all flatD = true ∧ b = inD x ys) ∨ ∃ r, dGet θ y x = some r ∧ b = r.isSome
def fIn : F2 := fun x y θ k => ∃ b, inAns θ x y b ∧ k (.bl b) θ
def fNotIn : F2 := fun x y θ k => ∃ b, inAns θ x y b ∧ k (.bl (!b)) θ
def rDIn (neg : Bool) : R2 := fun x y H Q => ∃ a o, y = .ref a ∧ DGet H a x o ∧ Q (.bl (if neg then !o.isSome else o.isSome)) H
def rInAll (K : PySem.W.Frag) : R2 := fun x y H Q => (∃ (c : Nat) (z : Str), x = .str ⟨#[c]⟩ ∧ y = .str z ∧ Q (.bl (decide (c ∈ z.cps.toList))) H) ∨ rIn K false x y H Q ∨ rDIn false x y H Q
def rNotInAll (K : PySem.W.Frag) : R2 := fun x y H Q => (∃ (c : Nat) (z : Str), x = .str ⟨#[c]⟩ ∧ y = .str z ∧ Q (.bl (!decide (c ∈ z.cps.toList))) H) ∨ rIn K true x y H Q ∨ rDIn true x y H Q
section
variable {X : Cx}
theorem op_dIn (hu : X.A.units + 1 < cLine) : OpR X (compareOp .In) (rDIn false) := by
  intro pins s σ H x y v u Q I rx ry h
  obtain ⟨a, o, rfl, g, q⟩ := h
  cases ry
  exact d_in hu I g rx fun s' I' => ⟨.bl o.isSome, H, I', rfl, q⟩
theorem op_dNotIn (hu : X.A.units + 1 < cLine) : OpR X (compareOp .NotIn) (rDIn true) := by
  intro pins s σ H x y v u Q I rx ry h
  obtain ⟨a, o, rfl, g, q⟩ := h
  cases ry
  exact d_notIn hu I g rx fun s' I' => ⟨.bl (!o.isSome), H, I', rfl, q⟩
theorem op_inAll (hu : X.A.units + 1 < cLine) : OpR X (compareOp .In) (rInAll X.K) := op_in_sign.or (op_in_seq.or (op_dIn hu))
theorem op_notInAll (hu : X.A.units + 1 < cLine) : OpR X (compareOp .NotIn) (rNotInAll X.K) := op_notIn_sign.or (op_notIn_seq.or (op_dNotIn hu))
end
theorem sim_in {K : PySem.W.Frag} : Sim2 K fIn (rInAll K) := by
  intro α θ H x y v u k Q S rx ry ⟨b, e, h⟩ lk
  have q : Q (.bl b) H := lk.at S (by unfold Rep; rfl) h
  rcases e with ⟨n, z, rfl, rfl, rfl⟩ | ⟨ys, e1, e2, e3, rfl⟩ | ⟨r, e1, rfl⟩
  · unfold Rep at rx ry
    exact .inl ⟨n, z, rx, ry, q⟩
  · obtain ⟨a, vs, rfl, h1, h2⟩ := asS_sq S ry e1
    exact .inr (.inl ⟨a, vs, rfl, h1, flat_v rx e2, flat_vs h2 e3, by rw [inD_v rx e2 h2 e3]; exact q⟩)
  · obtain ⟨a, o, rfl, g, _, c⟩ := dGet_get S ry rx e1
    refine .inr (.inr ⟨a, o, rfl, g, ?_⟩)
    rcases c with ⟨rfl, rfl⟩ | ⟨_, _, rfl, rfl, _⟩ <;> exact q
theorem sim_notIn {K : PySem.W.Frag} : Sim2 K fNotIn (rNotInAll K) := by
  intro α θ H x y v u k Q S rx ry ⟨b, e, h⟩ lk
  have q : Q (.bl (!b)) H := lk.at S (by unfold Rep; rfl) h
  rcases e with ⟨n, z, rfl, rfl, rfl⟩ | ⟨ys, e1, e2, e3, rfl⟩ | ⟨r, e1, rfl⟩
  · unfold Rep at rx ry
    exact .inl ⟨n, z, rx, ry, q⟩
  · obtain ⟨a, vs, rfl, h1, h2⟩ := asS_sq S ry e1
    refine .inr (.inl ⟨a, vs, rfl, h1, flat_v rx e2, flat_vs h2 e3, ?_⟩)
    rw [inD_v rx e2 h2 e3]; exact q
  · obtain ⟨a, o, rfl, g, _, c⟩ := dGet_get S ry rx e1
    refine .inr (.inr ⟨a, o, rfl, g, ?_⟩)
    rcases c with ⟨rfl, rfl⟩ | ⟨_, _, rfl, rfl, _⟩ <;> exact q
/-! ### items -/
def fIx : F2 := fun x y θ k => (∃ xs i d, asS θ x = some xs ∧ y = .int i ∧ atI xs i = some d ∧ k d θ) ∨
  (∃ z i c, x = .str z ∧ y = .int i ∧ z.length ≤ 100000 ∧ atI z.cps.toList i = some c ∧ k (.str ⟨#[c]⟩) θ) ∨ ∃ d, dGet θ x y = some (some d) ∧ k d θ
def rIxDict : R2 := fun x y H Q => ∃ a v, x = .ref a ∧ DGet H a y (some v) ∧ Q v H
theorem ix_dict {X : Cx} (hu : X.A.units + 1 < cLine) : IxR X rIxDict := by
  intro value slice pins s σ H x y v u Q I rx ry h hs
  obtain ⟨a, z, rfl, g, q⟩ := h
  cases rx
  exact tail_any (dict_typeIs I g) slot_dict_getitem.lookup (d_getItem hu I g ry fun w' s' I' r' => ⟨z, H, I', r', q⟩) hs
def rIxAll (K : PySem.W.Frag) : R2 := fun x y H Q => rIx K x y H Q ∨ rIxDict x y H Q
theorem ix_all {X : Cx} (hu : X.A.units + 1 < cLine) : IxR X (rIxAll X.K) := ix_seq.or (ix_dict hu)
theorem ixN_lt {n : Nat} {i : Int} {j : Nat} (h : ixN n i = some j) : j < n := (ixN_seq h).2.1
theorem atI_rep {K : PySem.W.Frag} {H : Hp} {α : Nat → Addr} {N : Nat} {ds : List D} {vs : List V} {i : Int} {d : D} (r : Reps K H α N ds vs) (e : atI ds i = some d) : ∃ v, atI vs i = some v ∧ Rep K H α N d v := by
  unfold atI at e ⊢
  obtain ⟨j, h1, h2⟩ := Option.bind_eq_some_iff.mp e
  obtain ⟨v, h3, h4⟩ := r.get h2
  exact ⟨v, by rw [← r.length, h1]; exact h3, h4⟩
theorem sim_ix {K : PySem.W.Frag} : Sim2 K fIx (rIxAll K) := by
  intro α θ H x y v u k Q S rx ry h lk
  rcases h with ⟨xs, i, d, e1, rfl, e2, h⟩ | ⟨z, i, c, rfl, rfl, e1, e2, h⟩ | ⟨d, e1, h⟩
  · obtain ⟨a, vs, rfl, h1, h2⟩ := asS_sq S rx e1
    obtain ⟨w, h3, h4⟩ := atI_rep h2 e2
    unfold Rep at ry
    rcases h1 with h1 | h1
    · exact .inl (.inl ⟨a, vs, i, w, rfl, ry, h1, h3, lk.at S h4 h⟩)
    · exact .inl (.inr (.inl ⟨a, vs, i, w, rfl, ry, h1, h3, lk.at S h4 h⟩))
  · unfold Rep at rx ry
    exact .inl (.inr (.inr ⟨z, i, c, rx, ry, sz5 e1, e2, lk.at S (by unfold Rep; rfl) h⟩))
  · obtain ⟨a, o, rfl, g, _, c⟩ := dGet_get S rx ry e1
    rcases c with ⟨q, _⟩ | ⟨x', w, q, rfl, r⟩
    · cases q
    · cases q
      exact .inr ⟨a, w, rfl, g, lk.at S r h⟩
/-! ### slices -/
def cutD (xs : List D) (lo hi : Option Int) : List D := (xs.drop (HT.sIx xs.length 0 lo)).take (HT.sIx xs.length xs.length hi - HT.sIx xs.length 0 lo)
abbrev AOR := G → Th → (Option Int → Th → Prop) → AX → Prop
def LO (K : PySem.W.Frag) (W : WX) (a : AOR) : TO := fun σ H Q => ∃ (α : Nat → Addr) (θ : Th) (Γ : G) (k : Option Int → Th → Prop) (kx : AX), Sta K H α θ ∧ Slots K H α θ.length σ Γ ∧ a Γ θ k kx ∧
  (∀ (o : Option Int) (θ' : Th) (α' : Nat → Addr) (H' : Hp), Nx α θ.length H α' θ'.length H' → Sta K H' α' θ' → k o θ' → Q o H') ∧ LkX K α θ.length H kx (WE W σ)
section
variable {X : Cx} {W : WX} {a b c e : Expr} {ra rb rc : AR} {rl rh : AOR} {pos p2 : Pos} {lo hi : Option Expr}
theorem po_imp {t t' : TO} {oe : Option Expr} (h : PO X oe t) (i : ∀ σ H Q, t' σ H Q → t σ H Q) : PO X oe t' := by
  first
    | exact ⟨fun pins s σ H Q I q => h.run pins s σ H Q I (i _ _ _ q)⟩
    | exact fun pins s σ H Q I q => h pins s σ H Q I (i _ _ _ q)
@[reducible] def oNone : AOR := fun _ θ k _ => k none θ
@[reducible] def oSome (ra : AR) : AOR := fun Γ θ k kx => ra Γ θ (fun x θ1 => ∃ i, x = .int i ∧ k (some i) θ1) kx
theorem xo_none : PO X none (LO X.K W oNone) := po_imp po_none (by
  rintro σ H Q ⟨α, θ, Γ, k, kx, S, G, q, lk, lx⟩
  exact lk none θ α H (Nx.refl _ _ _) S q)
theorem xo_some (ha : XE' X W a ra) : PO X (some a) (LO X.K W (oSome ra)) := po_imp (po_some ha) (by
  rintro σ H Q ⟨α, θ, Γ, k, kx, S, G, q, lk, lx⟩
  refine ⟨α, θ, Γ, _, kx, S, G, q, fun x θ1 α1 H1 v n1 S1 r1 ⟨i, e, q1⟩ => ?_, lx⟩
  subst e
  unfold Rep at r1
  exact ⟨i, r1, lk (some i) θ1 α1 H1 n1 S1 q1⟩)
def fSl (x : D) (l h : Option Int) (θ : Th) (k : AK) : Prop := (∃ z, x = .str z ∧ z.length ≤ 100000 ∧ k (.str (cutS z l h)) θ) ∨ (∃ xs, asL θ x = some xs ∧ k (.lst (cutD xs l h)) θ) ∨
  (∃ xs, x = .tup xs ∧ ¬ (HT.sIx xs.length 0 l = 0 ∧ HT.sIx xs.length xs.length h = xs.length) ∧ k (.tup (cutD xs l h)) θ)
@[reducible] def aSl (re : AR) (rl rh : AOR) : AR := fun Γ θ k kx => re Γ θ (fun x θ1 => rl Γ θ1 (fun l θ2 => rh Γ θ2 (fun h θ3 => fSl x l h θ3 k) kx) kx) kx
theorem go_sl {Γ : G} {θ : Th} {k : AK} {kx : AX} (q : ra Γ θ (fun x θ1 => rl Γ θ1 (fun l θ2 => rh Γ θ2 (fun h θ3 => fSl x l h θ3 k) kx) kx) kx) : aSl ra rl rh Γ θ k kx := q
theorem cut_rep {K : PySem.W.Frag} {H : Hp} {α : Nat → Addr} {N : Nat} {ds : List D} {vs : List V} (r : Reps K H α N ds vs) (l h : Option Int) : Reps K H α N (cutD ds l h) (cutV vs l h) := by
  unfold cutD cutV
  rw [← r.length]
  exact (r.drop _).take _
theorem xe_sl (ha : XE' X W a ra) (hl : PO X lo (LO X.K W rl)) (hh : PO X hi (LO X.K W rh)) : XE' X W (.Subscript a (.Slice lo hi none p2) pos) (aSl ra rl rh) := by
  refine pe_imp (pe_frz (pe_slice (sl_str.or (sl_list.or sl_tup)) ha hl hh)) ?_
  rintro σ H Q ⟨α, θ, Γ, k, kx, S, G, q, lk, lx⟩
  refine ⟨α, θ, Γ, _, kx, S, G, q, fun x θ1 α1 H1 v n1 S1 r1 q1 => ?_, lx⟩
  refine ⟨α1, θ1, Γ, _, kx, S1, G.mono n1, q1, fun l θ2 α2 H2 n2 S2 q2 => ?_, lx.on n1⟩
  refine ⟨α2, θ2, Γ, _, kx, S2, G.mono (n1.trans n2), q2, fun h θ3 α3 H3 n3 S3 q3 => ?_, lx.on (n1.trans n2)⟩
  have r3 := Rep.mono (n2.trans n3) _ _ r1
  have lk3 := lk.on ((n1.trans n2).trans n3)
  rcases q3 with ⟨z, rfl, hz, q3⟩ | ⟨xs, e, q3⟩ | ⟨xs, rfl, hn, q3⟩
  · unfold Rep at r3
    exact .inl ⟨z, r3, sz5 hz, .inl (lk3.at S3 (by unfold Rep; rfl) q3)⟩
  · obtain ⟨a', vs, rfl, h1, h2⟩ := asL_sq S3 r3 e
    exact .inr (.inl ⟨a', vs, rfl, h1, fun p hp => frz_newQ S3 hp (cut_rep h2 _ _) q3 lk3⟩)
  · unfold Rep at r3
    obtain ⟨a', vs, rfl, h1, h2⟩ := r3
    refine .inr (.inr ⟨a', vs, rfl, SqT.of h1, ?_, fun p hp => .inl (tup_new S3 hp (cut_rep h2 _ _) q3 lk3)⟩)
    rw [← h2.length]
    exact hn
/-- xs[::-1] -/
@[reducible] def aRev (re : AR) : AR := fun Γ θ k kx => re Γ θ (fun x θ1 => ∃ xs, asL θ1 x = some xs ∧ k (.lst xs.reverse) θ1) kx
theorem xe_rev {k0 : Nat} {p1 p2 p3 : Pos} (ha : XE' X W a ra) : XE' X W (.Subscript a (.Slice none none (some (.UnaryOp .USub (.Constant (.int 1) k0 p1) p2)) p3) pos) (aRev ra) := by
  refine pe_imp (pe_frz (pe_revL ha)) ?_
  rintro σ H Q ⟨α, θ, Γ, k, kx, S, G, q, lk, lx⟩
  refine ⟨α, θ, Γ, _, kx, S, G, q, fun x θ1 α1 H1 v n1 S1 r1 ⟨xs, e, q1⟩ => ?_, lx⟩
  obtain ⟨a', vs, rfl, h1, h2⟩ := asL_sq S1 r1 e
  exact ⟨a', vs, rfl, h1, fun p hp => frz_newQ S1 hp h2.reverse q1 (lk.on n1)⟩
/-- -a -/
@[reducible] def fNeg (x : D) (θ : Th) (k : AK) : Prop := ∃ i, x = .int i ∧ k (.int (-i)) θ
@[reducible] def aUn (f : D → Th → AK → Prop) (re : AR) : AR := fun Γ θ k kx => re Γ θ (fun x θ1 => f x θ1 k) kx
theorem xe_neg (ha : XE' X W a ra) : XE' X W (.UnaryOp .USub a pos) (aUn fNeg ra) := by
  refine pe_imp (pe_un un_neg ha) ?_
  rintro σ H Q ⟨α, θ, Γ, k, kx, S, G, q, lk, lx⟩
  refine ⟨α, θ, Γ, _, kx, S, G, q, fun x θ1 α1 H1 v n1 S1 r1 ⟨i, e, q1⟩ => ?_, lx⟩
  subst e
  unfold Rep at r1
  exact ⟨i, r1, (lk.on n1).at S1 (by unfold Rep; rfl) q1⟩
/-! ### arguments, tuples, lists -/
@[reducible] def aNil : AAR := fun _ θ k _ => k [] θ
@[reducible] def aCons (ra : AR) (rs : AAR) : AAR := fun Γ θ k kx => ra Γ θ (fun x θ1 => rs Γ θ1 (fun xs θ2 => k (x :: xs) θ2) kx) kx
theorem xa_nil : XA X W [] aNil := pa_imp pa_nil (by
  rintro σ H Q ⟨α, θ, Γ, k, kx, S, G, q, lk, lx⟩
  exact lk [] θ α H [] (Nx.refl _ _ _) S Reps.nil q)
theorem args_imp {rs : AAR} {K : PySem.W.Frag} {σ : L2.St} {H : Hp} {Q : List V → Hp → Prop} (h : LA K W (aCons ra rs) σ H Q) : tCons (LE K W ra) (LA K W rs) σ H Q := by
  obtain ⟨α, θ, Γ, k, kx, S, G, q, lk, lx⟩ := h
  refine ⟨α, θ, Γ, _, kx, S, G, q, fun x θ1 α1 H1 v n1 S1 r1 q1 => ?_, lx⟩
  refine ⟨α1, θ1, Γ, _, kx, S1, G.mono n1, q1, fun xs θ2 α2 H2 vs n2 S2 r2 q2 => ?_, lx.on n1⟩
  exact lk (x :: xs) θ2 α2 H2 (v :: vs) (n1.trans n2) S2 (Reps.cons (Rep.mono n2 _ _ r1) r2) q2
theorem xa_cons {es : List Expr} {rs : AAR} (ha : XE' X W e ra) (hr : XA X W es rs) (hs : starEach (e :: es) X.env = (false, eval e X.env) :: starEach es X.env := by rfl) : XA X W (e :: es) (aCons ra rs) :=
  pa_imp (pa_cons ha hr hs) fun _ _ _ h => args_imp h
theorem go_nil {Γ : G} {θ : Th} {k : List D → Th → Prop} {kx : AX} (q : k [] θ) : aNil Γ θ k kx := q
theorem go_cons {rs : AAR} {Γ : G} {θ : Th} {k : List D → Th → Prop} {kx : AX} (q : ra Γ θ (fun x θ1 => rs Γ θ1 (fun xs θ2 => k (x :: xs) θ2) kx) kx) : aCons ra rs Γ θ k kx := q
@[reducible] def aTup (rs : AAR) : AR := fun Γ θ k kx => rs Γ θ (fun xs θ1 => xs.length ≤ 100000 ∧ k (.tup xs) θ1) kx
theorem xe_tup {es : List Expr} {rs : AAR} {x1} (h : XA X W es rs) : XE' X W (.Tuple es x1 pos) (aTup rs) := by
  refine pe_imp (pe_tup h) ?_
  rintro σ H Q ⟨α, θ, Γ, k, kx, S, G, q, lk, lx⟩
  refine ⟨α, θ, Γ, _, kx, S, G, q, fun xs θ1 α1 H1 vs n1 S1 r1 ⟨hl, q1⟩ => ?_, lx⟩
  exact ⟨by rw [← r1.length]; exact sz5 hl, fun p hp => tup_new S1 hp r1 q1 (lk.on n1)⟩
@[reducible] def aLst (rs : AAR) : AR := fun Γ θ k kx => rs Γ θ (fun xs θ1 => xs.length ≤ 100000 ∧ k (.lst xs) θ1) kx
theorem xe_lst {es : List Expr} {rs : AAR} (h : XA X W es rs) : XE' X W (.List es pos) (aLst rs) := by
  refine pe_imp (pe_frz (pe_lst h)) ?_
  rintro σ H Q ⟨α, θ, Γ, k, kx, S, G, q, lk, lx⟩
  refine ⟨α, θ, Γ, _, kx, S, G, q, fun xs θ1 α1 H1 vs n1 S1 r1 ⟨hl, q1⟩ => ?_, lx⟩
  exact ⟨by rw [← r1.length]; exact sz5 hl, fun p hp => frz_newQ S1 hp r1 q1 (lk.on n1)⟩
/-- a list that will change -/
@[reducible] def aLstM (rs : AAR) : AR := fun Γ θ k kx => rs Γ θ (fun xs θ1 => xs.length ≤ 100000 ∧ k (.obj θ1.length) (θ1 ++ [.lst xs])) kx
theorem xe_lstM {es : List Expr} {rs : AAR} (h : XA X W es rs) : XE' X W (.List es pos) (aLstM rs) := by
  refine pe_imp (pe_lst h) ?_
  rintro σ H Q ⟨α, θ, Γ, k, kx, S, G, q, lk, lx⟩
  refine ⟨α, θ, Γ, _, kx, S, G, q, fun xs θ1 α1 H1 vs n1 S1 r1 ⟨hl, q1⟩ => ?_, lx⟩
  refine ⟨by rw [← r1.length]; exact sz5 hl, fun p hp => ent_new S1 hp ?_ q1 (lk.on n1)⟩
  exact ⟨vs, upd_same, Reps.mono (Nx.put (same_new hp)) _ _ r1⟩
/-- {} -/
@[reducible] def aDicK : AR := fun _ θ k _ => k (.obj θ.length) (θ ++ [.dK []])
@[reducible] def aDicT : AR := fun _ θ k _ => k (.obj θ.length) (θ ++ [.dT []])
theorem xe_dicK : XE' X W (.Dict [] [] pos) aDicK := pe_imp pe_dnewK (by
  rintro σ H Q ⟨α, θ, Γ, k, kx, S, G, q, lk, lx⟩
  exact fun p hp => ent_new (e := .dK []) S hp ⟨[], upd_same, KRep.nil⟩ q lk)
theorem xe_dicT : XE' X W (.Dict [] [] pos) aDicT := pe_imp pe_dnewT (by
  rintro σ H Q ⟨α, θ, Γ, k, kx, S, G, q, lk, lx⟩
  exact fun p hp => ent_new (e := .dT []) S hp ⟨[], upd_same, KRep.nil⟩ q lk)
end
end AB
namespace AB
open PySem PySem.Spec PyProof.Rows L2
section
variable {X : Cx} {W : WX} {a b c e : Expr} {ra rb rc : AR} {ta tb tc : ATR} {pos p p2 : Pos} {rest : List Expr}
/-! ### truth, and, or, not -/
def truAns (θ : Th) : D → Bool → Prop
  | .non, b => b = false
  | .bl c, b => b = c
  | .int i, b => b = (i != 0)
  | .str y, b => y.length ≤ 100000 ∧ b = ((y.length : Int) != 0)
  | .tup xs, b => b = !xs.isEmpty
  | .obj n, b => (∃ xs, θ[n]? = some (.lst xs) ∧ b = !xs.isEmpty) ∨ ∃ kvs, θ[n]? = some (.dK kvs) ∧ b = !kvs.isEmpty
  | .lst xs, b => b = !xs.isEmpty
  | .lsk xs, b => b = !xs.isEmpty
  | .raw _, _ => False
theorem isEmpty_len {α β : Type} {xs : List α} {ys : List β} (h : xs.length = ys.length) : xs.isEmpty = ys.isEmpty := by
  cases xs <;> cases ys <;> first | rfl | (simp at h)
theorem tru_v {K : PySem.W.Frag} {H : Hp} {α : Nat → Addr} {θ : Th} (S : Sta K H α θ) {x : D} {v : V} {b : Bool} (r : Rep K H α θ.length x v) (t : truAns θ x b) : TruV K v H b := by
  cases x with
  | non => unfold Rep at r; subst r; exact t
  | bl _ => unfold Rep at r; subst r; exact t
  | int _ => unfold Rep at r; subst r; exact t
  | str _ => unfold Rep at r; subst r; exact ⟨sz5 t.1, t.2⟩
  | tup xs =>
    unfold Rep at r; obtain ⟨a, vs, rfl, h1, h2⟩ := r
    exact .inr (.inl ⟨vs, SqT.of h1, by rw [← isEmpty_len h2.length]; exact t⟩)
  | lst xs =>
    unfold Rep at r; obtain ⟨a, vs, rfl, h1, h2⟩ := r
    exact .inl ⟨vs, .inl h1.rd, by rw [← isEmpty_len h2.length]; exact t⟩
  | lsk xs =>
    unfold Rep at r; obtain ⟨a, vs, rfl, h1, h2⟩ := r
    exact .inl ⟨vs, h1.sq, by rw [← isEmpty_len h2.length]; exact t⟩
  | obj n =>
    unfold Rep at r; obtain ⟨_, rfl⟩ := r
    rcases t with ⟨xs, e, t⟩ | ⟨kvs, e, t⟩
    · obtain ⟨vs, h1, h2⟩ := S.ent n _ e
      exact .inl ⟨vs, SqL.of h1, by rw [← isEmpty_len h2.length]; exact t⟩
    · obtain ⟨ws, h1, h2⟩ := S.ent n _ e
      exact .inr (.inr ⟨ws, h1, by rw [← isEmpty_len h2.length]; exact t⟩)
  | raw _ => exact t.elim
@[reducible] def aTru (ra : AR) : ATR := fun Γ θ k kx => ra Γ θ (fun x θ1 => ∃ b, truAns θ1 x b ∧ k b θ1) kx
theorem xt_tru (ha : XE' X W a ra) (he : ∀ whole, isTrue a X.env whole = (do let v ← whole; standAt a.pos; holding [v] (truthy v))) : XT X W a (aTru ra) := pt_imp (pt_truth ha he) (by
  rintro σ H Q ⟨α, θ, Γ, k, kx, S, G, q, lk, lx⟩
  refine ⟨α, θ, Γ, _, kx, S, G, q, fun x θ1 α1 H1 v n1 S1 r1 ⟨b, t, q1⟩ => ?_, lx⟩
  exact ⟨b, tru_v S1 r1 t, lk b θ1 α1 H1 n1 S1 q1⟩)
abbrev XW (X : Cx) (W : WX) (e : Expr) (a : ATR) : Prop := PW X e (LT X.K W a)
/-- what follows by a test's answer -/
def ifB (b : Bool) (P Q : Prop) : Prop := (b = true → P) ∧ (b = false → Q)
@[reducible] def aAnd (t u : ATR) : ATR := fun Γ θ k kx => t Γ θ (fun c θ1 => ifB c (u Γ θ1 k kx) (k false θ1)) kx
@[reducible] def aOr (t u : ATR) : ATR := fun Γ θ k kx => t Γ θ (fun c θ1 => ifB c (k true θ1) (u Γ θ1 k kx)) kx
@[reducible] def aNot (t : ATR) : ATR := fun Γ θ k kx => t Γ θ (fun c θ1 => k (!c) θ1) kx
theorem and_imp {K : PySem.W.Frag} {σ : L2.St} {H : Hp} {Q : Bool → Hp → Prop} (h : LT K W (aAnd ta tb) σ H Q) : tAnd (LT K W ta) (LT K W tb) σ H Q := by
  obtain ⟨α, θ, Γ, k, kx, S, G, q, lk, lx⟩ := h
  refine ⟨α, θ, Γ, _, kx, S, G, q, fun b θ1 α1 H1 n1 S1 q1 => ?_, lx⟩
  cases b with
  | true => rw [if_pos rfl]; exact ⟨α1, θ1, Γ, k, kx, S1, G.mono n1, q1.1 rfl, lk.on n1, lx.on n1⟩
  | false => rw [if_neg Bool.false_ne_true]; exact lk false θ1 α1 H1 n1 S1 (q1.2 rfl)
theorem or_imp {K : PySem.W.Frag} {σ : L2.St} {H : Hp} {Q : Bool → Hp → Prop} (h : LT K W (aOr ta tb) σ H Q) : tOr (LT K W ta) (LT K W tb) σ H Q := by
  obtain ⟨α, θ, Γ, k, kx, S, G, q, lk, lx⟩ := h
  refine ⟨α, θ, Γ, _, kx, S, G, q, fun b θ1 α1 H1 n1 S1 q1 => ?_, lx⟩
  cases b with
  | true => rw [if_pos rfl]; exact lk true θ1 α1 H1 n1 S1 (q1.1 rfl)
  | false => rw [if_neg Bool.false_ne_true]; exact ⟨α1, θ1, Γ, k, kx, S1, G.mono n1, q1.2 rfl, lk.on n1, lx.on n1⟩
theorem xw_and1 (ha : XT X W a ta) : XW X W (.BoolOp .And [a] pos) ta := pw_and1 ha
theorem xw_or1 (ha : XT X W a ta) : XW X W (.BoolOp .Or [a] pos) ta := pw_or1 ha
theorem xw_and (ha : XT X W a ta) (hb : XW X W (.BoolOp .And (b :: rest) pos) tb) : XW X W (.BoolOp .And (a :: b :: rest) pos) (aAnd ta tb) := pw_imp (pw_and ha hb) fun _ _ _ h => and_imp h
theorem xw_or (ha : XT X W a ta) (hb : XW X W (.BoolOp .Or (b :: rest) pos) tb) : XW X W (.BoolOp .Or (a :: b :: rest) pos) (aOr ta tb) := pw_imp (pw_or ha hb) fun _ _ _ h => or_imp h
theorem XW.pt (h : XW X W e ta) : XT X W e ta := L2.PW.pt h
theorem xt_not (ha : XT X W a ta) : XT X W (.UnaryOp .Not a pos) (aNot ta) := pt_imp (pt_not ha) (by
  rintro σ H Q ⟨α, θ, Γ, k, kx, S, G, q, lk, lx⟩
  exact ⟨α, θ, Γ, _, kx, S, G, q, fun b θ1 α1 H1 n1 S1 q1 => lk (!b) θ1 α1 H1 n1 S1 q1, lx⟩)
/-- as values, all but the last bools -/
@[reducible] def aAndV (ra rb : AR) : AR := fun Γ θ k kx => ra Γ θ (fun x θ1 => ∃ c, x = .bl c ∧ ifB c (rb Γ θ1 k kx) (k (.bl false) θ1)) kx
@[reducible] def aOrV (ra rb : AR) : AR := fun Γ θ k kx => ra Γ θ (fun x θ1 => ∃ c, x = .bl c ∧ ifB c (k (.bl true) θ1) (rb Γ θ1 k kx)) kx
theorem xe_one {op} (h : XE' X W a ra) : XE' X W (.BoolOp op [a] pos) ra := pe_one h
theorem xe_and (ha : XE' X W a ra) (hb : XE' X W (.BoolOp .And (b :: rest) pos) rb) : XE' X W (.BoolOp .And (a :: b :: rest) pos) (aAndV ra rb) := pe_imp (pe_and ha hb) (by
  rintro σ H Q ⟨α, θ, Γ, k, kx, S, G, q, lk, lx⟩
  refine ⟨α, θ, Γ, _, kx, S, G, q, fun x θ1 α1 H1 v n1 S1 r1 ⟨c, e, q1⟩ => ?_, lx⟩
  subst e
  unfold Rep at r1
  refine ⟨c, r1, ?_⟩
  cases c with
  | true => rw [if_pos rfl]; exact ⟨α1, θ1, Γ, k, kx, S1, G.mono n1, q1.1 rfl, lk.on n1, lx.on n1⟩
  | false => rw [if_neg Bool.false_ne_true]; exact (lk.on n1).at S1 (by unfold Rep; rfl) (q1.2 rfl))
theorem xe_or (ha : XE' X W a ra) (hb : XE' X W (.BoolOp .Or (b :: rest) pos) rb) : XE' X W (.BoolOp .Or (a :: b :: rest) pos) (aOrV ra rb) := pe_imp (pe_or ha hb) (by
  rintro σ H Q ⟨α, θ, Γ, k, kx, S, G, q, lk, lx⟩
  refine ⟨α, θ, Γ, _, kx, S, G, q, fun x θ1 α1 H1 v n1 S1 r1 ⟨c, e, q1⟩ => ?_, lx⟩
  subst e
  unfold Rep at r1
  refine ⟨c, r1, ?_⟩
  cases c with
  | true => rw [if_pos rfl]; exact (lk.on n1).at S1 (by unfold Rep; rfl) (q1.1 rfl)
  | false => rw [if_neg Bool.false_ne_true]; exact ⟨α1, θ1, Γ, k, kx, S1, G.mono n1, q1.2 rfl, lk.on n1, lx.on n1⟩)
@[reducible] def aNotV (ra : AR) : AR := fun Γ θ k kx => ra Γ θ (fun x θ1 => ∃ c, x = .bl c ∧ k (.bl (!c)) θ1) kx
theorem xe_not (ha : XE' X W a ra) : XE' X W (.UnaryOp .Not a pos) (aNotV ra) := pe_imp (pe_not ha) (by
  rintro σ H Q ⟨α, θ, Γ, k, kx, S, G, q, lk, lx⟩
  refine ⟨α, θ, Γ, _, kx, S, G, q, fun x θ1 α1 H1 v n1 S1 r1 ⟨c, e, q1⟩ => ?_, lx⟩
  subst e
  unfold Rep at r1
  exact ⟨c, r1, (lk.on n1).at S1 (by unfold Rep; rfl) q1⟩)
@[reducible] def aIfE (t : ATR) (ra rb : AR) : AR := fun Γ θ k kx => t Γ θ (fun c θ1 => ifB c (ra Γ θ1 k kx) (rb Γ θ1 k kx)) kx
theorem xe_if (hc : XT X W c tc) (ha : XE' X W a ra) (hb : XE' X W b rb) : XE' X W (.IfExp c a b pos) (aIfE tc ra rb) := pe_imp (pe_ifExp hc ha hb) (by
  rintro σ H Q ⟨α, θ, Γ, k, kx, S, G, q, lk, lx⟩
  refine ⟨α, θ, Γ, _, kx, S, G, q, fun b θ1 α1 H1 n1 S1 q1 => ?_, lx⟩
  cases b with
  | true => rw [if_pos rfl]; exact ⟨α1, θ1, Γ, k, kx, S1, G.mono n1, q1.1 rfl, lk.on n1, lx.on n1⟩
  | false => rw [if_neg Bool.false_ne_true]; exact ⟨α1, θ1, Γ, k, kx, S1, G.mono n1, q1.2 rfl, lk.on n1, lx.on n1⟩)
/-- a op1 b op2 c -/
@[reducible] def aChain (f f' : F2) (ra rb rc : AR) : AR := fun Γ θ k kx => ra Γ θ (fun x θ1 => rb Γ θ1 (fun y θ2 => f x y θ2 fun z θ3 => ∃ c, z = .bl c ∧ ifB c (rc Γ θ3 (fun w θ4 => f' y w θ4 k) kx) (k (.bl false) θ3)) kx) kx
theorem chain_imp {f f' : F2} {r r' : R2} (s : Sim2 X.K f r) (s' : Sim2 X.K f' r') {σ : L2.St} {H : Hp} {Q : VK} (h : LE X.K W (aChain f f' ra rb rc) σ H Q) : tChain r r' (LE X.K W ra) (LE X.K W rb) (LE X.K W rc) σ H Q := by
  obtain ⟨α, θ, Γ, k, kx, S, G, q, lk, lx⟩ := h
  refine ⟨α, θ, Γ, _, kx, S, G, q, fun x θ1 α1 H1 v n1 S1 r1 q1 => ?_, lx⟩
  refine ⟨α1, θ1, Γ, _, kx, S1, G.mono n1, q1, fun y θ2 α2 H2 u n2 S2 r2 q2 => ?_, lx.on n1⟩
  refine s α2 θ2 H2 x y v u _ _ S2 (Rep.mono n2 _ _ r1) r2 q2 fun z θ3 α3 H3 w n3 S3 r3 ⟨c, e, q3⟩ => ?_
  subst e
  unfold Rep at r3
  refine ⟨c, r3, ?_⟩
  cases c with
  | true =>
    rw [if_pos rfl]
    refine ⟨α3, θ3, Γ, _, kx, S3, G.mono ((n1.trans n2).trans n3), q3.1 rfl, fun t θ4 α4 H4 t' n4 S4 r4 q4 => ?_, lx.on ((n1.trans n2).trans n3)⟩
    exact s' α4 θ4 H4 y t u t' k Q S4 (Rep.mono (n3.trans n4) _ _ r2) r4 q4 (lk.on (((n1.trans n2).trans n3).trans n4))
  | false => rw [if_neg Bool.false_ne_true]; exact (lk.on ((n1.trans n2).trans n3)).at S3 (by unfold Rep; rfl) (q3.2 rfl)
theorem xe_chain {op op' : CmpOp} {f f' : F2} {r r' : R2} (ho : OpR X (compareOp op) r) (s : Sim2 X.K f r) (ho' : OpR X (compareOp op') r') (s' : Sim2 X.K f' r') (ha : XE' X W a ra) (hb : XE' X W b rb) (hc : XE' X W c rc)
    (hm : lastMarks [op, op'] [b, c] = false := by with_unfolding_all rfl) : XE' X W (.Compare a [op, op'] [b, c] pos) (aChain f f' ra rb rc) := pe_imp (pe_chain ho ho' ha hb hc hm) fun _ _ _ h => chain_imp s s' h
theorem xt_chain {op op' : CmpOp} {f f' : F2} {r r' : R2} (ho : OpR X (compareOp op) r) (s : Sim2 X.K f r) (ho' : OpR X (compareOp op') r') (s' : Sim2 X.K f' r') (ha : XE' X W a ra) (hb : XE' X W b rb) (hc : XE' X W c rc)
    (hm : lastMarks [op, op'] [b, c] = false := by with_unfolding_all rfl) : XT X W (.Compare a [op, op'] [b, c] pos) (aTst (aChain f f' ra rb rc)) := pt_imp (pt_chain ho ho' ha hb hc hm) (by
  rintro σ H Q ⟨α, θ, Γ, k, kx, S, G, q, lk, lx⟩
  show tChain _ _ _ _ _ σ H _
  refine chain_imp s s' ⟨α, θ, Γ, _, kx, S, G, q, fun x θ1 α1 H1 v n1 S1 r1 ⟨b, e, q1⟩ => ?_, lx⟩
  subst e
  unfold Rep at r1
  exact ⟨b, r1, lk b θ1 α1 H1 n1 S1 q1⟩)
/-! ### built-ins called -/
abbrev FA := List D → Th → AK → Prop
def SimA (K : PySem.W.Frag) (f : FA) (r : List V → Hp → VK → Prop) : Prop := ∀ (α : Nat → Addr) (θ : Th) (H : Hp) (xs : List D) (vs : List V) (k : AK) (Q : VK), Sta K H α θ → Reps K H α θ.length xs vs → f xs θ k → LkV K α θ.length H k Q → r vs H Q
@[reducible] def aCB (f : FA) (rs : AAR) : AR := fun Γ θ k kx => rs Γ θ (fun xs θ1 => f xs θ1 k) kx
theorem go_cb {f : FA} {rs : AAR} {Γ : G} {θ : Th} {k : AK} {kx : AX} (q : rs Γ θ (fun xs θ1 => f xs θ1 k) kx) : aCB f rs Γ θ k kx := q
theorem cb_imp {K : PySem.W.Frag} {f : FA} {r : List V → Hp → VK → Prop} {rs : AAR} (s : SimA K f r) {σ : L2.St} {H : Hp} {Q : VK} (h : LE K W (aCB f rs) σ H Q) : tCB r (LA K W rs) σ H Q := by
  obtain ⟨α, θ, Γ, k, kx, S, G, q, lk, lx⟩ := h
  exact ⟨α, θ, Γ, _, kx, S, G, q, fun xs θ1 α1 H1 vs n1 S1 r1 q1 => s α1 θ1 H1 xs vs k Q S1 r1 q1 (lk.on n1), lx⟩
theorem xe_cb {f : FA} {r : List V → Hp → VK → Prop} {rs : AAR} {id : String} {es : List Expr} {x : Str} (hc : CallR X (.builtin id) r) (s : SimA X.K f r) (hg : Gl X x) (hm : X.mg x = none) (hv : bootBuiltins x = some (.builtin id)) (ha : XA X W (e :: es) rs) (hn : x ≠ "__name__" := by decide) (hdb : (x == ("__debug__" : Str)) = false := by decide)
    (he : starEach (e :: es) X.env = (false, eval e X.env) :: starEach es X.env := by rfl) (hpl : (backTo pos (starEach es X.env)).any (·.1) = false := by rfl) : XE' X W (.Call (.Name x p) (e :: es) [] pos) (aCB f rs) :=
  pe_imp (pe_callB hc hg hm hv ha hn hdb he hpl) fun _ _ _ h => cb_imp s h
theorem xe_cbT {f : FA} {r : List V → Hp → VK → Prop} {rs : AAR} {id : String} {es : List Expr} {x : Str} (hc : CallR X (.type id) r) (s : SimA X.K f r) (hg : Gl X x) (hm : X.mg x = none) (hv : bootBuiltins x = some (.type id)) (ha : XA X W (e :: es) rs) (hn : x ≠ "__name__" := by decide) (hdb : (x == ("__debug__" : Str)) = false := by decide)
    (he : starEach (e :: es) X.env = (false, eval e X.env) :: starEach es X.env := by rfl) (hpl : (backTo pos (starEach es X.env)).any (·.1) = false := by rfl) : XE' X W (.Call (.Name x p) (e :: es) [] pos) (aCB f rs) :=
  pe_imp (pe_callTy hc hg hm hv ha hn hdb he hpl) fun _ _ _ h => cb_imp s h
/-- .. whose new list is frozen -/
theorem xe_cbF {f : FA} {r : List V → Hp → VK → Prop} {rs : AAR} {id : String} {es : List Expr} {x : Str} (hc : CallR X (.builtin id) r) (s : SimA X.K f (fun vs H Q => r vs H (FrQ Q))) (hg : Gl X x) (hm : X.mg x = none) (hv : bootBuiltins x = some (.builtin id)) (ha : XA X W (e :: es) rs) (hn : x ≠ "__name__" := by decide) (hdb : (x == ("__debug__" : Str)) = false := by decide)
    (he : starEach (e :: es) X.env = (false, eval e X.env) :: starEach es X.env := by rfl) (hpl : (backTo pos (starEach es X.env)).any (·.1) = false := by rfl) : XE' X W (.Call (.Name x p) (e :: es) [] pos) (aCB f rs) :=
  pe_imp (pe_frz (pe_callB hc hg hm hv ha hn hdb he hpl)) fun _ _ _ h => cb_imp (r := fun vs H Q => r vs H (FrQ Q)) s h
theorem xe_cbTF {f : FA} {r : List V → Hp → VK → Prop} {rs : AAR} {id : String} {es : List Expr} {x : Str} (hc : CallR X (.type id) r) (s : SimA X.K f (fun vs H Q => r vs H (FrQ Q))) (hg : Gl X x) (hm : X.mg x = none) (hv : bootBuiltins x = some (.type id)) (ha : XA X W (e :: es) rs) (hn : x ≠ "__name__" := by decide) (hdb : (x == ("__debug__" : Str)) = false := by decide)
    (he : starEach (e :: es) X.env = (false, eval e X.env) :: starEach es X.env := by rfl) (hpl : (backTo pos (starEach es X.env)).any (·.1) = false := by rfl) : XE' X W (.Call (.Name x p) (e :: es) [] pos) (aCB f rs) :=
  pe_imp (pe_frz (pe_callTy hc hg hm hv ha hn hdb he hpl)) fun _ _ _ h => cb_imp (r := fun vs H Q => r vs H (FrQ Q)) s h
end
def fLen : FA := fun xs θ k => (∃ z, xs = [.str z] ∧ z.length ≤ 100000 ∧ k (.int (z.length : Nat)) θ) ∨ ∃ (d : D) (ys : List D), xs = [d] ∧ asS θ d = some ys ∧ k (.int (ys.length : Nat)) θ
@[reducible] def fStr : FA := fun xs θ k => ∃ i, xs = [.int i] ∧ i.natAbs < 2 ^ 1000 ∧ k (.str (toString i)) θ
def fInt : FA := fun xs θ k => (∃ i, xs = [.int i] ∧ k (.int i) θ) ∨ (∃ c : Bool, xs = [.bl c] ∧ k (.int (if c then 1 else 0)) θ) ∨ ∃ a n, xs = [.str a] ∧ PySem.intText? a = some n ∧ a.length ≤ 640 ∧ k (.int n) θ
@[reducible] def fOrd : FA := fun xs θ k => ∃ x, xs = [.str x] ∧ x.length = 1 ∧ k (.int (x.cps.getD 0 0 : Nat)) θ
def fSum : FA := fun xs θ k => ∃ (d : D) (ns : List Int), xs = [d] ∧ asL θ d = some (ns.map D.int) ∧ k (.int ns.sum) θ
def fAll : FA := fun xs θ k => ∃ (d : D) (bs : List Bool), xs = [d] ∧ asL θ d = some (bs.map D.bl) ∧ k (.bl (bs.all id)) θ
def fAny : FA := fun xs θ k => ∃ (d : D) (bs : List Bool), xs = [d] ∧ asL θ d = some (bs.map D.bl) ∧ k (.bl (bs.any id)) θ
def fTuple : FA := fun xs θ k => (∃ (d : D) (ys : List D), xs = [d] ∧ asL θ d = some ys ∧ k (.tup ys) θ) ∨ ∃ ys, xs = [.tup ys] ∧ k (.tup ys) θ
@[reducible] def fMax : FA := fun xs θ k => ∃ i j : Int, xs = [.int i, .int j] ∧ k (.int (if j > i then j else i)) θ
@[reducible] def fMin : FA := fun xs θ k => ∃ i j : Int, xs = [.int i, .int j] ∧ k (.int (if j < i then j else i)) θ
def fSortI : FA := fun xs θ k => ∃ (d : D) (ns : List Int), xs = [d] ∧ asL θ d = some (ns.map D.int) ∧ ∀ ns' : List Int, ns'.Perm ns → ns'.Pairwise (· ≤ ·) → k (.lst (ns'.map D.int)) θ
def fSortS : FA := fun xs θ k => ∃ (d : D) (ss : List Str), xs = [d] ∧ asL θ d = some (ss.map D.str) ∧ ss.length < 64 ∧ ∀ ss' : List Str, ss'.Perm ss → sortedS ss' = true → k (.lst (ss'.map D.str)) θ
def fSort : FA := fun xs θ k => fSortI xs θ k ∨ fSortS xs θ k
def tyNm (θ : Th) : D → Option String
  | .non => some "NoneType" | .bl _ => some "bool" | .int _ => some "int" | .str _ => some "str" | .tup _ => some "tuple" | .lst _ => some "list" | _ => none
def fIsi : FA := fun xs θ k => (∃ d c a b, xs = [d, .raw (.ty c)] ∧ tyNm θ d = some a ∧ kitB a c = some b ∧ k (.bl b) θ) ∨
  ∃ d c c' a b b', xs = [d, .tup [.raw (.ty c), .raw (.ty c')]] ∧ tyNm θ d = some a ∧ kitB a c = some b ∧ kitB a c' = some b' ∧ k (.bl (b || b')) θ
section
variable {K : PySem.W.Frag}
theorem rep1 {H : Hp} {α : Nat → Addr} {N : Nat} {d : D} {vs : List V} (r : Reps K H α N [d] vs) : ∃ v, vs = [v] ∧ Rep K H α N d v := by
  obtain ⟨v, ws, rfl, h1, h2⟩ := r.uncons
  unfold Reps at h2
  exact ⟨v, by rw [h2], h1⟩
theorem rep2 {H : Hp} {α : Nat → Addr} {N : Nat} {d e : D} {vs : List V} (r : Reps K H α N [d, e] vs) : ∃ v w, vs = [v, w] ∧ Rep K H α N d v ∧ Rep K H α N e w := by
  obtain ⟨v, ws, rfl, h1, h2⟩ := r.uncons
  obtain ⟨w, rfl, h3⟩ := rep1 h2
  exact ⟨v, w, rfl, h1, h3⟩
theorem sim_len : SimA K fLen (fun xs H Q => ∃ x n, xs = [x] ∧ LenV K x H n ∧ Q (.int n) H) := by
  intro α θ H xs vs k Q S r h lk
  rcases h with ⟨z, rfl, hz, h⟩ | ⟨d, ys, rfl, e, h⟩
  · obtain ⟨v, rfl, r1⟩ := rep1 r
    unfold Rep at r1; subst r1
    exact ⟨_, z.length, rfl, ⟨sz5 hz, rfl⟩, lk.at S (by unfold Rep; rfl) h⟩
  · obtain ⟨v, rfl, r1⟩ := rep1 r
    obtain ⟨a, ws, rfl, h1, h2⟩ := asS_sq S r1 e
    refine ⟨_, ys.length, rfl, ?_, lk.at S (by unfold Rep; rfl) h⟩
    rcases h1 with h1 | h1
    · exact .inl ⟨ws, h1, h2.length⟩
    · exact .inr ⟨ws, h1, h2.length⟩
theorem sim_str : SimA K fStr (fun xs H Q => ∃ i, xs = [.int i] ∧ i.natAbs.log2 < 1920 ∧ Q (.str (toString i)) H) := by
  intro α θ H xs vs k Q S r ⟨i, e, hi, h⟩ lk
  subst e
  obtain ⟨v, rfl, r1⟩ := rep1 r
  unfold Rep at r1; subst r1
  refine ⟨i, rfl, ?_, lk.at S (by unfold Rep; rfl) h⟩
  by_cases h0 : i.natAbs = 0
  · rw [h0]; decide
  · have := (Nat.log2_lt h0).mpr hi
    omega
theorem sim_int : SimA K fInt (fun xs H Q => ((∃ i, xs = [.int i] ∧ Q (.int i) H) ∨ ∃ k, xs = [.bl k] ∧ Q (.int (if k then 1 else 0)) H) ∨ ∃ a n, xs = [.str a] ∧ PySem.intText? a = some n ∧ a.length ≤ 640 ∧ Q (.int n) H) := by
  intro α θ H xs vs k Q S r h lk
  rcases h with ⟨i, rfl, h⟩ | ⟨i, rfl, h⟩ | ⟨i, n, rfl, h1, h2, h⟩
  · obtain ⟨v, rfl, r1⟩ := rep1 r
    unfold Rep at r1; subst r1
    exact .inl (.inl ⟨i, rfl, lk.at S (by unfold Rep; rfl) h⟩)
  · obtain ⟨v, rfl, r1⟩ := rep1 r
    unfold Rep at r1; subst r1
    exact .inl (.inr ⟨i, rfl, lk.at S (by unfold Rep; rfl) h⟩)
  · obtain ⟨v, rfl, r1⟩ := rep1 r
    unfold Rep at r1; subst r1
    exact .inr ⟨i, n, rfl, h1, h2, lk.at S (by unfold Rep; rfl) h⟩
theorem sim_ord : SimA K fOrd (fun xs H Q => ∃ x, xs = [.str x] ∧ x.length = 1 ∧ Q (.int (x.cps.getD 0 0 : Nat)) H) := by
  intro α θ H xs vs k Q S r ⟨x, e, h1, h⟩ lk
  subst e
  obtain ⟨v, rfl, r1⟩ := rep1 r
  unfold Rep at r1; subst r1
  exact ⟨x, rfl, h1, lk.at S (by unfold Rep; rfl) h⟩
theorem sim_sum : SimA K fSum (rSum K) := by
  intro α θ H xs vs k Q S r ⟨d, ns, e, e1, h⟩ lk
  subst e
  obtain ⟨v, rfl, r1⟩ := rep1 r
  obtain ⟨a, ws, rfl, h1, h2⟩ := asL_sq S r1 e1
  rw [of_ints h2] at h1
  exact ⟨a, ns, rfl, h1, lk.at S (by unfold Rep; rfl) h⟩
theorem sim_all : SimA K fAll (rAll K) := by
  intro α θ H xs vs k Q S r ⟨d, ns, e, e1, h⟩ lk
  subst e
  obtain ⟨v, rfl, r1⟩ := rep1 r
  obtain ⟨a, ws, rfl, h1, h2⟩ := asL_sq S r1 e1
  rw [of_bls h2] at h1
  exact ⟨a, ns, rfl, h1, lk.at S (by unfold Rep; rfl) h⟩
theorem sim_any : SimA K fAny (rAny K) := by
  intro α θ H xs vs k Q S r ⟨d, ns, e, e1, h⟩ lk
  subst e
  obtain ⟨v, rfl, r1⟩ := rep1 r
  obtain ⟨a, ws, rfl, h1, h2⟩ := asL_sq S r1 e1
  rw [of_bls h2] at h1
  exact ⟨a, ns, rfl, h1, lk.at S (by unfold Rep; rfl) h⟩
theorem sim_tuple : SimA K fTuple (fun xs H Q => ∃ p ys, xs = [.ref p] ∧ ((SqL K H p ys ∧ ∀ l, H l = none → Q (.ref l) (upd H l (.tup ys))) ∨ (SqT K H p ys ∧ Q (.ref p) H))) := by
  intro α θ H xs vs k Q S r h lk
  rcases h with ⟨d, ys, rfl, e1, h⟩ | ⟨ys, rfl, h⟩
  · obtain ⟨v, rfl, r1⟩ := rep1 r
    obtain ⟨a, ws, rfl, h1, h2⟩ := asL_sq S r1 e1
    exact ⟨a, ws, rfl, .inl ⟨h1, fun l hl => tup_new S hl h2 h lk⟩⟩
  · obtain ⟨v, rfl, r1⟩ := rep1 r
    have r1' := r1
    unfold Rep at r1
    obtain ⟨a, ws, rfl, h1, h2⟩ := r1
    exact ⟨a, ws, rfl, .inr ⟨SqT.of h1, lk.at S r1' h⟩⟩
theorem sim_max : SimA K fMax (fun xs H Q => ∃ i j, xs = [.int i, .int j] ∧ Q (.int (if j > i then j else i)) H) := by
  intro α θ H xs vs k Q S r ⟨i, j, e, h⟩ lk
  subst e
  obtain ⟨v, w, rfl, r1, r2⟩ := rep2 r
  unfold Rep at r1 r2; subst r1 r2
  exact ⟨i, j, rfl, lk.at S (by unfold Rep; rfl) h⟩
theorem sim_min : SimA K fMin (fun xs H Q => ∃ i j, xs = [.int i, .int j] ∧ Q (.int (if j < i then j else i)) H) := by
  intro α θ H xs vs k Q S r ⟨i, j, e, h⟩ lk
  subst e
  obtain ⟨v, w, rfl, r1, r2⟩ := rep2 r
  unfold Rep at r1 r2; subst r1 r2
  exact ⟨i, j, rfl, lk.at S (by unfold Rep; rfl) h⟩
theorem sim_sort : SimA K fSort (fun vs H Q => rSortedI K vs H (FrQ Q) ∨ rSortedS K vs H (FrQ Q)) := by
  intro α θ H xs vs k Q S r h lk
  rcases h with ⟨d, ns, rfl, e1, h⟩ | ⟨d, ns, rfl, e1, e2, h⟩
  · obtain ⟨v, rfl, r1⟩ := rep1 r
    obtain ⟨a, ws, rfl, h1, h2⟩ := asL_sq S r1 e1
    rw [of_ints h2] at h1
    refine .inl ⟨a, ns, rfl, h1, fun ns' p q1 q2 hp => frz_newQ S hp (reps_ints ns') (h ns' q1 q2) lk⟩
  · obtain ⟨v, rfl, r1⟩ := rep1 r
    obtain ⟨a, ws, rfl, h1, h2⟩ := asL_sq S r1 e1
    rw [of_strs h2] at h1
    refine .inr ⟨a, ns, rfl, h1, e2, fun ns' p q1 q2 hp => frz_newQ S hp (reps_strs ns') (h ns' q1 q2) lk⟩
theorem tyNm_x {H : Hp} {α : Nat → Addr} {θ : Th} (S : Sta K H α θ) {d : D} {v : V} {a : String} (r : Rep K H α θ.length d v) (e : tyNm θ d = some a) : TyX K H v (.type a) := by
  cases d with
  | non => unfold Rep at r; subst r; cases e; exact .base .non
  | bl _ => unfold Rep at r; subst r; cases e; exact .base (.bl _)
  | int _ => unfold Rep at r; subst r; cases e; exact .base (.int _)
  | str _ => unfold Rep at r; subst r; cases e; exact .base (.str _)
  | tup _ => unfold Rep at r; obtain ⟨p, vs, rfl, h1, _⟩ := r; cases e; exact .base (.tup h1)
  | lst _ => unfold Rep at r; obtain ⟨p, vs, rfl, ⟨o, h1⟩, _⟩ := r; cases e; exact .base (.frz h1)
  | _ => cases e
theorem sim_isi : SimA K fIsi (fun xs H Q => rIsi K xs H Q ∨ rIsiT K xs H Q) := by
  intro α θ H xs vs k Q S r h lk
  rcases h with ⟨d, c, a, b, rfl, e1, e2, h⟩ | ⟨d, c, c', a, b, b', rfl, e1, e2, e3, h⟩
  · obtain ⟨v, w, rfl, r1, r2⟩ := rep2 r
    unfold Rep at r2; subst r2
    exact .inl ⟨v, _, .type a, .type c, b, rfl, .ty c, tyNm_x S r1 e1, kit_ty e2, lk.at S (by unfold Rep; rfl) h⟩
  · obtain ⟨v, w, rfl, r1, r2⟩ := rep2 r
    unfold Rep at r2
    obtain ⟨p, ws, rfl, h1, h2⟩ := r2
    obtain ⟨u1, u2, rfl, r3, r4⟩ := rep2 h2
    unfold Rep at r3 r4; subst r3 r4
    refine .inr ⟨v, p, _, .type a, [.type c, .type c'], b || b', rfl, h1, .cons (.ty c) (.cons (.ty c') .nil), tyNm_x S r1 e1, ?_, lk.at S (by unfold Rep; rfl) h⟩
    refine kitAny_cons (kit_ty e2) (fun z => ?_) fun z => by rw [z]; rfl
    subst z
    refine kitAny_cons (kit_ty e3) (fun z => ?_) fun z => by rw [z]; rfl
    subst z
    exact kitAny_nil
end
end AB
namespace AB
open PySem PySem.Spec PyProof.Rows L2
/-! ### an entry changed -/
section
variable {K : PySem.W.Frag} {H : Hp} {α : Nat → Addr} {θ : Th}
theorem ent_set {n : Nat} {e e' : Ent} {u o : HO} {k : AK} {Q : VK} {d : D} {v : V} (S : Sta K H α θ) (hn : θ[n]? = some e) (hu : H (α n) = some u) (mu : Mut (some u)) (he : ∀ H', Nx α θ.length H α θ.length H' → H' (α n) = some o → EntAt K H' α θ.length (α n) e')
    (r : Rep K H α θ.length d v) (q : k d (θ.set n e')) (lk : LkV K α θ.length H k Q) : Q v (upd H (α n) o) := by
  have hl : n < θ.length := (List.getElem?_eq_some_iff.mp hn).1
  have hz : (θ.set n e').length = θ.length := List.length_set ..
  have nx : Nx α θ.length H α (θ.set n e').length (upd H (α n) o) := Nx.write hu mu
  refine lk d _ α _ v nx (S.write hl hu mu ?_) (Rep.mono nx _ _ r) q
  rw [hz] at nx ⊢
  exact he _ nx upd_same
end
/-! ### methods of texts and lists -/
abbrev FM := D → List D → Th → AK → Prop
def SimM (K : PySem.W.Frag) (f : FM) (r : V → List V → Hp → VK → Prop) : Prop := ∀ (α : Nat → Addr) (θ : Th) (H : Hp) (x : D) (xs : List D) (v : V) (vs : List V) (k : AK) (Q : VK), Sta K H α θ → Rep K H α θ.length x v → Reps K H α θ.length xs vs → f x xs θ k → LkV K α θ.length H k Q → r v vs H Q
def tyOk (T : String) (x : D) (θ : Th) : Prop := (T = "str" ∧ ∃ z, x = .str z) ∨ (T = "list" ∧ ∃ xs, asL θ x = some xs)
@[reducible] def aBM (T : String) (f : FM) (ro : AR) (rs : AAR) : AR := fun Γ θ k kx => ro Γ θ (fun x θ1 => tyOk T x θ1 ∧ rs Γ θ1 (fun xs θ2 => f x xs θ2 k) kx) kx
theorem tyOk_v {K : PySem.W.Frag} {H : Hp} {α : Nat → Addr} {θ : Th} (S : Sta K H α θ) {T : String} {x : D} {v : V} (r : Rep K H α θ.length x v) (t : tyOk T x θ) : tyV K T v H := by
  rcases t with ⟨rfl, z, rfl⟩ | ⟨rfl, xs, e⟩
  · unfold Rep at r; subst r; rfl
  · obtain ⟨a, vs, rfl, h1, _⟩ := asL_sq S r e
    exact .inl ⟨rfl, vs, h1⟩
section
variable {X : Cx} {W : WX} {o e f g : Expr} {ro re rf rg : AR} {pos apos cpos p : Pos} {es : List Expr} {rs : AAR}
theorem bm_imp {T : String} {fm : FM} {r : V → List V → Hp → VK → Prop} (s : SimM X.K fm r) {σ : L2.St} {H : Hp} {Q : VK} (h : LE X.K W (aBM T fm ro rs) σ H Q) : tBM X.K T r (LE X.K W ro) (LA X.K W rs) σ H Q := by
  obtain ⟨α, θ, Γ, k, kx, S, G, q, lk, lx⟩ := h
  refine ⟨α, θ, Γ, _, kx, S, G, q, fun x θ1 α1 H1 v n1 S1 r1 ⟨t, q1⟩ => ⟨tyOk_v S1 r1 t, ?_⟩, lx⟩
  refine ⟨α1, θ1, Γ, _, kx, S1, G.mono n1, q1, fun xs θ2 α2 H2 vs n2 S2 r2 q2 => ?_, lx.on n1⟩
  exact s α2 θ2 H2 x xs v vs k Q S2 (Rep.mono n2 _ _ r1) r2 q2 (lk.on (n1.trans n2))
theorem xe_bm {T id : String} {name : Str} {fm : FM} {r : V → List V → Hp → VK → Prop} (pa : PlainAttrs T) (slot : Slot T name id) (hty : typeOf (.builtin id) = pure (.type "method_descriptor")) (hm : MtR X id r) (s : SimM X.K fm r) (ho : XE' X W o ro) (ha : XA X W (e :: es) rs)
    (hbase : attributeBase o name X.env (eval o X.env) = eval o X.env := by rfl)
    (hfew : ((backTo cpos (starEach (e :: es) X.env)).all (fun x => !x.1) && (backToKw cpos (keywordEach [] X.env)).all (fun x => x.1.isSome)
      && decide ((e :: es).length + ([] : List Keyword).length + (if ([] : List Keyword).isEmpty then 0 else 1) < 30)) = true := by rfl)
    (hline : (apos.endLine == cpos.line) = true := by rfl) (hs : starEach (e :: es) X.env = (false, eval e X.env) :: starEach es X.env := by rfl) (hplain : (backTo cpos (starEach es X.env)).any (·.1) = false := by rfl) :
    XE' X W (.Call (.Attribute o name apos) (e :: es) [] cpos) (aBM T fm ro rs) := pe_imp (pe_bm pa slot hty hm ho ha hbase hfew hline hs hplain) fun _ _ _ h => bm_imp s h
theorem xe_bmF {T id : String} {name : Str} {fm : FM} {r : V → List V → Hp → VK → Prop} (pa : PlainAttrs T) (slot : Slot T name id) (hty : typeOf (.builtin id) = pure (.type "method_descriptor")) (hm : MtR X id r) (s : SimM X.K fm (fun v vs H Q => r v vs H (FrQ Q))) (ho : XE' X W o ro) (ha : XA X W (e :: es) rs)
    (hbase : attributeBase o name X.env (eval o X.env) = eval o X.env := by rfl)
    (hfew : ((backTo cpos (starEach (e :: es) X.env)).all (fun x => !x.1) && (backToKw cpos (keywordEach [] X.env)).all (fun x => x.1.isSome)
      && decide ((e :: es).length + ([] : List Keyword).length + (if ([] : List Keyword).isEmpty then 0 else 1) < 30)) = true := by rfl)
    (hline : (apos.endLine == cpos.line) = true := by rfl) (hs : starEach (e :: es) X.env = (false, eval e X.env) :: starEach es X.env := by rfl) (hplain : (backTo cpos (starEach es X.env)).any (·.1) = false := by rfl) :
    XE' X W (.Call (.Attribute o name apos) (e :: es) [] cpos) (aBM T fm ro rs) := pe_imp (pe_frz (pe_bm pa slot hty hm ho ha hbase hfew hline hs hplain)) fun _ _ _ h => bm_imp (r := fun v vs H Q => r v vs H (FrQ Q)) s h
def fAppend : FM := fun x xs θ k => ∃ n ds d, x = .obj n ∧ xs = [d] ∧ θ[n]? = some (.lst ds) ∧ ds.length < 100000 ∧ k .non (θ.set n (.lst (ds ++ [d])))
theorem sim_append {K : PySem.W.Frag} : SimM K fAppend rAppend := by
  intro α θ H x xs v vs k Q S rx rs ⟨n, ds, d, e1, e2, hn, hl, q⟩ lk
  subst e1 e2
  obtain ⟨w, rfl, rd⟩ := rep1 rs
  unfold Rep at rx
  obtain ⟨_, rfl⟩ := rx
  obtain ⟨us, h1, h2⟩ := S.ent n _ hn
  refine ⟨α n, us, w, rfl, rfl, h1, by rw [← h2.length]; exact Nat.lt_of_lt_of_le hl (sz5 (Nat.le_refl _)), ?_⟩
  exact ent_set (e' := .lst (ds ++ [d])) S hn h1 trivial (fun H' nx e => ⟨_, e, (Reps.mono nx _ _ h2).append (Reps.cons (Rep.mono nx _ _ rd) Reps.nil)⟩) (d := .non) (by unfold Rep; rfl) q lk
def fJoin : FM := fun x xs θ k => ∃ a d ys, x = .str a ∧ xs = [d] ∧ asS θ d = some (ys.map D.str) ∧ (ys.map (·.length)).sum + ys.length * a.length ≤ 100000 ∧ k (.str (Txt.join a ys)) θ
theorem sim_join {K : PySem.W.Frag} : SimM K fJoin (fun x xs H Q => ∃ a p, ∃ ys : List Str, x = .str a ∧ xs = [.ref p] ∧ (SqL K H p (ys.map V.str) ∨ SqT K H p (ys.map V.str)) ∧
    (ys.map (·.length)).sum + ys.length * a.length ≤ 16777216 ∧ Q (.str (Txt.join a ys)) H) := by
  intro α θ H x xs v vs k Q S rx rs ⟨a, d, ys, e1, e2, h1, h2, q⟩ lk
  subst e1 e2
  obtain ⟨w, rfl, rd⟩ := rep1 rs
  unfold Rep at rx; subst rx
  obtain ⟨p, us, rfl, h3, h4⟩ := asS_sq S rd h1
  rw [of_strs h4] at h3
  exact ⟨a, p, ys, rfl, rfl, h3, by omega, lk.at S (by unfold Rep; rfl) q⟩
@[reducible] def fZfill : FM := fun x xs θ k => ∃ a i, x = .str a ∧ xs = [.int i] ∧ PadOk i = true ∧ k (.str (Txt.zfill a i)) θ
theorem sim_zfill {K : PySem.W.Frag} : SimM K fZfill (fun x xs H Q => ∃ (a : Str) (i : Int), x = .str a ∧ xs = [.int i] ∧ PadOk i = true ∧ Q (.str (Txt.zfill a i)) H) := by
  intro α θ H x xs v vs k Q S rx rs ⟨a, i, e1, e2, h1, q⟩ lk
  subst e1 e2
  obtain ⟨w, rfl, rd⟩ := rep1 rs
  unfold Rep at rx rd; subst rx rd
  exact ⟨a, i, rfl, rfl, h1, lk.at S (by unfold Rep; rfl) q⟩
@[reducible] def fStarts : FM := fun x xs θ k => ∃ a b, x = .str a ∧ xs = [.str b] ∧ k (.bl (Txt.startswith a b)) θ
theorem sim_starts {K : PySem.W.Frag} : SimM K fStarts (fun x xs H Q => ∃ a b, x = .str a ∧ xs = [.str b] ∧ Q (.bl (Txt.startswith a b)) H) := by
  intro α θ H x xs v vs k Q S rx rs ⟨a, i, e1, e2, q⟩ lk
  subst e1 e2
  obtain ⟨w, rfl, rd⟩ := rep1 rs
  unfold Rep at rx rd; subst rx rd
  exact ⟨a, i, rfl, rfl, lk.at S (by unfold Rep; rfl) q⟩
@[reducible] def fCount : FM := fun x xs θ k => ∃ a b, x = .str a ∧ xs = [.str b] ∧ k (.int (Txt.count a b)) θ
theorem sim_count {K : PySem.W.Frag} : SimM K fCount (fun x xs H Q => ∃ a b, x = .str a ∧ xs = [.str b] ∧ Q (.int (Txt.count a b)) H) := by
  intro α θ H x xs v vs k Q S rx rs ⟨a, i, e1, e2, q⟩ lk
  subst e1 e2
  obtain ⟨w, rfl, rd⟩ := rep1 rs
  unfold Rep at rx rd; subst rx rd
  exact ⟨a, i, rfl, rfl, lk.at S (by unfold Rep; rfl) q⟩
@[reducible] def fFind3 : FM := fun x xs θ k => ∃ a b i, x = .str a ∧ xs = [.str b, .int i] ∧ k (.int (Txt.find3 a b i)) θ
theorem sim_find3 {K : PySem.W.Frag} : SimM K fFind3 (fun x xs H Q => ∃ (a b : Str) (i : Int), x = .str a ∧ xs = [.str b, .int i] ∧ Q (.int (Txt.find3 a b i)) H) := by
  intro α θ H x xs v vs k Q S rx rs ⟨a, b, i, e1, e2, q⟩ lk
  subst e1 e2
  obtain ⟨w, w', rfl, rd, rd'⟩ := rep2 rs
  unfold Rep at rx rd rd'; subst rx rd rd'
  exact ⟨a, b, i, rfl, rfl, lk.at S (by unfold Rep; rfl) q⟩
@[reducible] def fSplit : FM := fun x xs θ k => ∃ a b, x = .str a ∧ xs = [.str b] ∧ (b.length == 0) = false ∧ a.length ≤ 100000 ∧ k (.lst ((Txt.split a b).map D.str)) θ
theorem sim_split {K : PySem.W.Frag} : SimM K fSplit (fun x xs H Q => ∃ a b, x = .str a ∧ xs = [.str b] ∧ (b.length == 0) = false ∧ a.length + 2 ≤ sizeLine ∧ rNewStrs (Txt.split a b) H (FrQ Q)) := by
  intro α θ H x xs v vs k Q S rx rs ⟨a, i, e1, e2, h1, h2, q⟩ lk
  subst e1 e2
  obtain ⟨w, rfl, rd⟩ := rep1 rs
  unfold Rep at rx rd; subst rx rd
  exact ⟨a, i, rfl, rfl, h1, by rw [sizeLine_eq]; omega, fun p hp => frz_newQ S hp (reps_strs _) q lk⟩
/-! ### dicts: get, pop -/
def isDic (θ : Th) (d : D) : Prop := ∃ n e, d = .obj n ∧ θ[n]? = some e ∧ ((∃ kvs, e = .dK kvs) ∨ (∃ kvs, e = .lk kvs) ∨ ∃ kvs, e = .dT kvs)
theorem isDic_v {K : PySem.W.Frag} {H : Hp} {α : Nat → Addr} {θ : Th} (S : Sta K H α θ) {d : D} {v : V} (r : Rep K H α θ.length d v) (t : isDic θ d) : ∃ a, v = .ref a ∧ IsD H a := by
  obtain ⟨n, e, rfl, hn, he⟩ := t
  unfold Rep at r
  have h := S.ent n _ hn
  refine ⟨α n, r.2, ?_⟩
  rcases he with ⟨kvs, rfl⟩ | ⟨kvs, rfl⟩ | ⟨kvs, rfl⟩
  · obtain ⟨ws, h1, _⟩ := h; exact .inl ⟨ws, .inl h1⟩
  · obtain ⟨o, ws, h1, _⟩ := h; exact .inl ⟨ws, .inr ⟨o, h1⟩⟩
  · obtain ⟨ws, h1, _⟩ := h; exact .inr ⟨ws, .inl h1⟩
@[reducible] def aGet2 (ro re rf : AR) : AR := fun Γ θ k kx => ro Γ θ (fun x θ1 => isDic θ1 x ∧ re Γ θ1 (fun y θ2 => rf Γ θ2 (fun z θ3 => ∃ r, dGet θ3 x y = some r ∧ k (r.getD z) θ3) kx) kx) kx
theorem xe_get2 (hu : X.A.units + 1 < cLine) (ho : XE' X W o ro) (he : XE' X W e re) (hf : XE' X W f rf) (m : M2 X o "get" apos e f cpos) : XE' X W (.Call (.Attribute o "get" apos) [e, f] [] cpos) (aGet2 ro re rf) := pe_imp (pe_dget2 hu ho he hf m) (by
  rintro σ H Q ⟨α, θ, Γ, k, kx, S, G, q, lk, lx⟩
  refine ⟨α, θ, Γ, _, kx, S, G, q, fun x θ1 α1 H1 v n1 S1 r1 ⟨t, q1⟩ => ?_, lx⟩
  obtain ⟨a, rfl, hd⟩ := isDic_v S1 r1 t
  refine ⟨a, rfl, hd, α1, θ1, Γ, _, kx, S1, G.mono n1, q1, fun y θ2 α2 H2 u n2 S2 r2 q2 => ?_, lx.on n1⟩
  refine ⟨α2, θ2, Γ, _, kx, S2, G.mono (n1.trans n2), q2, fun z θ3 α3 H3 w n3 S3 r3 ⟨r, e3, q3⟩ => ?_, lx.on (n1.trans n2)⟩
  obtain ⟨a', ov, e4, g, _, c⟩ := dGet_get S3 (Rep.mono (n2.trans n3) _ _ r1) (Rep.mono n3 _ _ r2) e3
  cases e4
  refine ⟨ov, g, ?_⟩
  have lk3 := lk.on ((n1.trans n2).trans n3)
  rcases c with ⟨rfl, rfl⟩ | ⟨x', w', rfl, rfl, r4⟩
  · exact lk3.at S3 r3 q3
  · exact lk3.at S3 r4 q3)
/-- d.pop(k), it is there -/
@[reducible] def aPop1 (ro re : AR) : AR := fun Γ θ k kx => ro Γ θ (fun x θ1 => isDic θ1 x ∧ re Γ θ1 (fun y θ2 => ∃ n kvs kk v, x = .obj n ∧ θ2[n]? = some (.dK kvs) ∧ keyD y = some kk ∧ valG kvs kk = some v ∧ k v (θ2.set n (.dK (dropG kvs kk)))) kx) kx
theorem xe_pop1 (ho : XE' X W o ro) (he : XE' X W e re) (m : M1 X o "pop" apos e cpos) : XE' X W (.Call (.Attribute o "pop" apos) [e] [] cpos) (aPop1 ro re) := pe_imp (pe_dpop1 ho he m) (by
  rintro σ H Q ⟨α, θ, Γ, k, kx, S, G, q, lk, lx⟩
  refine ⟨α, θ, Γ, _, kx, S, G, q, fun x θ1 α1 H1 v n1 S1 r1 ⟨t, q1⟩ => ?_, lx⟩
  obtain ⟨a, rfl, hd⟩ := isDic_v S1 r1 t
  refine ⟨a, rfl, hd, α1, θ1, Γ, _, kx, S1, G.mono n1, q1, fun y θ2 α2 H2 u n2 S2 r2 ⟨n, kvs, kk, d, e1, hn, e2, e3, q2⟩ => ?_, lx.on n1⟩
  subst e1
  have r1' := Rep.mono n2 _ _ r1
  unfold Rep at r1'
  obtain ⟨_, ea⟩ := r1'
  cases ea
  obtain ⟨ws, h1, h2⟩ := S2.ent n _ hn
  rcases h2.val kk with ⟨z, _⟩ | ⟨d', w, z1, z2, z3⟩
  · rw [e3] at z; cases z
  · rw [e3] at z1; cases z1
    refine ⟨ws, kk, w, h1, keyD_v r2 e2, z2, ?_⟩
    exact ent_set (e' := .dK (dropG kvs kk)) S2 hn h1 trivial (fun H' nx e => ⟨_, e, (KRep.mono nx h2).drop kk⟩) z3 q2 (lk.on (n1.trans n2)))
/-! ### attributes -/
@[reducible] def aFld (K : PySem.W.Frag) (f : Str) (ro : AR) : AR := fun Γ θ k kx => ro Γ θ (fun x θ1 => ∃ n C fs d, x = .obj n ∧ θ1[n]? = some (.ins C fs) ∧ Cls K C ∧ NoAttr K C f ∧ fs.lookup f = some d ∧ k d θ1) kx
theorem KRep.lookup {K : PySem.W.Frag} {H : Hp} {α : Nat → Addr} {N : Nat} {f : Str} : ∀ {fs : List (Str × D)} {ws : List (Str × V)}, KRep K H α N fs ws →
    (fs.lookup f = none ∧ ws.lookup f = none) ∨ ∃ d v, fs.lookup f = some d ∧ ws.lookup f = some v ∧ Rep K H α N d v
  | [], ws, h => by
    have : ws = [] := List.eq_nil_of_length_eq_zero (by rw [← h.length]; rfl)
    subst this
    exact .inl ⟨rfl, rfl⟩
  | p :: fs, ws, h => by
    obtain ⟨v, us, rfl, r, h'⟩ := h.cases
    obtain ⟨g, d⟩ := p
    by_cases e : f = g
    · subst e
      exact .inr ⟨d, v, by simp [List.lookup], by simp [List.lookup], r⟩
    · have e' : (f == g) = false := by simpa using e
      rcases KRep.lookup (f := f) h' with ⟨a, b⟩ | ⟨d', v', a, b, c⟩
      · exact .inl ⟨by simp [List.lookup, e', a], by simp [List.lookup, e', b]⟩
      · exact .inr ⟨d', v', by simp [List.lookup, e', a], by simp [List.lookup, e', b], c⟩
theorem xe_fld {fl : Str} (ho : XE' X W o ro) (hb : attributeBase o fl X.env (eval o X.env) = eval o X.env) : XE' X W (.Attribute o fl pos) (aFld X.K fl ro) := pe_imp (pe_fld ho hb) (by
  rintro σ H Q ⟨α, θ, Γ, k, kx, S, G, q, lk, lx⟩
  refine ⟨α, θ, Γ, _, kx, S, G, q, fun x θ1 α1 H1 v n1 S1 r1 ⟨n, C, fs, d, e1, hn, c, na, e2, q1⟩ => ?_, lx⟩
  subst e1
  unfold Rep at r1
  obtain ⟨_, rfl⟩ := r1
  obtain ⟨dx, ws, h1, h2⟩ := S1.ent n _ hn
  rcases h2.lookup (f := fl) with ⟨z, _⟩ | ⟨d', w, z1, z2, z3⟩
  · rw [e2] at z; cases z
  · rw [e2] at z1; cases z1
    exact ⟨α1 n, C, dx, ws, w, rfl, h1, c, na, z2, (lk.on n1).at S1 z3 q1⟩)
end
/-! ### defs called -/
section
variable (P : Program) (w : World) (K : PySem.W.Frag) (mg : Str → Option Value) (base : Heap)
structure GF (k : Nat) (x : Str) (A : ASp) : Prop where
  ex : ∃ f fd ps, FnOk P w K mg base (L2.CX P w) k f fd ps (LF K A) ∧ Binds K fd ps [] ∧ mg x = some (.ref f) ∧ PySem.W.keepIn K (.ref f) = true
structure GM (k : Nat) (C : Addr) (m : Str) (A : ASp) : Prop where
  ex : ∃ f fd ps, FnOk P w K mg base (L2.CX P w) k f fd ps (LF K A) ∧ Binds K fd ps [] ∧ Meth K C m f
  cl : Cls K C
structure GC (k : Nat) (x : Str) (C : Addr) (A : ASp) : Prop where
  ex : ∃ f fd ps, FnOk P w K mg base (L2.CX P w) k f fd ps (LF K A) ∧ Binds K fd ps [] ∧ mg x = some (.ref C) ∧ Mk K C f
end
@[reducible] def aCall (A : ASp) (rs : AAR) : AR := fun Γ θ k kx => rs Γ θ (fun ds θ1 => A ds θ1 k kx) kx
@[reducible] def aMeth (P : Program) (w : World) (K : PySem.W.Frag) (mg : Str → Option Value) (base : Heap) (lv : Nat) (m : Str) (ro : AR) (rs : AAR) : AR := fun Γ θ k kx => ro Γ θ (fun x θ1 => ∃ n C fs A, x = .obj n ∧ θ1[n]? = some (.ins C fs) ∧ GM P w K mg base lv C m A ∧ fs.lookup m = none ∧
  rs Γ θ1 (fun ds θ2 => A (x :: ds) θ2 k kx) kx) kx
@[reducible] def aMake (C : Addr) (A : ASp) (rs : AAR) : AR := fun Γ θ k kx => rs Γ θ (fun ds θ1 => A (.obj θ1.length :: ds) (θ1 ++ [.ins C []]) (fun v θ2 => v = .non ∧ k (.obj θ1.length) θ2) (fun _ _ => False)) kx
section
variable {X : Cx} {W : WX} {o e f g : Expr} {ro re rf rg : AR} {pos apos cpos p : Pos} {es : List Expr} {rs : AAR} {lv : Nat} {A : ASp} {x m : Str} {C : Addr}
theorem call_lf {K : PySem.W.Frag} {σ : L2.St} {H : Hp} {Q : VK} (h : LE K W (aCall A rs) σ H Q) : tCallS (LF K A) (WE W) (LA K W rs) σ H Q := by
  obtain ⟨α, θ, Γ, k, kx, S, G, q, lk, lx⟩ := h
  exact ⟨α, θ, Γ, _, kx, S, G, q, fun ds θ1 α1 H1 vs n1 S1 r1 q1 => ⟨α1, θ1, ds, k, kx, S1, r1, q1, lk.on n1, lx.on n1⟩, lx⟩
theorem xe_call (F : GF X.prog X.w X.K X.mg X.base lv x A) (hr : Room lv X.A) (tk : Takes X W) (hg : Gl X x) (ha : XA X W (e :: es) rs) (hdb : (x == ("__debug__" : Str)) = false := by decide)
    (he : starEach (e :: es) X.env = (false, eval e X.env) :: starEach es X.env := by rfl) (hpl : (backTo pos (starEach es X.env)).any (·.1) = false := by rfl) : XE' X W (.Call (.Name x p) (e :: es) [] pos) (aCall A rs) := by
  obtain ⟨f, fd, ps, hF, hb, hm, hk⟩ := F.ex
  exact pe_imp (pe_callS hF hr hg hm hk hb (fun σ => passAt tk σ) ha hdb he hpl) fun _ _ _ h => call_lf h
/-- o.m(..) -/
theorem xe_meth {pl : Sem Bool} (hr : Room lv X.A) (tk : Takes X W) (ho : XE' X W o ro) (ha : XA X W (e :: es) rs)
    (hst : starEach (e :: es) X.env = (false, eval e X.env) :: starEach es X.env := by rfl) (hpl : (backTo pos (starEach es X.env)).any (·.1) = false := by rfl)
    (ht : eval (.Call (.Attribute o m apos) (e :: es) [] pos) X.env = (do
      let ov ← eval o X.env
      standAt apos.atName
      let (f, first) ← holding [ov] (getMethod ov m pl)
      callWith pos f first (backTo pos (starEach (e :: es) X.env)) (backToKw pos (keywordEach [] X.env))) := by rfl) :
    XE' X W (.Call (.Attribute o m apos) (e :: es) [] pos) (aMeth X.prog X.w X.K X.mg X.base lv m ro rs) := by
  refine ⟨fun pins s σ H Q I h => ?_⟩
  obtain ⟨α, θ, Γ, k, kx, S, G, q, lk, lx⟩ := h
  refine methcall_of (te := LE X.K W ro) ho I ⟨α, θ, Γ, _, kx, S, G, q, fun x θ1 α1 H1 v n1 S1 r1 ⟨n, C, fs, A, e1, hn, gm, hl, q1⟩ => ?_, lx⟩ ht
  have r1' := r1
  rw [e1] at r1'
  unfold Rep at r1'
  obtain ⟨_, ev⟩ := r1'
  obtain ⟨dx, ws, h1, h2⟩ := S1.ent n _ hn
  obtain ⟨f, fd, ps, hF, hb, hm⟩ := gm.ex
  have hl' : ws.lookup m = none := by
    rcases h2.lookup (f := m) with ⟨_, z⟩ | ⟨_, _, z, _⟩
    · exact z
    · rw [hl] at z; cases z
  refine ⟨α1 n, C, dx, ws, f, ev, h1, gm.cl, hm, hl', fun s1 I1 => ?_⟩
  have I0 := I1.ok.mod.kin
  refine PySem.W.callWith_K (first := [.ref (α1 n)]) (h₀ := X.base) I0 hm.kp (thn (ha.run pos pins s1 σ H1 (fun vs H2 => LF X.K A (v :: vs) H2 Q (WE W σ)) I1 ?_) fun us s2 ⟨vs, H2, I2, r, q2⟩ => ⟨I2.kIn, ?_⟩) hst hpl
  · exact ⟨α1, θ1, Γ, _, kx, S1, G.mono n1, q1, fun ds θ2 α2 H2 vs n2 S2 r2 q2 => ⟨α2, θ2, x :: ds, k, kx, S2, Reps.cons (Rep.mono n2 _ _ r1) r2, q2, lk.on (n1.trans n2), lx.on (n1.trans n2)⟩, lx.on n1⟩
  · refine run_fnS (us := .ref (α1 n) :: us) (vs := v :: vs) hF hr hb (passAt tk σ) I2 (.cons (by rw [ev]; rfl) r) q2
/-- o.m() -/
theorem xe_meth0 {pl : Sem Bool} (hr : Room lv X.A) (tk : Takes X W) (ho : XE' X W o ro)
    (ht : eval (.Call (.Attribute o m apos) [] [] pos) X.env = (do
      let ov ← eval o X.env
      standAt apos.atName
      let (f, first) ← holding [ov] (getMethod ov m pl)
      callWith pos f first (backTo pos (starEach [] X.env)) (backToKw pos (keywordEach [] X.env))) := by rfl) :
    XE' X W (.Call (.Attribute o m apos) [] [] pos) (aMeth X.prog X.w X.K X.mg X.base lv m ro aNil) := by
  refine ⟨fun pins s σ H Q I h => ?_⟩
  obtain ⟨α, θ, Γ, k, kx, S, G, q, lk, lx⟩ := h
  refine methcall_of (te := LE X.K W ro) ho I ⟨α, θ, Γ, _, kx, S, G, q, fun x θ1 α1 H1 v n1 S1 r1 ⟨n, C, fs, A, e1, hn, gm, hl, q1⟩ => ?_, lx⟩ ht
  have r1' := r1
  rw [e1] at r1'
  unfold Rep at r1'
  obtain ⟨_, ev⟩ := r1'
  obtain ⟨dx, ws, h1, h2⟩ := S1.ent n _ hn
  obtain ⟨f, fd, ps, hF, hb, hm⟩ := gm.ex
  have hl' : ws.lookup m = none := by
    rcases h2.lookup (f := m) with ⟨_, z⟩ | ⟨_, _, z, _⟩
    · exact z
    · rw [hl] at z; cases z
  refine ⟨α1 n, C, dx, ws, f, ev, h1, gm.cl, hm, hl', fun s1 I1 => ?_⟩
  refine PySem.W.callWith_K0 (first := [.ref (α1 n)]) I1.kIn hm.kp (run_fnS (us := [.ref (α1 n)]) (vs := [v]) hF hr hb (passAt tk σ) I1 (.cons (by rw [ev]; rfl) .nil) ?_)
  exact ⟨α1, θ1, [x], k, kx, S1, Reps.cons r1 Reps.nil, q1, lk.on n1, lx.on n1⟩
theorem make_lf {K : PySem.W.Frag} {σ : L2.St} {H : Hp} {Q : VK} (h : LE K W (aMake C A rs) σ H Q) : tMake C (LF K A) [] E0 (LA K W rs) σ H Q := by
  obtain ⟨α, θ, Γ, k, kx, S, G, q, lk, lx⟩ := h
  refine ⟨α, θ, Γ, _, kx, S, G, q, fun ds θ1 α1 H1 vs n1 S1 r1 q1 => fun x dx hx hdx hne => ?_, lx⟩
  have hx' : upd H1 dx (.own x) x = none := by rw [upd_ne (Ne.symm hne)]; exact hx
  have s1 : ∀ b o, H1 b = some o → upd (upd H1 dx (.own x)) x (.ins C dx []) b = some o := fun b o e => same_new hx' b o (same_new hdx b o e)
  have S2 : Sta K (upd (upd H1 dx (.own x)) x (.ins C dx [])) (put α1 θ1.length x) (θ1 ++ [.ins C []]) := S1.new hx s1 ⟨dx, [], upd_same, KRep.nil⟩
  have n2 : Nx α1 θ1.length H1 (put α1 θ1.length x) (θ1 ++ [Ent.ins C []]).length (upd (upd H1 dx (.own x)) x (.ins C dx [])) := Nx.put s1
  rw [List.append_nil]
  refine ⟨_, _, .obj θ1.length :: ds, _, _, S2, Reps.cons ?_ (Reps.mono n2 _ _ r1), q1, fun d θ3 α3 H3 v n3 S3 r3 ⟨e3, q3⟩ => ?_, fun _ _ _ _ _ _ z => z.elim⟩
  · unfold Rep
    exact ⟨by rw [List.length_append]; exact Nat.lt_succ_self _, by rw [put_same]⟩
  · subst e3
    unfold Rep at r3
    refine ⟨r3, lk (.obj θ1.length) θ3 α3 H3 _ ((n1.trans n2).trans n3) S3 ?_ q3⟩
    unfold Rep
    have hl : θ1.length < (θ1 ++ [Ent.ins C []]).length := by rw [List.length_append]; exact Nat.lt_succ_self _
    exact ⟨Nat.lt_of_lt_of_le hl n3.le, by rw [n3.ag _ hl, put_same]⟩
theorem xe_make (F : GC X.prog X.w X.K X.mg X.base lv x C A) (hr : Room (lv + 1) X.A) (hg : Gl X x) (ha : XA X W (e :: es) rs) (hdb : (x == ("__debug__" : Str)) = false := by decide)
    (he : starEach (e :: es) X.env = (false, eval e X.env) :: starEach es X.env := by rfl) (hpl : (backTo pos (starEach es X.env)).any (·.1) = false := by rfl) : XE' X W (.Call (.Name x p) (e :: es) [] pos) (aMake C A rs) := by
  obtain ⟨f, fd, ps, hF, hb, hm, mk⟩ := F.ex
  exact pe_imp (pe_make mk hF hr hg hm hb .nil passL ha hdb he hpl) fun _ _ _ h => make_lf h
theorem xe_make0 (F : GC X.prog X.w X.K X.mg X.base lv x C A) (hr : Room (lv + 1) X.A) (hg : Gl X x) (hdb : (x == ("__debug__" : Str)) = false := by decide) : XE' X W (.Call (.Name x p) [] [] pos) (aMake C A aNil) := by
  obtain ⟨f, fd, ps, hF, hb, hm, mk⟩ := F.ex
  refine pe_imp (pe_make0 mk hF hr hg hm hb .nil passL hdb) fun σ H Q h => ?_
  obtain ⟨α, θ, Γ, k, kx, S, G, q, lk, lx⟩ := make_lf h
  exact lk [] θ α H [] (Nx.refl _ _ _) S Reps.nil q
end
end AB
namespace AB
open PySem PySem.Spec PyProof.Rows L2
theorem LkW.atG {K : PySem.W.Frag} {α : Nat → Addr} {n : Nat} {H : Hp} {k : Value → G → Th → Prop} {W : WX} {σ : L2.St} {Γ : G} (h : LkW K α n H k W) (G : Slots K H α n σ Γ) : LkX K α n H (fun c θ' => k c Γ θ') (WE W σ) :=
  fun c θ' α' H' nx S q => h c Γ θ' α' σ H' nx S (G.mono nx) q
section
variable {X : Cx} {W : WX} {a b c e o : Expr} {ra rb ro re rv : AR} {tc : ATR} {pos pos' tpos : Pos} {st : Stmt} {rest sts : List Stmt} {s t u : ASR}
@[reducible] def aNext : ASR := fun E Γ θ => E.nx Γ θ
@[reducible] def aSeq (s t : ASR) : ASR := fun E Γ θ => s { E with nx := fun Γ' θ' => t E Γ' θ' } Γ θ
theorem go_seq {E : AE} {Γ : G} {θ : Th} (q : s { E with nx := fun Γ' θ' => t E Γ' θ' } Γ θ) : aSeq s t E Γ θ := q
theorem xss_nil : XSs X W [] aNext := pss_imp pss_nil (by
  rintro Dn σ H ⟨α, θ, Γ, E, S, G, q, lk⟩
  exact lk.nx Γ θ α σ H (Nx.refl _ _ _) S G q)
theorem xss_cons (h1 : XS X W st s) (h2 : XSs X W rest t) : XSs X W (st :: rest) (aSeq s t) := pss_imp (pss_cons h1 h2) (by
  rintro Dn σ H ⟨α, θ, Γ, E, S, G, q, lk⟩
  exact ⟨α, θ, Γ, _, S, G, q, fun Γ' θ' α' σ' H' nx S' G' q' => ⟨α', θ', Γ', E, S', G', q', lk.on nx⟩, lk.rt, lk.bk, lk.ct, lk.ex⟩)
theorem xss_one (h1 : XS X W st s) : XSs X W [st] s := pss_one h1
@[reducible] def aBreak : ASR := fun E Γ θ => E.bk Γ θ
@[reducible] def aCont : ASR := fun E Γ θ => E.ct Γ θ
theorem xs_break : XS X W (.Break pos) aBreak := ps_imp ps_break (by
  rintro Dn σ H ⟨α, θ, Γ, E, S, G, q, lk⟩
  exact lk.bk Γ θ α σ H (Nx.refl _ _ _) S G q)
theorem xs_continue : XS X W (.Continue pos) aCont := ps_imp ps_continue (by
  rintro Dn σ H ⟨α, θ, Γ, E, S, G, q, lk⟩
  exact lk.ct Γ θ α σ H (Nx.refl _ _ _) S G q)
theorem xs_pass : XS X W (.Pass pos) aNext := ps_imp ps_pass (by
  rintro Dn σ H ⟨α, θ, Γ, E, S, G, q, lk⟩
  exact lk.nx Γ θ α σ H (Nx.refl _ _ _) S G q)
@[reducible] def aDrop (ra : AR) : ASR := fun E Γ θ => ra Γ θ (fun _ θ1 => E.nx Γ θ1) (fun c θ1 => E.ex c Γ θ1)
theorem xs_expr (he : XE' X W e re) (hs : swapsWith e none pos.line X.env = pure false := by rfl) : XS X W (.Expr e pos) (aDrop re) := ps_imp (ps_expr he hs) (by
  rintro Dn σ H ⟨α, θ, Γ, E, S, G, q, lk⟩
  exact ⟨α, θ, Γ, _, _, S, G, q, fun d θ1 α1 H1 v n1 S1 r1 q1 => lk.nx Γ θ1 α1 σ H1 n1 S1 (G.mono n1) q1, lk.ex.atG G⟩)
@[reducible] def aRet (ra : AR) : ASR := fun E Γ θ => ra Γ θ E.rt (fun c θ1 => E.ex c Γ θ1)
theorem xs_ret (he : XE' X W e re) : XS X W (.Return (some e) pos) (aRet re) := ps_imp (ps_ret he) (by
  rintro Dn σ H ⟨α, θ, Γ, E, S, G, q, lk⟩
  exact ⟨α, θ, Γ, _, _, S, G, q, lk.rt, lk.ex.atG G⟩)
@[reducible] def aIfS (tc : ATR) (s t : ASR) : ASR := fun E Γ θ => tc Γ θ (fun b θ1 => ifB b (s E Γ θ1) (t E Γ θ1)) (fun c θ1 => E.ex c Γ θ1)
theorem xs_if {ss ts : List Stmt} (hc : XT X W c tc) (ha : XSs X W ss s) (hb : XSs X W ts t) : XS X W (.If c ss ts pos) (aIfS tc s t) := ps_imp (ps_if hc ha hb) (by
  rintro Dn σ H ⟨α, θ, Γ, E, S, G, q, lk⟩
  refine ⟨α, θ, Γ, _, _, S, G, q, fun b θ1 α1 H1 n1 S1 q1 => ?_, lk.ex.atG G⟩
  cases b with
  | true => rw [if_pos rfl]; exact ⟨α1, θ1, Γ, E, S1, G.mono n1, q1.1 rfl, lk.on n1⟩
  | false => rw [if_neg Bool.false_ne_true]; exact ⟨α1, θ1, Γ, E, S1, G.mono n1, q1.2 rfl, lk.on n1⟩)
/-! ### targets -/
abbrev ATG := D → G → Th → (G → Th → Prop) → Prop
abbrev ATGs := List D → G → Th → (G → Th → Prop) → Prop
def LG (K : PySem.W.Frag) (g : ATG) : TG := fun v σ H Q => ∃ (α : Nat → Addr) (θ : Th) (Γ : G) (d : D) (k : G → Th → Prop), Sta K H α θ ∧ Slots K H α θ.length σ Γ ∧ Rep K H α θ.length d v ∧ g d Γ θ k ∧ LkS K α θ.length H k Q
def LGs (K : PySem.W.Frag) (g : ATGs) : TGs := fun vs σ H Q => ∃ (α : Nat → Addr) (θ : Th) (Γ : G) (ds : List D) (k : G → Th → Prop), Sta K H α θ ∧ Slots K H α θ.length σ Γ ∧ Reps K H α θ.length ds vs ∧ g ds Γ θ k ∧ LkS K α θ.length H k Q
abbrev XG (X : Cx) (tg : Expr) (g : ATG) : Prop := PG X tg (LG X.K g)
abbrev XGs (X : Cx) (tg : List Expr) (g : ATGs) : Prop := PGs X tg (LGs X.K g)
theorem pg_imp {tg : Expr} {t t' : TG} (h : PG X tg t) (i : ∀ v σ H Q, t' v σ H Q → t v σ H Q) : PG X tg t' := ⟨fun pins s σ H v u Q I r q => h.run pins s σ H v u Q I r (i _ _ _ _ q)⟩
theorem pgs_imp {tg : List Expr} {t t' : TGs} (h : PGs X tg t) (i : ∀ v σ H Q, t' v σ H Q → t v σ H Q) : PGs X tg t' := ⟨fun pins s σ H v u Q I r q => h.run pins s σ H v u Q I r (i _ _ _ _ q)⟩
theorem pg_or {tg : Expr} {t t' : TG} (h : PG X tg t) (h' : PG X tg t') : PG X tg (fun v σ H Q => t v σ H Q ∨ t' v σ H Q) := ⟨fun pins s σ H v u Q I r q => q.elim (h.run pins s σ H v u Q I r) (h'.run pins s σ H v u Q I r)⟩
theorem Slots.set {K : PySem.W.Frag} {H : Hp} {α : Nat → Addr} {N : Nat} {σ : L2.St} {Γ : G} {d : D} {v : V} (i : Nat) (h : Slots K H α N σ Γ) (r : Rep K H α N d v) : Slots K H α N (σ.set i (some v)) (Γ.set i (some d)) := by
  refine ⟨by rw [List.length_set, List.length_set]; exact h.1, fun j e q => ?_⟩
  by_cases hj : i = j
  · subst hj
    have hl : i < Γ.length := by
      have := (List.getElem?_eq_some_iff.mp q).1
      rwa [List.length_set] at this
    rw [List.getElem?_set_self hl] at q
    cases q
    exact ⟨v, List.getElem?_set_self (by rw [← h.1]; exact hl), r⟩
  · rw [List.getElem?_set_ne hj] at q
    obtain ⟨w, h1, h2⟩ := h.2 j e q
    exact ⟨w, by rw [List.getElem?_set_ne hj]; exact h1, h2⟩
def gN (i : Nat) : ATG := fun d Γ θ k => k (Γ.set i (some d)) θ
theorem xg_name {i : Nat} {x : Str} (h : PG X (.Name x pos) (gName i)) : XG X (.Name x pos) (gN i) := pg_imp h (by
  rintro v σ H Q ⟨α, θ, Γ, d, k, S, G, r, q, lk⟩
  exact lk _ θ α _ H (Nx.refl _ _ _) S (G.set i r) q)
@[reducible] def gsNil : ATGs := fun ds Γ θ k => ds = [] ∧ k Γ θ
@[reducible] def gsCons (g : ATG) (gs : ATGs) : ATGs := fun ds Γ θ k => ∃ d r, ds = d :: r ∧ g d Γ θ fun Γ' θ' => gs r Γ' θ' k
theorem xgs_nil : XGs X [] gsNil := pgs_imp pgs_nil (by
  rintro v σ H Q ⟨α, θ, Γ, d, k, S, G, r, ⟨e, q⟩, lk⟩
  subst e
  unfold Reps at r
  exact ⟨r, lk _ θ α _ H (Nx.refl _ _ _) S G q⟩)
theorem xgs_cons {es : List Expr} {g : ATG} {gs : ATGs} (h1 : XG X e g) (h2 : XGs X es gs) (hs : (assignEach (e :: es) X.env).map (·.2) = assign e X.env :: (assignEach es X.env).map (·.2) := by rfl) : XGs X (e :: es) (gsCons g gs) := pgs_imp (pgs_cons h1 h2 hs) (by
  rintro v σ H Q ⟨α, θ, Γ, ds, k, S, G, r, ⟨d, dr, e, q⟩, lk⟩
  subst e
  obtain ⟨w, ws, rfl, r1, r2⟩ := r.uncons
  exact ⟨w, ws, rfl, α, θ, Γ, d, _, S, G, r1, q, fun Γ' θ' α' σ' H' nx S' G' q' => ⟨α', θ', Γ', dr, k, S', G', Reps.mono nx _ _ r2, q', lk.on nx⟩⟩)
@[reducible] def gTupA (n : Nat) (gs : ATGs) : ATG := fun d Γ θ k => ∃ ds, asS θ d = some ds ∧ ds.length = n ∧ gs ds Γ θ k
theorem xg_tup {es : List Expr} {k0 : Nat} {gs : ATGs} {n : Nat} (hc : X.calm = true) (h : XGs X es gs) (hn : (assignEach es X.env).length = n := by rfl) (hst : (assignEach es X.env).findIdx? (·.1) = none := by rfl) : XG X (.Tuple es k0 pos) (gTupA n gs) :=
  pg_imp (pg_or (pg_tup hc h hn hst) (pg_lst hc h hn hst)) (by
  rintro v σ H Q ⟨α, θ, Γ, d, k, S, G, r, ⟨ds, e, hl, q⟩, lk⟩
  obtain ⟨a, vs, rfl, h1, h2⟩ := asS_sq S r e
  rcases h1 with h1 | h1
  · exact .inr ⟨a, vs, rfl, h1, by rw [← h2.length]; exact hl, α, θ, Γ, ds, k, S, G, h2, q, lk⟩
  · exact .inl ⟨a, vs, rfl, h1, by rw [← h2.length]; exact hl, α, θ, Γ, ds, k, S, G, h2, q, lk⟩)
/-! ### assignments -/
@[reducible] def aAsg (re : AR) (g : ATG) : ASR := fun E Γ θ => re Γ θ (fun d θ1 => g d Γ θ1 E.nx) (fun c θ1 => E.ex c Γ θ1)
theorem asg_imp {g : ATG} {K : PySem.W.Frag} {tg : TG} (hg : ∀ v σ H Q, LG K g v σ H Q → tg v σ H Q) {Dn : Ends} {σ : L2.St} {H : Hp} (h : LS K W (aAsg re g) Dn σ H) : tAsg (LE K W re) tg Dn σ H := by
  obtain ⟨α, θ, Γ, E, S, G, q, lk⟩ := h
  exact ⟨α, θ, Γ, _, _, S, G, q, fun d θ1 α1 H1 v n1 S1 r1 q1 => hg _ _ _ _ ⟨α1, θ1, Γ, d, _, S1, G.mono n1, r1, q1, lk.nx.on n1⟩, lk.ex.atG G⟩
theorem gName_imp {K : PySem.W.Frag} {i : Nat} : ∀ v σ H Q, LG K (gN i) v σ H Q → gName i v σ H Q := by
  rintro v σ H Q ⟨α, θ, Γ, d, k, S, G, r, q, lk⟩
  exact lk _ θ α _ H (Nx.refl _ _ _) S (G.set i r) q
theorem xs_asg {tg : Expr} {g : ATG} (he : XE' X W e re) (hg : XG X tg g) (hs : swapsWithSole [tg] e pos.line X.env = pure false := by rfl) (hw : swappedStores [tg] e X.env = pure none := by rfl)
    (h1 : (assignEach [tg] X.env).map (·.2) = [assign tg X.env] := by rfl) : XS X W (.Assign [tg] e pos) (aAsg re g) := ps_imp (ps_asg he hg hs hw h1) fun _ _ _ h => asg_imp (fun _ _ _ _ z => z) h
theorem xs_set {i : Nat} {x : Str} (hN : X.N.Nodup) (hi : X.N[i]? = some x) (hx : Loc X.env.scope x) (he : XE' X W e re) (hs : swapsWith e (some (.Name x pos')) pos.line X.env = pure false := by rfl) (hf : X.fn x = true ∨ X.env.scope.names.lookup x = some .local := by first | exact .inl rfl | exact .inr rfl | assumption) :
    XS X W (.Assign [.Name x pos'] e pos) (aAsg re (gN i)) := ps_imp (ps_set hN hi hx he hs hf) fun _ _ _ h => asg_imp gName_imp h
/-- a, b = x, y -/
@[reducible] def aPar (i j : Nat) (rs : AAR) : ASR := fun E Γ θ => rs Γ θ (fun ds θ1 => ∃ d d', ds = [d, d'] ∧ E.nx ((Γ.set i (some d)).set j (some d')) θ1) (fun c θ1 => E.ex c Γ θ1)
theorem xs_par {i j : Nat} {x y : Str} {rs : AAR} {px py pt : Pos} {kt k2 pt2} (hc : X.calm = true) (hN : X.N.Nodup) (hi : X.N[i]? = some x) (hj : X.N[j]? = some y) (hij : i ≠ j)
    (hx : X.env.scope.names.lookup x = some .local) (hy : X.env.scope.names.lookup y = some .local) (ha : XA X W [a, b] rs)
    (hw : swappedStores [.Tuple [.Name x px, .Name y py] kt pt] (.Tuple [a, b] k2 pt2) X.env = pure (some [x, y]))
    (hs : swapsWithSole [.Tuple [.Name x px, .Name y py] kt pt] (.Tuple [a, b] k2 pt2) pos.line X.env = pure false := by rfl) :
    XS X W (.Assign [.Tuple [.Name x px, .Name y py] kt pt] (.Tuple [a, b] k2 pt2) pos) (aPar i j rs) := ps_imp (ps_par hc hN hi hj hij hx hy ha hw hs) (by
  rintro Dn σ H ⟨α, θ, Γ, E, S, G, q, lk⟩
  refine ⟨α, θ, Γ, _, _, S, G, q, fun ds θ1 α1 H1 vs n1 S1 r1 ⟨d, d', e, q1⟩ => ?_, lk.ex.atG G⟩
  subst e
  obtain ⟨v, w, rfl, r2, r3⟩ := rep2 r1
  exact ⟨v, w, rfl, lk.nx _ θ1 α1 _ H1 n1 S1 (((G.mono n1).set i r2).set j r3) q1⟩)
/-- o.f = e -/
def putFG (f : Str) (d : D) : List (Str × D) → List (Str × D)
  | [] => [(f, d)]
  | (g, x) :: r => if g = f then (g, d) :: r else (g, x) :: putFG f d r
theorem KRep.putF {K : PySem.W.Frag} {H : Hp} {α : Nat → Addr} {N : Nat} {f : Str} {d : D} {v : V} (r : Rep K H α N d v) : ∀ {fs : List (Str × D)} {ws : List (Str × V)}, KRep K H α N fs ws → KRep K H α N (putFG f d fs) (L2.putF f v ws)
  | [], ws, h => by
    have : ws = [] := List.eq_nil_of_length_eq_zero (by rw [← h.length]; rfl)
    subst this
    exact KRep.nil.cons r
  | (g, x) :: fs, ws, h => by
    obtain ⟨u, us, rfl, r', h'⟩ := h.cases
    show KRep K H α N (if g = f then (g, d) :: fs else (g, x) :: putFG f d fs) (if g = f then (g, v) :: us else (g, u) :: L2.putF f v us)
    by_cases e : g = f
    · rw [if_pos e, if_pos e]; exact h'.cons r
    · rw [if_neg e, if_neg e]; exact (KRep.putF r h').cons r'
theorem st_set {n : Nat} {e' : Ent} {e : Ent} {u o : HO} {K : PySem.W.Frag} {H : Hp} {α : Nat → Addr} {θ : Th} {E : AE} {Dn : Ends} {σ : L2.St} {Γ : G} (S : Sta K H α θ) (G : Slots K H α θ.length σ Γ) (hn : θ[n]? = some e) (hu : H (α n) = some u) (mu : Mut (some u))
    (he : ∀ H', Nx α θ.length H α θ.length H' → H' (α n) = some o → EntAt K H' α θ.length (α n) e') (q : E.nx Γ (θ.set n e')) (lk : LkE K α θ.length H W E Dn) : Dn.nx σ (upd H (α n) o) :=
  ent_set (k := fun _ θ' => E.nx Γ θ') (Q := fun _ H' => Dn.nx σ H') (d := .non) (v := .non) S hn hu mu he (by unfold Rep; rfl) q fun d θ' α' H' v nx S' _ q' => lk.nx Γ θ' α' σ H' nx S' (G.mono nx) q'
@[reducible] def aFldS (K : PySem.W.Frag) (f : Str) (ro rv : AR) : ASR := fun E Γ θ => rv Γ θ (fun y θ1 => ro Γ θ1 (fun x θ2 => ∃ n C fs, x = .obj n ∧ θ2[n]? = some (.ins C fs) ∧ Cls K C ∧ NoAttr K C f ∧ fs.length < 1000 ∧ E.nx Γ (θ2.set n (.ins C (putFG f y fs)))) (fun c θ2 => E.ex c Γ θ2)) (fun c θ1 => E.ex c Γ θ1)
theorem xs_fld {f : Str} (ho : XE' X W o ro) (hv : XE' X W e rv) (hs : swapsWith e (some (.Attribute o f pos')) pos.line X.env = pure false := by rfl) : XS X W (.Assign [.Attribute o f pos'] e pos) (aFldS X.K f ro rv) := ps_imp (ps_fld ho hv hs) (by
  rintro Dn σ H ⟨α, θ, Γ, E, S, G, q, lk⟩
  refine ⟨α, θ, Γ, _, _, S, G, q, fun y θ1 α1 H1 v n1 S1 r1 q1 => ?_, lk.ex.atG G⟩
  refine ⟨α1, θ1, Γ, _, _, S1, G.mono n1, q1, fun x θ2 α2 H2 u n2 S2 r2 ⟨n, C, fs, e1, hn, c, na, hl, q2⟩ => ?_, (lk.ex.on n1).atG (G.mono n1)⟩
  subst e1
  unfold Rep at r2
  obtain ⟨_, rfl⟩ := r2
  obtain ⟨dx, ws, h1, h2⟩ := S2.ent n _ hn
  refine ⟨α2 n, C, dx, ws, rfl, h1, c, na, by rw [← h2.length]; exact hl, ?_⟩
  exact st_set (e' := .ins C (putFG f y fs)) S2 (G.mono (n1.trans n2)) hn h1 trivial (fun H' nx e => ⟨dx, _, e, (KRep.mono nx h2).putF (Rep.mono (n2.trans nx) _ _ r1)⟩) q2 (lk.on (n1.trans n2)))
/-- d[k] = v -/
def dPutE (e : Ent) (y v : D) : Option Ent := match e with
  | .dK kvs => if kvs.length < 100000 then (keyD y).map fun k => .dK (putG kvs k v) else none
  | .dT kvs => match y with
    | .tup ds => if kvs.length < 100000 then (keysD ds).map fun k => .dT (putG kvs k v) else none
    | _ => none
  | .lst xs => match y with
    | .int i => (ixN xs.length i).map fun j => .lst (xs.set j v)
    | _ => none
  | _ => none
@[reducible] def aPutS (ro ri rv : AR) : ASR := fun E Γ θ => rv Γ θ (fun v θ1 => ro Γ θ1 (fun x θ2 => ri Γ θ2 (fun y θ3 => ∃ n e e', x = .obj n ∧ θ3[n]? = some e ∧ (∀ xs, e ≠ .lst xs) ∧ dPutE e y v = some e' ∧ E.nx Γ (θ3.set n e')) (fun c θ3 => E.ex c Γ θ3)) (fun c θ2 => E.ex c Γ θ2)) (fun c θ1 => E.ex c Γ θ1)
theorem xs_put {i : Expr} {ri : AR} (hu : X.A.units + 1 < cLine) (ho : XE' X W o ro) (hi : XE' X W i ri) (hv : XE' X W e rv) (hs : swapsWith e (some (.Subscript o i pos')) pos.line X.env = pure false := by rfl) :
    XS X W (.Assign [.Subscript o i pos'] e pos) (aPutS ro ri rv) := ps_imp (ps_dput hu ho hi hv hs) (by
  rintro Dn σ H ⟨α, θ, Γ, E, S, G, q, lk⟩
  refine ⟨α, θ, Γ, _, _, S, G, q, fun w θ1 α1 H1 v n1 S1 r1 q1 => ?_, lk.ex.atG G⟩
  refine ⟨α1, θ1, Γ, _, _, S1, G.mono n1, q1, fun x θ2 α2 H2 u n2 S2 r2 q2 => ?_, (lk.ex.on n1).atG (G.mono n1)⟩
  refine ⟨α2, θ2, Γ, _, _, S2, G.mono (n1.trans n2), q2, fun y θ3 α3 H3 z n3 S3 r3 ⟨n, e, e', e1, hn, hne, hp, q3⟩ => ?_, (lk.ex.on (n1.trans n2)).atG (G.mono (n1.trans n2))⟩
  subst e1
  have rx := Rep.mono n3 _ _ r2
  have rw' := Rep.mono (n2.trans n3) _ _ r1
  unfold Rep at rx
  obtain ⟨_, rfl⟩ := rx
  have he := S3.ent n _ hn
  have G3 := G.mono ((n1.trans n2).trans n3)
  have lk3 := lk.on ((n1.trans n2).trans n3)
  have h5 : 100000 < sizeLine := by rw [sizeLine_eq]; decide
  cases e with
  | dK kvs =>
    have hp' : (if kvs.length < 100000 then (keyD y).map fun k => Ent.dK (putG kvs k w) else none) = some e' := hp
    split at hp'
    · rename_i hl
      obtain ⟨k, e2, e3⟩ := Option.map_eq_some_iff.mp hp'
      subst e3
      obtain ⟨ws, h1, h2⟩ := he
      refine ⟨α3 n, upd H3 (α3 n) (.dK (putK ws k v)), rfl, .inl ⟨ws, k, h1, keyD_v r3 e2, by rw [← h2.length]; omega, rfl⟩, ?_⟩
      exact st_set (e' := .dK (putG kvs k w)) S3 G3 hn h1 trivial (fun H' nx e => ⟨_, e, (KRep.mono nx h2).put k (Rep.mono nx _ _ rw')⟩) q3 lk3
    · cases hp'
  | dT kvs =>
    cases y with
    | tup ds =>
      have hp' : (if kvs.length < 100000 then (keysD ds).map fun k => Ent.dT (putG kvs k w) else none) = some e' := hp
      split at hp'
      · rename_i hl
        obtain ⟨k, e2, e3⟩ := Option.map_eq_some_iff.mp hp'
        subst e3
        obtain ⟨ws, h1, h2⟩ := he
        unfold Rep at r3
        obtain ⟨b, vs, rfl, hb, rb⟩ := r3
        rw [keysD_v rb e2] at hb
        refine ⟨α3 n, upd H3 (α3 n) (.dT (putK ws k v)), rfl, .inr ⟨ws, k, b, h1, rfl, hb, by rw [← h2.length]; omega, rfl⟩, ?_⟩
        exact st_set (e' := .dT (putG kvs k w)) S3 G3 hn h1 trivial (fun H' nx e => ⟨_, e, (KRep.mono nx h2).put k (Rep.mono nx _ _ rw')⟩) q3 lk3
      · cases hp'
    | _ => cases hp
  | lst xs => exact absurd rfl (hne xs)
  | _ => cases hp)
/-- xs[i] = v -/
@[reducible] def aPutL (ro ri rv : AR) : ASR := fun E Γ θ => rv Γ θ (fun v θ1 => ro Γ θ1 (fun x θ2 => ri Γ θ2 (fun y θ3 => ∃ n xs i j, x = .obj n ∧ θ3[n]? = some (.lst xs) ∧ y = .int i ∧ ixN xs.length i = some j ∧ E.nx Γ (θ3.set n (.lst (xs.set j v)))) (fun c θ3 => E.ex c Γ θ3)) (fun c θ2 => E.ex c Γ θ2)) (fun c θ1 => E.ex c Γ θ1)
end
end AB
namespace AB
open PySem PySem.Spec PyProof.Rows L2
/-! ### what is walked: its items -/
def ItSim (K : PySem.W.Frag) (J : It) (α : Nat → Addr) (n : Nat) (H : Hp) (ds : List D) (still : Th → Prop) : Prop :=
  ∀ (i : Nat) (α' : Nat → Addr) (θ' : Th) (H' : Hp), Nx α n H α' θ'.length H' → Sta K H' α' θ' → still θ' →
    (∀ d, ds[i]? = some d → J.go i H' ∧ ∀ x H'', J.yld i H' x H'' → (∀ b o, H' b = some o → H'' b = some o) ∧ Rep K H'' α' θ'.length d x) ∧ (ds.length ≤ i → J.stop i H')
theorem ItSim.on {K : PySem.W.Frag} {J : It} {α α1 : Nat → Addr} {n n1 : Nat} {H H1 : Hp} {ds : List D} {still : Th → Prop} (h : ItSim K J α n H ds still) (x : Nx α n H α1 n1 H1) : ItSim K J α1 n1 H1 ds still :=
  fun i α' θ' H' nx => h i α' θ' H' (x.trans nx)
abbrev AIR := G → Th → (List D → (Th → Prop) → Th → Prop) → AX → Prop
def LI (K : PySem.W.Frag) (W : WX) (a : AIR) : TI := fun σ H R => ∃ (α : Nat → Addr) (θ : Th) (Γ : G) (k : List D → (Th → Prop) → Th → Prop) (kx : AX), Sta K H α θ ∧ Slots K H α θ.length σ Γ ∧ a Γ θ k kx ∧
  (∀ ds still θ' α' H' J, Nx α θ.length H α' θ'.length H' → Sta K H' α' θ' → ItSim K J α' θ'.length H' ds still → k ds still θ' → R J H') ∧ LkX K α θ.length H kx (WE W σ)
abbrev XI (X : Cx) (W : WX) (tg it : Expr) (a : AIR) : Prop := PI X tg it (LI X.K W a)
section
variable {X : Cx} {W : WX} {tg a b c e o it : Expr} {ra rb ro re rv : AR} {ai : AIR} {pos p : Pos} {es : List Expr} {rs : AAR}
theorem pi_imp {t t' : TI} (h : PI X tg it t) (i : ∀ σ H R, t' σ H R → t σ H R) : PI X tg it t' := ⟨fun pins s σ H R I q => h.run pins s σ H R I (i _ _ _ q)⟩
theorem pi_or {t t' : TI} (h : PI X tg it t) (h' : PI X tg it t') : PI X tg it (fun σ H R => t σ H R ∨ t' σ H R) := ⟨fun pins s σ H R I q => q.elim (h.run pins s σ H R I) (h'.run pins s σ H R I)⟩
theorem sim_list {K : PySem.W.Frag} {α : Nat → Addr} {n : Nat} {H : Hp} {θ : Th} {x : D} {a : Addr} {ds : List D} (hn : n = θ.length) (S : Sta K H α θ) (r : Rep K H α n x (.ref a)) (e : asL θ x = some ds) : ItSim K (Itl K a) α n H ds (fun θ' => asL θ' x = some ds) := by
  intro i α' θ' H' nx S' st
  obtain ⟨a', vs, ea, h1, h2⟩ := asL_sq S' (Rep.mono nx _ _ r) st
  cases ea
  refine ⟨fun d hd => ?_, fun hl => ⟨vs, h1, by rw [← h2.length]; exact hl⟩⟩
  obtain ⟨v, hv, rv⟩ := h2.get hd
  exact ⟨⟨vs, v, h1, hv⟩, fun y H'' ⟨e1, e2⟩ => by
    subst e1
    have := e2 vs h1
    rw [hv] at this
    cases this
    exact ⟨fun _ _ z => z, rv⟩⟩
theorem sim_tup {K : PySem.W.Frag} {α : Nat → Addr} {n : Nat} {H : Hp} {a : Addr} {ds : List D} (r : Rep K H α n (.tup ds) (.ref a)) : ItSim K (Itt K a) α n H ds (fun _ => True) := by
  intro i α' θ' H' nx S' st
  have r' := Rep.mono nx _ _ r
  unfold Rep at r'
  obtain ⟨a', vs, ea, h1, h2⟩ := r'
  cases ea
  have h1 := SqT.of (K := K) h1
  refine ⟨fun d hd => ?_, fun hl => ⟨vs, h1, by rw [← h2.length]; exact hl⟩⟩
  obtain ⟨v, hv, rv⟩ := h2.get hd
  exact ⟨⟨vs, v, h1, hv⟩, fun y H'' ⟨e1, e2⟩ => by
    subst e1
    have := e2 vs h1
    rw [hv] at this
    cases this
    exact ⟨fun _ _ z => z, rv⟩⟩
def signs (z : Str) : List D := z.cps.toList.map fun c => .str ⟨#[c]⟩
/-- a tuple, a list, a text: which one is told ahead -/
@[reducible] def aItT (ra : AR) : AIR := fun Γ θ k kx => ra Γ θ (fun x θ1 => ∃ ds, x = .tup ds ∧ k ds (fun _ => True) θ1) kx
@[reducible] def aItL (ra : AR) : AIR := fun Γ θ k kx => ra Γ θ (fun x θ1 => ∃ ds, asL θ1 x = some ds ∧ k ds (fun θ' => asL θ' x = some ds) θ1) kx
@[reducible] def aItS (ra : AR) : AIR := fun Γ θ k kx => ra Γ θ (fun x θ1 => ∃ z, x = .str z ∧ k (signs z) (fun _ => True) θ1) kx
def aIt (ra : AR) : AIR := fun Γ θ k kx => aItT ra Γ θ k kx ∨ aItL ra Γ θ k kx ∨ aItS ra Γ θ k kx
theorem xi_tup (ha : XE' X W a ra) : XI X W tg a (aItT ra) := pi_imp (pi_tup ha) (by
  rintro σ H R ⟨α, θ, Γ, k, kx, S, G, q, lk, lx⟩
  refine ⟨α, θ, Γ, _, kx, S, G, q, fun x θ1 α1 H1 v n1 S1 r1 ⟨ds, e, q1⟩ => ?_, lx⟩
  subst e
  have r1' := r1
  unfold Rep at r1'
  obtain ⟨a', vs, rfl, h1, h2⟩ := r1'
  exact ⟨a', rfl, ⟨vs, SqT.of h1⟩, lk ds _ θ1 α1 H1 _ n1 S1 (sim_tup r1) q1⟩)
theorem xi_list (ha : XE' X W a ra) : XI X W tg a (aItL ra) := pi_imp (pi_list ha) (by
  rintro σ H R ⟨α, θ, Γ, k, kx, S, G, q, lk, lx⟩
  refine ⟨α, θ, Γ, _, kx, S, G, q, fun x θ1 α1 H1 v n1 S1 r1 ⟨ds, e, q1⟩ => ?_, lx⟩
  obtain ⟨a', vs, rfl, h1, h2⟩ := asL_sq S1 r1 e
  exact ⟨a', rfl, ⟨vs, h1⟩, lk ds _ θ1 α1 H1 _ n1 S1 (sim_list rfl S1 r1 e) q1⟩)
theorem sim_sign {K : PySem.W.Frag} {α : Nat → Addr} {n : Nat} {H : Hp} {z : Str} : ItSim K (Its z) α n H (signs z) (fun _ => True) := by
  intro i α' θ' H' nx S' st
  have hl : (signs z).length = z.cps.size := by unfold signs; simp
  refine ⟨fun d hd => ?_, fun h => by rw [hl] at h; exact h⟩
  unfold signs at hd
  rw [List.getElem?_map] at hd
  obtain ⟨c, hc, e⟩ := Option.map_eq_some_iff.mp hd
  subst e
  have hc' : z.cps[i]? = some c := by simpa using hc
  refine ⟨?_, fun y H'' ⟨e1, c', e2, e3⟩ => ?_⟩
  · show i < z.cps.size
    exact (Array.getElem?_eq_some_iff.mp hc').1
  · subst e1
    rw [hc'] at e2
    cases e2
    exact ⟨fun _ _ q => q, by unfold Rep; exact e3⟩
theorem xi_str (ha : XE' X W a ra) : XI X W tg a (aItS ra) := pi_imp (pi_str ha) (by
  rintro σ H R ⟨α, θ, Γ, k, kx, S, G, q, lk, lx⟩
  refine ⟨α, θ, Γ, _, kx, S, G, q, fun x θ1 α1 H1 v n1 S1 r1 ⟨z, e, q1⟩ => ?_, lx⟩
  subst e
  unfold Rep at r1
  exact ⟨z, r1, lk _ _ θ1 α1 H1 _ n1 S1 sim_sign q1⟩)
theorem xi_any (ha : XE' X W a ra) : XI X W tg a (aIt ra) := pi_imp (pi_or (xi_tup ha) (pi_or (xi_list ha) (xi_str ha))) (by
  rintro σ H R ⟨α, θ, Γ, k, kx, S, G, q, lk, lx⟩
  rcases q with q | q | q
  · exact .inl ⟨α, θ, Γ, k, kx, S, G, q, lk, lx⟩
  · exact .inr (.inl ⟨α, θ, Γ, k, kx, S, G, q, lk, lx⟩)
  · exact .inr (.inr ⟨α, θ, Γ, k, kx, S, G, q, lk, lx⟩))
/-- range(n), range(lo, hi) -/
def nums (lo : Int) (n : Nat) : List D := (List.range n).map fun i => .int (lo + (i : Nat))
theorem sim_range {K : PySem.W.Frag} {α : Nat → Addr} {n : Nat} {H : Hp} {lo : Int} {m : Nat} : ItSim K (Itr lo m) α n H (nums lo m) (fun _ => True) := by
  intro i α' θ' H' nx S' st
  have hl : (nums lo m).length = m := by unfold nums; simp
  refine ⟨fun d hd => ?_, fun h => by rw [hl] at h; exact h⟩
  have hi : i < m := by rw [← hl]; exact (List.getElem?_eq_some_iff.mp hd).1
  have e : d = .int (lo + (i : Nat)) := by
    unfold nums at hd
    rw [List.getElem?_map, List.getElem?_range hi] at hd
    exact (Option.some.inj hd).symm
  subst e
  exact ⟨hi, fun y H'' ⟨e1, e3⟩ => by subst e1; exact ⟨fun _ _ q => q, by unfold Rep; exact e3⟩⟩
@[reducible] def aRng (rs : AAR) : AIR := fun Γ θ k kx => rs Γ θ (fun xs θ1 => ∃ n, xs = [.int n] ∧ -100000 ≤ n ∧ n ≤ 100000 ∧ k (nums 0 n.toNat) (fun _ => True) θ1) kx
@[reducible] def aRng2 (rs : AAR) : AIR := fun Γ θ k kx => rs Γ θ (fun xs θ1 => ∃ l n, xs = [.int l, .int n] ∧ (-100000 ≤ l ∧ l ≤ 100000 ∧ -100000 ≤ n ∧ n ≤ 100000) ∧ k (nums l (n - l).toNat) (fun _ => True) θ1) kx
theorem xi_rng (hg : Gl X "range") (hm : X.mg "range" = none) (ha : XA X W [a] rs) (hs : starEach [a] X.env = [(false, eval a X.env)] := by rfl) : XI X W tg (.Call (.Name "range" p) [a] [] pos) (aRng rs) := pi_imp (pi_range1 hg hm ha hs) (by
  rintro σ H R ⟨α, θ, Γ, k, kx, S, G, q, lk, lx⟩
  refine ⟨α, θ, Γ, _, kx, S, G, q, fun x θ1 α1 H1 v n1 S1 r1 ⟨n, e, h1, h2, q1⟩ => ?_, lx⟩
  subst e
  obtain ⟨w, rfl, r2⟩ := rep1 r1
  unfold Rep at r2; subst r2
  exact ⟨n, rfl, by omega, by omega, lk _ _ θ1 α1 H1 _ n1 S1 sim_range q1⟩)
theorem xi_rng2 (hg : Gl X "range") (hm : X.mg "range" = none) (ha : XA X W [a, b] rs) (hs : starEach [a, b] X.env = [(false, eval a X.env), (false, eval b X.env)] := by rfl) (hs2 : starEach [b] X.env = [(false, eval b X.env)] := by rfl) :
    XI X W tg (.Call (.Name "range" p) [a, b] [] pos) (aRng2 rs) := pi_imp (pi_range2 hg hm ha hs hs2) (by
  rintro σ H R ⟨α, θ, Γ, k, kx, S, G, q, lk, lx⟩
  refine ⟨α, θ, Γ, _, kx, S, G, q, fun x θ1 α1 H1 v n1 S1 r1 ⟨l, n, e, h1, q1⟩ => ?_, lx⟩
  subst e
  obtain ⟨w, w', rfl, r2, r3⟩ := rep2 r1
  unfold Rep at r2 r3; subst r2 r3
  exact ⟨l, n, rfl, ⟨by omega, by omega, by omega, by omega⟩, lk _ _ θ1 α1 H1 _ n1 S1 sim_range q1⟩)
/-- reversed(list) -/
@[reducible] def aRevI (rs : AAR) : AIR := fun Γ θ k kx => rs Γ θ (fun xs θ1 => ∃ x ds, xs = [x] ∧ asL θ1 x = some ds ∧ k ds.reverse (fun θ' => asL θ' x = some ds) θ1) kx
theorem xi_rev (hg : Gl X "reversed") (hm : X.mg "reversed" = none) (ha : XA X W [a] rs) (hs : starEach [a] X.env = [(false, eval a X.env)] := by rfl) : XI X W tg (.Call (.Name "reversed" p) [a] [] pos) (aRevI rs) := pi_imp (pi_reversed hg hm ha hs) (by
  rintro σ H R ⟨α, θ, Γ, k, kx, S, G, q, lk, lx⟩
  refine ⟨α, θ, Γ, _, kx, S, G, q, fun xs θ1 α1 H1 v n1 S1 r1 ⟨x, ds, e, e1, q1⟩ => ?_, lx⟩
  subst e
  obtain ⟨w, rfl, r2⟩ := rep1 r1
  obtain ⟨a', vs, rfl, h1, h2⟩ := asL_sq S1 r2 e1
  refine ⟨a', vs, rfl, h1, lk _ _ θ1 α1 H1 _ n1 S1 ?_ q1⟩
  intro i α' θ' H' nx S' st
  obtain ⟨a2, vs', ea, h3, h4⟩ := asL_sq S' (Rep.mono nx _ _ r2) st
  cases ea
  have hl : vs.length = ds.length := h2.length.symm
  refine ⟨fun d hd => ?_, fun h => by rw [List.length_reverse] at h; show vs.length ≤ i; omega⟩
  have hi : i < ds.length := by have := (List.getElem?_eq_some_iff.mp hd).1; rwa [List.length_reverse] at this
  rw [List.getElem?_reverse hi] at hd
  obtain ⟨v, hv, rv⟩ := h4.get hd
  have hv' : vs'[vs.length - 1 - i]? = some v := by rw [hl]; exact hv
  exact ⟨⟨by omega, vs', v, h3, hv'⟩, fun y H'' ⟨e1, e2⟩ => by
    subst e1
    have := e2 vs' h3
    rw [hv'] at this
    cases this
    exact ⟨fun _ _ z => z, rv⟩⟩)
/-- zip of two lists or two tuples -/
def zipD (xs ys : List D) : List D := (xs.zip ys).map fun p => .tup [p.1, p.2]
theorem zipD_get {xs ys : List D} {i : Nat} {d : D} (h : (zipD xs ys)[i]? = some d) : ∃ x y, xs[i]? = some x ∧ ys[i]? = some y ∧ d = .tup [x, y] := by
  unfold zipD at h
  rw [List.getElem?_map] at h
  obtain ⟨⟨x, y⟩, h1, h2⟩ := Option.map_eq_some_iff.mp h
  rw [List.getElem?_zip_eq_some] at h1
  exact ⟨x, y, h1.1, h1.2, h2.symm⟩
theorem zipD_len {xs ys : List D} : (zipD xs ys).length = min xs.length ys.length := by unfold zipD; rw [List.length_map, List.length_zip]
theorem pair_new {K : PySem.W.Frag} {α : Nat → Addr} {n : Nat} {H : Hp} {T : Addr} {x y : D} {v w : V} (hT : H T = none) (r1 : Rep K H α n x v) (r2 : Rep K H α n y w) : Rep K (upd H T (.tup [v, w])) α n (.tup [x, y]) (.ref T) := by
  have nx : Nx α n H α n (upd H T (.tup [v, w])) := Nx.of α n (Pers.new hT)
  unfold Rep
  exact ⟨T, [v, w], rfl, upd_same, Reps.cons (Rep.mono nx _ _ r1) (Reps.cons (Rep.mono nx _ _ r2) Reps.nil)⟩
@[reducible] def aZip (rs : AAR) : AIR := fun Γ θ k kx => rs Γ θ (fun xs θ1 => ∃ x y, xs = [x, y] ∧ ((∃ ds es, x = .tup ds ∧ y = .tup es ∧ k (zipD ds es) (fun _ => True) θ1) ∨
  ∃ ds es, asL θ1 x = some ds ∧ asL θ1 y = some es ∧ k (zipD ds es) (fun θ' => asL θ' x = some ds ∧ asL θ' y = some es) θ1)) kx
theorem xi_zip {elts : List Expr} {kk : Nat} {tp : Pos} (hg : Gl X "zip") (hm : X.mg "zip" = none) (ha : XA X W [a, b] rs) (hs : starEach [a, b] X.env = (false, eval a X.env) :: starEach [b] X.env := by rfl) (hpl : (backTo pos (starEach [b] X.env)).any (·.1) = false := by rfl) :
    XI X W (.Tuple elts kk tp) (.Call (.Name "zip" p) [a, b] [] pos) (aZip rs) := pi_imp (RZ.pi_zipA hg hm ha hs hpl) (by
  rintro σ H R ⟨α, θ, Γ, k, kx, S, G, q, lk, lx⟩
  refine ⟨α, θ, Γ, _, kx, S, G, q, fun xs θ1 α1 H1 v n1 S1 r1 ⟨x, y, e, c⟩ => ?_, lx⟩
  subst e
  obtain ⟨w, w', rfl, r2, r3⟩ := rep2 r1
  rcases c with ⟨ds, es, rfl, rfl, q1⟩ | ⟨ds, es, e1, e2, q1⟩
  · have r2' := r2
    have r3' := r3
    unfold Rep at r2' r3'
    obtain ⟨p1, vs, rfl, h1, h2⟩ := r2'
    obtain ⟨p2, us, rfl, h3, h4⟩ := r3'
    refine ⟨p1, p2, vs, us, rfl, .inr ⟨SqT.of h1, SqT.of h3, lk _ _ θ1 α1 H1 _ n1 S1 ?_ q1⟩⟩
    intro i α' θ' H' nx S' st
    have t1 := Rep.mono nx _ _ r2
    have t2 := Rep.mono nx _ _ r3
    unfold Rep at t1 t2
    obtain ⟨_, vs', ea, g1, g2⟩ := t1
    cases ea
    obtain ⟨_, us', ea, g3, g4⟩ := t2
    cases ea
    refine ⟨fun d hd => ?_, fun hl => ⟨vs', us', SqT.of g1, SqT.of g3, ?_⟩⟩
    · obtain ⟨x, y, hx, hy, rfl⟩ := zipD_get hd
      obtain ⟨v1, hv1, rv1⟩ := g2.get hx
      obtain ⟨v2, hv2, rv2⟩ := g4.get hy
      refine ⟨⟨vs', us', v1, v2, SqT.of g1, SqT.of g3, hv1, hv2⟩, ?_⟩
      rintro z H'' ⟨T, y1, y2, e1, hT, e2, e3, e4⟩
      have k1 := e3 vs' (SqT.of g1)
      have k2 := e4 us' (SqT.of g3)
      rw [hv1] at k1; rw [hv2] at k2
      cases k1; cases k2
      rw [e1, e2]
      exact ⟨same_new hT, pair_new hT rv1 rv2⟩
    · rw [zipD_len, g2.length, g4.length] at hl
      omega
  · obtain ⟨p1, vs, rfl, h1, h2⟩ := asL_sq S1 r2 e1
    obtain ⟨p2, us, rfl, h3, h4⟩ := asL_sq S1 r3 e2
    refine ⟨p1, p2, vs, us, rfl, .inl ⟨h1, h3, lk _ _ θ1 α1 H1 _ n1 S1 ?_ q1⟩⟩
    intro i α' θ' H' nx S' ⟨st1, st2⟩
    obtain ⟨_, vs', ea, g1, g2⟩ := asL_sq S' (Rep.mono nx _ _ r2) st1
    cases ea
    obtain ⟨_, us', ea, g3, g4⟩ := asL_sq S' (Rep.mono nx _ _ r3) st2
    cases ea
    refine ⟨fun d hd => ?_, fun hl => ⟨vs', us', g1, g3, ?_⟩⟩
    · obtain ⟨x', y', hx, hy, rfl⟩ := zipD_get hd
      obtain ⟨v1, hv1, rv1⟩ := g2.get hx
      obtain ⟨v2, hv2, rv2⟩ := g4.get hy
      refine ⟨⟨vs', us', v1, v2, g1, g3, hv1, hv2⟩, ?_⟩
      rintro z H'' ⟨T, y1, y2, e1, hT, e2, e3, e4⟩
      have k1 := e3 vs' g1
      have k2 := e4 us' g3
      rw [hv1] at k1; rw [hv2] at k2
      cases k1; cases k2
      rw [e1, e2]
      exact ⟨same_new hT, pair_new hT rv1 rv2⟩
    · rw [zipD_len, g2.length, g4.length] at hl
      omega)
end
/-! ### for -/
def aLoop (still : Th → Prop) (g : ATG) (tb : ASR) (E : AE) : List D → G → Th → Prop
  | [], Γ, θ => still θ ∧ E.nx Γ θ
  | d :: ds, Γ, θ => still θ ∧ g d Γ θ fun Γ1 θ1 => tb { E with nx := aLoop still g tb E ds, ct := aLoop still g tb E ds, bk := E.nx } Γ1 θ1
@[reducible] def aFor (ai : AIR) (g : ATG) (tb : ASR) : ASR := fun E Γ θ => ai Γ θ (fun ds still θ1 => aLoop still g tb E ds Γ θ1) (fun c θ1 => E.ex c Γ θ1)
section
variable {X : Cx} {W : WX} {tg it : Expr} {ai : AIR} {g : ATG} {s : ASR} {pos : Pos} {body : List Stmt}
theorem Slots.rfl' {K : PySem.W.Frag} {H : Hp} {α : Nat → Addr} {N : Nat} {σ : L2.St} {Γ : G} (h : Slots K H α N σ Γ) : Slots K H α N σ Γ := h
theorem aLoop_still {still : Th → Prop} {g : ATG} {tb : ASR} {E : AE} {ds : List D} {Γ : G} {θ : Th} (h : aLoop still g tb E ds Γ θ) : still θ := by
  cases ds with
  | nil => exact h.1
  | cons d ds => exact h.1
theorem xs_for (hp : PassesOwn (model X.prog X.w) X.A X.env X.xe) (hc : X.calm = true) (hi : XI X W tg it ai) (hg : XG X tg g) (hb : XSs X W body s) (hs : ∀ x, foldedSetIterable it X.env x = pure x := by intro _; rfl) :
    XS X W (.For tg it body [] pos) (aFor ai g s) := ps_imp (ps_for hp hc hi hg hb hs) (by
  rintro Dn σ H ⟨α, θ, Γ, E, S, G, q, lk⟩
  refine ⟨α, θ, Γ, _, _, S, G, q, fun ds still θ1 α1 H1 J n1 S1 sim q1 => ?_, lk.ex.atG G⟩
  refine ⟨fun i m σ' H' => m = ds.length - i ∧ i ≤ ds.length ∧ ∃ (α' : Nat → Addr) (θ' : Th) (Γ' : AB.G), Nx α1 θ1.length H1 α' θ'.length H' ∧ Sta X.K H' α' θ' ∧ Slots X.K H' α' θ'.length σ' Γ' ∧ aLoop still g s E (ds.drop i) Γ' θ',
    ⟨ds.length, by simp, Nat.zero_le _, α1, θ1, Γ, Nx.refl _ _ _, S1, G.mono n1, q1⟩, ?_⟩
  rintro i m σ' H' ⟨rfl, hi, α', θ', Γ', nx, S', G', q'⟩
  obtain ⟨h1, h2⟩ := sim i α' θ' H' nx S' (aLoop_still q')
  by_cases hlt : i < ds.length
  · have hd : ds[i]? = some ds[i] := List.getElem?_eq_getElem hlt
    rw [List.drop_eq_getElem_cons hlt] at q'
    obtain ⟨hgo, hy⟩ := h1 _ hd
    refine .inr ⟨hgo, fun σ2 H2 => ∃ (α2 : Nat → Addr) (θ2 : Th) (Γ2 : AB.G), Nx α1 θ1.length H1 α2 θ2.length H2 ∧ Sta X.K H2 α2 θ2 ∧ Slots X.K H2 α2 θ2.length σ2 Γ2 ∧ aLoop still g s E (ds.drop (i + 1)) Γ2 θ2, ?_, ?_⟩
    · rintro σ2 H2 ⟨α2, θ2, Γ2, p1, p2, p3, p4⟩
      exact ⟨_, by omega, rfl, hlt, α2, θ2, Γ2, p1, p2, p3, p4⟩
    · intro x H'' y
      obtain ⟨sm, rx⟩ := hy x H'' y
      have ny : Nx α' θ'.length H' α' θ'.length H'' := Nx.of _ _ (Pers.same sm)
      refine ⟨α', θ', Γ', ds[i], _, S'.same sm, G'.mono ny, rx, q'.2, fun Γ3 θ3 α3 σ3 H3 n3 S3 G3 q3 => ?_⟩
      have nn := (nx.trans ny).trans n3
      have lk3 := lk.on (n1.trans nn)
      refine ⟨α3, θ3, Γ3, _, S3, G3, q3, fun Γ4 θ4 α4 σ4 H4 n4 S4 G4 q4 => ?_, lk3.rt, lk3.nx, fun Γ4 θ4 α4 σ4 H4 n4 S4 G4 q4 => ?_, lk3.ex⟩
      · exact ⟨α4, θ4, Γ4, nn.trans n4, S4, G4, q4⟩
      · exact ⟨α4, θ4, Γ4, nn.trans n4, S4, G4, q4⟩
  · have e : i = ds.length := by omega
    subst e
    rw [List.drop_length] at q'
    exact .inl ⟨h2 (Nat.le_refl _), lk.nx Γ' θ' α' σ' H' (n1.trans nx) S' G' q'.2⟩)
end
end AB
namespace AB
open PySem PySem.Spec PyProof.Rows L2
/-! ### comprehensions -/
abbrev W0 : WX := fun _ _ _ _ => False
abbrev noX : AX := fun _ _ => False
inductive Tgt where
  | one (i : Nat) | tup (is : List Nat)
def setLG : AB.G → List Nat → List D → AB.G
  | Γ, i :: is, d :: ds => setLG (Γ.set i (some d)) is ds
  | Γ, _, _ => Γ
def setLs : L2.St → List Nat → List V → L2.St
  | σ, i :: is, d :: ds => setLs (σ.set i (some d)) is ds
  | σ, _, _ => σ
def gNames : List Nat → TGs
  | [] => gNil
  | i :: is => gCons (gName i) (gNames is)
theorem gNames_run : ∀ {is : List Nat} {vs : List V} {σ : L2.St} {H : Hp} {Q : L2.St → Hp → Prop}, vs.length = is.length → Q (setLs σ is vs) H → gNames is vs σ H Q
  | [], vs, σ, H, Q, hl, q => by
    have : vs = [] := List.eq_nil_of_length_eq_zero hl
    subst this
    exact ⟨rfl, q⟩
  | i :: is, [], σ, H, Q, hl, q => by cases hl
  | i :: is, v :: vs, σ, H, Q, hl, q => ⟨v, vs, rfl, gNames_run (is := is) (by simpa using hl) q⟩
theorem Slots.setL {K : PySem.W.Frag} {H : Hp} {α : Nat → Addr} {N : Nat} : ∀ {is : List Nat} {ds : List D} {vs : List V} {σ : L2.St} {Γ : AB.G}, Slots K H α N σ Γ → Reps K H α N ds vs → Slots K H α N (setLs σ is vs) (setLG Γ is ds)
  | [], ds, vs, σ, Γ, h, r => by unfold setLs setLG; exact h
  | i :: is, [], vs, σ, Γ, h, r => by unfold Reps at r; subst r; unfold setLs setLG; exact h
  | i :: is, d :: ds, vs, σ, Γ, h, r => by
    obtain ⟨v, ws, rfl, h1, h2⟩ := r.uncons
    exact Slots.setL (is := is) (h.set i h1) h2
def Tgt.slots : Tgt → List Nat
  | .one i => [i]
  | .tup is => is
def tgC (K : PySem.W.Frag) : Tgt → TG
  | .one i => gName i
  | .tup is => gTup K is.length (gNames is)
def cTg (t : Tgt) (d : D) (Γ : AB.G) (k : AB.G → Prop) : Prop := match t with
  | .one i => k (Γ.set i (some d))
  | .tup is => ∃ xs, d = .tup xs ∧ xs.length = is.length ∧ k (setLG Γ is xs)
def wipeG (Γ : AB.G) : List Nat → AB.G
  | [] => Γ
  | v :: vs => (wipeG Γ vs).set v none
theorem Slots.wipe {K : PySem.W.Frag} {H : Hp} {α : Nat → Addr} {N : Nat} {σ : L2.St} {Γ : AB.G} (h : Slots K H α N σ Γ) : ∀ vs : List Nat, Slots K H α N (L2.wipe σ vs) (wipeG Γ vs)
  | [] => h
  | v :: vs => by
    have ih := Slots.wipe h vs
    refine ⟨by show ((wipeG Γ vs).set v none).length = ((L2.wipe σ vs).set v none).length; rw [List.length_set, List.length_set]; exact ih.1, fun j e q => ?_⟩
    have q' : ((wipeG Γ vs).set v none)[j]? = some (some e) := q
    by_cases hj : v = j
    · subst hj
      have hl : v < (wipeG Γ vs).length := by
        have := (List.getElem?_eq_some_iff.mp q').1
        rwa [List.length_set] at this
      rw [List.getElem?_set_self hl] at q'
      cases q'
    · rw [List.getElem?_set_ne hj] at q'
      obtain ⟨w, h1, h2⟩ := ih.2 j e q'
      exact ⟨w, by show ((L2.wipe σ vs).set v none)[j]? = _; rw [List.getElem?_set_ne hj]; exact h1, h2⟩
theorem wipe_set {σ : L2.St} {i : Nat} {x : Option V} : ∀ {vs : List Nat}, i ∈ vs → L2.wipe (σ.set i x) vs = L2.wipe σ vs
  | v :: vs, h => by
    show (L2.wipe (σ.set i x) vs).set v none = (L2.wipe σ vs).set v none
    by_cases e : i = v
    · subst e
      by_cases h2 : i ∈ vs
      · rw [wipe_set h2]
      · have : ∀ {us : List Nat}, i ∉ us → L2.wipe (σ.set i x) us = (L2.wipe σ us).set i x := by
          intro us
          induction us with
          | nil => intro _; rfl
          | cons u us ih =>
            intro hn
            show (L2.wipe (σ.set i x) us).set u none = ((L2.wipe σ us).set u none).set i x
            rw [ih (fun z => hn (List.mem_cons_of_mem _ z)), List.set_comm _ _ (fun z => hn (by rw [z]; exact List.mem_cons_self))]
        rw [this h2, List.set_set]
    · have h2 : i ∈ vs := by
        rcases List.mem_cons.mp h with z | z
        · exact absurd z e
        · exact z
      rw [wipe_set h2]
theorem wipe_wipe {σ : L2.St} : ∀ {us vs : List Nat}, (∀ i ∈ us, i ∈ vs) → L2.wipe (L2.wipe σ us) vs = L2.wipe σ vs
  | [], vs, _ => rfl
  | u :: us, vs, h => by
    show L2.wipe ((L2.wipe σ us).set u none) vs = _
    rw [wipe_set (h u List.mem_cons_self), wipe_wipe fun i hi => h i (List.mem_cons_of_mem _ hi)]
theorem wipe_setLs : ∀ {is vs : List Nat} {xs : List V} {σ : L2.St}, (∀ i ∈ is, i ∈ vs) → L2.wipe (setLs σ is xs) vs = L2.wipe σ vs
  | [], vs, xs, σ, _ => by unfold setLs; rfl
  | i :: is, vs, [], σ, _ => by unfold setLs; rfl
  | i :: is, vs, x :: xs, σ, h => by
    show L2.wipe (setLs (σ.set i (some x)) is xs) vs = _
    rw [wipe_setLs fun j hj => h j (List.mem_cons_of_mem _ hj), wipe_set (h i List.mem_cons_self)]
theorem tg_run {K : PySem.W.Frag} {H : Hp} {α : Nat → Addr} {N : Nat} {t : Tgt} {d : D} {v : V} {σ : L2.St} {Γ : AB.G} {k : AB.G → Prop} {vs : List Nat} {Q : L2.St → Hp → Prop} (hv : ∀ i ∈ t.slots, i ∈ vs) (Gs : Slots K H α N (L2.wipe σ vs) Γ) (r : Rep K H α N d v)
    (h : cTg t d Γ k) (q : ∀ Γ1 σ1, Slots K H α N σ1 Γ1 → L2.wipe σ1 vs = L2.wipe σ vs → k Γ1 → Q σ1 H) : tgC K t v (L2.wipe σ vs) H Q := by
  cases t with
  | one i => exact q _ _ (Gs.set i r) (by rw [wipe_set (hv i List.mem_cons_self), wipe_wipe fun _ z => z]) h
  | tup is =>
    obtain ⟨xs, rfl, hl, h⟩ := h
    unfold Rep at r
    obtain ⟨a, us, rfl, h1, h2⟩ := r
    refine ⟨a, us, rfl, SqT.of h1, by rw [← h2.length]; exact hl, gNames_run (by rw [← h2.length]; exact hl) ?_⟩
    exact q _ _ (Gs.setL h2) (by rw [wipe_setLs (is := is) (vs := vs) (fun i hi => hv i hi), wipe_wipe fun _ z => z]) h
def cEl (t : Tgt) (tt : ATR) (te : AR) (Γ : AB.G) (θ : Th) (acc : List D) (d : D) (k : Option D → Prop) : Prop :=
  cTg t d Γ fun Γ1 => tt Γ1 (θ ++ [.lst acc]) (fun b θ2 => θ2 = θ ++ [.lst acc] ∧ ifB b (te Γ1 (θ ++ [.lst acc]) (fun e θ3 => θ3 = θ ++ [.lst acc] ∧ k (some e)) noX) (k none)) noX
def cLoop (t : Tgt) (tt : ATR) (te : AR) (Γ : AB.G) (θ : Th) : List D → List D → (List D → Prop) → Prop
  | [], acc, k => k acc
  | d :: ds, acc, k => cEl t tt te Γ θ acc d fun o => cLoop t tt te Γ θ ds (acc ++ o.toList) k
def aLc (ai : AIR) (t : Tgt) (tt : ATR) (te : AR) (vs : List Nat) : AR := fun Γ θ k kx => ai Γ θ (fun ds still θ1 => ds.length ≤ 100000 ∧ (∀ x, still (θ1 ++ [.lst x])) ∧ cLoop t tt te (wipeG Γ vs) θ1 ds [] fun acc => D.lts θ1.length acc ∧ k (.lst acc) θ1) kx
abbrev XTs (X : Cx) (W : WX) (e : List Expr) (a : ATR) : Prop := PTs X e (LT X.K W a)
@[reducible] def aYes : ATR := fun _ θ k _ => k true θ
section
variable {X : Cx} {W : WX} {tg it elt : Expr} {ai : AIR} {tt : ATR} {te : AR} {pos : Pos} {ifs : List Expr} {scope : Scope} {own : List (Str × Nat)} {t : Tgt}
theorem pts_imp {u u' : TT} (h : PTs X ifs u) (i : ∀ σ H Q, u' σ H Q → u σ H Q) : PTs X ifs u' := by
  first
    | exact ⟨fun pins s σ H Q I q => h.run pins s σ H Q I (i _ _ _ q)⟩
    | exact fun pins s σ H Q I q => h pins s σ H Q I (i _ _ _ q)
theorem xts_nil : XTs X W [] aYes := pts_imp pts_nil (by
  rintro σ H Q ⟨α, θ, Γ, k, kx, S, G, q, lk, lx⟩
  exact lk true θ α H (Nx.refl _ _ _) S q)
theorem xts_one {c : Expr} (h : XT X W c tt) : XTs X W [c] tt := pts_one h
theorem Sta.congr {K : PySem.W.Frag} {H : Hp} {α α' : Nat → Addr} {θ : Th} (h : Sta K H α θ) (e : ∀ m, m < θ.length → α' m = α m) : Sta K H α' θ := by
  refine ⟨fun n en hn => ?_, fun a b ha hb q => h.inj a b ha hb (by rw [← e a ha, ← e b hb]; exact q)⟩
  have hl : n < θ.length := (List.getElem?_eq_some_iff.mp hn).1
  rw [e n hl]
  exact (h.ent n en hn).mono ⟨e, Nat.le_refl _, Pers.refl H⟩ fun _ z => z
theorem lc_imp (hv : ∀ i ∈ t.slots, i ∈ own.map (·.2)) {σ : L2.St} {H : Hp} {Q Q' : VK} (hQ : ∀ v H, FrQ Q v H → Q' v H) (h : LE X.K W (aLc ai t tt te (own.map (·.2))) σ H Q) :
    tLc (LI X.K W ai) (tgC X.K t) (LT X.K W0 tt) (LE X.K W0 te) (own.map (·.2)) σ H Q' := by
  obtain ⟨α, θ, Γ, k, kx, S, G, q, lk, lx⟩ := h
  refine ⟨α, θ, Γ, _, _, S, G, q, fun ds still θ1 α1 H1 J n1 S1 sim ⟨hlen, hst, q1⟩ => fun Dl hD => ?_, lx⟩
  have lk1 := lk.on n1
  have G1 := (G.mono n1).wipe (own.map (·.2))
  generalize hβ : put α1 θ1.length Dl = β
  have hβ0 : β θ1.length = Dl := by rw [← hβ]; exact put_same _ _ _
  have hlen1 : ∀ x : List D, (θ1 ++ [Ent.lst x]).length = θ1.length + 1 := fun x => by rw [List.length_append]; rfl
  have n2 : Nx α1 θ1.length H1 β (θ1.length + 1) (upd H1 Dl (.lst [])) := by
    have := Nx.put (α := α1) (H := H1) (H' := upd H1 Dl (.lst [])) (θ := θ1) (p := Dl) (e := .lst []) (same_new hD)
    rw [hβ, hlen1] at this
    exact this
  have S2 : Sta X.K (upd H1 Dl (.lst [])) β (θ1 ++ [.lst []]) := by
    have := S1.new (p := Dl) (e := .lst []) hD (same_new hD) ⟨[], upd_same, Reps.nil⟩
    rw [hβ] at this
    exact this
  refine ⟨fun i m H' => m = ds.length - i ∧ i ≤ ds.length ∧ ∃ acc : List D, Nx β (θ1.length + 1) (upd H1 Dl (.lst [])) β (θ1.length + 1) H' ∧ Sta X.K H' β (θ1 ++ [.lst acc]) ∧ acc.length ≤ i ∧
    cLoop t tt te (wipeG Γ (own.map (·.2))) θ1 (ds.drop i) acc (fun acc => D.lts θ1.length acc ∧ k (.lst acc) θ1), ⟨ds.length, by simp, Nat.zero_le _, [], Nx.refl _ _ _, S2, Nat.zero_le _, q1⟩, ?_⟩
  rintro i m H' ⟨rfl, hi, acc, nx, S', hacc, q'⟩
  obtain ⟨h1, h2⟩ := sim i β (θ1 ++ [.lst acc]) H' (by rw [hlen1]; exact n2.trans nx) S' (hst acc)
  by_cases hlt : i < ds.length
  · have hd : ds[i]? = some ds[i] := List.getElem?_eq_getElem hlt
    rw [List.drop_eq_getElem_cons hlt] at q'
    obtain ⟨hgo, hy⟩ := h1 _ hd
    have q'' : cTg t ds[i] (wipeG Γ (own.map (·.2))) fun Γ1 => tt Γ1 (θ1 ++ [.lst acc]) (fun b θ2 => θ2 = θ1 ++ [.lst acc] ∧ ifB b (te Γ1 (θ1 ++ [.lst acc]) (fun e θ3 => θ3 = θ1 ++ [.lst acc] ∧ cLoop t tt te (wipeG Γ (own.map (·.2))) θ1 (ds.drop (i + 1)) (acc ++ (some e).toList) (fun acc => D.lts θ1.length acc ∧ k (.lst acc) θ1)) noX) (cLoop t tt te (wipeG Γ (own.map (·.2))) θ1 (ds.drop (i + 1)) (acc ++ (none : Option D).toList) (fun acc => D.lts θ1.length acc ∧ k (.lst acc) θ1))) noX := q'
    refine .inr ⟨hgo, fun H2 => ∃ acc' : List D, Nx β (θ1.length + 1) (upd H1 Dl (.lst [])) β (θ1.length + 1) H2 ∧ Sta X.K H2 β (θ1 ++ [.lst acc']) ∧ acc'.length ≤ i + 1 ∧
      cLoop t tt te (wipeG Γ (own.map (·.2))) θ1 (ds.drop (i + 1)) acc' (fun acc => D.lts θ1.length acc ∧ k (.lst acc) θ1), ?_, ?_⟩
    · rintro H2 ⟨acc', p1, p2, p3, p4⟩
      exact ⟨_, by omega, rfl, hlt, acc', p1, p2, p3, p4⟩
    · intro x H'' y
      obtain ⟨sm, rx⟩ := hy x H'' y
      rw [hlen1] at rx
      have ny : Nx β (θ1.length + 1) H' β (θ1.length + 1) H'' := Nx.of _ _ (Pers.same sm)
      have nn := nx.trans ny
      have S'' := S'.same sm
      refine tg_run hv (α := β) (N := θ1.length + 1) (Γ := wipeG Γ (own.map (·.2))) (G1.mono (n2.trans nn)) rx q'' fun Γ1 σ1 Gs hw q3 => ⟨hw, ?_⟩
      refine ⟨β, _, Γ1, _, _, S'', by rw [hlen1]; exact Gs, q3, fun b θ2 α2 H2 m2 T2 ⟨e2, q4⟩ => ?_, fun _ _ _ _ _ _ z => z.elim⟩
      subst e2
      rw [hlen1] at m2
      have T2' := T2.congr (α' := β) fun m hm => (m2.ag m (by rw [hlen1] at hm; exact hm)).symm
      have m2' : Nx β (θ1.length + 1) H'' β (θ1.length + 1) H2 := Nx.of _ _ m2.per
      cases b with
      | false =>
        rw [if_neg Bool.false_ne_true]
        have q5 := q4.2 rfl
        refine ⟨acc, nn.trans m2', T2', by omega, ?_⟩
        have e0 : acc ++ (none : Option D).toList = acc := List.append_nil _
        rw [e0] at q5
        exact q5
      | true =>
        rw [if_pos rfl]
        refine ⟨β, _, Γ1, _, _, T2', by rw [hlen1]; exact Gs.mono m2', q4.1 rfl, fun d θ3 α3 H3 v m3 T3 r3 ⟨e3, q5⟩ => ?_, fun _ _ _ _ _ _ z => z.elim⟩
        subst e3
        rw [hlen1] at m3 r3
        have T3' := T3.congr (α' := β) fun m hm => (m3.ag m (by rw [hlen1] at hm; exact hm)).symm
        have m3' : Nx β (θ1.length + 1) H2 β (θ1.length + 1) H3 := Nx.of _ _ m3.per
        have r3' : Rep X.K H3 β (θ1.length + 1) d v := Rep.mono (α := α3) ⟨fun m hm => (m3.ag m hm).symm, Nat.le_refl _, Pers.refl _⟩ _ _ r3
        have hget : (θ1 ++ [Ent.lst acc])[θ1.length]? = some (.lst acc) := by simp
        have hnl : θ1.length < (θ1 ++ [Ent.lst acc]).length := by rw [hlen1]; exact Nat.lt_succ_self _
        have hset : (θ1 ++ [Ent.lst acc]).set θ1.length (.lst (acc ++ [d])) = θ1 ++ [.lst (acc ++ [d])] := by simp
        obtain ⟨us, hu, ru⟩ := T3'.ent _ _ hget
        rw [hβ0] at hu
        rw [hlen1] at ru
        refine ⟨us, hu, by rw [← ru.length]; exact Nat.lt_of_lt_of_le (by omega : acc.length < 100000 + 1) (by rw [sizeLine_eq]; decide), acc ++ [d], ?_, ?_, by simp; omega, ?_⟩
        · refine (nn.trans (m2'.trans m3')).trans ⟨fun _ _ => rfl, Nat.le_refl _, Pers.write hu trivial⟩
        · have n9 : Nx β (θ1.length + 1) H3 β (θ1.length + 1) (upd H3 Dl (.lst (us ++ [v]))) := ⟨fun _ _ => rfl, Nat.le_refl _, Pers.write hu trivial⟩
          have := T3'.write (n := θ1.length) (e' := .lst (acc ++ [d])) (u := .lst us) (o := .lst (us ++ [v])) hnl (by rw [hβ0]; exact hu) trivial (by
            rw [hβ0, List.length_set, hlen1]
            exact ⟨_, upd_same, (Reps.mono n9 _ _ ru).append (Reps.cons (Rep.mono n9 _ _ r3') Reps.nil)⟩)
          rw [hset, hβ0] at this
          exact this
        · exact q5
  · have e : i = ds.length := by omega
    subst e
    rw [List.drop_length] at q'
    obtain ⟨hlts, hk⟩ := q'
    refine .inl ⟨h2 (Nat.le_refl _), hQ _ _ ?_⟩
    have hget : (θ1 ++ [Ent.lst acc])[θ1.length]? = some (.lst acc) := by simp
    obtain ⟨us, hu, ru⟩ := S'.ent _ _ hget
    rw [hβ0] at hu
    have htk : (θ1 ++ [Ent.lst acc]).take θ1.length = θ1 := by simp
    have S9 : Sta X.K H' β θ1 := by
      have := S'.take (m := θ1.length) (by rw [htk]; exact S1.lt)
      rw [htk] at this
      exact this
    have ru' := Reps.shrink (N' := θ1.length) _ _ ru hlts
    refine .inr ⟨Dl, us, rfl, hu, fun o => ?_⟩
    have off : ∀ n, n < θ1.length → β n ≠ Dl := fun n hn z => by
      have := S'.inj n θ1.length (by rw [hlen1]; omega) (by rw [hlen1]; omega) (by rw [z, hβ0])
      omega
    have pw : Pers H' (upd H' Dl (.frz o (.lst us))) := Pers.write hu trivial
    have n8 : Nx β θ1.length H' β θ1.length (upd H' Dl (.frz o (.lst us))) := Nx.of _ _ pw
    have S8 : Sta X.K (upd H' Dl (.frz o (.lst us))) β θ1 := ⟨fun n en hn => (S9.ent n en hn).mono n8 fun o' ho => by
      have hl : n < θ1.length := (List.getElem?_eq_some_iff.mp hn).1
      rw [upd_ne (off n hl)]; exact ho, S9.inj⟩
    have nfull : Nx α1 θ1.length H1 β θ1.length (upd H' Dl (.frz o (.lst us))) :=
      ⟨fun m hm => n2.ag m hm, Nat.le_refl _, (n2.per.trans nx.per).trans pw⟩
    refine lk1 (.lst acc) θ1 β _ (.ref Dl) nfull S8 ?_ hk
    unfold Rep
    exact ⟨Dl, us, rfl, ⟨o, upd_same⟩, Reps.mono n8 _ _ ru'⟩
theorem xe_lc (hc : X.calm = true) (hN : X.N.Nodup) (hi : XI X W tg it ai) (ok : BlkOk X.N X.env.scope scope own) (hv : ∀ i ∈ t.slots, i ∈ own.map (·.2))
    (hg : ∀ (s : Shared) (H : Hp) (C : Addr) (cl : List (Str × Addr)) (fp : List Addr), PG (X.blk s H scope (compEnvC scope cl C X.env) fp) tg (tgC X.K t))
    (ht : ∀ (s : Shared) (H : Hp) (C : Addr) (cl : List (Str × Addr)) (fp : List Addr), XTs (X.blk s H scope (compEnvC scope cl C X.env) fp) W0 ifs tt)
    (he : ∀ (s : Shared) (H : Hp) (C : Addr) (cl : List (Str × Addr)) (fp : List Addr), XE' (X.blk s H scope (compEnvC scope cl C X.env) fp) W0 elt te) (hs : ∀ x, foldedSetIterable it X.env x = pure x := by intro _; rfl) :
    XE' X W (.ListComp elt [⟨tg, it, ifs, 0⟩] scope pos) (aLc ai t tt te (own.map (·.2))) :=
  pe_imp (pe_frz (pe_lc hc hN hi ok hg ht he hs)) fun _ _ _ h => lc_imp hv (fun _ _ z => z) h
/-! ### name = [..] on one line -/
def FrN (Q : L2.St → Hp → Prop) : L2.St → Hp → Prop := fun σ H => Q σ H ∨ ∃ p xs, H p = some (.lst xs) ∧ ∀ o, Q σ (upd H p (.frz o (.lst xs)))
theorem ps_frz {st : Stmt} {s : TS} (h : PS X st s) : PS X st (fun Dn σ H => s { Dn with nx := FrN Dn.nx } σ H) := by
  refine ⟨fun pins s0 σ H Dn I q => ?_⟩
  refine thn (h.run pins s0 σ H _ I q) fun f s1 h1 => ?_
  cases f with
  | next =>
    obtain ⟨σ1, H1, I1, q1 | ⟨p, xs, hp, q1⟩⟩ := h1
    · exact ⟨σ1, H1, I1, q1⟩
    · obtain ⟨o, I2⟩ := I1.lock hp trivial
      exact ⟨σ1, _, I2, q1 o⟩
  | brk => exact h1
  | cont => exact h1
  | ret u => exact h1
theorem xs_setLc {i : Nat} {y : Str} {py spos : Pos} (hc : X.calm = true) (hN : X.N.Nodup) (hy : X.N[i]? = some y) (hyl : X.env.scope.names.lookup y = some .local)
    (hsw : swapsWith (.ListComp elt [⟨tg, it, ifs, 0⟩] scope pos) (some (.Name y py)) spos.line X.env = pure true) (hi : XI X W tg it ai) (ok : BlkOk X.N X.env.scope scope own) (hv : ∀ i ∈ t.slots, i ∈ own.map (·.2))
    (hg : ∀ (s : Shared) (H : Hp) (C : Addr) (cl : List (Str × Addr)) (fp : List Addr), PG (X.blk s H scope (compEnvC scope cl C X.env) fp) tg (tgC X.K t))
    (ht : ∀ (s : Shared) (H : Hp) (C : Addr) (cl : List (Str × Addr)) (fp : List Addr), XTs (X.blk s H scope (compEnvC scope cl C X.env) fp) W0 ifs tt)
    (he : ∀ (s : Shared) (H : Hp) (C : Addr) (cl : List (Str × Addr)) (fp : List Addr), XE' (X.blk s H scope (compEnvC scope cl C X.env) fp) W0 elt te) (hs : ∀ x, foldedSetIterable it X.env x = pure x := by intro _; rfl) :
    XS X W (.Assign [.Name y py] (.ListComp elt [⟨tg, it, ifs, 0⟩] scope pos) spos) (aAsg (aLc ai t tt te (own.map (·.2))) (gN i)) :=
  ps_imp (ps_frz (ps_setLc hc hN hy hyl hsw hi ok hg ht he hs)) (by
    rintro Dn σ H ⟨α, θ, Γ, E, S, G, q, lk⟩
    refine lc_imp (Q := fun v H1 => gName i v σ H1 Dn.nx) hv (fun v H1 z => ?_) ⟨α, θ, Γ, _, _, S, G, q, fun d θ1 α1 H1 v n1 S1 r1 q1 => gName_imp _ _ _ _ ⟨α1, θ1, Γ, d, _, S1, G.mono n1, r1, q1, lk.nx.on n1⟩, lk.ex.atG G⟩
    rcases z with z | ⟨p, xs, rfl, hp, z⟩
    · exact .inl z
    · exact .inr ⟨p, xs, hp, z⟩)
end
end AB
namespace AB
open PySem PySem.Spec PyProof.Rows L2
/-! ### a def of the text -/
abbrev EW (E : XK) : WX := fun c d _ H => E c d H
/-- what lies behind the state's first entries may be forgotten -/
def aBack (n : Nat) (k : AK) : AK := fun d θ => k d θ ∨ ∃ θ' ex, θ = θ' ++ ex ∧ n ≤ θ'.length ∧ D.lt θ'.length d ∧ (∀ e ∈ θ', Ent.lt θ'.length e) ∧ k d θ'
def aBackX (n : Nat) (k : AX) : Value → AB.G → Th → Prop := fun c _ θ => k c θ ∨ ∃ θ' ex, θ = θ' ++ ex ∧ n ≤ θ'.length ∧ (∀ e ∈ θ', Ent.lt θ'.length e) ∧ k c θ'
def startG (n : Nat) (ds : List D) : AB.G := ds.map some ++ List.replicate (n - ds.length) none
abbrev eBody (n : Nat) (k : AK) (kx : AX) : AE := ⟨fun _ θ => aBack n k .non θ, aBack n k, fun _ _ => False, fun _ _ => False, aBackX n kx⟩
theorem slots_start {K : PySem.W.Frag} {H : Hp} {α : Nat → Addr} {M : Nat} {N : List Str} {ds : List D} {vs : List V} (r : Reps K H α M ds vs) : Slots K H α M (L2.start N vs) (startG N.length ds) := by
  refine ⟨by unfold startG L2.start; simp [r.length], fun i d h => ?_⟩
  unfold startG at h
  have hi : i < ds.length := by
    by_cases hi : i < ds.length
    · exact hi
    · rw [List.getElem?_append_right (by simpa using Nat.le_of_not_lt hi)] at h
      have := List.mem_of_getElem? h
      have := List.eq_of_mem_replicate this
      cases this
  rw [List.getElem?_append_left (by simpa using hi), List.getElem?_map] at h
  have hd : ds[i]? = some d := by
    cases e : ds[i]? with
    | none => rw [e] at h; cases h
    | some z => rw [e] at h; cases h; rfl
  obtain ⟨v, h1, h2⟩ := r.get hd
  refine ⟨v, ?_, h2⟩
  have hv : i < vs.length := by rw [← r.length]; exact hi
  unfold L2.start
  rw [List.getElem?_append_left (by simpa using hv), List.getElem?_map, h1]
  rfl
theorem sta_back {K : PySem.W.Frag} {α : Nat → Addr} {H : Hp} {θ' ex : Th} (S : Sta K H α (θ' ++ ex)) (he : ∀ e ∈ θ', Ent.lt θ'.length e) : Sta K H α θ' := by
  have htk : (θ' ++ ex).take θ'.length = θ' := by simp
  have := S.take (m := θ'.length) (by rw [htk]; exact he)
  rw [htk] at this
  exact this
theorem LkV.back {K : PySem.W.Frag} {α : Nat → Addr} {n : Nat} {H : Hp} {k : AK} {Q : VK} (h : LkV K α n H k Q) : LkV K α n H (aBack n k) Q := by
  intro d θ2 α2 H2 v n2 S2 r2 q
  rcases q with q | ⟨θ', ex, rfl, hle, hd, he, q⟩
  · exact h d θ2 α2 H2 v n2 S2 r2 q
  · exact h d θ' α2 H2 v ⟨n2.ag, hle, n2.per⟩ (sta_back S2 he) (Rep.shrink _ _ r2 hd) q
theorem LkX.back {K : PySem.W.Frag} {α : Nat → Addr} {n : Nat} {H : Hp} {k : AX} {E : XK} (h : LkX K α n H k E) : LkW K α n H (aBackX n k) (EW E) := by
  intro c Γ θ2 α2 σ2 H2 n2 S2 G2 q
  rcases q with q | ⟨θ', ex, rfl, hle, he, q⟩
  · exact h c θ2 α2 H2 n2 S2 q
  · exact h c θ' α2 H2 ⟨n2.ag, hle, n2.per⟩ (sta_back S2 he) q
section
variable {P : Program} {w : World} {K : PySem.W.Frag} {mg : Str → Option Value} {base : Heap}
theorem okA {A : ASp} {t : ASR} {x qual : Str} {st : Stmt} {f : Addr} {fd : FuncData} {N ps : List Str} {lv : Nat} (F : Fun K x qual st f fd) (S : FnScope N ps (defScope st)) (len : ∀ ds θ k kx, A ds θ k kx → ds.length = ps.length)
    (hb : ∀ (cdv : Value) (A0 : Around) (outer : List Env) (s : Shared) (H : Hp) (E : XK), Room lv (A0.deeper (envOfC qual (defScope st) s.heap.objs.size f cdv)) →
      XSs (cxOf (L2.CX P w) P w K mg base N qual (defScope st) f cdv A0 outer s H E) (EW E) (defBody st) t)
    (hr : ∀ ds θ k kx, (∀ e ∈ θ, Ent.lt θ.length e) → A ds θ k kx → t (eBody θ.length k kx) (startG N.length ds) θ) : FnOk P w K mg base (L2.CX P w) (lv + 1) f fd ps (LF K A) := by
  refine F.okX S (fun vs H Q E h => ?_) (fun cdv A0 outer s H vs Q E hrm h => ?_)
  · obtain ⟨α, θ, ds, k, kx, Sa, r, q, _, _⟩ := h
    rw [← r.length]
    exact len ds θ k kx q
  · refine ⟨_, hb cdv A0 outer s H E hrm, ?_⟩
    obtain ⟨α, θ, ds, k, kx, Sa, r, q, lk, lx⟩ := h
    exact ⟨α, θ, startG N.length ds, eBody θ.length k kx, Sa, slots_start r, hr ds θ k kx Sa.lt q, ⟨fun Γ θ' α' σ' H' nx S' G' q' => lk.back .non θ' α' H' .non nx S' (by unfold Rep; rfl) q', lk.back, fun _ _ _ _ _ _ _ _ z => z.elim, fun _ _ _ _ _ _ _ _ z => z.elim, lx.back⟩⟩
/-- the promise of a law: a list of at most 63 ints in, True out -/
def aLaw : ASp := fun ds θ k _ => ∃ ns : List Int, ds = [.lsk (ns.map D.int)] ∧ ns.length ≤ 63 ∧ θ = [] ∧ ∀ θ', k (.bl true) θ'
theorem sqL_fk {K : PySem.W.Frag} {H : Hp} {a : Addr} {xs : List V} (h : SqL K H a xs) (ho : Only H) : FkL K H a xs := by
  rcases h with h | h
  · rcases h with h | h
    · rcases ho a with z | ⟨o, ys, z⟩
      · rw [z] at h; cases h
      · rw [z] at h; cases h
    · exact .inl h
  · exact .inr h
theorem law_sp {K : PySem.W.Frag} {H : Hp} {a : Addr} {ns : List Int} (hl : ns.length ≤ 63) (ho : Only H) (hS : SqL K H a (ns.map V.int)) : LF K aLaw [.ref a] H (fun v _ => v = .bl true) fun _ _ _ => False := by
  refine ⟨fun _ => 0, [], [.lsk (ns.map D.int)], fun d _ => d = .bl true, fun _ _ => False, ⟨fun n e h => (by cases h), fun n m h => absurd h (Nat.not_lt_zero _)⟩, Reps.cons ?_ Reps.nil, ⟨ns, rfl, hl, rfl, fun _ => rfl⟩, ?_, ?_⟩
  · unfold Rep
    exact ⟨a, _, rfl, sqL_fk hS ho, reps_ints ns⟩
  · intro d θ' α' H' v n S r e
    subst e
    unfold Rep at r
    exact r
  · intro c θ' α' H' n S z
    exact z
theorem walkA {l : PySem.W.OpenLaw} {q : Program} {loose : List Str} {XP : (Str → Option Value) → Heap → Prop} {YP : World → Heap → Prop} {d : DefRec} {K : Params → PySem.W.Frag} {k : Nat} {x : Str} (hn : l.most = some 63) (hdf : d.params.defaults = []) (hr : Room k callerA)
    (hY : ∀ (w : World) (h : Heap), YP w h → (K w.params).In h)
    (F : ∀ (w : World) (mg : Str → Option Value) (fa : Addr) (h : Heap), (K w.params).In h → h.Ns mainGlobals mg → mg d.name = some (.ref fa) →
      ∃ fd : FuncData, (∀ (s : Shared) (u : Value), BindsTo s fd ⟨[u], []⟩ [(x, u)]) ∧ ∀ base : Heap, (K w.params).In base → base.Ns mainGlobals mg → FnOk l.prog w (K w.params) mg base (L2.CX l.prog w) k fa fd [x] (LF (K w.params) aLaw)) :
    PySem.W.WalkO q loose XP YP l.row.toRowW d [] (fun f vs => PySem.call f vs) :=
  L2.walk_of (n := 63) (k := k) (x := x) (CX := fun w => L2.CX l.prog w) (sp := fun w => LF (K w.params) aLaw) hn (by decide) hdf hr hY F (fun _ _ a ns hl ho hS => law_sp hl ho hS) (fun w H s e s' z => by
    obtain ⟨_, _, _, _, _, _, _, _, _, _, _, _, z⟩ := z
    exact z.elim)
end
/-! ### raise X('..') -/
section
variable {X : Cx} {W : WX} {pos : Pos}
@[reducible] def aRaise (C : Addr) : ASR := fun E Γ θ => E.ex (.ref C) Γ θ
theorem xs_raise {e : Expr} {C : Addr} (hc : X.calm = true) (tk : Takes X W) (he : PMk X e (fun _ H Q => Q (.ref C) none H)) : XS X W (.Raise (some e) none pos) (aRaise C) := ps_imp (ps_raise hc tk he) (by
  rintro Dn σ H ⟨α, θ, Γ, E, S, G, q, lk⟩
  exact lk.ex _ Γ θ α σ H (Nx.refl _ _ _) S G q)
/-- a name of the module that holds a text, a class, a type -/
theorem xe_glob {x : Str} {d : D} {v : V} (hg : Gl X x) (h : ∃ u, X.mg x = some u ∧ RelV v u) (r : ∀ H α N, Rep X.K H α N d v) (hd : (x == ("__debug__" : Str)) = false := by decide) : XE' X W (.Name x pos) (aC d) := by
  obtain ⟨u, hm, rv⟩ := h
  refine pe_imp (pe_glob hg hm rv hd) ?_
  rintro σ H Q ⟨α, θ, Γ, k, kx, S, G, q, lk, lx⟩
  exact lk d θ α H v (Nx.refl _ _ _) S (r _ _ _) q
theorem xe_gstr {x z : Str} (hg : Gl X x) (h : ∃ t, X.mg x = some (.str z t)) (hd : (x == ("__debug__" : Str)) = false := by decide) : XE' X W (.Name x pos) (aC (.str z)) :=
  xe_glob (v := .str z) hg (by obtain ⟨t, h⟩ := h; exact ⟨_, h, t, rfl⟩) (fun _ _ _ => by unfold Rep; rfl) hd
theorem xe_gint {x : Str} {z : Int} (hg : Gl X x) (h : ∃ t, X.mg x = some (.int z t)) (hd : (x == ("__debug__" : Str)) = false := by decide) : XE' X W (.Name x pos) (aC (.int z)) :=
  xe_glob (v := .int z) hg (by obtain ⟨t, h⟩ := h; exact ⟨_, h, t, rfl⟩) (fun _ _ _ => by unfold Rep; rfl) hd
theorem xe_ty {x : Str} {T : String} (hg : Gl X x) (hm : X.mg x = none) (hv : bootBuiltins x = some (.type T)) (hn : x ≠ "__name__" := by decide) (hd : (x == ("__debug__" : Str)) = false := by decide) : XE' X W (.Name x pos) (aC (.raw (.ty T))) :=
  xe_c (v := .ty T) (pe_bltn hg hm hv rfl hn hd) fun _ _ _ _ => by unfold Rep; rfl
end
end AB
namespace AB
open PySem PySem.Spec PyProof.Rows L2
theorem bt_len : bootBuiltins "len" = some (.builtin "len") := by decide +kernel
theorem bt_str : bootBuiltins "str" = some (.type "str") := by decide +kernel
theorem bt_int : bootBuiltins "int" = some (.type "int") := by decide +kernel
theorem bt_tuple : bootBuiltins "tuple" = some (.type "tuple") := by decide +kernel
theorem bt_list : bootBuiltins "list" = some (.type "list") := by decide +kernel
theorem bt_dict : bootBuiltins "dict" = some (.type "dict") := by decide +kernel
theorem bt_set : bootBuiltins "set" = some (.type "set") := by decide +kernel
theorem bt_bool : bootBuiltins "bool" = some (.type "bool") := by decide +kernel
theorem bt_ord : bootBuiltins "ord" = some (.builtin "ord") := by decide +kernel
theorem bt_sum : bootBuiltins "sum" = some (.builtin "sum") := by decide +kernel
theorem bt_all : bootBuiltins "all" = some (.builtin "all") := by decide +kernel
theorem bt_any : bootBuiltins "any" = some (.builtin "any") := by decide +kernel
theorem bt_max : bootBuiltins "max" = some (.builtin "max") := by decide +kernel
theorem bt_min : bootBuiltins "min" = some (.builtin "min") := by decide +kernel
theorem bt_sorted : bootBuiltins "sorted" = some (.builtin "sorted") := by decide +kernel
theorem bt_isinstance : bootBuiltins "isinstance" = some (.builtin "isinstance") := by decide +kernel
section
variable {X : Cx} {W : WX} {a b o e : Expr} {es : List Expr} {ra ro : AR} {rs : AAR} {pos p apos cpos : Pos}
abbrev NoN (X : Cx) (x : Str) : Prop := X.mg x = none
theorem xf_len (hg : Gl X "len") (hm : NoN X "len") (ha : XA X W (e :: es) rs) (he : starEach (e :: es) X.env = (false, eval e X.env) :: starEach es X.env := by rfl) (hpl : (backTo pos (starEach es X.env)).any (·.1) = false := by rfl) :
    XE' X W (.Call (.Name "len" p) (e :: es) [] pos) (aCB fLen rs) := xe_cb call_len sim_len hg hm bt_len ha (by decide) (by decide) he hpl
theorem xf_str (hg : Gl X "str") (hm : NoN X "str") (ha : XA X W (e :: es) rs) (he : starEach (e :: es) X.env = (false, eval e X.env) :: starEach es X.env := by rfl) (hpl : (backTo pos (starEach es X.env)).any (·.1) = false := by rfl) :
    XE' X W (.Call (.Name "str" p) (e :: es) [] pos) (aCB fStr rs) := xe_cbT call_str_int sim_str hg hm bt_str ha (by decide) (by decide) he hpl
theorem xf_int (hg : Gl X "int") (hm : NoN X "int") (ha : XA X W (e :: es) rs) (he : starEach (e :: es) X.env = (false, eval e X.env) :: starEach es X.env := by rfl) (hpl : (backTo pos (starEach es X.env)).any (·.1) = false := by rfl) :
    XE' X W (.Call (.Name "int" p) (e :: es) [] pos) (aCB fInt rs) := xe_cbT (call_int1.or call_int_str) sim_int hg hm bt_int ha (by decide) (by decide) he hpl
theorem xf_ord (hg : Gl X "ord") (hm : NoN X "ord") (ha : XA X W (e :: es) rs) (he : starEach (e :: es) X.env = (false, eval e X.env) :: starEach es X.env := by rfl) (hpl : (backTo pos (starEach es X.env)).any (·.1) = false := by rfl) :
    XE' X W (.Call (.Name "ord" p) (e :: es) [] pos) (aCB fOrd rs) := xe_cb call_ord sim_ord hg hm bt_ord ha (by decide) (by decide) he hpl
theorem xf_sum (hcm : X.calm = true) (hg : Gl X "sum") (hm : NoN X "sum") (ha : XA X W (e :: es) rs) (he : starEach (e :: es) X.env = (false, eval e X.env) :: starEach es X.env := by rfl) (hpl : (backTo pos (starEach es X.env)).any (·.1) = false := by rfl) :
    XE' X W (.Call (.Name "sum" p) (e :: es) [] pos) (aCB fSum rs) := xe_cb (cr_sum hcm) sim_sum hg hm bt_sum ha (by decide) (by decide) he hpl
theorem xf_all (hcm : X.calm = true) (hg : Gl X "all") (hm : NoN X "all") (ha : XA X W (e :: es) rs) (he : starEach (e :: es) X.env = (false, eval e X.env) :: starEach es X.env := by rfl) (hpl : (backTo pos (starEach es X.env)).any (·.1) = false := by rfl) :
    XE' X W (.Call (.Name "all" p) (e :: es) [] pos) (aCB fAll rs) := xe_cb (cr_all hcm) sim_all hg hm bt_all ha (by decide) (by decide) he hpl
theorem xf_any (hcm : X.calm = true) (hg : Gl X "any") (hm : NoN X "any") (ha : XA X W (e :: es) rs) (he : starEach (e :: es) X.env = (false, eval e X.env) :: starEach es X.env := by rfl) (hpl : (backTo pos (starEach es X.env)).any (·.1) = false := by rfl) :
    XE' X W (.Call (.Name "any" p) (e :: es) [] pos) (aCB fAny rs) := xe_cb (cr_any hcm) sim_any hg hm bt_any ha (by decide) (by decide) he hpl
theorem xf_tuple (hg : Gl X "tuple") (hm : NoN X "tuple") (ha : XA X W (e :: es) rs) (he : starEach (e :: es) X.env = (false, eval e X.env) :: starEach es X.env := by rfl) (hpl : (backTo pos (starEach es X.env)).any (·.1) = false := by rfl) :
    XE' X W (.Call (.Name "tuple" p) (e :: es) [] pos) (aCB fTuple rs) := xe_cbT call_tuple_of sim_tuple hg hm bt_tuple ha (by decide) (by decide) he hpl
theorem xf_max (hcm : X.calm = true) (hg : Gl X "max") (hm : NoN X "max") (ha : XA X W (e :: es) rs) (he : starEach (e :: es) X.env = (false, eval e X.env) :: starEach es X.env := by rfl) (hpl : (backTo pos (starEach es X.env)).any (·.1) = false := by rfl) :
    XE' X W (.Call (.Name "max" p) (e :: es) [] pos) (aCB fMax rs) := xe_cb (call_max2 hcm) sim_max hg hm bt_max ha (by decide) (by decide) he hpl
theorem xf_min (hcm : X.calm = true) (hg : Gl X "min") (hm : NoN X "min") (ha : XA X W (e :: es) rs) (he : starEach (e :: es) X.env = (false, eval e X.env) :: starEach es X.env := by rfl) (hpl : (backTo pos (starEach es X.env)).any (·.1) = false := by rfl) :
    XE' X W (.Call (.Name "min" p) (e :: es) [] pos) (aCB fMin rs) := xe_cb (call_min2 hcm) sim_min hg hm bt_min ha (by decide) (by decide) he hpl
theorem xf_sorted (hg : Gl X "sorted") (hm : NoN X "sorted") (ha : XA X W (e :: es) rs) (he : starEach (e :: es) X.env = (false, eval e X.env) :: starEach es X.env := by rfl) (hpl : (backTo pos (starEach es X.env)).any (·.1) = false := by rfl) :
    XE' X W (.Call (.Name "sorted" p) (e :: es) [] pos) (aCB fSort rs) := xe_cbF (cr_sortedI.or cr_sortedS) sim_sort hg hm bt_sorted ha (by decide) (by decide) he hpl
theorem xf_isinstance (hg : Gl X "isinstance") (hm : NoN X "isinstance") (ha : XA X W (e :: es) rs) (he : starEach (e :: es) X.env = (false, eval e X.env) :: starEach es X.env := by rfl) (hpl : (backTo pos (starEach es X.env)).any (·.1) = false := by rfl) :
    XE' X W (.Call (.Name "isinstance" p) (e :: es) [] pos) (aCB fIsi rs) := xe_cb (call_isi.or call_isiT) sim_isi hg hm bt_isinstance ha (by decide) (by decide) he hpl
theorem xm_join (ho : XE' X W o ro) (ha : XA X W (e :: es) rs)
    (hbase : attributeBase o "join" X.env (eval o X.env) = eval o X.env := by rfl)
    (hfew : ((backTo cpos (starEach (e :: es) X.env)).all (fun x => !x.1) && (backToKw cpos (keywordEach [] X.env)).all (fun x => x.1.isSome)
      && decide ((e :: es).length + ([] : List Keyword).length + (if ([] : List Keyword).isEmpty then 0 else 1) < 30)) = true := by rfl)
    (hline : (apos.endLine == cpos.line) = true := by rfl) (hs : starEach (e :: es) X.env = (false, eval e X.env) :: starEach es X.env := by rfl) (hplain : (backTo cpos (starEach es X.env)).any (·.1) = false := by rfl) :
    XE' X W (.Call (.Attribute o "join" apos) (e :: es) [] cpos) (aBM "str" fJoin ro rs) := xe_bm PySem.F.plainAttrs_str PySem.F.slot_str_join PySem.F.type_str_join mt_join sim_join ho ha hbase hfew hline hs hplain
theorem xm_zfill (ho : XE' X W o ro) (ha : XA X W (e :: es) rs)
    (hbase : attributeBase o "zfill" X.env (eval o X.env) = eval o X.env := by rfl)
    (hfew : ((backTo cpos (starEach (e :: es) X.env)).all (fun x => !x.1) && (backToKw cpos (keywordEach [] X.env)).all (fun x => x.1.isSome)
      && decide ((e :: es).length + ([] : List Keyword).length + (if ([] : List Keyword).isEmpty then 0 else 1) < 30)) = true := by rfl)
    (hline : (apos.endLine == cpos.line) = true := by rfl) (hs : starEach (e :: es) X.env = (false, eval e X.env) :: starEach es X.env := by rfl) (hplain : (backTo cpos (starEach es X.env)).any (·.1) = false := by rfl) :
    XE' X W (.Call (.Attribute o "zfill" apos) (e :: es) [] cpos) (aBM "str" fZfill ro rs) := xe_bm PySem.F.plainAttrs_str PySem.F.slot_str_zfill PySem.F.type_str_zfill mt_zfill sim_zfill ho ha hbase hfew hline hs hplain
theorem xm_startswith (ho : XE' X W o ro) (ha : XA X W (e :: es) rs)
    (hbase : attributeBase o "startswith" X.env (eval o X.env) = eval o X.env := by rfl)
    (hfew : ((backTo cpos (starEach (e :: es) X.env)).all (fun x => !x.1) && (backToKw cpos (keywordEach [] X.env)).all (fun x => x.1.isSome)
      && decide ((e :: es).length + ([] : List Keyword).length + (if ([] : List Keyword).isEmpty then 0 else 1) < 30)) = true := by rfl)
    (hline : (apos.endLine == cpos.line) = true := by rfl) (hs : starEach (e :: es) X.env = (false, eval e X.env) :: starEach es X.env := by rfl) (hplain : (backTo cpos (starEach es X.env)).any (·.1) = false := by rfl) :
    XE' X W (.Call (.Attribute o "startswith" apos) (e :: es) [] cpos) (aBM "str" fStarts ro rs) := xe_bm PySem.F.plainAttrs_str PySem.F.slot_str_startswith PySem.F.type_str_startswith mt_startswith sim_starts ho ha hbase hfew hline hs hplain
theorem xm_count (ho : XE' X W o ro) (ha : XA X W (e :: es) rs)
    (hbase : attributeBase o "count" X.env (eval o X.env) = eval o X.env := by rfl)
    (hfew : ((backTo cpos (starEach (e :: es) X.env)).all (fun x => !x.1) && (backToKw cpos (keywordEach [] X.env)).all (fun x => x.1.isSome)
      && decide ((e :: es).length + ([] : List Keyword).length + (if ([] : List Keyword).isEmpty then 0 else 1) < 30)) = true := by rfl)
    (hline : (apos.endLine == cpos.line) = true := by rfl) (hs : starEach (e :: es) X.env = (false, eval e X.env) :: starEach es X.env := by rfl) (hplain : (backTo cpos (starEach es X.env)).any (·.1) = false := by rfl) :
    XE' X W (.Call (.Attribute o "count" apos) (e :: es) [] cpos) (aBM "str" fCount ro rs) := xe_bm PySem.F.plainAttrs_str PySem.F.slot_str_count PySem.F.type_str_count mt_count sim_count ho ha hbase hfew hline hs hplain
theorem xm_split (ho : XE' X W o ro) (ha : XA X W (e :: es) rs)
    (hbase : attributeBase o "split" X.env (eval o X.env) = eval o X.env := by rfl)
    (hfew : ((backTo cpos (starEach (e :: es) X.env)).all (fun x => !x.1) && (backToKw cpos (keywordEach [] X.env)).all (fun x => x.1.isSome)
      && decide ((e :: es).length + ([] : List Keyword).length + (if ([] : List Keyword).isEmpty then 0 else 1) < 30)) = true := by rfl)
    (hline : (apos.endLine == cpos.line) = true := by rfl) (hs : starEach (e :: es) X.env = (false, eval e X.env) :: starEach es X.env := by rfl) (hplain : (backTo cpos (starEach es X.env)).any (·.1) = false := by rfl) :
    XE' X W (.Call (.Attribute o "split" apos) (e :: es) [] cpos) (aBM "str" fSplit ro rs) := xe_bmF PySem.F.plainAttrs_str PySem.F.slot_str_split PySem.F.type_str_split mt_split sim_split ho ha hbase hfew hline hs hplain
theorem xm_append (ho : XE' X W o ro) (ha : XA X W (e :: es) rs)
    (hbase : attributeBase o "append" X.env (eval o X.env) = eval o X.env := by rfl)
    (hfew : ((backTo cpos (starEach (e :: es) X.env)).all (fun x => !x.1) && (backToKw cpos (keywordEach [] X.env)).all (fun x => x.1.isSome)
      && decide ((e :: es).length + ([] : List Keyword).length + (if ([] : List Keyword).isEmpty then 0 else 1) < 30)) = true := by rfl)
    (hline : (apos.endLine == cpos.line) = true := by rfl) (hs : starEach (e :: es) X.env = (false, eval e X.env) :: starEach es X.env := by rfl) (hplain : (backTo cpos (starEach es X.env)).any (·.1) = false := by rfl) :
    XE' X W (.Call (.Attribute o "append" apos) (e :: es) [] cpos) (aBM "list" fAppend ro rs) := xe_bm PySem.F.plainAttrs_list PySem.F.slot_list_append PySem.F.type_list_append mt_append sim_append ho ha hbase hfew hline hs hplain
theorem xm_find3 (ho : XE' X W o ro) (ha : XA X W (e :: es) rs)
    (hbase : attributeBase o "find" X.env (eval o X.env) = eval o X.env := by rfl)
    (hfew : ((backTo cpos (starEach (e :: es) X.env)).all (fun x => !x.1) && (backToKw cpos (keywordEach [] X.env)).all (fun x => x.1.isSome)
      && decide ((e :: es).length + ([] : List Keyword).length + (if ([] : List Keyword).isEmpty then 0 else 1) < 30)) = true := by rfl)
    (hline : (apos.endLine == cpos.line) = true := by rfl) (hs : starEach (e :: es) X.env = (false, eval e X.env) :: starEach es X.env := by rfl) (hplain : (backTo cpos (starEach es X.env)).any (·.1) = false := by rfl) :
    XE' X W (.Call (.Attribute o "find" apos) (e :: es) [] cpos) (aBM "str" fFind3 ro rs) := xe_bm PySem.F.plainAttrs_str PySem.F.slot_str_find PySem.F.type_str_find mt_find3 sim_find3 ho ha hbase hfew hline hs hplain
end
end AB
namespace AB
open PySem PySem.Spec PyProof.Rows L2
/-! ### readings walked: one lemma a construct -/
section
variable {Γ Γ1 : AB.G} {θ : Th} {k : AK} {kt : Bool → Th → Prop} {ks : List D → Th → Prop} {kx : AX} {ra rb rc : AR} {rs : AAR} {d : D} {i j : Nat} {t u : ATR} {f g : F2} {p : Prop} [Decidable p] {b : Bool} {A B : Prop}
theorem w_var (h : Γ[i]? = some (some d)) (q : k d θ) : aVar i Γ θ k kx := ⟨d, h, q⟩
theorem w_c (q : k d θ) : aC d Γ θ k kx := q
theorem w_bin (q : ra Γ θ (fun x θ1 => rb Γ θ1 (fun y θ2 => f x y θ2 k) kx) kx) : aBin f ra rb Γ θ k kx := q
theorem w_un {f : D → Th → AK → Prop} (q : ra Γ θ (fun x θ1 => f x θ1 k) kx) : aUn f ra Γ θ k kx := q
theorem w_tst (q : ra Γ θ (fun x θ1 => ∃ b, x = .bl b ∧ kt b θ1) kx) : aTst ra Γ θ kt kx := q
theorem w_tru (q : ra Γ θ (fun x θ1 => ∃ b, truAns θ1 x b ∧ kt b θ1) kx) : aTru ra Γ θ kt kx := q
theorem w_tst1 (q : kt b θ) : ∃ c, D.bl b = .bl c ∧ kt c θ := ⟨b, rfl, q⟩
theorem w_truB (q : kt b θ) : ∃ c, truAns θ (.bl b) c ∧ kt c θ := ⟨b, rfl, q⟩
theorem w_truL {xs : List D} (q : kt (!xs.isEmpty) θ) : ∃ c, truAns θ (.lst xs) c ∧ kt c θ := ⟨_, rfl, q⟩
theorem w_truO {n : Nat} {xs : List D} (h : θ[n]? = some (.lst xs)) (q : kt (!xs.isEmpty) θ) : ∃ c, truAns θ (.obj n) c ∧ kt c θ := ⟨_, .inl ⟨_, h, rfl⟩, q⟩
theorem w_truT {xs : List D} (q : kt (!xs.isEmpty) θ) : ∃ c, truAns θ (.tup xs) c ∧ kt c θ := ⟨_, rfl, q⟩
theorem w_truI {z : Int} (q : kt (z != 0) θ) : ∃ c, truAns θ (.int z) c ∧ kt c θ := ⟨_, rfl, q⟩
theorem w_truN (q : kt false θ) : ∃ c, truAns θ .non c ∧ kt c θ := ⟨_, rfl, q⟩
theorem w_nil (q : ks [] θ) : aNil Γ θ ks kx := q
theorem w_cons (q : ra Γ θ (fun x θ1 => rs Γ θ1 (fun xs θ2 => ks (x :: xs) θ2) kx) kx) : aCons ra rs Γ θ ks kx := q
theorem w_tup (q : rs Γ θ (fun xs θ1 => xs.length ≤ 100000 ∧ k (.tup xs) θ1) kx) : aTup rs Γ θ k kx := q
theorem w_lst (q : rs Γ θ (fun xs θ1 => xs.length ≤ 100000 ∧ k (.lst xs) θ1) kx) : aLst rs Γ θ k kx := q
theorem w_lstM (q : rs Γ θ (fun xs θ1 => xs.length ≤ 100000 ∧ k (.obj θ1.length) (θ1 ++ [.lst xs])) kx) : aLstM rs Γ θ k kx := q
theorem w_dicK (q : k (.obj θ.length) (θ ++ [.dK []])) : aDicK Γ θ k kx := q
theorem w_dicT (q : k (.obj θ.length) (θ ++ [.dT []])) : aDicT Γ θ k kx := q
theorem w_and (q : t Γ θ (fun c θ1 => ifB c (u Γ θ1 kt kx) (kt false θ1)) kx) : aAnd t u Γ θ kt kx := q
theorem w_or (q : t Γ θ (fun c θ1 => ifB c (kt true θ1) (u Γ θ1 kt kx)) kx) : aOr t u Γ θ kt kx := q
theorem w_not (q : t Γ θ (fun c θ1 => kt (!c) θ1) kx) : aNot t Γ θ kt kx := q
theorem w_yes (q : kt true θ) : aYes Γ θ kt kx := q
theorem w_andV (q : ra Γ θ (fun x θ1 => ∃ c, x = .bl c ∧ ifB c (rb Γ θ1 k kx) (k (.bl false) θ1)) kx) : aAndV ra rb Γ θ k kx := q
theorem w_orV (q : ra Γ θ (fun x θ1 => ∃ c, x = .bl c ∧ ifB c (k (.bl true) θ1) (rb Γ θ1 k kx)) kx) : aOrV ra rb Γ θ k kx := q
theorem w_notV (q : ra Γ θ (fun x θ1 => ∃ c, x = .bl c ∧ k (.bl (!c)) θ1) kx) : aNotV ra Γ θ k kx := q
theorem w_ifE (q : t Γ θ (fun c θ1 => ifB c (ra Γ θ1 k kx) (rb Γ θ1 k kx)) kx) : aIfE t ra rb Γ θ k kx := q
theorem w_chain (q : ra Γ θ (fun x θ1 => rb Γ θ1 (fun y θ2 => f x y θ2 fun z θ3 => ∃ c, z = .bl c ∧ ifB c (rc Γ θ3 (fun w θ4 => g y w θ4 k) kx) (k (.bl false) θ3)) kx) kx) : aChain f g ra rb rc Γ θ k kx := q
theorem w_bl (q : ifB b A B) : ∃ c, D.bl b = .bl c ∧ ifB c A B := ⟨b, rfl, q⟩
theorem w_blN (q : k (.bl (!b)) θ) : ∃ c, D.bl b = .bl c ∧ k (.bl (!c)) θ := ⟨b, rfl, q⟩
theorem w_cb {f : FA} (q : rs Γ θ (fun xs θ1 => f xs θ1 k) kx) : aCB f rs Γ θ k kx := q
theorem w_bm {T : String} {f : FM} (q : ra Γ θ (fun x θ1 => tyOk T x θ1 ∧ rs Γ θ1 (fun xs θ2 => f x xs θ2 k) kx) kx) : aBM T f ra rs Γ θ k kx := q
theorem w_call {A : ASp} (q : rs Γ θ (fun ds θ1 => A ds θ1 k kx) kx) : aCall A rs Γ θ k kx := q
theorem w_get2 (q : ra Γ θ (fun x θ1 => isDic θ1 x ∧ rb Γ θ1 (fun y θ2 => rc Γ θ2 (fun z θ3 => ∃ r, dGet θ3 x y = some r ∧ k (r.getD z) θ3) kx) kx) kx) : aGet2 ra rb rc Γ θ k kx := q
theorem w_ite (h1 : b = true → A) (h2 : b = false → B) : ifB b A B := ⟨h1, h2⟩
theorem w_if (h1 : p → A) (h2 : ¬ p → B) : ifB (decide p) A B := ⟨fun h => h1 (of_decide_eq_true h), fun h => h2 (of_decide_eq_false h)⟩
theorem w_ifN (h : ifB b B A) : ifB (!b) A B := by
  cases b
  · exact ⟨fun _ => h.2 rfl, fun z => nomatch z⟩
  · exact ⟨fun z => (nomatch z), fun _ => h.1 rfl⟩
theorem w_ifT (h : A) : ifB true A B := ⟨fun _ => h, fun z => nomatch z⟩
theorem w_ifF (h : B) : ifB false A B := ⟨fun z => (nomatch z), fun _ => h⟩
theorem w_ifP (hp : p) (h : A) : ifB (decide p) A B := w_if (fun _ => h) fun z => absurd hp z
theorem w_ifQ (hp : ¬ p) (h : B) : ifB (decide p) A B := w_if (fun z => absurd z hp) fun _ => h
end
/-! values -/
section
variable {θ : Th} {k : AK} {i j : Int} {z y : Str} {xs ys : List D} {a b : Bool} {x d : D}
theorem v_addI (q : k (.int (i + j)) θ) : fAdd (.int i) (.int j) θ k := q
theorem v_addS (h : z.length + y.length ≤ 100000) (q : k (.str (z ++ y)) θ) : fAdd (.str z) (.str y) θ k := ⟨h, q⟩
theorem v_addT (h0 : xs ≠ []) (h : xs.length + ys.length ≤ 100000) (q : k (.tup (xs ++ ys)) θ) : fAdd (.tup xs) (.tup ys) θ k := ⟨h0, h, q⟩
theorem v_addL (h : xs.length + ys.length ≤ 100000) (q : k (.lst (xs ++ ys)) θ) : fAdd (.lst xs) (.lst ys) θ k := ⟨xs, ys, rfl, rfl, h, q⟩
theorem v_addOL {n : Nat} (e : θ[n]? = some (.lst xs)) (h : xs.length + ys.length ≤ 100000) (q : k (.lst (xs ++ ys)) θ) : fAdd (.obj n) (.lst ys) θ k := ⟨xs, ys, by show (match θ[n]? with | some (.lst ds) => some ds | _ => none) = _; rw [e], rfl, h, q⟩
theorem v_sub (q : k (.int (i - j)) θ) : fSub (.int i) (.int j) θ k := q
theorem v_mod (h : 0 < j) (q : k (.int (i % j)) θ) : fMod (.int i) (.int j) θ k := ⟨h, q⟩
theorem v_mul (h : (-(2 ^ 64) < i ∧ i < 2 ^ 64) ∨ (-(2 ^ 64) < j ∧ j < 2 ^ 64)) (q : k (.int (i * j)) θ) : fMul (.int i) (.int j) θ k := ⟨h, q⟩
theorem v_mulS (h0 : 0 ≤ i) (h1 : z.length * i.toNat ≤ 100000) (h2 : i ≤ 100000) (q : k (.str (strRep z i.toNat)) θ) : fMul (.str z) (.int i) θ k := ⟨h0, h1, h2, q⟩
theorem v_lt (q : k (.bl (decide (i < j))) θ) : fLt (.int i) (.int j) θ k := q
theorem v_gt (q : k (.bl (decide (j < i))) θ) : fGt (.int i) (.int j) θ k := q
theorem v_le (q : k (.bl (decide (i ≤ j))) θ) : fLe (.int i) (.int j) θ k := q
theorem v_ge (q : k (.bl (decide (j ≤ i))) θ) : fGe (.int i) (.int j) θ k := q
theorem v_ltS (q : k (.bl (decide (z.cps.toList < y.cps.toList))) θ) : fLt (.str z) (.str y) θ k := q
theorem v_gtS (q : k (.bl (decide (y.cps.toList < z.cps.toList))) θ) : fGt (.str z) (.str y) θ k := q
theorem v_is (h : isD x d = some a) (q : k (.bl a) θ) : fIs x d θ k := ⟨a, h, q⟩
theorem v_isN (h : isD x d = some a) (q : k (.bl (!a)) θ) : fIsN x d θ k := ⟨a, h, q⟩
theorem v_eqI (q : k (.bl (decide (i = j))) θ) : fEq (.int i) (.int j) θ k := ⟨_, .inl rfl, q⟩
theorem v_eqS (q : k (.bl (decide (z = y))) θ) : fEq (.str z) (.str y) θ k := ⟨_, .inl rfl, q⟩
theorem v_eqB (q : k (.bl (decide (a = b))) θ) : fEq (.bl a) (.bl b) θ k := ⟨_, .inl rfl, q⟩
theorem v_eqSI (q : k (.bl false) θ) : fEq (.str z) (.int i) θ k := ⟨_, .inl rfl, q⟩
theorem v_eqIS (q : k (.bl false) θ) : fEq (.int i) (.str z) θ k := ⟨_, .inl rfl, q⟩
theorem v_neI (q : k (.bl (!decide (i = j))) θ) : fNe (.int i) (.int j) θ k := ⟨_, .inl rfl, q⟩
theorem v_neS (q : k (.bl (!decide (z = y))) θ) : fNe (.str z) (.str y) θ k := ⟨_, .inl rfl, q⟩
theorem v_inS {n : Nat} (q : k (.bl (decide (n ∈ y.cps.toList))) θ) : fIn (.str ⟨#[n]⟩) (.str y) θ k := ⟨_, .inl ⟨_, _, rfl, rfl, rfl⟩, q⟩
theorem v_ninS {n : Nat} (q : k (.bl (!decide (n ∈ y.cps.toList))) θ) : fNotIn (.str ⟨#[n]⟩) (.str y) θ k := ⟨_, .inl ⟨_, _, rfl, rfl, rfl⟩, q⟩
theorem v_ixT (h : atI xs i = some d) (q : k d θ) : fIx (.tup xs) (.int i) θ k := .inl ⟨xs, i, d, rfl, rfl, h, q⟩
theorem v_ixL (h : atI xs i = some d) (q : k d θ) : fIx (.lst xs) (.int i) θ k := .inl ⟨xs, i, d, rfl, rfl, h, q⟩
theorem v_ixK (h : atI xs i = some d) (q : k d θ) : fIx (.lsk xs) (.int i) θ k := .inl ⟨xs, i, d, rfl, rfl, h, q⟩
theorem asS_obj {n : Nat} (e : θ[n]? = some (.lst xs)) : asS θ (.obj n) = some xs := by show (match θ[n]? with | some (.lst ds) => some ds | _ => none) = _; rw [e]
theorem asL_obj {n : Nat} (e : θ[n]? = some (.lst xs)) : asL θ (.obj n) = some xs := asS_obj e
theorem v_ixO {n : Nat} (e : θ[n]? = some (.lst xs)) (h : atI xs i = some d) (q : k d θ) : fIx (.obj n) (.int i) θ k := .inl ⟨xs, i, d, asS_obj e, rfl, h, q⟩
theorem v_ixS {c : Nat} (h : z.length ≤ 100000) (hc : atI z.cps.toList i = some c) (q : k (.str ⟨#[c]⟩) θ) : fIx (.str z) (.int i) θ k := .inr (.inl ⟨z, i, c, rfl, rfl, h, hc, q⟩)
theorem v_neg (q : k (.int (-i)) θ) : fNeg (.int i) θ k := ⟨i, rfl, q⟩
theorem v_lenS (h : z.length ≤ 100000) (q : k (.int (z.length : Nat)) θ) : fLen [.str z] θ k := .inl ⟨z, rfl, h, q⟩
theorem v_lenT (q : k (.int (xs.length : Nat)) θ) : fLen [.tup xs] θ k := .inr ⟨_, xs, rfl, rfl, q⟩
theorem v_lenL (q : k (.int (xs.length : Nat)) θ) : fLen [.lst xs] θ k := .inr ⟨_, xs, rfl, rfl, q⟩
theorem v_lenK (q : k (.int (xs.length : Nat)) θ) : fLen [.lsk xs] θ k := .inr ⟨_, xs, rfl, rfl, q⟩
theorem v_lenO {n : Nat} (e : θ[n]? = some (.lst xs)) (q : k (.int (xs.length : Nat)) θ) : fLen [.obj n] θ k := .inr ⟨_, xs, rfl, asS_obj e, q⟩
theorem v_str (h : i.natAbs < 2 ^ 1000) (q : k (.str (toString i)) θ) : fStr [.int i] θ k := ⟨i, rfl, h, q⟩
theorem v_intI (q : k (.int i) θ) : fInt [.int i] θ k := .inl ⟨i, rfl, q⟩
theorem v_intB (q : k (.int (if a then 1 else 0)) θ) : fInt [.bl a] θ k := .inr (.inl ⟨a, rfl, q⟩)
theorem v_intS {n : Int} (h : PySem.intText? z = some n) (hl : z.length ≤ 640) (q : k (.int n) θ) : fInt [.str z] θ k := .inr (.inr ⟨z, n, rfl, h, hl, q⟩)
theorem v_ord (h : z.length = 1) (q : k (.int (z.cps.getD 0 0 : Nat)) θ) : fOrd [.str z] θ k := ⟨z, rfl, h, q⟩
theorem v_sum {ns : List Int} (h : asL θ x = some (ns.map D.int)) (q : k (.int ns.sum) θ) : fSum [x] θ k := ⟨x, ns, rfl, h, q⟩
theorem v_all {bs : List Bool} (h : asL θ x = some (bs.map D.bl)) (q : k (.bl (bs.all id)) θ) : fAll [x] θ k := ⟨x, bs, rfl, h, q⟩
theorem v_any {bs : List Bool} (h : asL θ x = some (bs.map D.bl)) (q : k (.bl (bs.any id)) θ) : fAny [x] θ k := ⟨x, bs, rfl, h, q⟩
theorem v_allL {α : Type} {xs : List α} {g : α → Bool} (q : k (.bl (xs.all g)) θ) : fAll [.lst (xs.map fun a => .bl (g a))] θ k := ⟨_, xs.map g, rfl, by show some _ = some _; rw [List.map_map]; rfl, by rw [List.all_map]; exact q⟩
theorem v_anyL {α : Type} {xs : List α} {g : α → Bool} (q : k (.bl (xs.any g)) θ) : fAny [.lst (xs.map fun a => .bl (g a))] θ k := ⟨_, xs.map g, rfl, by show some _ = some _; rw [List.map_map]; rfl, by rw [List.any_map]; exact q⟩
theorem v_sumL {α : Type} {xs : List α} {g : α → Int} (q : k (.int (xs.map g).sum) θ) : fSum [.lst (xs.map fun a => .int (g a))] θ k := ⟨_, xs.map g, rfl, by show some _ = some _; rw [List.map_map]; rfl, q⟩
theorem v_tupL (q : k (.tup xs) θ) : fTuple [.lst xs] θ k := .inl ⟨_, xs, rfl, rfl, q⟩
theorem v_tupO {n : Nat} (e : θ[n]? = some (.lst xs)) (q : k (.tup xs) θ) : fTuple [.obj n] θ k := .inl ⟨_, xs, rfl, asL_obj e, q⟩
theorem v_tupT (q : k (.tup xs) θ) : fTuple [.tup xs] θ k := .inr ⟨xs, rfl, q⟩
theorem v_max (q : k (.int (if j > i then j else i)) θ) : fMax [.int i, .int j] θ k := ⟨i, j, rfl, q⟩
theorem v_min (q : k (.int (if j < i then j else i)) θ) : fMin [.int i, .int j] θ k := ⟨i, j, rfl, q⟩
theorem v_isi {c e : String} (h : tyNm θ x = some e) (h2 : kitB e c = some a) (q : k (.bl a) θ) : fIsi [x, .raw (.ty c)] θ k := .inl ⟨x, c, e, a, rfl, h, h2, q⟩
theorem v_isi2 {c c' e : String} (h : tyNm θ x = some e) (h2 : kitB e c = some a) (h3 : kitB e c' = some b) {ab : Bool} (h4 : (a || b) = ab) (q : k (.bl ab) θ) : fIsi [x, .tup [.raw (.ty c), .raw (.ty c')]] θ k := .inr ⟨x, c, c', e, a, b, rfl, h, h2, h3, by rw [h4]; exact q⟩
theorem v_append {n : Nat} {θ2 : Th} (h : θ[n]? = some (.lst xs)) (hl : xs.length < 100000) (h2 : θ.set n (.lst (xs ++ [d])) = θ2) (q : k .non θ2) : fAppend (.obj n) [d] θ k := ⟨n, xs, d, rfl, rfl, h, hl, by rw [h2]; exact q⟩
theorem v_tyS : tyOk "str" (.str z) θ := .inl ⟨rfl, z, rfl⟩
theorem v_tyL : tyOk "list" (.lst xs) θ := .inr ⟨rfl, xs, rfl⟩
theorem v_tyO {n : Nat} (e : θ[n]? = some (.lst xs)) : tyOk "list" (.obj n) θ := .inr ⟨rfl, xs, asL_obj e⟩
end
end AB
namespace AB
open PySem PySem.Spec PyProof.Rows L2
section
variable {Γ Γ1 : AB.G} {θ : Th} {k : AK} {kx : AX} {ra rb rc : AR} {rs : AAR} {d : D} {i j n : Nat} {tc : ATR} {s t tb : ASR} {g : ATG} {gs : ATGs} {nx bk ct : AB.G → Th → Prop} {rt : AK} {ex : Value → AB.G → Th → Prop} {kk : AB.G → Th → Prop} {ai : AIR} {ki : List D → (Th → Prop) → Th → Prop} {ds xs ys : List D}
theorem w_start {m : Nat} {t : ASR} {E : AE} (h : startG m ds = Γ1) (q : t E Γ1 θ) : t E (startG m ds) θ := by subst h; exact q
theorem w_seq (q : s ⟨fun Γ' θ' => t ⟨nx, rt, bk, ct, ex⟩ Γ' θ', rt, bk, ct, ex⟩ Γ θ) : aSeq s t ⟨nx, rt, bk, ct, ex⟩ Γ θ := q
theorem w_next (q : nx Γ θ) : aNext ⟨nx, rt, bk, ct, ex⟩ Γ θ := q
theorem w_break (q : bk Γ θ) : aBreak ⟨nx, rt, bk, ct, ex⟩ Γ θ := q
theorem w_cont (q : ct Γ θ) : aCont ⟨nx, rt, bk, ct, ex⟩ Γ θ := q
theorem w_asg (q : ra Γ θ (fun d θ1 => g d Γ θ1 nx) (fun c θ1 => ex c Γ θ1)) : aAsg ra g ⟨nx, rt, bk, ct, ex⟩ Γ θ := q
theorem w_gN (h : Γ.set i (some d) = Γ1) (q : kk Γ1 θ) : gN i d Γ θ kk := by subst h; exact q
theorem w_ret (q : ra Γ θ rt (fun c θ1 => ex c Γ θ1)) : aRet ra ⟨nx, rt, bk, ct, ex⟩ Γ θ := q
theorem w_drop (q : ra Γ θ (fun _ θ1 => nx Γ θ1) (fun c θ1 => ex c Γ θ1)) : aDrop ra ⟨nx, rt, bk, ct, ex⟩ Γ θ := q
theorem w_ifS (q : tc Γ θ (fun b θ1 => ifB b (s ⟨nx, rt, bk, ct, ex⟩ Γ θ1) (t ⟨nx, rt, bk, ct, ex⟩ Γ θ1)) (fun c θ1 => ex c Γ θ1)) : aIfS tc s t ⟨nx, rt, bk, ct, ex⟩ Γ θ := q
theorem w_raise {C : Addr} (q : ex (.ref C) Γ θ) : aRaise C ⟨nx, rt, bk, ct, ex⟩ Γ θ := q
theorem w_for (q : ai Γ θ (fun ds still θ1 => aLoop still g tb ⟨nx, rt, bk, ct, ex⟩ ds Γ θ1) (fun c θ1 => ex c Γ θ1)) : aFor ai g tb ⟨nx, rt, bk, ct, ex⟩ Γ θ := q
theorem w_back (q : k d θ) : aBack n k d θ := .inl q
theorem w_gTup (h : asS θ d = some ds) (hl : ds.length = n) (q : gs ds Γ θ kk) : gTupA n gs d Γ θ kk := ⟨ds, h, hl, q⟩
theorem w_gCons (q : g d Γ θ fun Γ' θ' => gs ds Γ' θ' kk) : gsCons g gs (d :: ds) Γ θ kk := ⟨d, ds, rfl, q⟩
theorem w_gNil (q : kk Γ θ) : gsNil [] Γ θ kk := ⟨rfl, q⟩
theorem w_itT (q : ra Γ θ (fun x θ1 => ∃ ds, x = .tup ds ∧ ki ds (fun _ => True) θ1) kx) : aItT ra Γ θ ki kx := q
theorem w_itL (q : ra Γ θ (fun x θ1 => ∃ ds, asL θ1 x = some ds ∧ ki ds (fun θ' => asL θ' x = some ds) θ1) kx) : aItL ra Γ θ ki kx := q
theorem w_itS (q : ra Γ θ (fun x θ1 => ∃ z, x = .str z ∧ ki (signs z) (fun _ => True) θ1) kx) : aItS ra Γ θ ki kx := q
theorem w_it1 (q : aItT ra Γ θ ki kx) : aIt ra Γ θ ki kx := .inl q
theorem w_it2 (q : aItL ra Γ θ ki kx) : aIt ra Γ θ ki kx := .inr (.inl q)
theorem w_it3 (q : aItS ra Γ θ ki kx) : aIt ra Γ θ ki kx := .inr (.inr q)
theorem w_exT (q : ki xs (fun _ => True) θ) : ∃ ds, D.tup xs = .tup ds ∧ ki ds (fun _ => True) θ := ⟨_, rfl, q⟩
theorem w_exS {z : Str} (q : ki (signs z) (fun _ => True) θ) : ∃ y, D.str z = .str y ∧ ki (signs y) (fun _ => True) θ := ⟨_, rfl, q⟩
theorem w_exL (q : ki xs (fun _ => True) θ) (mono : ∀ {ds} {a b : Th → Prop} {θ}, (∀ θ, a θ → b θ) → ki ds a θ → ki ds b θ) : ∃ ds, asL θ (.lst xs) = some ds ∧ ki ds (fun θ' => asL θ' (.lst xs) = some ds) θ := ⟨xs, rfl, mono (fun _ _ => rfl) q⟩
theorem w_exL' (q : ki xs (fun θ' => asL θ' (.lst xs) = some xs) θ) : ∃ ds, asL θ (.lst xs) = some ds ∧ ki ds (fun θ' => asL θ' (.lst xs) = some ds) θ := ⟨xs, rfl, q⟩
theorem w_exK' (q : ki xs (fun θ' => asL θ' (.lsk xs) = some xs) θ) : ∃ ds, asL θ (.lsk xs) = some ds ∧ ki ds (fun θ' => asL θ' (.lsk xs) = some ds) θ := ⟨xs, rfl, q⟩
theorem w_exO {m : Nat} (e : θ[m]? = some (.lst xs)) (q : ki xs (fun θ' => asL θ' (.obj m) = some xs) θ) : ∃ ds, asL θ (.obj m) = some ds ∧ ki ds (fun θ' => asL θ' (.obj m) = some ds) θ := ⟨xs, asL_obj e, q⟩
theorem w_rng (q : rs Γ θ (fun xs θ1 => ∃ n, xs = [.int n] ∧ -100000 ≤ n ∧ n ≤ 100000 ∧ ki (nums 0 n.toNat) (fun _ => True) θ1) kx) : aRng rs Γ θ ki kx := q
theorem w_rng2 (q : rs Γ θ (fun xs θ1 => ∃ l n, xs = [.int l, .int n] ∧ (-100000 ≤ l ∧ l ≤ 100000 ∧ -100000 ≤ n ∧ n ≤ 100000) ∧ ki (nums l (n - l).toNat) (fun _ => True) θ1) kx) : aRng2 rs Γ θ ki kx := q
theorem w_exR {z : Int} (h1 : -100000 ≤ z) (h2 : z ≤ 100000) (q : ki (nums 0 z.toNat) (fun _ => True) θ) : ∃ n, [D.int z] = [.int n] ∧ -100000 ≤ n ∧ n ≤ 100000 ∧ ki (nums 0 n.toNat) (fun _ => True) θ := ⟨z, rfl, h1, h2, q⟩
theorem w_exR2 {l z : Int} (h1 : -100000 ≤ l) (h2 : l ≤ 100000) (h3 : -100000 ≤ z) (h4 : z ≤ 100000) (q : ki (nums l (z - l).toNat) (fun _ => True) θ) : ∃ l' n, [D.int l, D.int z] = [.int l', .int n] ∧ (-100000 ≤ l' ∧ l' ≤ 100000 ∧ -100000 ≤ n ∧ n ≤ 100000) ∧ ki (nums l' (n - l').toNat) (fun _ => True) θ := ⟨l, z, rfl, ⟨h1, h2, h3, h4⟩, q⟩
theorem w_rev (q : rs Γ θ (fun xs θ1 => ∃ x ds, xs = [x] ∧ asL θ1 x = some ds ∧ ki ds.reverse (fun θ' => asL θ' x = some ds) θ1) kx) : aRevI rs Γ θ ki kx := q
theorem w_zip (q : rs Γ θ (fun xs θ1 => ∃ x y, xs = [x, y] ∧ ((∃ ds es, x = .tup ds ∧ y = .tup es ∧ ki (zipD ds es) (fun _ => True) θ1) ∨
  ∃ ds es, asL θ1 x = some ds ∧ asL θ1 y = some es ∧ ki (zipD ds es) (fun θ' => asL θ' x = some ds ∧ asL θ' y = some es) θ1)) kx) : aZip rs Γ θ ki kx := q
/-- a loop, by what holds ahead of each turn -/
theorem loop_inv {still : Th → Prop} (I : Nat → AB.G → Th → Prop) (h0 : I 0 Γ θ) (hs : ∀ i Γ θ, I i Γ θ → still θ)
    (turn : ∀ i d Γ θ (kk : AB.G → Th → Prop), ds[i]? = some d → I i Γ θ → (∀ Γ' θ', I (i + 1) Γ' θ' → kk Γ' θ') → g d Γ θ (fun Γ1 θ1 => tb ⟨kk, rt, nx, kk, ex⟩ Γ1 θ1))
    (fin : ∀ Γ θ, I ds.length Γ θ → nx Γ θ) : aLoop still g tb ⟨nx, rt, bk, ct, ex⟩ ds Γ θ := by
  have go : ∀ (es : List D) (i : Nat) (Γ : AB.G) (θ : Th), ds.drop i = es → i + es.length = ds.length → I i Γ θ → aLoop still g tb ⟨nx, rt, bk, ct, ex⟩ es Γ θ := by
    intro es
    induction es with
    | nil => intro i Γ θ _ hl hi; exact ⟨hs i Γ θ hi, fin Γ θ (by simp at hl; rw [← hl]; exact hi)⟩
    | cons e es ih =>
      intro i Γ θ hd hl hi
      refine ⟨hs i Γ θ hi, ?_⟩
      have he : ds[i]? = some e := by
        have := congrArg List.head? hd
        rw [List.head?_drop] at this
        exact this
      have hd' : ds.drop (i + 1) = es := by
        have := congrArg List.tail hd
        rw [List.tail_drop] at this
        exact this
      exact turn i e Γ θ _ he hi fun Γ' θ' q => ih (i + 1) Γ' θ' hd' (by simp at hl; omega) q
  exact go ds 0 Γ θ rfl (by simp) h0
end
/-! comprehensions -/
section
variable {Γ Γw Γ1 : AB.G} {θ : Th} {k : AK} {kx : AX} {d : D} {i : Nat} {ai : AIR} {t : Tgt} {tt : ATR} {te : AR} {vs is : List Nat} {kl : List D → Prop} {acc xs : List D} {ko : Option D → Prop}
theorem w_lc (hw : wipeG Γ vs = Γw) (q : ai Γ θ (fun ds still θ1 => ds.length ≤ 100000 ∧ (∀ x, still (θ1 ++ [.lst x])) ∧ cLoop t tt te Γw θ1 ds [] fun acc => D.lts θ1.length acc ∧ k (.lst acc) θ1) kx) : aLc ai t tt te vs Γ θ k kx := by subst hw; exact q
theorem w_el (h : Γ.set i (some d) = Γ1) (q : tt Γ1 (θ ++ [.lst acc]) (fun b θ2 => θ2 = θ ++ [.lst acc] ∧ ifB b (te Γ1 (θ ++ [.lst acc]) (fun e θ3 => θ3 = θ ++ [.lst acc] ∧ ko (some e)) noX) (ko none)) noX) : cEl (.one i) tt te Γ θ acc d ko := by subst h; exact q
theorem w_elY (h : Γ.set i (some d) = Γ1) (q : te Γ1 (θ ++ [.lst acc]) (fun e θ3 => θ3 = θ ++ [.lst acc] ∧ ko (some e)) noX) : cEl (.one i) aYes te Γ θ acc d ko := by subst h; exact ⟨rfl, w_ifT q⟩
theorem w_elT (h : setLG Γ is xs = Γ1) (hl : xs.length = is.length) (q : tt Γ1 (θ ++ [.lst acc]) (fun b θ2 => θ2 = θ ++ [.lst acc] ∧ ifB b (te Γ1 (θ ++ [.lst acc]) (fun e θ3 => θ3 = θ ++ [.lst acc] ∧ ko (some e)) noX) (ko none)) noX) : cEl (.tup is) tt te Γ θ acc (.tup xs) ko := by subst h; exact ⟨xs, rfl, hl, q⟩
theorem w_elTY (h : setLG Γ is xs = Γ1) (hl : xs.length = is.length) (q : te Γ1 (θ ++ [.lst acc]) (fun e θ3 => θ3 = θ ++ [.lst acc] ∧ ko (some e)) noX) : cEl (.tup is) aYes te Γ θ acc (.tup xs) ko := by subst h; exact ⟨xs, rfl, hl, rfl, w_ifT q⟩
theorem cl_fm {β : Type} {xs : List β} {φ : β → D} (f : β → Option D) (hf : ∀ x, x ∈ xs → ∀ acc (ko : Option D → Prop), ko (f x) → cEl t tt te Γ θ acc (φ x) ko) (q : kl (xs.filterMap f)) : cLoop t tt te Γ θ (xs.map φ) [] kl := by
  have go : ∀ (ys : List β) (acc : List D), (∀ x ∈ ys, x ∈ xs) → kl (acc ++ ys.filterMap f) → cLoop t tt te Γ θ (ys.map φ) acc kl := by
    intro ys
    induction ys with
    | nil => intro acc _ h; rw [List.filterMap_nil, List.append_nil] at h; exact h
    | cons y ys ih =>
      intro acc hm h
      refine hf y (hm y List.mem_cons_self) acc _ (ih _ (fun x hx => hm x (List.mem_cons_of_mem _ hx)) ?_)
      rw [List.filterMap_cons] at h
      cases e : f y with
      | none => rw [e] at h; simpa using h
      | some z => rw [e] at h; simpa using h
  exact go xs [] (fun _ z => z) (by simpa using q)
theorem cl_map {β : Type} {xs : List β} {φ : β → D} (g : β → D) (hf : ∀ x, x ∈ xs → ∀ acc (ko : Option D → Prop), ko (some (g x)) → cEl t tt te Γ θ acc (φ x) ko) (q : kl (xs.map g)) : cLoop t tt te Γ θ (xs.map φ) [] kl :=
  cl_fm (fun x => some (g x)) hf (by rw [List.filterMap_eq_map']; exact q)
theorem cl_filter {β : Type} {xs : List β} {φ : β → D} (p : β → Bool) (g : β → D) (hf : ∀ x, x ∈ xs → ∀ acc (ko : Option D → Prop), ko (if p x then some (g x) else none) → cEl t tt te Γ θ acc (φ x) ko) (q : kl ((xs.filter p).map g)) : cLoop t tt te Γ θ (xs.map φ) [] kl :=
  cl_fm (fun x => if p x then some (g x) else none) hf (by
    have : ∀ xs : List β, xs.filterMap (fun x => if p x then some (g x) else none) = (xs.filter p).map g := by
      intro xs
      induction xs with
      | nil => rfl
      | cons x xs ih => by_cases e : p x <;> simp [List.filterMap_cons, e, ih]
    rw [this]; exact q)
theorem w_elEnd (q : ko (some d)) : θ = θ ∧ ko (some d) := ⟨rfl, q⟩
end
end AB
namespace AB
open PySem PySem.Spec PyProof.Rows L2 TL
/-! ### texts as lists of signs -/
abbrev S (l : List Nat) : Str := ⟨l.toArray⟩
theorem S_tl (x : Str) : S x.cps.toList = x := rfl
theorem S_len (l : List Nat) : (S l).length = l.length := by show l.toArray.size = _; simp
theorem S_inj {a b : List Nat} : S a = S b ↔ a = b := ⟨fun h => by have := congrArg (fun z : Str => z.cps.toList) h; exact this, fun h => by rw [h]⟩
theorem S_app (a b : List Nat) : S a ++ S b = S (a ++ b) := ext_tl (tl_append _ _)
def cutL {α : Type} (l : List α) (lo hi : Option Int) : List α := (l.drop (HT.sIx l.length 0 lo)).take (HT.sIx l.length l.length hi - HT.sIx l.length 0 lo)
theorem S_cut (l : List Nat) (lo hi : Option Int) : cutS (S l) lo hi = S (cutL l lo hi) := by
  unfold cutS cutL
  rw [S_len]
theorem S_rep (l : List Nat) (n : Nat) : strRep (S l) n = S (List.replicate n l).flatten := rfl
theorem joinL_nil : ∀ ps : List (List Nat), joinL [] ps = ps.flatten
  | [] => rfl
  | [p] => by simp [joinL]
  | p :: q :: r => by
    show p ++ ([] ++ joinL [] (q :: r)) = _
    rw [joinL_nil (q :: r)]
    simp
theorem join_S (y : List Nat) (ps : List Str) : Txt.join (S y) ps = S (joinL y (ps.map tl)) := by
  rw [join_eq]
  exact ext_tl (tl_join (S y) ps)
theorem cutL_take {α : Type} {l : List α} {i : Int} (h : 0 ≤ i) : cutL l none (some i) = l.take i.toNat := by
  obtain ⟨n, rfl⟩ := Int.eq_ofNat_of_zero_le h
  unfold cutL
  show (l.drop 0).take (HT.sIx l.length l.length (some (n : Int)) - 0) = _
  rw [HT.sIx_nat, List.drop_zero, Nat.sub_zero, Int.toNat_natCast, Nat.min_def]
  split
  · rfl
  · rw [List.take_of_length_le (Nat.le_refl _), List.take_of_length_le (by omega)]
theorem cutL_drop {α : Type} {l : List α} {i : Int} (h : 0 ≤ i) : cutL l (some i) none = l.drop i.toNat := by
  obtain ⟨n, rfl⟩ := Int.eq_ofNat_of_zero_le h
  unfold cutL
  show (l.drop (HT.sIx l.length 0 (some (n : Int)))).take (l.length - HT.sIx l.length 0 (some (n : Int))) = _
  rw [HT.sIx_nat, Int.toNat_natCast, List.take_of_length_le (by simp)]
  rw [Nat.min_def]
  split
  · rfl
  · rw [List.drop_of_length_le (Nat.le_refl _), List.drop_of_length_le (by omega)]
theorem cutL_last {α : Type} {l : List α} {i : Int} (h : i < 0) : cutL l (some i) none = l.drop (i + l.length).toNat := by
  unfold cutL
  have e : HT.sIx l.length 0 (some i) = (i + l.length).toNat := by show (if i < 0 then _ else _) = _; rw [if_pos h]
  show (l.drop (HT.sIx l.length 0 (some i))).take (l.length - HT.sIx l.length 0 (some i)) = _
  rw [e, List.take_of_length_le (by simp)]
theorem cutL_init {α : Type} {l : List α} {i : Int} (h : i < 0) : cutL l none (some i) = l.take (i + l.length).toNat := by
  unfold cutL
  have e : HT.sIx l.length l.length (some i) = (i + l.length).toNat := by show (if i < 0 then _ else _) = _; rw [if_pos h]
  show (l.drop 0).take (HT.sIx l.length l.length (some i) - 0) = _
  rw [e, List.drop_zero, Nat.sub_zero]
theorem cutL_mid {α : Type} {l : List α} {i j : Int} (h : 0 ≤ i) (hj : 0 ≤ j) : cutL l (some i) (some j) = (l.take j.toNat).drop i.toNat := by
  obtain ⟨n, rfl⟩ := Int.eq_ofNat_of_zero_le h
  obtain ⟨m, rfl⟩ := Int.eq_ofNat_of_zero_le hj
  unfold cutL
  rw [HT.sIx_nat, HT.sIx_nat, Int.toNat_natCast, Int.toNat_natCast, List.drop_take]
  by_cases h1 : n ≤ l.length
  · rw [Nat.min_eq_left h1]
    by_cases h2 : m ≤ l.length
    · rw [Nat.min_eq_left h2]
    · rw [Nat.min_eq_right (by omega), List.take_of_length_le (by simp), List.take_of_length_le (by simp; omega)]
  · rw [List.drop_of_length_le (by omega), List.drop_of_length_le (by omega)]; simp
theorem cutL_len {α : Type} {l : List α} {lo hi : Option Int} : (cutL l lo hi).length ≤ l.length := by unfold cutL; simp; omega
theorem cutL_map {α β : Type} {f : α → β} {l : List α} {lo hi : Option Int} : cutL (l.map f) lo hi = (cutL l lo hi).map f := by
  unfold cutL
  rw [List.length_map, ← List.map_drop, ← List.map_take]
theorem cutL_mem {α : Type} {l : List α} {lo hi : Option Int} {x : α} (h : x ∈ cutL l lo hi) : x ∈ l := List.mem_of_mem_drop (List.mem_of_mem_take h)
theorem cutD_eq (xs : List D) (lo hi : Option Int) : cutD xs lo hi = cutL xs lo hi := rfl
abbrev kO := Option Int → Th → Prop
section
variable {Γ : AB.G} {θ : Th} {k : AK} {kx : AX} {ko : kO} {ra : AR} {rl rh : AOR} {i j : Int} {lo hi : Option Int} {xs ys : List D} {a b : List Nat} {c n : Nat}
theorem w_sl (q : ra Γ θ (fun x θ1 => rl Γ θ1 (fun l θ2 => rh Γ θ2 (fun h θ3 => fSl x l h θ3 k) kx) kx) kx) : aSl ra rl rh Γ θ k kx := q
theorem w_oN (q : ko none θ) : oNone Γ θ ko kx := q
theorem w_oS (q : ra Γ θ (fun x θ1 => ∃ i, x = .int i ∧ ko (some i) θ1) kx) : oSome ra Γ θ ko kx := q
theorem w_oI (q : ko (some i) θ) : ∃ j, D.int i = .int j ∧ ko (some j) θ := ⟨i, rfl, q⟩
theorem v_slS (h : a.length ≤ 100000) (q : k (.str (S (cutL a lo hi))) θ) : fSl (.str (S a)) lo hi θ k := .inl ⟨_, rfl, by rw [S_len]; exact h, by rw [S_cut]; exact q⟩
theorem v_slL (q : k (.lst (cutL xs lo hi)) θ) : fSl (.lst xs) lo hi θ k := .inr (.inl ⟨xs, rfl, q⟩)
theorem v_slK (q : k (.lst (cutL xs lo hi)) θ) : fSl (.lsk xs) lo hi θ k := .inr (.inl ⟨xs, rfl, q⟩)
theorem v_slO {m : Nat} (e : θ[m]? = some (.lst xs)) (q : k (.lst (cutL xs lo hi)) θ) : fSl (.obj m) lo hi θ k := .inr (.inl ⟨xs, asL_obj e, q⟩)
theorem v_slT (h : ¬ (HT.sIx xs.length 0 lo = 0 ∧ HT.sIx xs.length xs.length hi = xs.length)) (q : k (.tup (cutL xs lo hi)) θ) : fSl (.tup xs) lo hi θ k := .inr (.inr ⟨xs, rfl, h, q⟩)
theorem v_addSS (h : a.length + b.length ≤ 100000) (q : k (.str (S (a ++ b))) θ) : fAdd (.str (S a)) (.str (S b)) θ k := v_addS (by rw [S_len, S_len]; exact h) (by rw [S_app]; exact q)
theorem v_mulSS (h0 : 0 ≤ i) (h1 : a.length * i.toNat ≤ 100000) (h2 : i ≤ 100000) (q : k (.str (S (List.replicate i.toNat a).flatten)) θ) : fMul (.str (S a)) (.int i) θ k := v_mulS h0 (by rw [S_len]; exact h1) h2 q
theorem v_eqSS (q : k (.bl (decide (a = b))) θ) : fEq (.str (S a)) (.str (S b)) θ k := v_eqS (by have : decide (S a = S b) = decide (a = b) := decide_eq_decide.mpr S_inj; rw [this]; exact q)
theorem v_neSS (q : k (.bl (!decide (a = b))) θ) : fNe (.str (S a)) (.str (S b)) θ k := v_neS (by have : decide (S a = S b) = decide (a = b) := decide_eq_decide.mpr S_inj; rw [this]; exact q)
theorem v_ltSS (q : k (.bl (decide (a < b))) θ) : fLt (.str (S a)) (.str (S b)) θ k := q
theorem v_gtSS (q : k (.bl (decide (b < a))) θ) : fGt (.str (S a)) (.str (S b)) θ k := q
theorem v_inSS (q : k (.bl (decide (n ∈ b))) θ) : fIn (.str (S [n])) (.str (S b)) θ k := v_inS q
theorem v_ninSS (q : k (.bl (!decide (n ∈ b))) θ) : fNotIn (.str (S [n])) (.str (S b)) θ k := v_ninS q
theorem v_lenSS (h : a.length ≤ 100000) (q : k (.int (a.length : Nat)) θ) : fLen [.str (S a)] θ k := v_lenS (by rw [S_len]; exact h) (by rw [S_len]; exact q)
theorem v_ixSS (h : a.length ≤ 100000) (hc : atI a i = some c) (q : k (.str (S [c])) θ) : fIx (.str (S a)) (.int i) θ k := v_ixS (by rw [S_len]; exact h) hc q
theorem v_ordSS (q : k (.int (c : Nat)) θ) : fOrd [.str (S [c])] θ k := v_ord rfl q
theorem v_joinL {α : Type} {zs : List α} {f : α → List Nat} (h : (zs.map fun z => (f z).length).sum ≤ 100000) (q : k (.str (S (zs.flatMap f))) θ) : fJoin (.str (S [])) [.lst (zs.map fun z => .str (S (f z)))] θ k := by
  refine ⟨_, _, zs.map fun z => S (f z), rfl, rfl, by show some _ = some _; rw [List.map_map]; rfl, ?_, ?_⟩
  · rw [List.map_map, List.length_map]
    have : (S []).length = 0 := rfl
    rw [this, Nat.mul_zero, Nat.add_zero]
    have e : (Str.length ∘ fun z => S (f z)) = fun z => (f z).length := funext fun z => S_len _
    rw [e]; exact h
  · rw [join_S, joinL_nil, show (zs.map fun z => S (f z)).map tl = zs.map f from by rw [List.map_map]; rfl, ← List.flatMap_def]; exact q
theorem sum_ones {α : Type} : ∀ zs : List α, (zs.map fun _ => 1).sum = zs.length
  | [] => rfl
  | z :: zs => by rw [List.map_cons, List.sum_cons, sum_ones zs, List.length_cons]; omega
theorem flat_ones {α β : Type} {f : α → β} : ∀ zs : List α, zs.flatMap (fun z => [f z]) = zs.map f
  | [] => rfl
  | z :: zs => by rw [List.flatMap_cons, flat_ones zs]; rfl
theorem v_join1 {α : Type} {zs : List α} {f : α → Nat} (h : zs.length ≤ 100000) (q : k (.str (S (zs.map f))) θ) : fJoin (.str (S [])) [.lst (zs.map fun z => .str (S [f z]))] θ k :=
  v_joinL (f := fun z => [f z]) (by
    show (zs.map fun _ => 1).sum ≤ _
    rw [sum_ones]; exact h) (by rw [flat_ones]; exact q)
theorem v_joinT {α : Type} {zs : List α} {f : α → List Nat} (h : (zs.map fun z => (f z).length).sum ≤ 100000) (q : k (.str (S (zs.flatMap f))) θ) : fJoin (.str (S [])) [.tup (zs.map fun z => .str (S (f z)))] θ k := by
  refine ⟨_, _, zs.map fun z => S (f z), rfl, rfl, by show some _ = some _; rw [List.map_map]; rfl, ?_, ?_⟩
  · rw [List.map_map, List.length_map]
    have : (S []).length = 0 := rfl
    rw [this, Nat.mul_zero, Nat.add_zero]
    have e : (Str.length ∘ fun z => S (f z)) = fun z => (f z).length := funext fun z => S_len _
    rw [e]; exact h
  · rw [join_S, joinL_nil, show (zs.map fun z => S (f z)).map tl = zs.map f from by rw [List.map_map]; rfl, ← List.flatMap_def]; exact q
theorem w_exSS (ki : List D → (Th → Prop) → Th → Prop) (q : ki (a.map fun c => .str (S [c])) (fun _ => True) θ) : ∃ y, D.str (S a) = .str y ∧ ki (signs y) (fun _ => True) θ := ⟨_, rfl, q⟩
end
theorem atI_ofNat {α : Type} {xs : List α} {i : Int} (h0 : 0 ≤ i) (h1 : i < xs.length) (d : α) : atI xs i = some (xs.getD i.toNat d) := by
  obtain ⟨n, rfl⟩ := Int.eq_ofNat_of_zero_le h0
  rw [Int.toNat_natCast]
  have hn : n < xs.length := by omega
  refine atI_nat ?_
  rw [List.getD_eq_getElem?_getD, List.getElem?_eq_getElem hn]
  rfl
theorem nums_eq (lo : Int) (n : Nat) : nums lo n = (List.range n).map fun i => .int (lo + (i : Nat)) := rfl
theorem nums_get {lo : Int} {n i : Nat} {d : D} (h : (nums lo n)[i]? = some d) : i < n ∧ d = .int (lo + (i : Nat)) := by
  unfold nums at h
  rw [List.getElem?_map] at h
  obtain ⟨j, h1, rfl⟩ := Option.map_eq_some_iff.mp h
  have hi : i < n := by have := (List.getElem?_eq_some_iff.mp h1).1; simpa using this
  rw [List.getElem?_range hi] at h1
  cases h1
  exact ⟨hi, rfl⟩
theorem natAbs_small {i : Int} (h0 : 0 ≤ i) (h1 : i < 2 ^ 64) : i.natAbs < 2 ^ 1000 := by
  have : i.natAbs < 2 ^ 64 := by omega
  exact Nat.lt_of_lt_of_le this (Nat.pow_le_pow_right (by decide) (by decide))
theorem rep_len {α : Type} (n : Nat) (a : List α) : (List.replicate n a).flatten.length = n * a.length := by
  induction n with
  | zero => simp
  | succ n ih => rw [List.replicate_succ, List.flatten_cons, List.length_append, ih, Nat.succ_mul]; omega
theorem signs_len (l : List Nat) : (AB.signs (S l)).length = l.length := by unfold AB.signs; simp
theorem nums_len (lo : Int) (n : Nat) : (nums lo n).length = n := by unfold nums; simp
end AB
namespace AB
open PySem PySem.Spec PyProof.Rows L2 TL
/-! ### equality of values by structure -/
def SOk (l : List Nat) : Prop := ∀ x ∈ l, x < 1114112
mutual
def D.ok : D → Nat → Prop
  | .non, _ => True
  | .bl _, _ => True
  | .int _, _ => True
  | .str x, _ => SOk x.cps.toList
  | .tup ds, n => 0 < n ∧ D.oks ds (n - 1)
  | .lst ds, n => 0 < n ∧ D.oks ds (n - 1)
  | .lsk ds, n => 0 < n ∧ D.oks ds (n - 1)
  | .obj _, _ => False
  | .raw _, _ => False
def D.oks : List D → Nat → Prop
  | [], _ => True
  | d :: ds, n => D.ok d n ∧ D.oks ds n
end
mutual
def D.eqv : D → D → Bool
  | .non, .non => true
  | .bl a, .bl b => decide (a = b)
  | .bl a, .int j => decide ((if a then 1 else 0) = j)
  | .int i, .bl b => decide (i = (if b then 1 else 0))
  | .int i, .int j => decide (i = j)
  | .str x, .str y => decide (x = y)
  | .tup xs, .tup ys => D.eqvs xs ys
  | .lst xs, .lst ys => D.eqvs xs ys
  | .lst xs, .lsk ys => D.eqvs xs ys
  | .lsk xs, .lst ys => D.eqvs xs ys
  | .lsk xs, .lsk ys => D.eqvs xs ys
  | _, _ => false
def D.eqvs : List D → List D → Bool
  | [], [] => true
  | x :: xs, y :: ys => D.eqv x y && D.eqvs xs ys
  | _, _ => false
end
theorem strOk_of {x : Str} (h : SOk x.cps.toList) : PyData.strOk x = true := by
  unfold PyData.strOk
  rw [Array.all_eq_true]
  intro i hi
  have := h x.cps[i] (by simp)
  simpa using this
mutual
theorem D.ok_py : ∀ (d : D) (n : Nat), D.ok d n → ∃ p, D.py d = some p ∧ p.canLay0 = true ∧ p.depth ≤ n
  | .non, n, _ => ⟨_, by unfold D.py; rfl, by unfold PyData.canLay0; rfl, by unfold PyData.depth; omega⟩
  | .bl b, n, _ => ⟨_, by unfold D.py; rfl, by unfold PyData.canLay0; rfl, by unfold PyData.depth; omega⟩
  | .int b, n, _ => ⟨_, by unfold D.py; rfl, by unfold PyData.canLay0; rfl, by unfold PyData.depth; omega⟩
  | .str b, n, h => by
    unfold D.ok at h
    exact ⟨_, by unfold D.py; rfl, by unfold PyData.canLay0; exact strOk_of h, by unfold PyData.depth; omega⟩
  | .tup ds, n, h => by
    unfold D.ok at h
    obtain ⟨ps, e, h1, h2⟩ := D.oks_py ds _ h.2
    refine ⟨.tuple ps, by unfold D.py; rw [e]; rfl, by unfold PyData.canLay0; exact h1, ?_⟩
    unfold PyData.depth
    omega
  | .lst ds, n, h => by
    unfold D.ok at h
    obtain ⟨ps, e, h1, h2⟩ := D.oks_py ds _ h.2
    refine ⟨.list ps, by unfold D.py; rw [e]; rfl, by unfold PyData.canLay0; exact h1, ?_⟩
    unfold PyData.depth
    omega
  | .lsk ds, n, h => by
    unfold D.ok at h
    obtain ⟨ps, e, h1, h2⟩ := D.oks_py ds _ h.2
    refine ⟨.list ps, by unfold D.py; rw [e]; rfl, by unfold PyData.canLay0; exact h1, ?_⟩
    unfold PyData.depth
    omega
  | .obj _, n, h => by unfold D.ok at h; exact h.elim
  | .raw _, n, h => by unfold D.ok at h; exact h.elim
theorem D.oks_py : ∀ (ds : List D) (n : Nat), D.oks ds n → ∃ ps, D.pys ds = some ps ∧ PyData.canLayAll0 ps = true ∧ PyData.depthAll ps ≤ n
  | [], n, _ => ⟨[], by unfold D.pys; rfl, by unfold PyData.canLayAll0; rfl, by unfold PyData.depthAll; omega⟩
  | d :: ds, n, h => by
    unfold D.oks at h
    obtain ⟨p, e1, c1, h1⟩ := D.ok_py d n h.1
    obtain ⟨ps, e2, c2, h2⟩ := D.oks_py ds n h.2
    refine ⟨p :: ps, by unfold D.pys; rw [e1, e2]; rfl, by unfold PyData.canLayAll0; rw [c1, c2]; rfl, ?_⟩
    unfold PyData.depthAll
    omega
end
theorem bool_int (a : Bool) (j : Int) : ((if a then 1 else 0 : Int) == j) = decide ((if a then 1 else 0) = j) := by
  cases a <;> simp [BEq.beq]
mutual
theorem D.eqv_py : ∀ (d e : D) (p q : PyData), D.py d = some p → D.py e = some q → PyData.eqv p q = D.eqv d e
  | d, e, p, q, h1, h2 => by
    cases d <;> cases e <;> unfold D.py at h1 h2 <;> first | (cases h1; done) | (cases h2; done) | skip
    all_goals first
      | (cases h1; cases h2; unfold PyData.eqv D.eqv; first | rfl | (simp; done))
      | (obtain ⟨ps, e1, rfl⟩ := Option.map_eq_some_iff.mp h1; cases h2; unfold PyData.eqv D.eqv; rfl)
      | (obtain ⟨ps, e1, rfl⟩ := Option.map_eq_some_iff.mp h2; cases h1; unfold PyData.eqv D.eqv; rfl)
      | (obtain ⟨ps, e1, rfl⟩ := Option.map_eq_some_iff.mp h1; obtain ⟨qs, e2, rfl⟩ := Option.map_eq_some_iff.mp h2; unfold PyData.eqv D.eqv; first | rfl | exact D.eqvs_py _ _ ps qs e1 e2)
theorem D.eqvs_py : ∀ (ds es : List D) (ps qs : List PyData), D.pys ds = some ps → D.pys es = some qs → PyData.eqvAll ps qs = D.eqvs ds es
  | [], [], ps, qs, h1, h2 => by unfold D.pys at h1 h2; cases h1; cases h2; unfold PyData.eqvAll D.eqvs; rfl
  | [], e :: es, ps, qs, h1, h2 => by
    unfold D.pys at h1 h2; cases h1
    obtain ⟨q, e3, e4⟩ := Option.bind_eq_some_iff.mp h2
    obtain ⟨rs, e5, rfl⟩ := Option.map_eq_some_iff.mp e4
    unfold PyData.eqvAll D.eqvs; rfl
  | d :: ds, [], ps, qs, h1, h2 => by
    unfold D.pys at h1 h2; cases h2
    obtain ⟨q, e3, e4⟩ := Option.bind_eq_some_iff.mp h1
    obtain ⟨rs, e5, rfl⟩ := Option.map_eq_some_iff.mp e4
    unfold PyData.eqvAll D.eqvs; rfl
  | d :: ds, e :: es, ps, qs, h1, h2 => by
    unfold D.pys at h1 h2
    obtain ⟨p, e1, e2⟩ := Option.bind_eq_some_iff.mp h1
    obtain ⟨ps', e3, rfl⟩ := Option.map_eq_some_iff.mp e2
    obtain ⟨q, e4, e5⟩ := Option.bind_eq_some_iff.mp h2
    obtain ⟨qs', e6, rfl⟩ := Option.map_eq_some_iff.mp e5
    unfold PyData.eqvAll D.eqvs
    rw [D.eqv_py d e p q e1 e4, D.eqvs_py ds es ps' qs' e3 e6]
end
theorem shaped_of {p : PyData} (h1 : p.canLay0 = true) (h2 : p.depth ≤ 64) : SeqAt.shaped p = true := by
  unfold SeqAt.shaped
  rw [h1, decide_eq_true h2]; rfl
theorem pyD_py {θ : Th} {d : D} {p : PyData} (h : D.py d = some p) : pyD θ d = some p := by
  cases d with
  | obj n => unfold D.py at h; cases h
  | _ => exact h
theorem eqAns_ok {θ : Th} {x y : D} (hx : D.ok x 64) (hy : D.ok y 64) : eqAns θ x y (D.eqv x y) := by
  obtain ⟨p, e1, c1, d1⟩ := D.ok_py x 64 hx
  obtain ⟨q, e2, c2, d2⟩ := D.ok_py y 64 hy
  exact .inr ⟨p, q, pyD_py e1, pyD_py e2, shaped_of c1 d1, shaped_of c2 d2, D.eqv_py x y p q e1 e2⟩
/-- what a value with a list of the state in place of its name is -/
def seeD (θ : Th) : D → D
  | .obj n => match θ[n]? with
    | some (.lst ds) => .lst ds
    | _ => .obj n
  | d => d
theorem eqAns_see {θ : Th} {x y : D} (hx : D.ok (seeD θ x) 64) (hy : D.ok (seeD θ y) 64) : eqAns θ x y (D.eqv (seeD θ x) (seeD θ y)) := by
  obtain ⟨p, e1, c1, d1⟩ := D.ok_py _ 64 hx
  obtain ⟨q, e2, c2, d2⟩ := D.ok_py _ 64 hy
  have see : ∀ {x : D} {p : PyData}, D.py (seeD θ x) = some p → pyD θ x = some p := by
    intro x p e
    cases x with
    | obj n =>
      unfold seeD at e
      show (match θ[n]? with | some (.lst ds) => (D.pys ds).map PyData.list | _ => none) = some p
      dsimp only at e
      split at e
      · unfold D.py at e; exact e
      · unfold D.py at e; cases e
    | _ => exact e
  exact .inr ⟨p, q, see e1, see e2, shaped_of c1 d1, shaped_of c2 d2, D.eqv_py _ _ p q e1 e2⟩
section
variable {θ : Th} {k : AK} {x y : D}
theorem v_eqG (hx : D.ok x 64) (hy : D.ok y 64) (q : k (.bl (D.eqv x y)) θ) : fEq x y θ k := ⟨_, eqAns_ok hx hy, q⟩
theorem v_neG (hx : D.ok x 64) (hy : D.ok y 64) (q : k (.bl (!D.eqv x y)) θ) : fNe x y θ k := ⟨_, eqAns_ok hx hy, q⟩
theorem v_eqO (hx : D.ok (seeD θ x) 64) (hy : D.ok (seeD θ y) 64) (q : k (.bl (D.eqv (seeD θ x) (seeD θ y))) θ) : fEq x y θ k := ⟨_, eqAns_see hx hy, q⟩
theorem v_neO (hx : D.ok (seeD θ x) 64) (hy : D.ok (seeD θ y) 64) (q : k (.bl (!D.eqv (seeD θ x) (seeD θ y))) θ) : fNe x y θ k := ⟨_, eqAns_see hx hy, q⟩
end
theorem seeD_obj {θ : Th} {n : Nat} {ds : List D} (h : θ[n]? = some (.lst ds)) : seeD θ (.obj n) = .lst ds := by show (match θ[n]? with | some (.lst ds) => D.lst ds | _ => .obj n) = _; rw [h]
theorem oks_iff {ds : List D} {n : Nat} : D.oks ds n ↔ ∀ d ∈ ds, D.ok d n := by
  induction ds with
  | nil => unfold D.oks; simp
  | cons d ds ih => unfold D.oks; rw [ih]; simp
theorem D.ok_mono : ∀ (d : D) {m n : Nat}, m ≤ n → D.ok d m → D.ok d n := by
  have go : ∀ (k : Nat) (d : D) (m n : Nat), m ≤ n → m = k → D.ok d m → D.ok d n := by
    intro k
    induction k with
    | zero =>
      intro d m n h e ho
      subst e
      cases d <;> unfold D.ok at ho ⊢ <;> first | exact ho | exact absurd ho.1 (Nat.lt_irrefl 0)
    | succ k ih =>
      intro d m n h e ho
      subst e
      cases d <;> unfold D.ok at ho ⊢ <;> first
        | exact ho
        | (refine ⟨by omega, oks_iff.mpr fun x hx => ih x k (n - 1) (by omega) rfl ?_⟩; exact oks_iff.mp ho.2 x hx)
  intro d m n h ho
  exact go m d m n h rfl ho
theorem eqvs_map {α : Type} {f : α → D} (hf : ∀ a b, D.eqv (f a) (f b) = true ↔ a = b) : ∀ xs ys : List α, D.eqvs (xs.map f) (ys.map f) = true ↔ xs = ys
  | [], [] => by unfold D.eqvs; simp
  | [], y :: ys => by show D.eqvs [] (f y :: ys.map f) = true ↔ _; unfold D.eqvs; simp
  | x :: xs, [] => by show D.eqvs (f x :: xs.map f) [] = true ↔ _; unfold D.eqvs; simp
  | x :: xs, y :: ys => by
    show D.eqvs (f x :: xs.map f) (f y :: ys.map f) = true ↔ _
    unfold D.eqvs
    rw [Bool.and_eq_true, hf, eqvs_map hf xs ys, List.cons.injEq]
theorem eqvs_nil {xs : List D} : D.eqvs xs [] = xs.isEmpty := by
  cases xs <;> unfold D.eqvs <;> rfl
mutual
theorem D.eqv_refl : ∀ (d : D) (n : Nat), D.ok d n → D.eqv d d = true
  | .non, n, _ => by unfold D.eqv; rfl
  | .bl b, n, _ => by unfold D.eqv; simp
  | .int b, n, _ => by unfold D.eqv; simp
  | .str b, n, h => by unfold D.eqv; simp
  | .tup ds, n, h => by unfold D.ok at h; unfold D.eqv; exact D.eqvs_refl ds _ h.2
  | .lst ds, n, h => by unfold D.ok at h; unfold D.eqv; exact D.eqvs_refl ds _ h.2
  | .lsk ds, n, h => by unfold D.ok at h; unfold D.eqv; exact D.eqvs_refl ds _ h.2
  | .obj _, n, h => by unfold D.ok at h; exact h.elim
  | .raw _, n, h => by unfold D.ok at h; exact h.elim
theorem D.eqvs_refl : ∀ (ds : List D) (n : Nat), D.oks ds n → D.eqvs ds ds = true
  | [], n, _ => by unfold D.eqvs; rfl
  | d :: ds, n, h => by unfold D.oks at h; unfold D.eqvs; rw [D.eqv_refl d n h.1, D.eqvs_refl ds n h.2]; rfl
end
theorem ok_strs {α : Type} {n : Nat} {f : α → List Nat} (xs : List α) (h : ∀ x ∈ xs, SOk (f x)) : D.oks (xs.map fun x => .str (S (f x))) n := oks_iff.mpr fun d hd => by
  obtain ⟨x, hx, rfl⟩ := List.mem_map.mp hd
  unfold D.ok
  exact h x hx
theorem ok_ints {α : Type} {n : Nat} {f : α → Int} (xs : List α) : D.oks (xs.map fun x => .int (f x)) n := oks_iff.mpr fun d hd => by
  obtain ⟨x, hx, rfl⟩ := List.mem_map.mp hd
  unfold D.ok
  trivial
theorem kb_NoneType_str : kitB "NoneType" "str" = some false := by decide +kernel
theorem kb_NoneType_int : kitB "NoneType" "int" = some false := by decide +kernel
theorem kb_NoneType_bool : kitB "NoneType" "bool" = some false := by decide +kernel
theorem kb_NoneType_tuple : kitB "NoneType" "tuple" = some false := by decide +kernel
theorem kb_NoneType_list : kitB "NoneType" "list" = some false := by decide +kernel
theorem kb_bool_str : kitB "bool" "str" = some false := by decide +kernel
theorem kb_bool_int : kitB "bool" "int" = some true := by decide +kernel
theorem kb_bool_bool : kitB "bool" "bool" = some true := by decide +kernel
theorem kb_bool_tuple : kitB "bool" "tuple" = some false := by decide +kernel
theorem kb_bool_list : kitB "bool" "list" = some false := by decide +kernel
theorem kb_int_str : kitB "int" "str" = some false := by decide +kernel
theorem kb_int_int : kitB "int" "int" = some true := by decide +kernel
theorem kb_int_bool : kitB "int" "bool" = some false := by decide +kernel
theorem kb_int_tuple : kitB "int" "tuple" = some false := by decide +kernel
theorem kb_int_list : kitB "int" "list" = some false := by decide +kernel
theorem kb_str_str : kitB "str" "str" = some true := by decide +kernel
theorem kb_str_int : kitB "str" "int" = some false := by decide +kernel
theorem kb_str_bool : kitB "str" "bool" = some false := by decide +kernel
theorem kb_str_tuple : kitB "str" "tuple" = some false := by decide +kernel
theorem kb_str_list : kitB "str" "list" = some false := by decide +kernel
theorem kb_tuple_str : kitB "tuple" "str" = some false := by decide +kernel
theorem kb_tuple_int : kitB "tuple" "int" = some false := by decide +kernel
theorem kb_tuple_bool : kitB "tuple" "bool" = some false := by decide +kernel
theorem kb_tuple_tuple : kitB "tuple" "tuple" = some true := by decide +kernel
theorem kb_tuple_list : kitB "tuple" "list" = some false := by decide +kernel
theorem kb_list_str : kitB "list" "str" = some false := by decide +kernel
theorem kb_list_int : kitB "list" "int" = some false := by decide +kernel
theorem kb_list_bool : kitB "list" "bool" = some false := by decide +kernel
theorem kb_list_tuple : kitB "list" "tuple" = some false := by decide +kernel
theorem kb_list_list : kitB "list" "list" = some true := by decide +kernel
end AB
namespace AB
open PySem PySem.Spec PyProof.Rows L2

local macro_rules | `(tactic| walk_at "gs") => `(tactic| (apply AB.w_start; (· (simp only [startG, List.map_cons, List.map_nil, List.length_cons, List.length_nil, Nat.reduceAdd, Nat.reduceSub, List.replicate_succ, List.replicate_zero, List.cons_append, List.nil_append]; try exact rfl))))
local macro_rules | `(tactic| walk_at "gb") => `(tactic| (first | exact rfl | decide | omega | (apply AB.natAbs_small <;> omega) | (simp only [List.length_append, List.length_map, List.length_cons, List.length_nil, List.length_take, List.length_drop, rep_len, Int.reduceToNat, List.length_range, List.length_reverse, nums_len, signs_len, zipD_len]; omega)))
local macro_rules | `(tactic| walk_at "gx") => `(tactic| fail)
local macro_rules | `(tactic| walk_at "go1") => `(tactic| ((with_reducible conv => whnf); first
  | ((with_reducible refine Exists.intro ?_ (And.intro ?_ ?_)); rotate_left; (· exact rfl))
  | (with_reducible first | apply AB.v_addI | apply AB.w_back | apply AB.v_eqI | apply AB.v_eqSS | apply AB.v_eqS | apply AB.v_eqSI | apply AB.v_eqIS | apply AB.w_ifN | apply AB.v_lt | apply AB.v_gt | apply AB.v_slL | apply AB.v_ordSS | apply AB.v_neI | apply AB.v_neSS | apply AB.v_neS | apply AB.v_inSS | apply AB.v_ninSS | apply AB.v_lenT | apply AB.v_lenL | apply AB.v_lenK | apply AB.v_ltSS | apply AB.v_gtSS | apply AB.v_eqB | apply AB.v_intI | apply AB.v_intB | apply AB.v_allL | apply AB.v_anyL | apply AB.v_sumL | apply AB.v_tupL | apply AB.v_tupT | apply AB.w_ifT | apply AB.w_ifF | apply AB.w_elEnd)
  | ((with_reducible apply AB.w_gN); (· (simp only [List.set_cons_succ, List.set_cons_zero]; try exact rfl)))
  | ((with_reducible apply AB.v_addSS); (· (first | exact rfl | decide | omega | (apply AB.natAbs_small <;> omega) | (simp only [List.length_append, List.length_map, List.length_cons, List.length_nil, List.length_take, List.length_drop, rep_len, Int.reduceToNat, List.length_range, List.length_reverse, nums_len, signs_len, zipD_len]; omega))))
  | ((with_reducible apply AB.v_mul); (· (first | exact .inr ⟨by decide, by decide⟩ | exact .inl ⟨by decide, by decide⟩ | omega)))
  | ((with_reducible apply AB.v_lenSS); (· (first | exact rfl | decide | omega | (apply AB.natAbs_small <;> omega) | (simp only [List.length_append, List.length_map, List.length_cons, List.length_nil, List.length_take, List.length_drop, rep_len, Int.reduceToNat, List.length_range, List.length_reverse, nums_len, signs_len, zipD_len]; omega))))
  | ((with_reducible apply AB.v_slS); (· (first | exact rfl | decide | omega | (apply AB.natAbs_small <;> omega) | (simp only [List.length_append, List.length_map, List.length_cons, List.length_nil, List.length_take, List.length_drop, rep_len, Int.reduceToNat, List.length_range, List.length_reverse, nums_len, signs_len, zipD_len]; omega))))
  | ((with_reducible apply AB.v_addL); (· (first | exact rfl | decide | omega | (apply AB.natAbs_small <;> omega) | (simp only [List.length_append, List.length_map, List.length_cons, List.length_nil, List.length_take, List.length_drop, rep_len, Int.reduceToNat, List.length_range, List.length_reverse, nums_len, signs_len, zipD_len]; omega))))
  | ((with_reducible apply AB.v_mulSS); (· (first | exact rfl | decide | omega | (apply AB.natAbs_small <;> omega) | (simp only [List.length_append, List.length_map, List.length_cons, List.length_nil, List.length_take, List.length_drop, rep_len, Int.reduceToNat, List.length_range, List.length_reverse, nums_len, signs_len, zipD_len]; omega))); (· (first | exact rfl | decide | omega | (apply AB.natAbs_small <;> omega) | (simp only [List.length_append, List.length_map, List.length_cons, List.length_nil, List.length_take, List.length_drop, rep_len, Int.reduceToNat, List.length_range, List.length_reverse, nums_len, signs_len, zipD_len]; omega))); (· (first | exact rfl | decide | omega | (apply AB.natAbs_small <;> omega) | (simp only [List.length_append, List.length_map, List.length_cons, List.length_nil, List.length_take, List.length_drop, rep_len, Int.reduceToNat, List.length_range, List.length_reverse, nums_len, signs_len, zipD_len]; omega))))
  | ((with_reducible apply AB.v_isi); (· exact rfl); (· (first | exact AB.kb_NoneType_str | exact AB.kb_NoneType_int | exact AB.kb_NoneType_bool | exact AB.kb_NoneType_tuple | exact AB.kb_NoneType_list | exact AB.kb_bool_str | exact AB.kb_bool_int | exact AB.kb_bool_bool | exact AB.kb_bool_tuple | exact AB.kb_bool_list | exact AB.kb_int_str | exact AB.kb_int_int | exact AB.kb_int_bool | exact AB.kb_int_tuple | exact AB.kb_int_list | exact AB.kb_str_str | exact AB.kb_str_int | exact AB.kb_str_bool | exact AB.kb_str_tuple | exact AB.kb_str_list | exact AB.kb_tuple_str | exact AB.kb_tuple_int | exact AB.kb_tuple_bool | exact AB.kb_tuple_tuple | exact AB.kb_tuple_list | exact AB.kb_list_str | exact AB.kb_list_int | exact AB.kb_list_bool | exact AB.kb_list_tuple | exact AB.kb_list_list)))
  | ((with_reducible apply AB.v_isi2); (· exact rfl); (· (first | exact AB.kb_NoneType_str | exact AB.kb_NoneType_int | exact AB.kb_NoneType_bool | exact AB.kb_NoneType_tuple | exact AB.kb_NoneType_list | exact AB.kb_bool_str | exact AB.kb_bool_int | exact AB.kb_bool_bool | exact AB.kb_bool_tuple | exact AB.kb_bool_list | exact AB.kb_int_str | exact AB.kb_int_int | exact AB.kb_int_bool | exact AB.kb_int_tuple | exact AB.kb_int_list | exact AB.kb_str_str | exact AB.kb_str_int | exact AB.kb_str_bool | exact AB.kb_str_tuple | exact AB.kb_str_list | exact AB.kb_tuple_str | exact AB.kb_tuple_int | exact AB.kb_tuple_bool | exact AB.kb_tuple_tuple | exact AB.kb_tuple_list | exact AB.kb_list_str | exact AB.kb_list_int | exact AB.kb_list_bool | exact AB.kb_list_tuple | exact AB.kb_list_list)); (· (first | exact AB.kb_NoneType_str | exact AB.kb_NoneType_int | exact AB.kb_NoneType_bool | exact AB.kb_NoneType_tuple | exact AB.kb_NoneType_list | exact AB.kb_bool_str | exact AB.kb_bool_int | exact AB.kb_bool_bool | exact AB.kb_bool_tuple | exact AB.kb_bool_list | exact AB.kb_int_str | exact AB.kb_int_int | exact AB.kb_int_bool | exact AB.kb_int_tuple | exact AB.kb_int_list | exact AB.kb_str_str | exact AB.kb_str_int | exact AB.kb_str_bool | exact AB.kb_str_tuple | exact AB.kb_str_list | exact AB.kb_tuple_str | exact AB.kb_tuple_int | exact AB.kb_tuple_bool | exact AB.kb_tuple_tuple | exact AB.kb_tuple_list | exact AB.kb_list_str | exact AB.kb_list_int | exact AB.kb_list_bool | exact AB.kb_list_tuple | exact AB.kb_list_list)); (· first | exact Bool.or_true _ | exact Bool.true_or _ | exact Bool.or_false _))
  | ((with_reducible apply AB.w_lc); (· (simp only [wipeG, List.set_cons_succ, List.set_cons_zero]; try exact rfl)))
  | ((with_reducible apply AB.w_elY); (· (simp only [List.set_cons_succ, List.set_cons_zero]; try exact rfl)))
  | ((with_reducible apply AB.w_el); (· (simp only [List.set_cons_succ, List.set_cons_zero]; try exact rfl)))
  | ((with_reducible apply AB.v_append); (· first | exact rfl | assumption); (· (first | exact rfl | decide | omega | (apply AB.natAbs_small <;> omega) | (simp only [List.length_append, List.length_map, List.length_cons, List.length_nil, List.length_take, List.length_drop, rep_len, Int.reduceToNat, List.length_range, List.length_reverse, nums_len, signs_len, zipD_len]; omega))); (· (simp only [List.set_cons_succ, List.set_cons_zero]; try exact rfl)))
  | ((with_reducible apply AB.v_lenO); (· first | exact rfl | assumption))
  | ((with_reducible apply AB.v_slO); (· first | exact rfl | assumption))
  | ((with_reducible apply AB.v_tupO); (· first | exact rfl | assumption))
  | ((with_reducible apply AB.w_exO); (· first | exact rfl | assumption))
  | ((with_reducible apply AB.w_truO); (· first | exact rfl | assumption))
  | ((with_reducible apply AB.w_elTY); (· (simp only [setLG, List.set_cons_succ, List.set_cons_zero]; try exact rfl)); (· exact rfl))
  | ((with_reducible apply AB.w_elT); (· (simp only [setLG, List.set_cons_succ, List.set_cons_zero]; try exact rfl)); (· exact rfl))
  | ((with_reducible apply AB.w_exR); (· (first | exact rfl | decide | omega | (apply AB.natAbs_small <;> omega) | (simp only [List.length_append, List.length_map, List.length_cons, List.length_nil, List.length_take, List.length_drop, rep_len, Int.reduceToNat, List.length_range, List.length_reverse, nums_len, signs_len, zipD_len]; omega))); (· (first | exact rfl | decide | omega | (apply AB.natAbs_small <;> omega) | (simp only [List.length_append, List.length_map, List.length_cons, List.length_nil, List.length_take, List.length_drop, rep_len, Int.reduceToNat, List.length_range, List.length_reverse, nums_len, signs_len, zipD_len]; omega))))
  | ((with_reducible refine And.intro ?_ ?_); (· first | (exact v_tyS) | (exact v_tyO (by first | exact rfl | assumption)) | (exact fun _ => trivial) | (first | exact rfl | decide | omega | (apply AB.natAbs_small <;> omega) | (simp only [List.length_append, List.length_map, List.length_cons, List.length_nil, List.length_take, List.length_drop, rep_len, Int.reduceToNat, List.length_range, List.length_reverse, nums_len, signs_len, zipD_len]; omega))))
  | ((with_reducible refine Exists.intro ?_ (Exists.intro ?_ (And.intro ?_ (And.intro ?_ ?_)))); rotate_left; rotate_left; (· exact rfl); (· exact rfl))
  | ((with_reducible refine Exists.intro ?_ (Exists.intro ?_ (And.intro ?_ ?_))); rotate_left; rotate_left; (· exact rfl))
  | walk_at "gx"))
local macro_rules | `(tactic| walk_at "go") => `(tactic| ((repeat walk_at "go1"); try (with_reducible conv => whnf)))
local macro_rules | `(tactic| walk_at "gd") => `(tactic| ((repeat first | walk_at "go1" | ((with_reducible conv => whnf); (with_reducible apply AB.w_ifP); (· first | decide | omega)) | ((with_reducible conv => whnf); (with_reducible apply AB.w_ifQ); (· first | decide | omega))); try (with_reducible conv => whnf)))
theorem getD_map {α β : Type} (f : α → β) {xs : List α} {i : Nat} {a : α} : (xs.map f).getD i (f a) = f (xs.getD i a) := by
  rw [List.getD_eq_getElem?_getD, List.getD_eq_getElem?_getD, List.getElem?_map]
  cases xs[i]? <;> rfl
theorem lts_map {α : Type} {n : Nat} {f : α → D} (h : ∀ x, D.lt n (f x)) : ∀ xs : List α, D.lts n (xs.map f)
  | [] => by unfold D.lts; trivial
  | x :: xs => by
    rw [List.map_cons]
    unfold D.lts
    exact ⟨h x, lts_map h xs⟩
theorem lts_strs {α : Type} {n : Nat} {f : α → Str} (xs : List α) : D.lts n (xs.map fun x => .str (f x)) := lts_map (fun x => by unfold D.lt; trivial) xs
theorem lts_bls {α : Type} {n : Nat} {f : α → Bool} (xs : List α) : D.lts n (xs.map fun x => .bl (f x)) := lts_map (fun x => by unfold D.lt; trivial) xs
theorem lts_ints {α : Type} {n : Nat} {f : α → Int} (xs : List α) : D.lts n (xs.map fun x => .int (f x)) := lts_map (fun x => by unfold D.lt; trivial) xs
/-! the law's own little helpers -/
def mixZ (c p m : Int) : Int := (c * 48271 % p) * (c * 48271 % p + 7) % p % m
theorem mix0 (c p : Int) {m : Int} (hm : 0 < m) : 0 ≤ mixZ c p m := Int.emod_nonneg _ (Int.ne_of_gt hm)
theorem mix1 (c p : Int) {m : Int} (hm : 0 < m) : mixZ c p m < m := Int.emod_lt_of_pos _ hm
def A_law_mix : ASp := fun ds θ k _ => ∃ c p m : Int, ds = [.int c, .int p, .int m] ∧ 0 < p ∧ p < 100000 ∧ 0 < m ∧ k (.int (mixZ c p m)) θ
theorem c_mix {c p m : Int} {θ : Th} {k : AK} {kx : AX} (h1 : 0 < p) (h2 : p < 100000) (h3 : 0 < m) (q : k (.int (mixZ c p m)) θ) : A_law_mix [.int c, .int p, .int m] θ k kx := ⟨c, p, m, rfl, h1, h2, h3, q⟩
def cellZ (ns : List Int) (i : Nat) : Int := ns.getD i 0
def A_law_cell : ASp := fun ds θ k _ => ∃ (ns : List Int) (i : Int), ds = [.lsk (ns.map D.int), .int i] ∧ 0 ≤ i ∧ k (.int (cellZ ns i.toNat)) θ
theorem c_cell {ns : List Int} {i : Int} {θ : Th} {k : AK} {kx : AX} (h : 0 ≤ i) (q : k (.int (cellZ ns i.toNat)) θ) : A_law_cell [.lsk (ns.map D.int), .int i] θ k kx := ⟨ns, i, rfl, h, q⟩
def sgs : List Nat := [97, 98, 99, 100, 101, 102, 103, 104, 105, 106, 107, 108, 109, 110, 111, 112, 113, 114, 115, 116, 117, 118, 119, 120, 121, 122, 48, 49, 50, 51, 52, 53, 54, 55, 56, 57, 47, 45, 46]
def tabK : List (List Nat) := [[97], [97, 47, 98], [97, 47, 99], [97, 47, 98, 47, 99], [98], [47], [97, 45, 49], [97, 46]]
def keyZ (c : Int) : List Nat := if c % 3 = 0 then tabK.getD (mixZ c 9973 8).toNat [] else (List.range (1 + mixZ c 9967 20).toNat).map fun j => sgs.getD (mixZ (c + 7 * (0 + (j : Nat))) 9949 39).toNat 0
def A_law_key : ASp := fun ds θ k _ => ∃ c : Int, ds = [.int c] ∧ k (.str (S (keyZ c))) θ
theorem c_key {c : Int} {θ : Th} {k : AK} {kx : AX} (q : k (.str (S (keyZ c))) θ) : A_law_key [.int c] θ k kx := ⟨c, rfl, q⟩
/-- a key: one to twenty signs of those -/
def KeyOk (l : List Nat) : Prop := 1 ≤ l.length ∧ l.length ≤ 20 ∧ ∀ x ∈ l, x ∈ sgs
theorem getD_mem {α : Type} {xs : List α} {i : Nat} {a : α} (h : i < xs.length) : xs.getD i a ∈ xs := by
  rw [List.getD_eq_getElem?_getD, List.getElem?_eq_getElem h]
  exact List.getElem_mem h
theorem keyZ_ok (c : Int) : KeyOk (keyZ c) := by
  unfold keyZ
  split
  · have h0 := mix0 c 9973 (m := 8) (by decide)
    have h1 := mix1 c 9973 (m := 8) (by decide)
    have hm : tabK.getD (mixZ c 9973 8).toNat [] ∈ tabK := getD_mem (by show _ < 8; omega)
    have : ∀ l ∈ tabK, KeyOk l := by unfold KeyOk tabK sgs; decide
    exact this _ hm
  · have h0 := mix0 c 9967 (m := 20) (by decide)
    have h1 := mix1 c 9967 (m := 20) (by decide)
    refine ⟨by simp; omega, by simp; omega, fun x hx => ?_⟩
    obtain ⟨j, _, rfl⟩ := List.mem_map.mp hx
    have g0 := mix0 (c + 7 * (0 + (j : Nat))) 9949 (m := 39) (by decide)
    have g1 := mix1 (c + 7 * (0 + (j : Nat))) 9949 (m := 39) (by decide)
    exact getD_mem (by show _ < 39; omega)
def dgs : List Nat := ((List.range 95).map (32 + ·)).filter (· ≠ 37)
theorem dgs_len : dgs.length = 94 := by decide +kernel
theorem dgs_ok : ∀ l ∈ dgs, 32 ≤ l ∧ l ≤ 126 := by decide +kernel
def manyZ (c : Int) : Int := if mixZ c 9931 7 = 1 then mixZ c 9929 100 else if mixZ c 9931 7 = 0 then 99 else mixZ c 9941 9
def dataZ (c : Int) : List Nat := (List.range (manyZ c).toNat).map fun j => dgs.getD (mixZ (c + 5 * (0 + (j : Nat))) 9923 94).toNat 0
theorem manyZ_ok (c : Int) : 0 ≤ manyZ c ∧ manyZ c ≤ 99 := by
  have h0 := mix0 c 9929 (m := 100) (by decide)
  have h1 := mix1 c 9929 (m := 100) (by decide)
  have h2 := mix0 c 9941 (m := 9) (by decide)
  have h3 := mix1 c 9941 (m := 9) (by decide)
  unfold manyZ
  split
  · omega
  · split <;> omega
def DataOk (l : List Nat) : Prop := l.length ≤ 99 ∧ ∀ x ∈ l, 32 ≤ x ∧ x ≤ 126
theorem dataZ_ok (c : Int) : DataOk (dataZ c) := by
  have hm := manyZ_ok c
  refine ⟨by unfold dataZ; simp; omega, fun x hx => ?_⟩
  unfold dataZ at hx
  obtain ⟨j, _, rfl⟩ := List.mem_map.mp hx
  have g0 := mix0 (c + 5 * (0 + (j : Nat))) 9923 (m := 94) (by decide)
  have g1 := mix1 (c + 5 * (0 + (j : Nat))) 9923 (m := 94) (by decide)
  have hdg := dgs_len
  have h : dgs.getD (mixZ (c + 5 * (0 + (j : Nat))) 9923 94).toNat 0 ∈ dgs := getD_mem (by rw [hdg]; omega)
  exact dgs_ok _ h
def A_law_data : ASp := fun ds θ k _ => ∃ c : Int, ds = [.int c] ∧ k (.str (S (dataZ c))) θ
theorem c_data {c : Int} {θ : Th} {k : AK} {kx : AX} (q : k (.str (S (dataZ c))) θ) : A_law_data [.int c] θ k kx := ⟨c, rfl, q⟩
def t_law_mix : ASR := aSeq (aAsg (aBin fMod (aBin fMul (aVar 0) (aC (.int 48271))) (aVar 1)) (gN 3)) (aRet (aBin fMod (aBin fMod (aBin fMul (aVar 3) (aBin fAdd (aVar 3) (aC (.int 7)))) (aVar 1)) (aVar 2)))
def t_law_cell : ASR := aSeq (aIfS (aTst (aBin fLt (aVar 1) (aCB fLen (aCons (aVar 0) (aNil))))) (aRet (aBin fIx (aVar 0) (aVar 1))) (aNext)) (aRet (aC (.int 0)))
theorem lc0 : ("abcdefghijklmnopqrstuvwxyz0123456789/-." : Str) = S sgs := by decide +kernel
theorem lc1 : ("a" : Str) = S [97] := by decide +kernel
theorem lc2 : ("a/b" : Str) = S [97, 47, 98] := by decide +kernel
theorem lc3 : ("a/c" : Str) = S [97, 47, 99] := by decide +kernel
theorem lc4 : ("a/b/c" : Str) = S [97, 47, 98, 47, 99] := by decide +kernel
theorem lc5 : ("b" : Str) = S [98] := by decide +kernel
theorem lc6 : ("/" : Str) = S [47] := by decide +kernel
theorem lc7 : ("a-1" : Str) = S [97, 45, 49] := by decide +kernel
theorem lc8 : ("a." : Str) = S [97, 46] := by decide +kernel
theorem lc9 : ("" : Str) = S [] := by decide +kernel
def t_law_key : ASR := aSeq (aAsg (aC (.str "abcdefghijklmnopqrstuvwxyz0123456789/-.")) (gN 1)) (aSeq (aIfS (aTst (aBin fEq (aBin fMod (aVar 0) (aC (.int 3))) (aC (.int 0)))) (aRet (aBin fIx (aTup (aCons (aC (.str "a")) (aCons (aC (.str "a/b")) (aCons (aC (.str "a/c")) (aCons (aC (.str "a/b/c")) (aCons (aC (.str "b")) (aCons (aC (.str "/")) (aCons (aC (.str "a-1")) (aCons (aC (.str "a.")) (aNil)))))))))) (aCall A_law_mix (aCons (aVar 0) (aCons (aC (.int 9973)) (aCons (aC (.int 8)) (aNil))))))) (aNext)) (aSeq (aAsg (aBin fAdd (aC (.int 1)) (aCall A_law_mix (aCons (aVar 0) (aCons (aC (.int 9967)) (aCons (aC (.int 20)) (aNil)))))) (gN 2)) (aRet (aBM "str" fJoin (aC (.str "")) (aCons (aLc (aRng (aCons (aVar 2) (aNil))) (.one 3) (aYes) (aBin fIx (aVar 1) (aCall A_law_mix (aCons (aBin fAdd (aVar 0) (aBin fMul (aC (.int 7)) (aVar 3))) (aCons (aC (.int 9949)) (aCons (aC (.int 39)) (aNil)))))) [3]) (aNil))))))
local macro_rules | `(tactic| walk_at "lits_law_key") => `(tactic| simp only [lc0, lc1, lc2, lc3, lc4, lc5, lc6, lc7, lc8, lc9])
theorem lc10 : (" !\"#$&'()*+,-./0123456789:;<=>?@ABCDEFGHIJKLMNOPQRSTUVWXYZ[\\]^_`abcdefghijklmnopqrstuvwxyz{|}~" : Str) = S dgs := by decide +kernel
def t_law_data : ASR := aSeq (aAsg (aC (.str " !\"#$&'()*+,-./0123456789:;<=>?@ABCDEFGHIJKLMNOPQRSTUVWXYZ[\\]^_`abcdefghijklmnopqrstuvwxyz{|}~")) (gN 1)) (aSeq (aAsg (aCall A_law_mix (aCons (aVar 0) (aCons (aC (.int 9941)) (aCons (aC (.int 9)) (aNil))))) (gN 2)) (aSeq (aIfS (aTst (aBin fEq (aCall A_law_mix (aCons (aVar 0) (aCons (aC (.int 9931)) (aCons (aC (.int 7)) (aNil))))) (aC (.int 0)))) (aAsg (aC (.int 99)) (gN 2)) (aNext)) (aSeq (aIfS (aTst (aBin fEq (aCall A_law_mix (aCons (aVar 0) (aCons (aC (.int 9931)) (aCons (aC (.int 7)) (aNil))))) (aC (.int 1)))) (aAsg (aCall A_law_mix (aCons (aVar 0) (aCons (aC (.int 9929)) (aCons (aC (.int 100)) (aNil))))) (gN 2)) (aNext)) (aRet (aBM "str" fJoin (aC (.str "")) (aCons (aLc (aRng (aCons (aVar 2) (aNil))) (.one 3) (aYes) (aBin fIx (aVar 1) (aCall A_law_mix (aCons (aBin fAdd (aVar 0) (aBin fMul (aC (.int 5)) (aVar 3))) (aCons (aC (.int 9923)) (aCons (aCB fLen (aCons (aVar 1) (aNil))) (aNil)))))) [3]) (aNil)))))))
local macro_rules | `(tactic| walk_at "lits_law_data") => `(tactic| simp only [lc10, lc9])
theorem len_law_mix : ∀ ds θ k kx, A_law_mix ds θ k kx → ds.length = 3 := by rintro _ θ k kx ⟨_, _, _, rfl, _⟩; rfl
theorem len_law_cell : ∀ ds θ k kx, A_law_cell ds θ k kx → ds.length = 2 := by rintro _ θ k kx ⟨_, _, rfl, _⟩; rfl
theorem len_law_key : ∀ ds θ k kx, A_law_key ds θ k kx → ds.length = 1 := by rintro _ θ k kx ⟨_, rfl, _⟩; rfl
theorem len_law_data : ∀ ds θ k kx, A_law_data ds θ k kx → ds.length = 1 := by rintro _ θ k kx ⟨_, rfl, _⟩; rfl
local macro_rules | `(tactic| walk_at "gx") => `(tactic| first | ((with_reducible apply c_mix); (· decide); (· decide); (· first | decide | omega)) | ((with_reducible apply c_cell); (· omega)) | (with_reducible apply c_key) | (with_reducible apply c_data))
theorem run_law_mix : ∀ ds θ k kx, (∀ e ∈ θ, Ent.lt θ.length e) → A_law_mix ds θ k kx → t_law_mix (eBody θ.length k kx) (startG 4 ds) θ := by
  rintro ds θ k kx - ⟨c, p, m, rfl, hp, hp2, hm, q⟩
  walk_at "gs"
  unfold t_law_mix
  have h1 := Int.emod_nonneg (c * 48271) (Int.ne_of_gt hp)
  have h2 := Int.emod_lt_of_pos (c * 48271) hp
  walk_at "go"
  exact q
theorem cell_at {ns : List Int} {i : Int} (h0 : 0 ≤ i) (h1 : i < ns.length) : atI (ns.map D.int) i = some (.int (cellZ ns i.toNat)) := by
  have := atI_ofNat (xs := ns.map D.int) h0 (by rw [List.length_map]; exact h1) (.int 0)
  rw [this, getD_map D.int]
  rfl
theorem run_law_cell : ∀ ds θ k kx, (∀ e ∈ θ, Ent.lt θ.length e) → A_law_cell ds θ k kx → t_law_cell (eBody θ.length k kx) (startG 2 ds) θ := by
  rintro ds θ k kx - ⟨ns, i, rfl, h0, q⟩
  walk_at "gs"
  unfold t_law_cell
  walk_at "go"
  rw [List.length_map]
  refine w_if (fun h => ?_) (fun h => ?_)
  · walk_at "go"
    refine AB.v_ixK (cell_at h0 h) ?_
    walk_at "go"
    exact q
  · walk_at "go"
    have e : cellZ ns i.toNat = 0 := by
      unfold cellZ
      rw [List.getD_eq_getElem?_getD, List.getElem?_eq_none (by omega)]
      rfl
    rw [e] at q
    exact q
theorem run_law_key : ∀ ds θ k kx, (∀ e ∈ θ, Ent.lt θ.length e) → A_law_key ds θ k kx → t_law_key (eBody θ.length k kx) (startG 4 ds) θ := by
  rintro ds θ k kx - ⟨c, rfl, q⟩
  walk_at "gs"
  unfold t_law_key
  walk_at "lits_law_key"
  walk_at "go"
  refine w_if (fun h => ?_) (fun h => ?_)
  · walk_at "go"
    have h0 := mix0 c 9973 (m := 8) (by decide)
    have h1 := mix1 c 9973 (m := 8) (by decide)
    refine AB.v_ixT (atI_ofNat h0 (by exact h1) (.str (S []))) ?_
    walk_at "go"
    have e : ([D.str (S [97]), D.str (S [97, 47, 98]), D.str (S [97, 47, 99]), D.str (S [97, 47, 98, 47, 99]), D.str (S [98]), D.str (S [47]), D.str (S [97, 45, 49]), D.str (S [97, 46])] : List D) = tabK.map fun l => .str (S l) := rfl
    have e2 : keyZ c = tabK.getD (mixZ c 9973 8).toNat [] := if_pos h
    rw [e2] at q
    rw [e, getD_map (fun l => D.str (S l))]
    exact q
  · have h0 := mix0 c 9967 (m := 20) (by decide)
    have h1 := mix1 c 9967 (m := 20) (by decide)
    walk_at "go"
    refine cl_map (fun j => .str (S [sgs.getD (mixZ (c + 7 * (0 + (j : Nat))) 9949 39).toNat 0])) (fun j hj acc ko q => ?_) ?_
    · have g0 := mix0 (c + 7 * (0 + (j : Nat))) 9949 (m := 39) (by decide)
      have g1 := mix1 (c + 7 * (0 + (j : Nat))) 9949 (m := 39) (by decide)
      walk_at "go"
      refine AB.v_ixSS (by decide) (atI_ofNat g0 (by exact g1) 0) ?_
      walk_at "go"
      exact q
    · refine And.intro (lts_strs _) ?_
      walk_at "go"
      refine v_join1 (by simp; omega) ?_
      walk_at "go"
      have e2 : keyZ c = (List.range (1 + mixZ c 9967 20).toNat).map fun j => sgs.getD (mixZ (c + 7 * (0 + (j : Nat))) 9949 39).toNat 0 := if_neg h
      rw [e2] at q
      exact q
theorem run_law_data : ∀ ds θ k kx, (∀ e ∈ θ, Ent.lt θ.length e) → A_law_data ds θ k kx → t_law_data (eBody θ.length k kx) (startG 4 ds) θ := by
  rintro ds θ k kx - ⟨c, rfl, q⟩
  walk_at "gs"
  unfold t_law_data
  walk_at "lits_law_data"
  have hdg := dgs_len
  have fin : ∀ (m : Int), m = manyZ c → aRet (aBM "str" fJoin (aC (D.str (S [])))
    (aCons (aLc (aRng (aCons (aVar 2) aNil)) (Tgt.one 3) aYes (aBin fIx (aVar 1) (aCall A_law_mix (aCons (aBin fAdd (aVar 0) (aBin fMul (aC (D.int 5)) (aVar 3))) (aCons (aC (D.int 9923)) (aCons (aCB fLen (aCons (aVar 1) aNil)) aNil))))) [3]) aNil)) (eBody θ.length k kx) [some (.int c), some (.str (S dgs)), some (.int m), none] θ := by
    rintro m rfl
    have hm := manyZ_ok c
    walk_at "go"
    refine cl_map (fun j => .str (S [dgs.getD (mixZ (c + 5 * (0 + (j : Nat))) 9923 94).toNat 0])) (fun j hj acc ko q => ?_) ?_
    · have g0 := mix0 (c + 5 * (0 + (j : Nat))) 9923 (m := 94) (by decide)
      have g1 := mix1 (c + 5 * (0 + (j : Nat))) 9923 (m := 94) (by decide)
      walk_at "go"
      rw [hdg]
      walk_at "go"
      refine AB.v_ixSS (by omega) (atI_ofNat g0 (by rw [hdg]; exact g1) 0) ?_
      walk_at "go"
      exact q
    · refine And.intro (lts_strs _) ?_
      walk_at "go"
      refine v_join1 (by simp; omega) ?_
      walk_at "go"
      exact q
  walk_at "go"
  refine w_if (fun h => ?_) (fun h => ?_)
  · walk_at "go"
    refine w_if (fun h1 => ?_) (fun h1 => ?_)
    · exfalso; omega
    · refine fin 99 ?_
      unfold manyZ
      rw [if_neg h1, if_pos h]
  · walk_at "go"
    refine w_if (fun h1 => ?_) (fun h1 => ?_)
    · iterate 3 walk_at "go1"
      refine fin _ ?_
      unfold manyZ
      rw [if_pos h1]
    · refine fin _ ?_
      unfold manyZ
      rw [if_neg h1, if_neg h]
end AB
namespace AB
open PySem PySem.Spec PyProof.Rows L2 TL

local macro_rules | `(tactic| walk_at "gs") => `(tactic| (apply AB.w_start; (· (simp only [startG, List.map_cons, List.map_nil, List.length_cons, List.length_nil, Nat.reduceAdd, Nat.reduceSub, List.replicate_succ, List.replicate_zero, List.cons_append, List.nil_append]; try exact rfl))))
local macro_rules | `(tactic| walk_at "gb") => `(tactic| (first | exact rfl | decide | omega | (apply AB.natAbs_small <;> omega) | (simp only [List.length_append, List.length_map, List.length_cons, List.length_nil, List.length_take, List.length_drop, rep_len, Int.reduceToNat, List.length_range, List.length_reverse, nums_len, signs_len, zipD_len]; omega)))
local macro_rules | `(tactic| walk_at "gx") => `(tactic| fail)
local macro_rules | `(tactic| walk_at "go1") => `(tactic| ((with_reducible conv => whnf); first
  | ((with_reducible refine Exists.intro ?_ (And.intro ?_ ?_)); rotate_left; (· exact rfl))
  | (with_reducible first | apply AB.v_addI | apply AB.w_back | apply AB.v_eqI | apply AB.v_eqSS | apply AB.v_eqS | apply AB.v_eqSI | apply AB.v_eqIS | apply AB.w_ifN | apply AB.v_lt | apply AB.v_gt | apply AB.v_slL | apply AB.v_ordSS | apply AB.v_neI | apply AB.v_neSS | apply AB.v_neS | apply AB.v_inSS | apply AB.v_ninSS | apply AB.v_lenT | apply AB.v_lenL | apply AB.v_lenK | apply AB.v_ltSS | apply AB.v_gtSS | apply AB.v_eqB | apply AB.v_intI | apply AB.v_intB | apply AB.v_allL | apply AB.v_anyL | apply AB.v_sumL | apply AB.v_tupL | apply AB.v_tupT | apply AB.w_ifT | apply AB.w_ifF | apply AB.w_elEnd)
  | ((with_reducible apply AB.w_gN); (· (simp only [List.set_cons_succ, List.set_cons_zero]; try exact rfl)))
  | ((with_reducible apply AB.v_addSS); (· (first | exact rfl | decide | omega | (apply AB.natAbs_small <;> omega) | (simp only [List.length_append, List.length_map, List.length_cons, List.length_nil, List.length_take, List.length_drop, rep_len, Int.reduceToNat, List.length_range, List.length_reverse, nums_len, signs_len, zipD_len]; omega))))
  | ((with_reducible apply AB.v_mul); (· (first | exact .inr ⟨by decide, by decide⟩ | exact .inl ⟨by decide, by decide⟩ | omega)))
  | ((with_reducible apply AB.v_lenSS); (· (first | exact rfl | decide | omega | (apply AB.natAbs_small <;> omega) | (simp only [List.length_append, List.length_map, List.length_cons, List.length_nil, List.length_take, List.length_drop, rep_len, Int.reduceToNat, List.length_range, List.length_reverse, nums_len, signs_len, zipD_len]; omega))))
  | ((with_reducible apply AB.v_slS); (· (first | exact rfl | decide | omega | (apply AB.natAbs_small <;> omega) | (simp only [List.length_append, List.length_map, List.length_cons, List.length_nil, List.length_take, List.length_drop, rep_len, Int.reduceToNat, List.length_range, List.length_reverse, nums_len, signs_len, zipD_len]; omega))))
  | ((with_reducible apply AB.v_addL); (· (first | exact rfl | decide | omega | (apply AB.natAbs_small <;> omega) | (simp only [List.length_append, List.length_map, List.length_cons, List.length_nil, List.length_take, List.length_drop, rep_len, Int.reduceToNat, List.length_range, List.length_reverse, nums_len, signs_len, zipD_len]; omega))))
  | ((with_reducible apply AB.v_mulSS); (· (first | exact rfl | decide | omega | (apply AB.natAbs_small <;> omega) | (simp only [List.length_append, List.length_map, List.length_cons, List.length_nil, List.length_take, List.length_drop, rep_len, Int.reduceToNat, List.length_range, List.length_reverse, nums_len, signs_len, zipD_len]; omega))); (· (first | exact rfl | decide | omega | (apply AB.natAbs_small <;> omega) | (simp only [List.length_append, List.length_map, List.length_cons, List.length_nil, List.length_take, List.length_drop, rep_len, Int.reduceToNat, List.length_range, List.length_reverse, nums_len, signs_len, zipD_len]; omega))); (· (first | exact rfl | decide | omega | (apply AB.natAbs_small <;> omega) | (simp only [List.length_append, List.length_map, List.length_cons, List.length_nil, List.length_take, List.length_drop, rep_len, Int.reduceToNat, List.length_range, List.length_reverse, nums_len, signs_len, zipD_len]; omega))))
  | ((with_reducible apply AB.v_isi); (· exact rfl); (· (first | exact AB.kb_NoneType_str | exact AB.kb_NoneType_int | exact AB.kb_NoneType_bool | exact AB.kb_NoneType_tuple | exact AB.kb_NoneType_list | exact AB.kb_bool_str | exact AB.kb_bool_int | exact AB.kb_bool_bool | exact AB.kb_bool_tuple | exact AB.kb_bool_list | exact AB.kb_int_str | exact AB.kb_int_int | exact AB.kb_int_bool | exact AB.kb_int_tuple | exact AB.kb_int_list | exact AB.kb_str_str | exact AB.kb_str_int | exact AB.kb_str_bool | exact AB.kb_str_tuple | exact AB.kb_str_list | exact AB.kb_tuple_str | exact AB.kb_tuple_int | exact AB.kb_tuple_bool | exact AB.kb_tuple_tuple | exact AB.kb_tuple_list | exact AB.kb_list_str | exact AB.kb_list_int | exact AB.kb_list_bool | exact AB.kb_list_tuple | exact AB.kb_list_list)))
  | ((with_reducible apply AB.v_isi2); (· exact rfl); (· (first | exact AB.kb_NoneType_str | exact AB.kb_NoneType_int | exact AB.kb_NoneType_bool | exact AB.kb_NoneType_tuple | exact AB.kb_NoneType_list | exact AB.kb_bool_str | exact AB.kb_bool_int | exact AB.kb_bool_bool | exact AB.kb_bool_tuple | exact AB.kb_bool_list | exact AB.kb_int_str | exact AB.kb_int_int | exact AB.kb_int_bool | exact AB.kb_int_tuple | exact AB.kb_int_list | exact AB.kb_str_str | exact AB.kb_str_int | exact AB.kb_str_bool | exact AB.kb_str_tuple | exact AB.kb_str_list | exact AB.kb_tuple_str | exact AB.kb_tuple_int | exact AB.kb_tuple_bool | exact AB.kb_tuple_tuple | exact AB.kb_tuple_list | exact AB.kb_list_str | exact AB.kb_list_int | exact AB.kb_list_bool | exact AB.kb_list_tuple | exact AB.kb_list_list)); (· (first | exact AB.kb_NoneType_str | exact AB.kb_NoneType_int | exact AB.kb_NoneType_bool | exact AB.kb_NoneType_tuple | exact AB.kb_NoneType_list | exact AB.kb_bool_str | exact AB.kb_bool_int | exact AB.kb_bool_bool | exact AB.kb_bool_tuple | exact AB.kb_bool_list | exact AB.kb_int_str | exact AB.kb_int_int | exact AB.kb_int_bool | exact AB.kb_int_tuple | exact AB.kb_int_list | exact AB.kb_str_str | exact AB.kb_str_int | exact AB.kb_str_bool | exact AB.kb_str_tuple | exact AB.kb_str_list | exact AB.kb_tuple_str | exact AB.kb_tuple_int | exact AB.kb_tuple_bool | exact AB.kb_tuple_tuple | exact AB.kb_tuple_list | exact AB.kb_list_str | exact AB.kb_list_int | exact AB.kb_list_bool | exact AB.kb_list_tuple | exact AB.kb_list_list)); (· first | exact Bool.or_true _ | exact Bool.true_or _ | exact Bool.or_false _))
  | ((with_reducible apply AB.w_lc); (· (simp only [wipeG, List.set_cons_succ, List.set_cons_zero]; try exact rfl)))
  | ((with_reducible apply AB.w_elY); (· (simp only [List.set_cons_succ, List.set_cons_zero]; try exact rfl)))
  | ((with_reducible apply AB.w_el); (· (simp only [List.set_cons_succ, List.set_cons_zero]; try exact rfl)))
  | ((with_reducible apply AB.v_append); (· first | exact rfl | assumption); (· (first | exact rfl | decide | omega | (apply AB.natAbs_small <;> omega) | (simp only [List.length_append, List.length_map, List.length_cons, List.length_nil, List.length_take, List.length_drop, rep_len, Int.reduceToNat, List.length_range, List.length_reverse, nums_len, signs_len, zipD_len]; omega))); (· (simp only [List.set_cons_succ, List.set_cons_zero]; try exact rfl)))
  | ((with_reducible apply AB.v_lenO); (· first | exact rfl | assumption))
  | ((with_reducible apply AB.v_slO); (· first | exact rfl | assumption))
  | ((with_reducible apply AB.v_tupO); (· first | exact rfl | assumption))
  | ((with_reducible apply AB.w_exO); (· first | exact rfl | assumption))
  | ((with_reducible apply AB.w_truO); (· first | exact rfl | assumption))
  | ((with_reducible apply AB.w_elTY); (· (simp only [setLG, List.set_cons_succ, List.set_cons_zero]; try exact rfl)); (· exact rfl))
  | ((with_reducible apply AB.w_elT); (· (simp only [setLG, List.set_cons_succ, List.set_cons_zero]; try exact rfl)); (· exact rfl))
  | ((with_reducible apply AB.w_exR); (· (first | exact rfl | decide | omega | (apply AB.natAbs_small <;> omega) | (simp only [List.length_append, List.length_map, List.length_cons, List.length_nil, List.length_take, List.length_drop, rep_len, Int.reduceToNat, List.length_range, List.length_reverse, nums_len, signs_len, zipD_len]; omega))); (· (first | exact rfl | decide | omega | (apply AB.natAbs_small <;> omega) | (simp only [List.length_append, List.length_map, List.length_cons, List.length_nil, List.length_take, List.length_drop, rep_len, Int.reduceToNat, List.length_range, List.length_reverse, nums_len, signs_len, zipD_len]; omega))))
  | ((with_reducible refine And.intro ?_ ?_); (· first | (exact v_tyS) | (exact v_tyO (by first | exact rfl | assumption)) | (exact fun _ => trivial) | (first | exact rfl | decide | omega | (apply AB.natAbs_small <;> omega) | (simp only [List.length_append, List.length_map, List.length_cons, List.length_nil, List.length_take, List.length_drop, rep_len, Int.reduceToNat, List.length_range, List.length_reverse, nums_len, signs_len, zipD_len]; omega))))
  | ((with_reducible refine Exists.intro ?_ (Exists.intro ?_ (And.intro ?_ (And.intro ?_ ?_)))); rotate_left; rotate_left; (· exact rfl); (· exact rfl))
  | ((with_reducible refine Exists.intro ?_ (Exists.intro ?_ (And.intro ?_ ?_))); rotate_left; rotate_left; (· exact rfl))
  | walk_at "gx"))
local macro_rules | `(tactic| walk_at "go") => `(tactic| ((repeat walk_at "go1"); try (with_reducible conv => whnf)))
local macro_rules | `(tactic| walk_at "gd") => `(tactic| ((repeat first | walk_at "go1" | ((with_reducible conv => whnf); (with_reducible apply AB.w_ifP); (· first | decide | omega)) | ((with_reducible conv => whnf); (with_reducible apply AB.w_ifQ); (· first | decide | omega))); try (with_reducible conv => whnf)))
/-! sums -/
theorem S_num {i : Int} (h : 0 ≤ i) : (toString i : Str) = S (numL i.toNat) := by
  obtain ⟨n, rfl⟩ := Int.eq_ofNat_of_zero_le h
  exact ext_tl (tl_num n)
def sumI (l : List Nat) : Int := l.foldl (fun (f : Int) (c : Nat) => (31 * f + (c : Int) - 32) % 999983) 0
theorem sumI_ok (l : List Nat) : 0 ≤ sumI l ∧ sumI l < 999983 := by
  have go : ∀ (l : List Nat) (f : Int), 0 ≤ f ∧ f < 999983 → 0 ≤ l.foldl (fun (f : Int) (c : Nat) => (31 * f + (c : Int) - 32) % 999983) f ∧ l.foldl (fun (f : Int) (c : Nat) => (31 * f + (c : Int) - 32) % 999983) f < 999983 := by
    intro l
    induction l with
    | nil => intro f h; exact h
    | cons c l ih => intro f h; exact ih _ ⟨Int.emod_nonneg _ (by decide), Int.emod_lt_of_pos _ (by decide)⟩
  exact go l 0 (by decide)
/-- the six figures -/
def sixL (i : Int) : List Nat := List.replicate (6 - (numL i.toNat).length) 48 ++ numL i.toNat
theorem num6 {i : Int} (h0 : 0 ≤ i) (h1 : i < 999983) : (numL i.toNat).length ≤ 6 := numL_len (by decide) (by omega)
theorem zfill6 {i : Int} (h0 : 0 ≤ i) (h1 : i < 999983) : Txt.zfill (S (numL i.toNat)) 6 = S (sixL i) := by
  have hl := num6 h0 h1
  unfold Txt.zfill sixL
  rw [S_len]
  by_cases h6 : (6 : Int) ≤ ((numL i.toNat).length : Nat)
  · rw [if_pos h6, show 6 - (numL i.toNat).length = 0 from by omega]
    rfl
  · rw [if_neg h6]
    have hne := numL_ne i.toNat
    have hdg := numL_digits i.toNat
    generalize numL i.toNat = ds at hne hdg hl h6
    obtain ⟨d, r, rfl⟩ := List.exists_cons_of_ne_nil hne
    have hd := hdg d List.mem_cons_self
    unfold zfilled
    have e : (S (d :: r)).cps[0]? = some d := by show (d :: r).toArray[0]? = _; simp
    rw [e]
    split
    · rename_i h; cases h; omega
    · rename_i h; cases h; omega
    · refine ext_tl ?_
      show (Array.replicate (Int.toNat 6 - (d :: r).length) 48 ++ (d :: r).toArray ++ Array.replicate 0 48).toList = _
      simp

theorem cut6 {i : Int} (h0 : 0 ≤ i) (h1 : i < 999983) : cutL ([48, 48, 48, 48, 48] ++ numL i.toNat) (some (-6)) none = sixL i := by
  have hl := num6 h0 h1
  have hne := numL_ne i.toNat
  unfold sixL
  generalize numL i.toNat = ds at hne hl
  rw [cutL_last (by decide)]
  have hp : 1 ≤ ds.length := by cases ds with | nil => exact absurd rfl hne | cons _ _ => simp
  have e : ((-6 : Int) + ((([48, 48, 48, 48, 48] : List Nat) ++ ds).length : Nat)).toNat = ds.length - 1 := by
    rw [List.length_append]; simp; omega
  rw [e, List.drop_append_of_le_length (by simp; omega)]
  have h5 : ([48, 48, 48, 48, 48] : List Nat) = List.replicate 5 48 := rfl
  rw [h5, List.drop_replicate, show 5 - (ds.length - 1) = 6 - ds.length from by omega]
theorem foldl_congr' {α β : Type} {f g : α → β → α} (h : ∀ a b, f a b = g a b) : ∀ (l : List β) (a : α), l.foldl f a = l.foldl g a
  | [], _ => rfl
  | x :: l, a => by rw [List.foldl_cons, List.foldl_cons, h, foldl_congr' h l]
/-- a sum's text -/
def sumL (l : List Nat) : List Nat := sixL (sumI l)
theorem sixL_len {i : Int} (h0 : 0 ≤ i) (h1 : i < 999983) : (sixL i).length = 6 := by
  have := num6 h0 h1
  unfold sixL
  simp; omega
theorem sumL_len (l : List Nat) : (sumL l).length = 6 := sixL_len (sumI_ok l).1 (sumI_ok l).2
theorem sixL_dig {i : Int} : ∀ x ∈ sixL i, 48 ≤ x ∧ x ≤ 57 := fun x hx => by
  unfold sixL at hx
  rcases List.mem_append.mp hx with h | h
  · rw [List.eq_of_mem_replicate h]; decide
  · have := numL_digits i.toNat x h
    omega
theorem sumL_ok (l : List Nat) : SOk (sumL l) := fun x hx => by have := sixL_dig x hx; omega
def A_sum_of : ASp := fun ds θ k _ => ∃ l : List Nat, ds = [.str (S l)] ∧ l.length ≤ 100000 ∧ k (.str (S (sumL l))) θ
theorem c_sum {l : List Nat} {θ : Th} {k : AK} {kx : AX} (h : l.length ≤ 100000) (q : k (.str (S (sumL l))) θ) : A_sum_of [.str (S l)] θ k kx := ⟨l, rfl, h, q⟩
abbrev A_law_sum : ASp := A_sum_of
theorem len_sum_of : ∀ ds θ k kx, A_sum_of ds θ k kx → ds.length = 1 := by rintro _ θ k kx ⟨_, rfl, _⟩; rfl
theorem len_law_sum : ∀ ds θ k kx, A_law_sum ds θ k kx → ds.length = 1 := len_sum_of
def t_sum_of : ASR := aSeq (aAsg (aC (.int 0)) (gN 1)) (aSeq (aFor (aItS (aVar 0)) (gN 2) (aAsg (aBin fMod (aBin fSub (aBin fAdd (aBin fMul (aC (.int 31)) (aVar 1)) (aCB fOrd (aCons (aVar 2) (aNil)))) (aC (.int 32))) (aC (.int 999983))) (gN 1))) (aRet (aBM "str" fZfill (aCB fStr (aCons (aVar 1) (aNil))) (aCons (aC (.int 6)) (aNil)))))
theorem ld0 : (" " : Str) = S [32] := by decide +kernel
theorem ld1 : ("00000" : Str) = S [48, 48, 48, 48, 48] := by decide +kernel
def t_law_sum : ASR := aSeq (aAsg (aC (.int 0)) (gN 1)) (aSeq (aFor (aItS (aVar 0)) (gN 2) (aAsg (aBin fMod (aBin fSub (aBin fAdd (aBin fMul (aVar 1) (aC (.int 31))) (aCB fOrd (aCons (aVar 2) (aNil)))) (aCB fOrd (aCons (aC (.str " ")) (aNil)))) (aC (.int 999983))) (gN 1))) (aRet (aSl (aBin fAdd (aC (.str "00000")) (aCB fStr (aCons (aVar 1) (aNil)))) (oSome (aUn fNeg (aC (.int 6)))) oNone)))
local macro_rules | `(tactic| walk_at "lits_law_sum") => `(tactic| simp only [ld0, ld1])
/-- the sum of the first signs -/
theorem sumI_snoc (l : List Nat) (c : Nat) : sumI (l ++ [c]) = (31 * sumI l + (c : Int) - 32) % 999983 := by unfold sumI; rw [List.foldl_append]; rfl
theorem take_snoc {α : Type} {l : List α} {i : Nat} {x : α} (h : l[i]? = some x) : l.take (i + 1) = l.take i ++ [x] := by
  rw [List.take_succ, h]; rfl
theorem signs_get {l : List Nat} {i : Nat} {d : D} (h : (AB.signs (S l))[i]? = some d) : ∃ c, l[i]? = some c ∧ d = .str (S [c]) := by
  unfold AB.signs at h
  rw [List.getElem?_map] at h
  obtain ⟨c, h1, h2⟩ := Option.map_eq_some_iff.mp h
  exact ⟨c, h1, h2.symm⟩
theorem run_sum_of : ∀ ds θ k kx, (∀ e ∈ θ, Ent.lt θ.length e) → A_sum_of ds θ k kx → t_sum_of (eBody θ.length k kx) (startG 3 ds) θ := by
  rintro ds θ k kx - ⟨l, rfl, hl, q⟩
  walk_at "gs"
  unfold t_sum_of
  walk_at "go"
  refine loop_inv (fun i Γ θ' => θ' = θ ∧ ∃ x2 : Option D, Γ = [some (.str (S l)), some (.int (sumI (l.take i))), x2]) ⟨rfl, _, rfl⟩ (fun _ _ _ _ => trivial) ?_ ?_
  · rintro i d Γ θ' kk hd ⟨rfl, x2, rfl⟩ hk
    obtain ⟨c, hc, rfl⟩ := signs_get hd
    have hs := sumI_ok (l.take i)
    walk_at "go"
    refine hk _ _ ⟨rfl, some (.str (S [c])), ?_⟩
    rw [take_snoc hc, sumI_snoc]
    rfl
  · rintro Γ θ' ⟨rfl, x2, rfl⟩
    rw [signs_len, List.take_of_length_le (Nat.le_refl _)]
    have hs := sumI_ok l
    walk_at "go"
    rw [S_num hs.1, zfill6 hs.1 hs.2]
    exact q
theorem run_law_sum : ∀ ds θ k kx, (∀ e ∈ θ, Ent.lt θ.length e) → A_law_sum ds θ k kx → t_law_sum (eBody θ.length k kx) (startG 3 ds) θ := by
  rintro ds θ k kx - ⟨l, rfl, hl, q⟩
  walk_at "gs"
  unfold t_law_sum
  walk_at "lits_law_sum"
  walk_at "go"
  refine loop_inv (fun i Γ θ' => θ' = θ ∧ ∃ x2 : Option D, Γ = [some (.str (S l)), some (.int (sumI (l.take i))), x2]) ⟨rfl, _, rfl⟩ (fun _ _ _ _ => trivial) ?_ ?_
  · rintro i d Γ θ' kk hd ⟨rfl, x2, rfl⟩ hk
    obtain ⟨c, hc, rfl⟩ := signs_get hd
    have hs := sumI_ok (l.take i)
    walk_at "go"
    refine hk _ _ ⟨rfl, some (.str (S [c])), ?_⟩
    rw [take_snoc hc, sumI_snoc, Int.mul_comm]
    rfl
  · rintro Γ θ' ⟨rfl, x2, rfl⟩
    rw [signs_len, List.take_of_length_le (Nat.le_refl _)]
    have hs := sumI_ok l
    walk_at "go"
    rw [S_num hs.1]
    have h6 := num6 hs.1 hs.2
    walk_at "go"
    rw [cut6 hs.1 hs.2]
    exact q

/-! _law_same -/
theorem fn_none {P : Program} {w : World} {K : PySem.W.Frag} {mg : Str → Option Value} {base : Heap} {CX : CXT} {k : Nat} {f : Addr} {fd : FuncData} {ps : List Str} {A : ASp} (h : ∀ ds θ k kx, ¬ A ds θ k kx) : FnOk P w K mg base CX k f fd ps (LF K A) :=
  ⟨fun _ _ _ _ ⟨_, _, ds, k, kx, _, _, q, _⟩ => (h _ _ _ _ q).elim, fun _ _ _ _ _ _ _ _ _ _ _ _ _ ⟨_, _, ds, k, kx, _, _, q, _⟩ => (h _ _ _ _ q).elim⟩
mutual
/-- what the law's helper takes, by depth -/
def Pl : D → Nat → Prop
  | .non, n => 0 < n
  | .bl _, n => 0 < n
  | .int _, n => 0 < n
  | .str x, n => 0 < n ∧ SOk x.cps.toList
  | .tup ds, n => 0 < n ∧ ds.length ≤ 100000 ∧ Pls ds (n - 1)
  | .lst ds, n => False
  | .lsk _, _ => False
  | .obj _, _ => False
  | .raw _, _ => False
def Pls : List D → Nat → Prop
  | [], _ => True
  | d :: ds, n => Pl d n ∧ Pls ds n
end
mutual
def sameD : D → D → Bool
  | .non, .non => true
  | .bl a, .bl b => decide (a = b)
  | .int i, .int j => decide (i = j)
  | .str x, .str y => decide (x = y)
  | .tup xs, .tup ys => sameDs xs ys
  | _, _ => false
def sameDs : List D → List D → Bool
  | [], [] => true
  | x :: xs, y :: ys => sameD x y && sameDs xs ys
  | _, _ => false
end
theorem pls_iff {ds : List D} {n : Nat} : Pls ds n ↔ ∀ d ∈ ds, Pl d n := by
  induction ds with
  | nil => unfold Pls; simp
  | cons d ds ih => unfold Pls; rw [ih]; simp
theorem sameDs_len : ∀ {xs ys : List D}, xs.length ≠ ys.length → sameDs xs ys = false
  | [], [], h => absurd rfl h
  | [], _ :: _, _ => by unfold sameDs; rfl
  | _ :: _, [], _ => by unfold sameDs; rfl
  | x :: xs, y :: ys, h => by
    unfold sameDs
    rw [sameDs_len (xs := xs) (ys := ys) (fun e => h (by simp [e]))]; simp
theorem sameDs_zip : ∀ {xs ys : List D}, xs.length = ys.length → (xs.zip ys).all (fun p => sameD p.1 p.2) = sameDs xs ys
  | [], [], _ => by unfold sameDs; rfl
  | [], _ :: _, h => by cases h
  | _ :: _, [], h => by cases h
  | x :: xs, y :: ys, h => by
    unfold sameDs
    rw [List.zip_cons_cons, List.all_cons, sameDs_zip (by simpa using h)]
def A_law_same_at (n : Nat) : ASp := fun ds θ k _ => ∃ a b, ds = [a, b] ∧ Pl a n ∧ Pl b n ∧ k (.bl (sameD a b)) θ
abbrev A_law_same : ASp := A_law_same_at 5
theorem no_law_same {ds : List D} {θ : Th} {k : AK} {kx : AX} (h : A_law_same_at 0 ds θ k kx) : False := by
  obtain ⟨a, b, rfl, h1, _, _⟩ := h
  cases a <;> unfold Pl at h1 <;> first | exact h1 | exact absurd h1 (Nat.lt_irrefl 0) | exact absurd h1.1 (Nat.lt_irrefl 0)
theorem len_law_same (n : Nat) : ∀ ds θ k kx, A_law_same_at n ds θ k kx → ds.length = 2 := by rintro _ θ k kx ⟨_, _, rfl, _⟩; rfl
theorem c_same {a b : D} {n : Nat} {θ : Th} {k : AK} {kx : AX} (h1 : Pl a n) (h2 : Pl b n) (q : k (.bl (sameD a b)) θ) : A_law_same_at n [a, b] θ k kx := ⟨a, b, rfl, h1, h2, q⟩
def t_law_same (A0 : ASp) : ASR := aSeq (aIfS (aTru (aCB fIsi (aCons (aVar 1) (aCons (aC (.raw (.ty "tuple"))) (aNil))))) (aSeq (aIfS (aOr (aNot (aTru (aCB fIsi (aCons (aVar 0) (aCons (aC (.raw (.ty "tuple"))) (aNil)))))) (aTst (aBin fNe (aCB fLen (aCons (aVar 0) (aNil))) (aCB fLen (aCons (aVar 1) (aNil)))))) (aRet (aC (.bl false))) (aNext)) (aRet (aCB fAll (aCons (aLc (aZip (aCons (aVar 0) (aCons (aVar 1) (aNil)))) (.tup [2, 3]) (aYes) (aCall A0 (aCons (aVar 2) (aCons (aVar 3) (aNil)))) [2, 3]) (aNil))))) (aNext)) (aSeq (aIfS (aTst (aBin fIs (aVar 1) (aC .non))) (aRet (aBin fIs (aVar 0) (aC .non))) (aNext)) (aSeq (aIfS (aOr (aTru (aCB fIsi (aCons (aVar 1) (aCons (aC (.raw (.ty "bool"))) (aNil))))) (aTru (aCB fIsi (aCons (aVar 0) (aCons (aC (.raw (.ty "bool"))) (aNil)))))) (aRet (aAndV (aCB fIsi (aCons (aVar 1) (aCons (aC (.raw (.ty "bool"))) (aNil)))) (aAndV (aCB fIsi (aCons (aVar 0) (aCons (aC (.raw (.ty "bool"))) (aNil)))) (aBin fEq (aVar 0) (aVar 1))))) (aNext)) (aRet (aAndV (aCB fIsi (aCons (aVar 0) (aCons (aTup (aCons (aC (.raw (.ty "int"))) (aCons (aC (.raw (.ty "str"))) (aNil)))) (aNil)))) (aBin fEq (aVar 0) (aVar 1))))))
theorem pl_ty {a : D} {n : Nat} {θ : Th} (h : Pl a n) : ∃ c, tyNm θ a = some c := by
  cases a <;> first | exact ⟨_, rfl⟩ | (unfold Pl at h; exact h.elim)
theorem run_law_same (n : Nat) : ∀ ds θ k kx, (∀ e ∈ θ, Ent.lt θ.length e) → A_law_same_at (n + 1) ds θ k kx → t_law_same (A_law_same_at n) (eBody θ.length k kx) (startG 4 ds) θ := by
  rintro ds θ k kx - ⟨a, b, rfl, h1, h2, q⟩
  walk_at "gs"
  unfold t_law_same
  cases b with
  | tup ys =>
    walk_at "gd"
    cases a with
    | tup xs =>
      walk_at "gd"
      refine w_if (fun h => ?_) (fun h => ?_)
      · have hl : xs.length = ys.length := by omega
        unfold Pl at h1 h2
        have hz : (zipD xs ys).length ≤ 100000 := by rw [zipD_len]; omega
        walk_at "gd"
        refine .inl ⟨_, _, rfl, rfl, ?_⟩
        walk_at "gd"
        refine cl_map (fun p : D × D => .bl (sameD p.1 p.2)) (fun p hp acc ko q => ?_) ?_
        · have hp' := List.of_mem_zip hp
          walk_at "gd"
          refine c_same (pls_iff.mp h1.2.2 _ hp'.1) (pls_iff.mp h2.2.2 _ hp'.2) ?_
          walk_at "gd"
          exact q
        · refine And.intro (lts_bls _) ?_
          walk_at "gd"
          unfold sameD at q
          rw [← sameDs_zip hl] at q
          exact q
      · walk_at "gd"
        unfold sameD at q
        rw [sameDs_len (by omega)] at q
        exact q
    | lst _ => unfold Pl at h1; exact h1.elim
    | lsk _ => unfold Pl at h1; exact h1.elim
    | obj _ => unfold Pl at h1; exact h1.elim
    | raw _ => unfold Pl at h1; exact h1.elim
    | _ =>
      walk_at "gd"
      unfold sameD at q
      exact q
  | lsk _ => unfold Pl at h2; exact h2.elim
  | obj _ => unfold Pl at h2; exact h2.elim
  | raw _ => unfold Pl at h2; exact h2.elim
  | non =>
    cases a with
    | lst _ => unfold Pl at h1; exact h1.elim
    | lsk _ => unfold Pl at h1; exact h1.elim
    | obj _ => unfold Pl at h1; exact h1.elim
    | raw _ => unfold Pl at h1; exact h1.elim
    | _ =>
      walk_at "gd"
      unfold sameD at q
      exact q
  | lst _ => unfold Pl at h2; exact h2.elim
  | _ =>
    cases a with
    | lst _ => unfold Pl at h1; exact h1.elim
    | lsk _ => unfold Pl at h1; exact h1.elim
    | obj _ => unfold Pl at h1; exact h1.elim
    | raw _ => unfold Pl at h1; exact h1.elim
    | _ =>
      walk_at "gd"
      unfold sameD at q
      first
        | exact q
        | (rename_i x y _
           have e : decide (x = y) = decide (x.cps.toList = y.cps.toList) := decide_eq_decide.mpr ⟨fun h => by rw [h], fun h => ext_tl h⟩
           rw [e] at q; exact q)
        | (rename_i x y
           have e : decide (y = x) = decide (y.cps.toList = x.cps.toList) := decide_eq_decide.mpr ⟨fun h => by rw [h], fun h => ext_tl h⟩
           rw [e] at q; exact q)


theorem pl_str {l : List Nat} {n : Nat} (h : SOk l) : Pl (.str (S l)) (n + 1) := by unfold Pl; exact ⟨Nat.succ_pos _, h⟩
mutual
theorem same_refl : ∀ (d : D) (n : Nat), Pl d n → sameD d d = true
  | .non, _, _ => by unfold sameD; rfl
  | .bl b, _, _ => by unfold sameD; simp
  | .int b, _, _ => by unfold sameD; simp
  | .str b, _, _ => by unfold sameD; simp
  | .tup ds, n, h => by unfold Pl at h; unfold sameD; exact sames_refl ds _ h.2.2
  | .lst _, _, h => by unfold Pl at h; exact h.elim
  | .lsk _, _, h => by unfold Pl at h; exact h.elim
  | .obj _, _, h => by unfold Pl at h; exact h.elim
  | .raw _, _, h => by unfold Pl at h; exact h.elim
theorem sames_refl : ∀ (ds : List D) (n : Nat), Pls ds n → sameDs ds ds = true
  | [], _, _ => by unfold sameDs; rfl
  | d :: ds, n, h => by unfold Pls at h; unfold sameDs; rw [same_refl d n h.1, sames_refl ds n h.2]; rfl
end
theorem c_sameT {a : D} {n : Nat} {θ : Th} {k : AK} {kx : AX} (h1 : Pl a n) (q : k (.bl true) θ) : A_law_same_at n [a, a] θ k kx := c_same h1 h1 (by rw [same_refl a n h1]; exact q)
theorem SOk.app {a b : List Nat} (h1 : SOk a) (h2 : SOk b) : SOk (a ++ b) := fun x hx => (List.mem_append.mp hx).elim (h1 x) (h2 x)
theorem SOk.take {a : List Nat} {n : Nat} (h : SOk a) : SOk (a.take n) := fun x hx => h x (List.mem_of_mem_take hx)
theorem SOk.drop {a : List Nat} {n : Nat} (h : SOk a) : SOk (a.drop n) := fun x hx => h x (List.mem_of_mem_drop hx)
theorem SOk.rep {a : List Nat} {n : Nat} (h : SOk a) : SOk (List.replicate n a).flatten := fun x hx => by
  obtain ⟨l, hl, hx⟩ := List.mem_flatten.mp hx
  rw [List.eq_of_mem_replicate hl] at hx
  exact h x hx
theorem SOk.cut {a : List Nat} {lo hi : Option Int} (h : SOk a) : SOk (cutL a lo hi) := SOk.take (SOk.drop h)
theorem SOk.data {a : List Nat} (h : DataOk a) : SOk a := fun x hx => by have := h.2 x hx; omega
theorem SOk.key {a : List Nat} (h : KeyOk a) : SOk a := fun x hx => by
  have : ∀ x ∈ sgs, x < 1114112 := by decide +kernel
  exact this x (h.2.2 x hx)
theorem SOk.num (n : Nat) : SOk (numL n) := fun x hx => by have := numL_digits n x hx; omega
end AB
namespace K02
open PySem PySem.Spec PyProof.Rows L2 AB TL

local macro_rules | `(tactic| walk_at "gs") => `(tactic| (apply AB.w_start; (· (simp only [startG, List.map_cons, List.map_nil, List.length_cons, List.length_nil, Nat.reduceAdd, Nat.reduceSub, List.replicate_succ, List.replicate_zero, List.cons_append, List.nil_append]; try exact rfl))))
local macro_rules | `(tactic| walk_at "gb") => `(tactic| (first | exact rfl | decide | omega | (apply AB.natAbs_small <;> omega) | (simp only [List.length_append, List.length_map, List.length_cons, List.length_nil, List.length_take, List.length_drop, rep_len, Int.reduceToNat, List.length_range, List.length_reverse, nums_len, signs_len, zipD_len]; omega)))
local macro_rules | `(tactic| walk_at "gx") => `(tactic| fail)
local macro_rules | `(tactic| walk_at "go1") => `(tactic| ((with_reducible conv => whnf); first
  | ((with_reducible refine Exists.intro ?_ (And.intro ?_ ?_)); rotate_left; (· exact rfl))
  | (with_reducible first | apply AB.v_addI | apply AB.w_back | apply AB.v_eqI | apply AB.v_eqSS | apply AB.v_eqS | apply AB.v_eqSI | apply AB.v_eqIS | apply AB.w_ifN | apply AB.v_lt | apply AB.v_gt | apply AB.v_slL | apply AB.v_ordSS | apply AB.v_neI | apply AB.v_neSS | apply AB.v_neS | apply AB.v_inSS | apply AB.v_ninSS | apply AB.v_lenT | apply AB.v_lenL | apply AB.v_lenK | apply AB.v_ltSS | apply AB.v_gtSS | apply AB.v_eqB | apply AB.v_intI | apply AB.v_intB | apply AB.v_allL | apply AB.v_anyL | apply AB.v_sumL | apply AB.v_tupL | apply AB.v_tupT | apply AB.w_ifT | apply AB.w_ifF | apply AB.w_elEnd)
  | ((with_reducible apply AB.w_gN); (· (simp only [List.set_cons_succ, List.set_cons_zero]; try exact rfl)))
  | ((with_reducible apply AB.v_addSS); (· (first | exact rfl | decide | omega | (apply AB.natAbs_small <;> omega) | (simp only [List.length_append, List.length_map, List.length_cons, List.length_nil, List.length_take, List.length_drop, rep_len, Int.reduceToNat, List.length_range, List.length_reverse, nums_len, signs_len, zipD_len]; omega))))
  | ((with_reducible apply AB.v_mul); (· (first | exact .inr ⟨by decide, by decide⟩ | exact .inl ⟨by decide, by decide⟩ | omega)))
  | ((with_reducible apply AB.v_lenSS); (· (first | exact rfl | decide | omega | (apply AB.natAbs_small <;> omega) | (simp only [List.length_append, List.length_map, List.length_cons, List.length_nil, List.length_take, List.length_drop, rep_len, Int.reduceToNat, List.length_range, List.length_reverse, nums_len, signs_len, zipD_len]; omega))))
  | ((with_reducible apply AB.v_slS); (· (first | exact rfl | decide | omega | (apply AB.natAbs_small <;> omega) | (simp only [List.length_append, List.length_map, List.length_cons, List.length_nil, List.length_take, List.length_drop, rep_len, Int.reduceToNat, List.length_range, List.length_reverse, nums_len, signs_len, zipD_len]; omega))))
  | ((with_reducible apply AB.v_addL); (· (first | exact rfl | decide | omega | (apply AB.natAbs_small <;> omega) | (simp only [List.length_append, List.length_map, List.length_cons, List.length_nil, List.length_take, List.length_drop, rep_len, Int.reduceToNat, List.length_range, List.length_reverse, nums_len, signs_len, zipD_len]; omega))))
  | ((with_reducible apply AB.v_mulSS); (· (first | exact rfl | decide | omega | (apply AB.natAbs_small <;> omega) | (simp only [List.length_append, List.length_map, List.length_cons, List.length_nil, List.length_take, List.length_drop, rep_len, Int.reduceToNat, List.length_range, List.length_reverse, nums_len, signs_len, zipD_len]; omega))); (· (first | exact rfl | decide | omega | (apply AB.natAbs_small <;> omega) | (simp only [List.length_append, List.length_map, List.length_cons, List.length_nil, List.length_take, List.length_drop, rep_len, Int.reduceToNat, List.length_range, List.length_reverse, nums_len, signs_len, zipD_len]; omega))); (· (first | exact rfl | decide | omega | (apply AB.natAbs_small <;> omega) | (simp only [List.length_append, List.length_map, List.length_cons, List.length_nil, List.length_take, List.length_drop, rep_len, Int.reduceToNat, List.length_range, List.length_reverse, nums_len, signs_len, zipD_len]; omega))))
  | ((with_reducible apply AB.v_isi); (· exact rfl); (· (first | exact AB.kb_NoneType_str | exact AB.kb_NoneType_int | exact AB.kb_NoneType_bool | exact AB.kb_NoneType_tuple | exact AB.kb_NoneType_list | exact AB.kb_bool_str | exact AB.kb_bool_int | exact AB.kb_bool_bool | exact AB.kb_bool_tuple | exact AB.kb_bool_list | exact AB.kb_int_str | exact AB.kb_int_int | exact AB.kb_int_bool | exact AB.kb_int_tuple | exact AB.kb_int_list | exact AB.kb_str_str | exact AB.kb_str_int | exact AB.kb_str_bool | exact AB.kb_str_tuple | exact AB.kb_str_list | exact AB.kb_tuple_str | exact AB.kb_tuple_int | exact AB.kb_tuple_bool | exact AB.kb_tuple_tuple | exact AB.kb_tuple_list | exact AB.kb_list_str | exact AB.kb_list_int | exact AB.kb_list_bool | exact AB.kb_list_tuple | exact AB.kb_list_list)))
  | ((with_reducible apply AB.v_isi2); (· exact rfl); (· (first | exact AB.kb_NoneType_str | exact AB.kb_NoneType_int | exact AB.kb_NoneType_bool | exact AB.kb_NoneType_tuple | exact AB.kb_NoneType_list | exact AB.kb_bool_str | exact AB.kb_bool_int | exact AB.kb_bool_bool | exact AB.kb_bool_tuple | exact AB.kb_bool_list | exact AB.kb_int_str | exact AB.kb_int_int | exact AB.kb_int_bool | exact AB.kb_int_tuple | exact AB.kb_int_list | exact AB.kb_str_str | exact AB.kb_str_int | exact AB.kb_str_bool | exact AB.kb_str_tuple | exact AB.kb_str_list | exact AB.kb_tuple_str | exact AB.kb_tuple_int | exact AB.kb_tuple_bool | exact AB.kb_tuple_tuple | exact AB.kb_tuple_list | exact AB.kb_list_str | exact AB.kb_list_int | exact AB.kb_list_bool | exact AB.kb_list_tuple | exact AB.kb_list_list)); (· (first | exact AB.kb_NoneType_str | exact AB.kb_NoneType_int | exact AB.kb_NoneType_bool | exact AB.kb_NoneType_tuple | exact AB.kb_NoneType_list | exact AB.kb_bool_str | exact AB.kb_bool_int | exact AB.kb_bool_bool | exact AB.kb_bool_tuple | exact AB.kb_bool_list | exact AB.kb_int_str | exact AB.kb_int_int | exact AB.kb_int_bool | exact AB.kb_int_tuple | exact AB.kb_int_list | exact AB.kb_str_str | exact AB.kb_str_int | exact AB.kb_str_bool | exact AB.kb_str_tuple | exact AB.kb_str_list | exact AB.kb_tuple_str | exact AB.kb_tuple_int | exact AB.kb_tuple_bool | exact AB.kb_tuple_tuple | exact AB.kb_tuple_list | exact AB.kb_list_str | exact AB.kb_list_int | exact AB.kb_list_bool | exact AB.kb_list_tuple | exact AB.kb_list_list)); (· first | exact Bool.or_true _ | exact Bool.true_or _ | exact Bool.or_false _))
  | ((with_reducible apply AB.w_lc); (· (simp only [wipeG, List.set_cons_succ, List.set_cons_zero]; try exact rfl)))
  | ((with_reducible apply AB.w_elY); (· (simp only [List.set_cons_succ, List.set_cons_zero]; try exact rfl)))
  | ((with_reducible apply AB.w_el); (· (simp only [List.set_cons_succ, List.set_cons_zero]; try exact rfl)))
  | ((with_reducible apply AB.v_append); (· first | exact rfl | assumption); (· (first | exact rfl | decide | omega | (apply AB.natAbs_small <;> omega) | (simp only [List.length_append, List.length_map, List.length_cons, List.length_nil, List.length_take, List.length_drop, rep_len, Int.reduceToNat, List.length_range, List.length_reverse, nums_len, signs_len, zipD_len]; omega))); (· (simp only [List.set_cons_succ, List.set_cons_zero]; try exact rfl)))
  | ((with_reducible apply AB.v_lenO); (· first | exact rfl | assumption))
  | ((with_reducible apply AB.v_slO); (· first | exact rfl | assumption))
  | ((with_reducible apply AB.v_tupO); (· first | exact rfl | assumption))
  | ((with_reducible apply AB.w_exO); (· first | exact rfl | assumption))
  | ((with_reducible apply AB.w_truO); (· first | exact rfl | assumption))
  | ((with_reducible apply AB.w_elTY); (· (simp only [setLG, List.set_cons_succ, List.set_cons_zero]; try exact rfl)); (· exact rfl))
  | ((with_reducible apply AB.w_elT); (· (simp only [setLG, List.set_cons_succ, List.set_cons_zero]; try exact rfl)); (· exact rfl))
  | ((with_reducible apply AB.w_exR); (· (first | exact rfl | decide | omega | (apply AB.natAbs_small <;> omega) | (simp only [List.length_append, List.length_map, List.length_cons, List.length_nil, List.length_take, List.length_drop, rep_len, Int.reduceToNat, List.length_range, List.length_reverse, nums_len, signs_len, zipD_len]; omega))); (· (first | exact rfl | decide | omega | (apply AB.natAbs_small <;> omega) | (simp only [List.length_append, List.length_map, List.length_cons, List.length_nil, List.length_take, List.length_drop, rep_len, Int.reduceToNat, List.length_range, List.length_reverse, nums_len, signs_len, zipD_len]; omega))))
  | ((with_reducible refine And.intro ?_ ?_); (· first | (exact v_tyS) | (exact v_tyO (by first | exact rfl | assumption)) | (exact fun _ => trivial) | (first | exact rfl | decide | omega | (apply AB.natAbs_small <;> omega) | (simp only [List.length_append, List.length_map, List.length_cons, List.length_nil, List.length_take, List.length_drop, rep_len, Int.reduceToNat, List.length_range, List.length_reverse, nums_len, signs_len, zipD_len]; omega))))
  | ((with_reducible refine Exists.intro ?_ (Exists.intro ?_ (And.intro ?_ (And.intro ?_ ?_)))); rotate_left; rotate_left; (· exact rfl); (· exact rfl))
  | ((with_reducible refine Exists.intro ?_ (Exists.intro ?_ (And.intro ?_ ?_))); rotate_left; rotate_left; (· exact rfl))
  | walk_at "gx"))
local macro_rules | `(tactic| walk_at "go") => `(tactic| ((repeat walk_at "go1"); try (with_reducible conv => whnf)))
local macro_rules | `(tactic| walk_at "gd") => `(tactic| ((repeat first | walk_at "go1" | ((with_reducible conv => whnf); (with_reducible apply AB.w_ifP); (· first | decide | omega)) | ((with_reducible conv => whnf); (with_reducible apply AB.w_ifQ); (· first | decide | omega))); try (with_reducible conv => whnf)))
def top (i : Nat) : Stmt := PySem.Challenge.pw_greatkeep_k02_sums.main.body.getD i (.Pass ⟨0, 0, 0, 0⟩)
abbrev s_sum_of : Stmt := top 1
abbrev N_sum_of : List Str := ["data", "found", "sign"]
theorem sc_sum_of : FnScope N_sum_of ["data"] (defScope s_sum_of) := ⟨rfl, rfl, rfl, by decide +kernel, rfl, by decide +kernel, by decide +kernel⟩
abbrev s_sum_of_parts : Stmt := top 2
abbrev N_sum_of_parts : List Str := ["sums"]
theorem sc_sum_of_parts : FnScope N_sum_of_parts ["sums"] (defScope s_sum_of_parts) := ⟨rfl, rfl, rfl, by decide +kernel, rfl, by decide +kernel, by decide +kernel⟩
abbrev s_law_cell : Stmt := top 4
abbrev N_law_cell : List Str := ["_law_script", "_law_k"]
theorem sc_law_cell : FnScope N_law_cell ["_law_script", "_law_k"] (defScope s_law_cell) := ⟨rfl, rfl, rfl, by decide +kernel, rfl, by decide +kernel, by decide +kernel⟩
abbrev s_law_mix : Stmt := top 5
abbrev N_law_mix : List Str := ["_law_cell_here", "_law_prime", "_law_many", "_law_blend"]
theorem sc_law_mix : FnScope N_law_mix ["_law_cell_here", "_law_prime", "_law_many"] (defScope s_law_mix) := ⟨rfl, rfl, rfl, by decide +kernel, rfl, by decide +kernel, by decide +kernel⟩
abbrev s_law_same : Stmt := top 6
abbrev N_law_same : List Str := ["_law_found", "_law_due", "_law_one", "_law_other"]
theorem sc_law_same : FnScope N_law_same ["_law_found", "_law_due"] (defScope s_law_same) := ⟨rfl, rfl, rfl, by decide +kernel, rfl, by decide +kernel, by decide +kernel⟩
abbrev s_law_data : Stmt := top 7
abbrev N_law_data : List Str := ["_law_cell_here", "_law_signs", "_law_many", "_law_k"]
theorem sc_law_data : FnScope N_law_data ["_law_cell_here"] (defScope s_law_data) := ⟨rfl, rfl, rfl, by decide +kernel, rfl, by decide +kernel, by decide +kernel⟩
abbrev s_law_sum : Stmt := top 8
abbrev N_law_sum : List Str := ["_law_data_here", "_law_found", "_law_sign"]
theorem sc_law_sum : FnScope N_law_sum ["_law_data_here"] (defScope s_law_sum) := ⟨rfl, rfl, rfl, by decide +kernel, rfl, by decide +kernel, by decide +kernel⟩
abbrev s_law_sums : Stmt := top 9
abbrev N_law_sums : List Str := ["_law_sums_here"]
theorem sc_law_sums : FnScope N_law_sums ["_law_sums_here"] (defScope s_law_sums) := ⟨rfl, rfl, rfl, by decide +kernel, rfl, by decide +kernel, by decide +kernel⟩
abbrev s_law_turned : Stmt := top 10
abbrev N_law_turned : List Str := ["_law_data_here", "_law_at", "_law_pair"]
theorem sc_law_turned : FnScope N_law_turned ["_law_data_here", "_law_at"] (defScope s_law_turned) := ⟨rfl, rfl, rfl, by decide +kernel, rfl, by decide +kernel, by decide +kernel⟩
abbrev s_law : Stmt := top 11
abbrev N_law : List Str := ["_law_script", "_law_sums_here", "_law_k", "_law_cell_here", "_law_data_here", "_law_at", "_law_text", "_law_some"]
theorem sc_law : FnScope N_law ["_law_script"] (defScope s_law) := ⟨rfl, rfl, rfl, by decide +kernel, rfl, by decide +kernel, by decide +kernel⟩
structure Txt (K : PySem.W.Frag) (mg : Str → Option Value) : Prop where
  n_all : mg "all" = none
  n_bool : mg "bool" = none
  n_int : mg "int" = none
  n_isinstance : mg "isinstance" = none
  n_len : mg "len" = none
  n_ord : mg "ord" = none
  n_range : mg "range" = none
  n_str : mg "str" = none
  n_tuple : mg "tuple" = none
  n_zip : mg "zip" = none
def partsL (ls : List (List Nat)) : List Nat := sumL ls.flatten ++ [45] ++ numL ls.length
def strsD (ls : List (List Nat)) : List D := ls.map fun l => .str (S l)
def A_sum_of_parts : ASp := fun ds θ k _ => ∃ ls, ds = [.tup (strsD ls)] ∧ (ls.map List.length).sum ≤ 1000 ∧ ls.length ≤ 1000 ∧ k (.str (S (partsL ls))) θ
def A_law_sums : ASp := fun ds θ k _ => ∃ d ls, ds = [d] ∧ asS θ d = some (strsD ls) ∧ (ls.map List.length).sum ≤ 1000 ∧ ls.length ≤ 1000 ∧ k (.str (S (partsL ls))) θ
def A_law_turned : ASp := fun ds θ k _ => ∃ (l : List Nat) (i : Int), ds = [.str (S l), .int i] ∧ DataOk l ∧ 0 ≤ i ∧ ∀ r, DataOk r → k (.str (S r)) θ
abbrev A_law : ASp := aLaw
theorem len_sum_of_parts : ∀ ds θ k kx, A_sum_of_parts ds θ k kx → ds.length = 1 := by rintro _ θ k kx ⟨_, rfl, _⟩; rfl
theorem len_law_sums : ∀ ds θ k kx, A_law_sums ds θ k kx → ds.length = 1 := by rintro _ θ k kx ⟨_, _, rfl, _⟩; rfl
theorem len_law_turned : ∀ ds θ k kx, A_law_turned ds θ k kx → ds.length = 2 := by rintro _ θ k kx ⟨_, _, rfl, _⟩; rfl
theorem len_law : ∀ ds θ k kx, A_law ds θ k kx → ds.length = 1 := by rintro _ θ k kx ⟨_, rfl, _⟩; rfl
theorem v_joinG {θ : Th} {k : AK} {d : D} {ls : List (List Nat)} (e : asS θ d = some (strsD ls)) (h : (ls.map List.length).sum ≤ 100000) (q : k (.str (S ls.flatten)) θ) : fJoin (.str (S [])) [d] θ k := by
  refine ⟨_, d, ls.map fun z => S z, rfl, rfl, by rw [e]; unfold strsD; rw [List.map_map]; rfl, ?_, ?_⟩
  · rw [List.map_map, List.length_map]
    have : (S []).length = 0 := rfl
    rw [this, Nat.mul_zero, Nat.add_zero]
    have e : (Str.length ∘ fun z : List Nat => S z) = List.length := funext fun z => S_len _
    rw [e]; exact h
  · rw [join_S, joinL_nil, show (ls.map fun z => S z).map TL.tl = ls from by rw [List.map_map]; exact List.map_id' _]; exact q
theorem lk0 : ("" : Str) = S [] := by decide +kernel
theorem lk1 : ("-" : Str) = S [45] := by decide +kernel
def t_sum_of_parts : ASR := aRet (aBin fAdd (aBin fAdd (aCall A_sum_of (aCons (aBM "str" fJoin (aC (.str "")) (aCons (aVar 0) (aNil))) (aNil))) (aC (.str "-"))) (aCB fStr (aCons (aCB fLen (aCons (aVar 0) (aNil))) (aNil))))
local macro_rules | `(tactic| walk_at "lits_sum_of_parts") => `(tactic| simp only [lk0, lk1])
def t_law_sums : ASR := aRet (aBin fAdd (aBin fAdd (aCall A_law_sum (aCons (aBM "str" fJoin (aC (.str "")) (aCons (aVar 0) (aNil))) (aNil))) (aC (.str "-"))) (aCB fStr (aCons (aCB fLen (aCons (aVar 0) (aNil))) (aNil))))
local macro_rules | `(tactic| walk_at "lits_law_sums") => `(tactic| simp only [lk0, lk1])
def t_law_turned : ASR := aSeq (aAsg (aBin fAdd (aSl (aVar 0) (oSome (aBin fAdd (aVar 1) (aC (.int 1)))) (oSome (aBin fAdd (aVar 1) (aC (.int 2))))) (aSl (aVar 0) (oSome (aVar 1)) (oSome (aBin fAdd (aVar 1) (aC (.int 1)))))) (gN 2)) (aRet (aBin fAdd (aBin fAdd (aSl (aVar 0) oNone (oSome (aVar 1))) (aVar 2)) (aSl (aVar 0) (oSome (aBin fAdd (aVar 1) (aC (.int 2)))) oNone)))
theorem lk2 : ("!" : Str) = S [33] := by decide +kernel
theorem lk3 : (" " : Str) = S [32] := by decide +kernel
theorem lk4 : ("000000" : Str) = S [48, 48, 48, 48, 48, 48] := by decide +kernel
theorem lk5 : ("000001" : Str) = S [48, 48, 48, 48, 48, 49] := by decide +kernel
theorem lk6 : ("!!" : Str) = S [33, 33] := by decide +kernel
theorem lk7 : ("000032" : Str) = S [48, 48, 48, 48, 51, 50] := by decide +kernel
theorem lk8 : ("~" : Str) = S [126] := by decide +kernel
theorem lk9 : ("000094" : Str) = S [48, 48, 48, 48, 57, 52] := by decide +kernel
def t_law : ASR := aSeq (aAsg (aLstM (aNil)) (gN 1)) (aSeq (aFor (aRng (aCons (aC (.int 4)) (aNil))) (gN 2) (aSeq (aAsg (aBin fAdd (aCall A_law_cell (aCons (aVar 0) (aCons (aVar 2) (aNil)))) (aVar 2)) (gN 3)) (aSeq (aAsg (aCall A_law_data (aCons (aVar 3) (aNil))) (gN 4)) (aSeq (aAsg (aCall A_law_mix (aCons (aVar 3) (aCons (aC (.int 9811)) (aCons (aC (.int 99)) (aNil))))) (gN 5)) (aSeq (aFor (aItT (aTup (aCons (aVar 4) (aCons (aCall A_law_turned (aCons (aVar 4) (aCons (aVar 5) (aNil)))) (aCons (aBin fAdd (aVar 4) (aC (.str "!"))) (aCons (aBin fAdd (aC (.str " ")) (aVar 4)) (aCons (aSl (aVar 4) (oSome (aVar 5)) oNone) (aNil)))))))) (gN 6) (aSeq (aIfS (aNot (aTru (aCall A_law_same (aCons (aCall A_sum_of (aCons (aVar 6) (aNil))) (aCons (aCall A_law_sum (aCons (aVar 6) (aNil))) (aNil)))))) (aRet (aC (.bl false))) (aNext)) (aDrop (aBM "list" fAppend (aVar 1) (aCons (aCall A_law_sum (aCons (aVar 6) (aNil))) (aNil)))))) (aSeq (aAsg (aCB fTuple (aCons (aSl (aVar 1) (oSome (aBin fSub (aUn fNeg (aC (.int 1))) (aCall A_law_mix (aCons (aVar 3) (aCons (aC (.int 9803)) (aCons (aC (.int 5)) (aNil))))))) oNone) (aNil))) (gN 7)) (aSeq (aIfS (aNot (aTru (aCall A_law_same (aCons (aCall A_sum_of_parts (aCons (aVar 7) (aNil))) (aCons (aCall A_law_sums (aCons (aVar 7) (aNil))) (aNil)))))) (aRet (aC (.bl false))) (aNext)) (aIfS (aNot (aTru (aCall A_law_same (aCons (aCall A_sum_of_parts (aCons (aCB fTuple (aCons (aVar 1) (aNil))) (aNil))) (aCons (aCall A_law_sums (aCons (aVar 1) (aNil))) (aNil)))))) (aRet (aC (.bl false))) (aNext))))))))) (aRet (aAndV (aBin fEq (aCall A_sum_of (aCons (aC (.str "")) (aNil))) (aC (.str "000000"))) (aAndV (aBin fEq (aCall A_sum_of (aCons (aC (.str "!")) (aNil))) (aC (.str "000001"))) (aAndV (aBin fEq (aCall A_sum_of (aCons (aC (.str "!!")) (aNil))) (aC (.str "000032"))) (aBin fEq (aCall A_sum_of (aCons (aC (.str "~")) (aNil))) (aC (.str "000094"))))))))
local macro_rules | `(tactic| walk_at "lits_law") => `(tactic| simp only [lk2, lk3, lk0, lk4, lk5, lk6, lk7, lk8, lk9])
theorem run_sum_of_parts : ∀ ds θ k kx, (∀ e ∈ θ, Ent.lt θ.length e) → A_sum_of_parts ds θ k kx → t_sum_of_parts (eBody θ.length k kx) (startG 1 ds) θ := by
  rintro ds θ k kx - ⟨ls, rfl, hl, hn, q⟩
  walk_at "gs"
  unfold t_sum_of_parts
  walk_at "lits_sum_of_parts"
  walk_at "go"
  refine v_joinG rfl (by omega) ?_
  walk_at "go"
  refine c_sum (by rw [List.length_flatten]; omega) ?_
  have h6 := sumL_len ls.flatten
  have hz : (strsD ls).length = ls.length := by unfold strsD; simp
  walk_at "go"
  rw [S_num (by omega), hz]
  have hn2 : (numL ls.length).length ≤ 4 := numL_len (by decide) (by omega)
  simp only [Int.toNat_natCast]
  walk_at "go"
  exact q
theorem run_law_sums : ∀ ds θ k kx, (∀ e ∈ θ, Ent.lt θ.length e) → A_law_sums ds θ k kx → t_law_sums (eBody θ.length k kx) (startG 1 ds) θ := by
  rintro ds θ k kx - ⟨d, ls, rfl, e, hl, hn, q⟩
  walk_at "gs"
  unfold t_law_sums
  walk_at "lits_law_sums"
  walk_at "go"
  refine v_joinG e (by omega) ?_
  walk_at "go"
  refine c_sum (by rw [List.length_flatten]; omega) ?_
  have h6 := sumL_len ls.flatten
  walk_at "go"
  refine .inr ⟨_, _, rfl, e, ?_⟩
  have hz : (strsD ls).length = ls.length := by unfold strsD; simp
  walk_at "go"
  rw [S_num (by omega), hz]
  have hn2 : (numL ls.length).length ≤ 4 := numL_len (by decide) (by omega)
  simp only [Int.toNat_natCast]
  walk_at "go"
  exact q
theorem run_law_turned : ∀ ds θ k kx, (∀ e ∈ θ, Ent.lt θ.length e) → A_law_turned ds θ k kx → t_law_turned (eBody θ.length k kx) (startG 3 ds) θ := by
  rintro ds θ k kx - ⟨l, i, rfl, hl, h0, q⟩
  walk_at "gs"
  unfold t_law_turned
  have L1 := cutL_len (l := l) (lo := some (i + 1)) (hi := some (i + 2))
  have L2 := cutL_len (l := l) (lo := some i) (hi := some (i + 1))
  have L3 := cutL_len (l := l) (lo := none) (hi := some i)
  have L4 := cutL_len (l := l) (lo := some (i + 2)) (hi := none)
  have hl1 := hl.1
  walk_at "go"
  refine q _ ⟨?_, fun x hx => hl.2 x ?_⟩
  · rw [cutL_take h0, cutL_mid (by omega) (by omega), cutL_mid (by omega) (by omega), cutL_drop (by omega)]
    simp only [List.length_append, List.length_take, List.length_drop]
    omega
  · have mc : ∀ {lo hi : Option Int}, x ∈ cutL l lo hi → x ∈ l := fun h => List.mem_of_mem_drop (List.mem_of_mem_take h)
    rcases List.mem_append.mp hx with h | h
    · rcases List.mem_append.mp h with h | h
      · exact mc h
      · exact (List.mem_append.mp h).elim mc mc
    · exact mc h
theorem run_law : ∀ ds θ k kx, (∀ e ∈ θ, Ent.lt θ.length e) → A_law ds θ k kx → t_law (eBody θ.length k kx) (startG 8 ds) θ := by
  rintro ds θ k kx - ⟨ns, rfl, hn, rfl, q⟩
  walk_at "gs"
  unfold t_law
  walk_at "lits_law"
  walk_at "go"
  refine loop_inv (fun i Γ θ => ∃ ls : List (List Nat), θ = [.lst (strsD ls)] ∧ ls.length = 5 * i ∧ (∀ l ∈ ls, l.length = 6 ∧ SOk l) ∧ ∃ x2 x3 x4 x5 x6 x7 : Option D, Γ = [some (.lsk (ns.map D.int)), some (.obj 0), x2, x3, x4, x5, x6, x7]) ⟨[], rfl, rfl, by simp, _, _, _, _, _, _, rfl⟩ (fun _ _ _ _ => trivial) ?_ ?_
  · rintro i d Γ θ kk hd ⟨ls, rfl, hls, hok, x2, x3, x4, x5, x6, x7, rfl⟩ hk
    obtain ⟨hi, rfl⟩ := nums_get hd
    walk_at "go"
    refine c_cell (by omega) ?_
    generalize cellZ ns (0 + (i : Int)).toNat = z
    walk_at "go"
    refine c_data ?_
    have hdata := dataZ_ok (z + (0 + (i : Int)))
    generalize dataZ (z + (0 + (i : Int))) = data at hdata
    walk_at "go"
    refine c_mix (by decide) (by decide) (by decide) ?_
    have a0 := mix0 (z + (0 + (i : Int))) 9811 (m := 99) (by decide)
    have a1 := mix1 (z + (0 + (i : Int))) 9811 (m := 99) (by decide)
    generalize mixZ (z + (0 + (i : Int))) 9811 99 = at_ at a0 a1
    walk_at "go"
    refine ⟨data, at_, rfl, hdata, a0, fun r hr => ?_⟩
    have L1 := cutL_len (l := data) (lo := some at_) (hi := none)
    obtain ⟨d1, d2⟩ := hdata
    walk_at "go"
    have hs := SOk.data ⟨d1, d2⟩
    refine loop_inv (fun j Γ θ => ∃ ls : List (List Nat), θ = [.lst (strsD ls)] ∧ ls.length = 5 * i + j ∧ (∀ l ∈ ls, l.length = 6 ∧ SOk l) ∧ ∃ x6 : Option D, Γ = [some (.lsk (ns.map D.int)), some (.obj 0), some (.int (0 + (i : Int))), some (.int (z + (0 + (i : Int)))), some (.str (S data)), some (.int at_), x6, x7]) ⟨ls, rfl, by omega, hok, _, rfl⟩ (fun _ _ _ _ => trivial) ?_ ?_
    · rintro j d Γ θ kk2 hd2 ⟨ls, rfl, hls, hok, x6, rfl⟩ hk2
      have hw : ∃ w : List Nat, d = .str (S w) ∧ w.length ≤ 100 ∧ SOk w := by
        have hm := List.mem_of_getElem? hd2
        clear hd2
        revert d
        simp only [List.forall_mem_append, List.forall_mem_cons, List.not_mem_nil, false_implies, implies_true, and_true]
        have F : ∀ {u : List Nat}, u.length ≤ 100 → SOk u → ∃ w : List Nat, D.str (S u) = .str (S w) ∧ w.length ≤ 100 ∧ SOk w := fun h1 h2 => ⟨_, rfl, h1, h2⟩
        refine ⟨F (by omega) hs, F (by have := hr.1; omega) (SOk.data hr), F (by simp; omega) (SOk.app hs (by unfold SOk; decide)), F (by simp; omega) (SOk.app (a := [32]) (by unfold SOk; decide) hs), F (by omega) (SOk.cut hs)⟩
      have hj : j < 5 := (List.getElem?_eq_some_iff.mp hd2).1
      obtain ⟨w, rfl, hw1, hw2⟩ := hw
      walk_at "go"
      refine c_sum (by omega) ?_
      walk_at "go"
      refine c_sum (by omega) ?_
      walk_at "go"
      refine c_sameT (pl_str (sumL_ok w)) ?_
      have hi4 : i < 4 := hi
      have hz : (strsD ls).length ≤ 30 := by unfold strsD; rw [List.length_map]; omega
      walk_at "go"
      refine c_sum (by omega) ?_
      walk_at "go"
      have e : strsD ls ++ [D.str (S (sumL w))] = strsD (ls ++ [sumL w]) := by unfold strsD; simp
      rw [e]
      refine hk2 _ _ ⟨_, rfl, by simp; omega, ?_, _, rfl⟩
      intro l hl
      rcases List.mem_append.mp hl with h | h
      · exact hok l h
      · rw [List.mem_singleton.mp h]
        exact ⟨sumL_len w, sumL_ok w⟩
    · rintro Γ θ ⟨ls, rfl, hls, hok, x6, rfl⟩
      walk_at "go"
      refine c_mix (by decide) (by decide) (by decide) ?_
      have b0 := mix0 (z + (0 + (i : Int))) 9803 (m := 5) (by decide)
      have b1 := mix1 (z + (0 + (i : Int))) 9803 (m := 5) (by decide)
      generalize mixZ (z + (0 + (i : Int))) 9803 5 = st at b0 b1
      walk_at "go"
      have hl20 : ls.length ≤ 20 := by have hi4 : i < 4 := hi; have : ls.length = 5 * i + 5 := hls; omega
      have six : ∀ ms : List (List Nat), (∀ l ∈ ms, l.length = 6 ∧ SOk l) → (ms.map List.length).sum = 6 * ms.length := by
        intro ms
        induction ms with
        | nil => intro _; rfl
        | cons m ms ih => intro h; rw [List.map_cons, List.sum_cons, ih fun l hl => h l (List.mem_cons_of_mem _ hl), (h m List.mem_cons_self).1, List.length_cons]; omega
      have pok : ∀ ms : List (List Nat), SOk (partsL ms) := fun ms => SOk.app (SOk.app (sumL_ok _) (by unfold SOk; decide)) (SOk.num _)
      have ec : cutL (strsD ls) (some (-1 - st)) none = strsD (cutL ls (some (-1 - st)) none) := cutL_map
      rw [ec]
      have hc := cutL_len (l := ls) (lo := some (-1 - st)) (hi := none)
      have hok2 : ∀ l ∈ cutL ls (some (-1 - st)) none, l.length = 6 ∧ SOk l := fun l hl => hok l (cutL_mem hl)
      generalize cutL ls (some (-1 - st)) none = ms at hc hok2
      have h1 := six _ hok2
      have h2 := six _ hok
      refine ⟨ms, rfl, by omega, by omega, ?_⟩
      walk_at "go"
      refine ⟨_, ms, rfl, rfl, by omega, by omega, ?_⟩
      walk_at "go"
      refine c_sameT (pl_str (pok ms)) ?_
      walk_at "go"
      refine ⟨ls, rfl, by omega, by omega, ?_⟩
      walk_at "go"
      refine ⟨_, ls, rfl, asS_obj rfl, by omega, by omega, ?_⟩
      walk_at "go"
      refine c_sameT (pl_str (pok ls)) ?_
      walk_at "go"
      refine hk _ _ ⟨ls, rfl, by have : ls.length = 5 * i + 5 := hls; omega, hok, _, _, _, _, _, _, rfl⟩
  · rintro Γ θ ⟨ls, rfl, hls, hok, x2, x3, x4, x5, x6, x7, rfl⟩
    walk_at "go"
    refine c_sum (by decide) ?_
    walk_at "go"
    refine w_ifP (by decide +kernel) ?_
    walk_at "go"
    refine c_sum (by decide) ?_
    walk_at "go"
    refine w_ifP (by decide +kernel) ?_
    walk_at "go"
    refine c_sum (by decide) ?_
    walk_at "go"
    refine w_ifP (by decide +kernel) ?_
    walk_at "go"
    refine c_sum (by decide) ?_
    walk_at "go"
    have e : decide (sumL [126] = [48, 48, 48, 48, 57, 52]) = true := by decide +kernel
    rw [e]
    exact q _
section
variable {P : Program} {w : World} {K : PySem.W.Frag} {mg : Str → Option Value} {base : Heap}
theorem ok_sum_of {f : Addr} {fd : FuncData} (T : Txt K mg)  (F : Fun K "sum_of" "sum_of" s_sum_of f fd) : FnOk P w K mg base (L2.CX P w) 1 f fd ["data"] (LF K A_sum_of) := by
  refine okA (t := aSeq (aAsg (aC (.int 0)) (gN 1)) (aSeq (aFor (aItS (aVar 0)) (gN 2) (aAsg (aBin fMod (aBin fSub (aBin fAdd (aBin fMul (aC (.int 31)) (aVar 1)) (aCB fOrd (aCons (aVar 2) (aNil)))) (aC (.int 32))) (aC (.int 999983))) (gN 1))) (aRet (aBM "str" fZfill (aCB fStr (aCons (aVar 1) (aNil))) (aCons (aC (.int 6)) (aNil)))))) (lv := 0) F sc_sum_of len_sum_of (fun cdv Ar outer s H E hr => ?hb) ?run
  case hb =>
    have hu1 := hu_of hr
    have hu64 := hr.units
    exact xss_cons (xs_set (i := 1) sc_sum_of.nd rfl (by first | exact Or.inl rfl | exact Or.inr rfl) (xe_int)) (xss_cons (xs_for (passes_of rfl) rfl (xi_str (xe_var (pv 0))) (xg_name (pg_name (i := 2) sc_sum_of.nd rfl (by first | exact Or.inl rfl | exact Or.inr rfl))) (xss_one (xs_set (i := 1) sc_sum_of.nd rfl (by first | exact Or.inl rfl | exact Or.inr rfl) (xe_mod (xe_sub (xe_add (xe_mul (xe_int) (xe_var (pv 1))) (xf_ord rfl T.n_ord (xa_cons (xe_var (pv 2)) (xa_nil)))) (xe_int)) (xe_int))))) (xss_one (xs_ret (xm_zfill (xf_str rfl T.n_str (xa_cons (xe_var (pv 1)) (xa_nil))) (xa_cons (xe_int) (xa_nil))))))
  case run => exact run_sum_of
theorem ok_sum_of_parts {f : Addr} {fd : FuncData} (T : Txt K mg) (G_sum_of : GF P w K mg base 1 "sum_of" A_sum_of) (F : Fun K "sum_of_parts" "sum_of_parts" s_sum_of_parts f fd) : FnOk P w K mg base (L2.CX P w) 2 f fd ["sums"] (LF K A_sum_of_parts) := by
  refine okA (t := aRet (aBin fAdd (aBin fAdd (aCall A_sum_of (aCons (aBM "str" fJoin (aC (.str "")) (aCons (aVar 0) (aNil))) (aNil))) (aC (.str "-"))) (aCB fStr (aCons (aCB fLen (aCons (aVar 0) (aNil))) (aNil))))) (lv := 1) F sc_sum_of_parts len_sum_of_parts (fun cdv Ar outer s H E hr => ?hb) ?run
  case hb =>
    have hu1 := hu_of hr
    have hu64 := hr.units
    exact xss_one (xs_ret (xe_add (xe_add (xe_call G_sum_of (hr.mono (by decide)) (takes_of rfl rfl rfl rfl) rfl (xa_cons (xm_join (xe_str) (xa_cons (xe_var (pv 0)) (xa_nil))) (xa_nil))) (xe_str)) (xf_str rfl T.n_str (xa_cons (xf_len rfl T.n_len (xa_cons (xe_var (pv 0)) (xa_nil))) (xa_nil)))))
  case run => exact run_sum_of_parts
theorem ok_law_cell {f : Addr} {fd : FuncData} (T : Txt K mg)  (F : Fun K "_law_cell" "_law_cell" s_law_cell f fd) : FnOk P w K mg base (L2.CX P w) 1 f fd ["_law_script", "_law_k"] (LF K A_law_cell) := by
  refine okA (t := aSeq (aIfS (aTst (aBin fLt (aVar 1) (aCB fLen (aCons (aVar 0) (aNil))))) (aRet (aBin fIx (aVar 0) (aVar 1))) (aNext)) (aRet (aC (.int 0)))) (lv := 0) F sc_law_cell len_law_cell (fun cdv Ar outer s H E hr => ?hb) ?run
  case hb =>
    have hu1 := hu_of hr
    have hu64 := hr.units
    exact xss_cons (xs_if (xt_cmp (op_ltA) sim_lt (xe_var (pv 1)) (xf_len rfl T.n_len (xa_cons (xe_var (pv 0)) (xa_nil))) (nomark _)) (xss_one (xs_ret (xe_ix (ix_all hu1) sim_ix (xe_var (pv 0)) (xe_var (pv 1)) (fun _ _ => rfl)))) (xss_nil)) (xss_one (xs_ret (xe_int)))
  case run => exact run_law_cell
theorem ok_law_mix {f : Addr} {fd : FuncData} (T : Txt K mg)  (F : Fun K "_law_mix" "_law_mix" s_law_mix f fd) : FnOk P w K mg base (L2.CX P w) 1 f fd ["_law_cell_here", "_law_prime", "_law_many"] (LF K A_law_mix) := by
  refine okA (t := aSeq (aAsg (aBin fMod (aBin fMul (aVar 0) (aC (.int 48271))) (aVar 1)) (gN 3)) (aRet (aBin fMod (aBin fMod (aBin fMul (aVar 3) (aBin fAdd (aVar 3) (aC (.int 7)))) (aVar 1)) (aVar 2)))) (lv := 0) F sc_law_mix len_law_mix (fun cdv Ar outer s H E hr => ?hb) ?run
  case hb =>
    have hu1 := hu_of hr
    have hu64 := hr.units
    exact xss_cons (xs_set (i := 3) sc_law_mix.nd rfl (by first | exact Or.inl rfl | exact Or.inr rfl) (xe_mod (xe_mul (xe_var (pv 0)) (xe_int)) (xe_var (pv 1)))) (xss_one (xs_ret (xe_mod (xe_mod (xe_mul (xe_var (pv 3)) (xe_add (xe_var (pv 3)) (xe_int))) (xe_var (pv 1))) (xe_var (pv 2)))))
  case run => exact run_law_mix
theorem ok_law_same {f : Addr} {fd : FuncData} {A0 A1 : ASp} {lv : Nat} (T : Txt K mg) (G_rec : GF P w K mg base lv "_law_same" A0) (len : ∀ ds θ k kx, A1 ds θ k kx → ds.length = 2) (run : ∀ ds θ k kx, (∀ e ∈ θ, Ent.lt θ.length e) → A1 ds θ k kx → t_law_same A0 (eBody θ.length k kx) (startG 4 ds) θ) (F : Fun K "_law_same" "_law_same" s_law_same f fd) : FnOk P w K mg base (L2.CX P w) (lv + 1) f fd ["_law_found", "_law_due"] (LF K A1) := by
  refine okA (t := aSeq (aIfS (aTru (aCB fIsi (aCons (aVar 1) (aCons (aC (.raw (.ty "tuple"))) (aNil))))) (aSeq (aIfS (aOr (aNot (aTru (aCB fIsi (aCons (aVar 0) (aCons (aC (.raw (.ty "tuple"))) (aNil)))))) (aTst (aBin fNe (aCB fLen (aCons (aVar 0) (aNil))) (aCB fLen (aCons (aVar 1) (aNil)))))) (aRet (aC (.bl false))) (aNext)) (aRet (aCB fAll (aCons (aLc (aZip (aCons (aVar 0) (aCons (aVar 1) (aNil)))) (.tup [2, 3]) (aYes) (aCall A0 (aCons (aVar 2) (aCons (aVar 3) (aNil)))) [2, 3]) (aNil))))) (aNext)) (aSeq (aIfS (aTst (aBin fIs (aVar 1) (aC .non))) (aRet (aBin fIs (aVar 0) (aC .non))) (aNext)) (aSeq (aIfS (aOr (aTru (aCB fIsi (aCons (aVar 1) (aCons (aC (.raw (.ty "bool"))) (aNil))))) (aTru (aCB fIsi (aCons (aVar 0) (aCons (aC (.raw (.ty "bool"))) (aNil)))))) (aRet (aAndV (aCB fIsi (aCons (aVar 1) (aCons (aC (.raw (.ty "bool"))) (aNil)))) (aAndV (aCB fIsi (aCons (aVar 0) (aCons (aC (.raw (.ty "bool"))) (aNil)))) (aBin fEq (aVar 0) (aVar 1))))) (aNext)) (aRet (aAndV (aCB fIsi (aCons (aVar 0) (aCons (aTup (aCons (aC (.raw (.ty "int"))) (aCons (aC (.raw (.ty "str"))) (aNil)))) (aNil)))) (aBin fEq (aVar 0) (aVar 1))))))) (lv := lv) F sc_law_same len (fun cdv Ar outer s H E hr => ?hb) ?run
  case hb =>
    have hu1 := hu_of hr
    have hu64 := hr.units
    exact xss_cons (xs_if (xt_tru (xf_isinstance rfl T.n_isinstance (xa_cons (xe_var (pv 1)) (xa_cons (xe_ty rfl T.n_tuple bt_tuple) (xa_nil)))) (fun _ => rfl)) (xss_cons (xs_if (XW.pt (xw_or (xt_not (xt_tru (xf_isinstance rfl T.n_isinstance (xa_cons (xe_var (pv 0)) (xa_cons (xe_ty rfl T.n_tuple bt_tuple) (xa_nil)))) (fun _ => rfl))) (xw_or1 (xt_cmp (op_neA hu64) sim_ne (xf_len rfl T.n_len (xa_cons (xe_var (pv 0)) (xa_nil))) (xf_len rfl T.n_len (xa_cons (xe_var (pv 1)) (xa_nil))) (nomark _))))) (xss_one (xs_ret (xe_bl))) (xss_nil)) (xss_one (xs_ret (xf_all rfl rfl T.n_all (xa_cons (xe_lc (own := [("_law_one", 2), ("_law_other", 3)]) (t := (.tup [2, 3])) rfl sc_law_same.nd (xi_zip rfl T.n_zip (xa_cons (xe_var (pv 0)) (xa_cons (xe_var (pv 1)) (xa_nil)))) (blkOk_by (N := N_law_same) (sc := defScope s_law_same) (by decide +kernel)) (by decide) (fun _ _ _ _ _ => pg_tup rfl (pgs_cons (pg_name (i := 2) sc_law_same.nd rfl (by first | exact Or.inl rfl | exact Or.inr rfl)) (pgs_cons (pg_name (i := 3) sc_law_same.nd rfl (by first | exact Or.inl rfl | exact Or.inr rfl)) (pgs_nil)))) (fun _ _ _ _ _ => xts_nil) (fun _ _ _ _ _ => xe_call G_rec hr takes0 rfl (xa_cons (xe_var (pv 2)) (xa_cons (xe_var (pv 3)) (xa_nil))))) (xa_nil)))))) (xss_nil)) (xss_cons (xs_if (xt_cmp (op_isAll) sim_is (xe_var (pv 1)) (xe_non) (nomark _)) (xss_one (xs_ret (xe_cmp (op_isAll) sim_is (xe_var (pv 0)) (xe_non) (nomark _)))) (xss_nil)) (xss_cons (xs_if (XW.pt (xw_or (xt_tru (xf_isinstance rfl T.n_isinstance (xa_cons (xe_var (pv 1)) (xa_cons (xe_ty rfl T.n_bool bt_bool) (xa_nil)))) (fun _ => rfl)) (xw_or1 (xt_tru (xf_isinstance rfl T.n_isinstance (xa_cons (xe_var (pv 0)) (xa_cons (xe_ty rfl T.n_bool bt_bool) (xa_nil)))) (fun _ => rfl))))) (xss_one (xs_ret (xe_and (xf_isinstance rfl T.n_isinstance (xa_cons (xe_var (pv 1)) (xa_cons (xe_ty rfl T.n_bool bt_bool) (xa_nil)))) (xe_and (xf_isinstance rfl T.n_isinstance (xa_cons (xe_var (pv 0)) (xa_cons (xe_ty rfl T.n_bool bt_bool) (xa_nil)))) (xe_one (xe_cmp (op_eqA hu64) sim_eq (xe_var (pv 0)) (xe_var (pv 1)) (nomark _))))))) (xss_nil)) (xss_one (xs_ret (xe_and (xf_isinstance rfl T.n_isinstance (xa_cons (xe_var (pv 0)) (xa_cons (xe_tup (xa_cons (xe_ty rfl T.n_int bt_int) (xa_cons (xe_ty rfl T.n_str bt_str) (xa_nil)))) (xa_nil)))) (xe_one (xe_cmp (op_eqA hu64) sim_eq (xe_var (pv 0)) (xe_var (pv 1)) (nomark _))))))))
  case run => exact run
theorem ok_law_data {f : Addr} {fd : FuncData} (T : Txt K mg) (G_law_mix : GF P w K mg base 1 "_law_mix" A_law_mix) (F : Fun K "_law_data" "_law_data" s_law_data f fd) : FnOk P w K mg base (L2.CX P w) 2 f fd ["_law_cell_here"] (LF K A_law_data) := by
  refine okA (t := aSeq (aAsg (aC (.str " !\"#$&'()*+,-./0123456789:;<=>?@ABCDEFGHIJKLMNOPQRSTUVWXYZ[\\]^_`abcdefghijklmnopqrstuvwxyz{|}~")) (gN 1)) (aSeq (aAsg (aCall A_law_mix (aCons (aVar 0) (aCons (aC (.int 9941)) (aCons (aC (.int 9)) (aNil))))) (gN 2)) (aSeq (aIfS (aTst (aBin fEq (aCall A_law_mix (aCons (aVar 0) (aCons (aC (.int 9931)) (aCons (aC (.int 7)) (aNil))))) (aC (.int 0)))) (aAsg (aC (.int 99)) (gN 2)) (aNext)) (aSeq (aIfS (aTst (aBin fEq (aCall A_law_mix (aCons (aVar 0) (aCons (aC (.int 9931)) (aCons (aC (.int 7)) (aNil))))) (aC (.int 1)))) (aAsg (aCall A_law_mix (aCons (aVar 0) (aCons (aC (.int 9929)) (aCons (aC (.int 100)) (aNil))))) (gN 2)) (aNext)) (aRet (aBM "str" fJoin (aC (.str "")) (aCons (aLc (aRng (aCons (aVar 2) (aNil))) (.one 3) (aYes) (aBin fIx (aVar 1) (aCall A_law_mix (aCons (aBin fAdd (aVar 0) (aBin fMul (aC (.int 5)) (aVar 3))) (aCons (aC (.int 9923)) (aCons (aCB fLen (aCons (aVar 1) (aNil))) (aNil)))))) [3]) (aNil)))))))) (lv := 1) F sc_law_data len_law_data (fun cdv Ar outer s H E hr => ?hb) ?run
  case hb =>
    have hu1 := hu_of hr
    have hu64 := hr.units
    exact xss_cons (xs_set (i := 1) sc_law_data.nd rfl (by first | exact Or.inl rfl | exact Or.inr rfl) (xe_str)) (xss_cons (xs_set (i := 2) sc_law_data.nd rfl (by first | exact Or.inl rfl | exact Or.inr rfl) (xe_call G_law_mix (hr.mono (by decide)) (takes_of rfl rfl rfl rfl) rfl (xa_cons (xe_var (pv 0)) (xa_cons (xe_int) (xa_cons (xe_int) (xa_nil)))))) (xss_cons (xs_if (xt_cmp (op_eqA hu64) sim_eq (xe_call G_law_mix (hr.mono (by decide)) (takes_of rfl rfl rfl rfl) rfl (xa_cons (xe_var (pv 0)) (xa_cons (xe_int) (xa_cons (xe_int) (xa_nil))))) (xe_int) (nomark _)) (xss_one (xs_set (i := 2) sc_law_data.nd rfl (by first | exact Or.inl rfl | exact Or.inr rfl) (xe_int))) (xss_nil)) (xss_cons (xs_if (xt_cmp (op_eqA hu64) sim_eq (xe_call G_law_mix (hr.mono (by decide)) (takes_of rfl rfl rfl rfl) rfl (xa_cons (xe_var (pv 0)) (xa_cons (xe_int) (xa_cons (xe_int) (xa_nil))))) (xe_int) (nomark _)) (xss_one (xs_set (i := 2) sc_law_data.nd rfl (by first | exact Or.inl rfl | exact Or.inr rfl) (xe_call G_law_mix (hr.mono (by decide)) (takes_of rfl rfl rfl rfl) rfl (xa_cons (xe_var (pv 0)) (xa_cons (xe_int) (xa_cons (xe_int) (xa_nil))))))) (xss_nil)) (xss_one (xs_ret (xm_join (xe_str) (xa_cons (xe_lc (own := [("_law_k", 3)]) (t := (.one 3)) rfl sc_law_data.nd (xi_rng rfl T.n_range (xa_cons (xe_var (pv 2)) (xa_nil))) (blkOk_by (N := N_law_data) (sc := defScope s_law_data) (by decide +kernel)) (by decide) (fun _ _ _ _ _ => pg_name (i := 3) sc_law_data.nd rfl (by first | exact Or.inl rfl | exact Or.inr rfl)) (fun _ _ _ _ _ => xts_nil) (fun _ _ _ _ _ => xe_ix (ix_all hu1) sim_ix (xe_var (pv 1)) (xe_call G_law_mix (hr.mono (by decide)) takes0 rfl (xa_cons (xe_add (xe_var (pv 0)) (xe_mul (xe_int) (xe_var (pv 3)))) (xa_cons (xe_int) (xa_cons (xf_len rfl T.n_len (xa_cons (xe_var (pv 1)) (xa_nil))) (xa_nil))))) (fun _ _ => rfl))) (xa_nil))))))))
  case run => exact run_law_data
theorem ok_law_sum {f : Addr} {fd : FuncData} (T : Txt K mg)  (F : Fun K "_law_sum" "_law_sum" s_law_sum f fd) : FnOk P w K mg base (L2.CX P w) 1 f fd ["_law_data_here"] (LF K A_law_sum) := by
  refine okA (t := aSeq (aAsg (aC (.int 0)) (gN 1)) (aSeq (aFor (aItS (aVar 0)) (gN 2) (aAsg (aBin fMod (aBin fSub (aBin fAdd (aBin fMul (aVar 1) (aC (.int 31))) (aCB fOrd (aCons (aVar 2) (aNil)))) (aCB fOrd (aCons (aC (.str " ")) (aNil)))) (aC (.int 999983))) (gN 1))) (aRet (aSl (aBin fAdd (aC (.str "00000")) (aCB fStr (aCons (aVar 1) (aNil)))) (oSome (aUn fNeg (aC (.int 6)))) oNone)))) (lv := 0) F sc_law_sum len_law_sum (fun cdv Ar outer s H E hr => ?hb) ?run
  case hb =>
    have hu1 := hu_of hr
    have hu64 := hr.units
    exact xss_cons (xs_set (i := 1) sc_law_sum.nd rfl (by first | exact Or.inl rfl | exact Or.inr rfl) (xe_int)) (xss_cons (xs_for (passes_of rfl) rfl (xi_str (xe_var (pv 0))) (xg_name (pg_name (i := 2) sc_law_sum.nd rfl (by first | exact Or.inl rfl | exact Or.inr rfl))) (xss_one (xs_set (i := 1) sc_law_sum.nd rfl (by first | exact Or.inl rfl | exact Or.inr rfl) (xe_mod (xe_sub (xe_add (xe_mul (xe_var (pv 1)) (xe_int)) (xf_ord rfl T.n_ord (xa_cons (xe_var (pv 2)) (xa_nil)))) (xf_ord rfl T.n_ord (xa_cons (xe_str) (xa_nil)))) (xe_int))))) (xss_one (xs_ret (xe_sl (xe_add (xe_str) (xf_str rfl T.n_str (xa_cons (xe_var (pv 1)) (xa_nil)))) (xo_some (xe_neg (xe_int))) xo_none))))
  case run => exact run_law_sum
theorem ok_law_sums {f : Addr} {fd : FuncData} (T : Txt K mg) (G_law_sum : GF P w K mg base 1 "_law_sum" A_law_sum) (F : Fun K "_law_sums" "_law_sums" s_law_sums f fd) : FnOk P w K mg base (L2.CX P w) 2 f fd ["_law_sums_here"] (LF K A_law_sums) := by
  refine okA (t := aRet (aBin fAdd (aBin fAdd (aCall A_law_sum (aCons (aBM "str" fJoin (aC (.str "")) (aCons (aVar 0) (aNil))) (aNil))) (aC (.str "-"))) (aCB fStr (aCons (aCB fLen (aCons (aVar 0) (aNil))) (aNil))))) (lv := 1) F sc_law_sums len_law_sums (fun cdv Ar outer s H E hr => ?hb) ?run
  case hb =>
    have hu1 := hu_of hr
    have hu64 := hr.units
    exact xss_one (xs_ret (xe_add (xe_add (xe_call G_law_sum (hr.mono (by decide)) (takes_of rfl rfl rfl rfl) rfl (xa_cons (xm_join (xe_str) (xa_cons (xe_var (pv 0)) (xa_nil))) (xa_nil))) (xe_str)) (xf_str rfl T.n_str (xa_cons (xf_len rfl T.n_len (xa_cons (xe_var (pv 0)) (xa_nil))) (xa_nil)))))
  case run => exact run_law_sums
theorem ok_law_turned {f : Addr} {fd : FuncData} (T : Txt K mg)  (F : Fun K "_law_turned" "_law_turned" s_law_turned f fd) : FnOk P w K mg base (L2.CX P w) 1 f fd ["_law_data_here", "_law_at"] (LF K A_law_turned) := by
  refine okA (t := aSeq (aAsg (aBin fAdd (aSl (aVar 0) (oSome (aBin fAdd (aVar 1) (aC (.int 1)))) (oSome (aBin fAdd (aVar 1) (aC (.int 2))))) (aSl (aVar 0) (oSome (aVar 1)) (oSome (aBin fAdd (aVar 1) (aC (.int 1)))))) (gN 2)) (aRet (aBin fAdd (aBin fAdd (aSl (aVar 0) oNone (oSome (aVar 1))) (aVar 2)) (aSl (aVar 0) (oSome (aBin fAdd (aVar 1) (aC (.int 2)))) oNone)))) (lv := 0) F sc_law_turned len_law_turned (fun cdv Ar outer s H E hr => ?hb) ?run
  case hb =>
    have hu1 := hu_of hr
    have hu64 := hr.units
    exact xss_cons (xs_set (i := 2) sc_law_turned.nd rfl (by first | exact Or.inl rfl | exact Or.inr rfl) (xe_add (xe_sl (xe_var (pv 0)) (xo_some (xe_add (xe_var (pv 1)) (xe_int))) (xo_some (xe_add (xe_var (pv 1)) (xe_int)))) (xe_sl (xe_var (pv 0)) (xo_some (xe_var (pv 1))) (xo_some (xe_add (xe_var (pv 1)) (xe_int)))))) (xss_one (xs_ret (xe_add (xe_add (xe_sl (xe_var (pv 0)) xo_none (xo_some (xe_var (pv 1)))) (xe_var (pv 2))) (xe_sl (xe_var (pv 0)) (xo_some (xe_add (xe_var (pv 1)) (xe_int))) xo_none))))
  case run => exact run_law_turned
theorem ok_law {f : Addr} {fd : FuncData} (T : Txt K mg) (G_law_cell : GF P w K mg base 1 "_law_cell" A_law_cell) (G_law_data : GF P w K mg base 2 "_law_data" A_law_data) (G_law_mix : GF P w K mg base 1 "_law_mix" A_law_mix) (G_law_same : GF P w K mg base 5 "_law_same" A_law_same) (G_law_sum : GF P w K mg base 1 "_law_sum" A_law_sum) (G_law_sums : GF P w K mg base 2 "_law_sums" A_law_sums) (G_law_turned : GF P w K mg base 1 "_law_turned" A_law_turned) (G_sum_of : GF P w K mg base 1 "sum_of" A_sum_of) (G_sum_of_parts : GF P w K mg base 2 "sum_of_parts" A_sum_of_parts) (F : Fun K "law" "law" s_law f fd) : FnOk P w K mg base (L2.CX P w) 6 f fd ["_law_script"] (LF K A_law) := by
  refine okA (t := aSeq (aAsg (aLstM (aNil)) (gN 1)) (aSeq (aFor (aRng (aCons (aC (.int 4)) (aNil))) (gN 2) (aSeq (aAsg (aBin fAdd (aCall A_law_cell (aCons (aVar 0) (aCons (aVar 2) (aNil)))) (aVar 2)) (gN 3)) (aSeq (aAsg (aCall A_law_data (aCons (aVar 3) (aNil))) (gN 4)) (aSeq (aAsg (aCall A_law_mix (aCons (aVar 3) (aCons (aC (.int 9811)) (aCons (aC (.int 99)) (aNil))))) (gN 5)) (aSeq (aFor (aItT (aTup (aCons (aVar 4) (aCons (aCall A_law_turned (aCons (aVar 4) (aCons (aVar 5) (aNil)))) (aCons (aBin fAdd (aVar 4) (aC (.str "!"))) (aCons (aBin fAdd (aC (.str " ")) (aVar 4)) (aCons (aSl (aVar 4) (oSome (aVar 5)) oNone) (aNil)))))))) (gN 6) (aSeq (aIfS (aNot (aTru (aCall A_law_same (aCons (aCall A_sum_of (aCons (aVar 6) (aNil))) (aCons (aCall A_law_sum (aCons (aVar 6) (aNil))) (aNil)))))) (aRet (aC (.bl false))) (aNext)) (aDrop (aBM "list" fAppend (aVar 1) (aCons (aCall A_law_sum (aCons (aVar 6) (aNil))) (aNil)))))) (aSeq (aAsg (aCB fTuple (aCons (aSl (aVar 1) (oSome (aBin fSub (aUn fNeg (aC (.int 1))) (aCall A_law_mix (aCons (aVar 3) (aCons (aC (.int 9803)) (aCons (aC (.int 5)) (aNil))))))) oNone) (aNil))) (gN 7)) (aSeq (aIfS (aNot (aTru (aCall A_law_same (aCons (aCall A_sum_of_parts (aCons (aVar 7) (aNil))) (aCons (aCall A_law_sums (aCons (aVar 7) (aNil))) (aNil)))))) (aRet (aC (.bl false))) (aNext)) (aIfS (aNot (aTru (aCall A_law_same (aCons (aCall A_sum_of_parts (aCons (aCB fTuple (aCons (aVar 1) (aNil))) (aNil))) (aCons (aCall A_law_sums (aCons (aVar 1) (aNil))) (aNil)))))) (aRet (aC (.bl false))) (aNext))))))))) (aRet (aAndV (aBin fEq (aCall A_sum_of (aCons (aC (.str "")) (aNil))) (aC (.str "000000"))) (aAndV (aBin fEq (aCall A_sum_of (aCons (aC (.str "!")) (aNil))) (aC (.str "000001"))) (aAndV (aBin fEq (aCall A_sum_of (aCons (aC (.str "!!")) (aNil))) (aC (.str "000032"))) (aBin fEq (aCall A_sum_of (aCons (aC (.str "~")) (aNil))) (aC (.str "000094"))))))))) (lv := 5) F sc_law len_law (fun cdv Ar outer s H E hr => ?hb) ?run
  case hb =>
    have hu1 := hu_of hr
    have hu64 := hr.units
    exact xss_cons (xs_set (i := 1) sc_law.nd rfl (by first | exact Or.inl rfl | exact Or.inr rfl) (xe_lstM (xa_nil))) (xss_cons (xs_for (passes_of rfl) rfl (xi_rng rfl T.n_range (xa_cons (xe_int) (xa_nil))) (xg_name (pg_name (i := 2) sc_law.nd rfl (by first | exact Or.inl rfl | exact Or.inr rfl))) (xss_cons (xs_set (i := 3) sc_law.nd rfl (by first | exact Or.inl rfl | exact Or.inr rfl) (xe_add (xe_call G_law_cell (hr.mono (by decide)) (takes_of rfl rfl rfl rfl) rfl (xa_cons (xe_var (pv 0)) (xa_cons (xe_var (pv 2)) (xa_nil)))) (xe_var (pv 2)))) (xss_cons (xs_set (i := 4) sc_law.nd rfl (by first | exact Or.inl rfl | exact Or.inr rfl) (xe_call G_law_data (hr.mono (by decide)) (takes_of rfl rfl rfl rfl) rfl (xa_cons (xe_var (pv 3)) (xa_nil)))) (xss_cons (xs_set (i := 5) sc_law.nd rfl (by first | exact Or.inl rfl | exact Or.inr rfl) (xe_call G_law_mix (hr.mono (by decide)) (takes_of rfl rfl rfl rfl) rfl (xa_cons (xe_var (pv 3)) (xa_cons (xe_int) (xa_cons (xe_int) (xa_nil)))))) (xss_cons (xs_for (passes_of rfl) rfl (xi_tup (xe_tup (xa_cons (xe_var (pv 4)) (xa_cons (xe_call G_law_turned (hr.mono (by decide)) (takes_of rfl rfl rfl rfl) rfl (xa_cons (xe_var (pv 4)) (xa_cons (xe_var (pv 5)) (xa_nil)))) (xa_cons (xe_add (xe_var (pv 4)) (xe_str)) (xa_cons (xe_add (xe_str) (xe_var (pv 4))) (xa_cons (xe_sl (xe_var (pv 4)) (xo_some (xe_var (pv 5))) xo_none) (xa_nil)))))))) (xg_name (pg_name (i := 6) sc_law.nd rfl (by first | exact Or.inl rfl | exact Or.inr rfl))) (xss_cons (xs_if (xt_not (xt_tru (xe_call G_law_same (hr.mono (by decide)) (takes_of rfl rfl rfl rfl) rfl (xa_cons (xe_call G_sum_of (hr.mono (by decide)) (takes_of rfl rfl rfl rfl) rfl (xa_cons (xe_var (pv 6)) (xa_nil))) (xa_cons (xe_call G_law_sum (hr.mono (by decide)) (takes_of rfl rfl rfl rfl) rfl (xa_cons (xe_var (pv 6)) (xa_nil))) (xa_nil)))) (fun _ => rfl))) (xss_one (xs_ret (xe_bl))) (xss_nil)) (xss_one (xs_expr (xm_append (xe_var (pv 1)) (xa_cons (xe_call G_law_sum (hr.mono (by decide)) (takes_of rfl rfl rfl rfl) rfl (xa_cons (xe_var (pv 6)) (xa_nil))) (xa_nil))))))) (xss_cons (xs_set (i := 7) sc_law.nd rfl (by first | exact Or.inl rfl | exact Or.inr rfl) (xf_tuple rfl T.n_tuple (xa_cons (xe_sl (xe_var (pv 1)) (xo_some (xe_sub (xe_neg (xe_int)) (xe_call G_law_mix (hr.mono (by decide)) (takes_of rfl rfl rfl rfl) rfl (xa_cons (xe_var (pv 3)) (xa_cons (xe_int) (xa_cons (xe_int) (xa_nil))))))) xo_none) (xa_nil)))) (xss_cons (xs_if (xt_not (xt_tru (xe_call G_law_same (hr.mono (by decide)) (takes_of rfl rfl rfl rfl) rfl (xa_cons (xe_call G_sum_of_parts (hr.mono (by decide)) (takes_of rfl rfl rfl rfl) rfl (xa_cons (xe_var (pv 7)) (xa_nil))) (xa_cons (xe_call G_law_sums (hr.mono (by decide)) (takes_of rfl rfl rfl rfl) rfl (xa_cons (xe_var (pv 7)) (xa_nil))) (xa_nil)))) (fun _ => rfl))) (xss_one (xs_ret (xe_bl))) (xss_nil)) (xss_one (xs_if (xt_not (xt_tru (xe_call G_law_same (hr.mono (by decide)) (takes_of rfl rfl rfl rfl) rfl (xa_cons (xe_call G_sum_of_parts (hr.mono (by decide)) (takes_of rfl rfl rfl rfl) rfl (xa_cons (xf_tuple rfl T.n_tuple (xa_cons (xe_var (pv 1)) (xa_nil))) (xa_nil))) (xa_cons (xe_call G_law_sums (hr.mono (by decide)) (takes_of rfl rfl rfl rfl) rfl (xa_cons (xe_var (pv 1)) (xa_nil))) (xa_nil)))) (fun _ => rfl))) (xss_one (xs_ret (xe_bl))) (xss_nil)))))))))) (xss_one (xs_ret (xe_and (xe_cmp (op_eqA hu64) sim_eq (xe_call G_sum_of (hr.mono (by decide)) (takes_of rfl rfl rfl rfl) rfl (xa_cons (xe_str) (xa_nil))) (xe_str) (nomark _)) (xe_and (xe_cmp (op_eqA hu64) sim_eq (xe_call G_sum_of (hr.mono (by decide)) (takes_of rfl rfl rfl rfl) rfl (xa_cons (xe_str) (xa_nil))) (xe_str) (nomark _)) (xe_and (xe_cmp (op_eqA hu64) sim_eq (xe_call G_sum_of (hr.mono (by decide)) (takes_of rfl rfl rfl rfl) rfl (xa_cons (xe_str) (xa_nil))) (xe_str) (nomark _)) (xe_one (xe_cmp (op_eqA hu64) sim_eq (xe_call G_sum_of (hr.mono (by decide)) (takes_of rfl rfl rfl rfl) rfl (xa_cons (xe_str) (xa_nil))) (xe_str) (nomark _)))))))))
  case run => exact run_law
end
theorem all_mk {l : PySem.W.OpenLaw} {w : World} {K : PySem.W.Frag} {h : Heap} {mg : Str → Option Value} {fa fl f0 f1 f2 f3 f4 f5 f6 f7 f8 : Addr} (X : K.In h) (G : h.Ns mainGlobals mg) (hfa : mg "law" = some (.ref fa))
    {od0 an0 : Option Addr} {sl0 : Array (Option Value)} {oc0 kV0 dc0 pm0 cd0 ct0 : Value}
    {od1 an1 : Option Addr} {sl1 : Array (Option Value)} {oc1 kV1 dc1 pm1 cd1 ct1 : Value}
    {od2 an2 : Option Addr} {sl2 : Array (Option Value)} {oc2 kV2 dc2 pm2 cd2 ct2 : Value}
    {od3 an3 : Option Addr} {sl3 : Array (Option Value)} {oc3 kV3 dc3 pm3 cd3 ct3 : Value}
    {od4 an4 : Option Addr} {sl4 : Array (Option Value)} {oc4 kV4 dc4 pm4 cd4 ct4 : Value}
    {od5 an5 : Option Addr} {sl5 : Array (Option Value)} {oc5 kV5 dc5 pm5 cd5 ct5 : Value}
    {od6 an6 : Option Addr} {sl6 : Array (Option Value)} {oc6 kV6 dc6 pm6 cd6 ct6 : Value}
    {od7 an7 : Option Addr} {sl7 : Array (Option Value)} {oc7 kV7 dc7 pm7 cd7 ct7 : Value}
    {od8 an8 : Option Addr} {sl8 : Array (Option Value)} {oc8 kV8 dc8 pm8 cd8 ct8 : Value}
    {od9 an9 : Option Addr} {sl9 : Array (Option Value)} {oc9 kV9 dc9 pm9 cd9 ct9 : Value}
    (a0 : PySem.W.nsIn K mainGlobals "sum_of" = some (some (.ref f0)))
    (l0 : K.lookup f0 = some ⟨oc0, od0, .func (PySem.W.fnOf "sum_of" "sum_of" (defArgs s_sum_of) (defBody s_sum_of) (defScope s_sum_of) .none kV0 dc0 pm0 an0 cd0 ct0), sl0⟩)
    (c0 : PySem.W.codeIn K cd0 "sum_of" = true)
    (k0 : PySem.W.keepIn K (.ref f0) = true)
    (a1 : PySem.W.nsIn K mainGlobals "sum_of_parts" = some (some (.ref f1)))
    (l1 : K.lookup f1 = some ⟨oc1, od1, .func (PySem.W.fnOf "sum_of_parts" "sum_of_parts" (defArgs s_sum_of_parts) (defBody s_sum_of_parts) (defScope s_sum_of_parts) .none kV1 dc1 pm1 an1 cd1 ct1), sl1⟩)
    (c1 : PySem.W.codeIn K cd1 "sum_of_parts" = true)
    (k1 : PySem.W.keepIn K (.ref f1) = true)
    (a2 : PySem.W.nsIn K mainGlobals "_law_cell" = some (some (.ref f2)))
    (l2 : K.lookup f2 = some ⟨oc2, od2, .func (PySem.W.fnOf "_law_cell" "_law_cell" (defArgs s_law_cell) (defBody s_law_cell) (defScope s_law_cell) .none kV2 dc2 pm2 an2 cd2 ct2), sl2⟩)
    (c2 : PySem.W.codeIn K cd2 "_law_cell" = true)
    (k2 : PySem.W.keepIn K (.ref f2) = true)
    (a3 : PySem.W.nsIn K mainGlobals "_law_mix" = some (some (.ref f3)))
    (l3 : K.lookup f3 = some ⟨oc3, od3, .func (PySem.W.fnOf "_law_mix" "_law_mix" (defArgs s_law_mix) (defBody s_law_mix) (defScope s_law_mix) .none kV3 dc3 pm3 an3 cd3 ct3), sl3⟩)
    (c3 : PySem.W.codeIn K cd3 "_law_mix" = true)
    (k3 : PySem.W.keepIn K (.ref f3) = true)
    (a4 : PySem.W.nsIn K mainGlobals "_law_same" = some (some (.ref f4)))
    (l4 : K.lookup f4 = some ⟨oc4, od4, .func (PySem.W.fnOf "_law_same" "_law_same" (defArgs s_law_same) (defBody s_law_same) (defScope s_law_same) .none kV4 dc4 pm4 an4 cd4 ct4), sl4⟩)
    (c4 : PySem.W.codeIn K cd4 "_law_same" = true)
    (k4 : PySem.W.keepIn K (.ref f4) = true)
    (a5 : PySem.W.nsIn K mainGlobals "_law_data" = some (some (.ref f5)))
    (l5 : K.lookup f5 = some ⟨oc5, od5, .func (PySem.W.fnOf "_law_data" "_law_data" (defArgs s_law_data) (defBody s_law_data) (defScope s_law_data) .none kV5 dc5 pm5 an5 cd5 ct5), sl5⟩)
    (c5 : PySem.W.codeIn K cd5 "_law_data" = true)
    (k5 : PySem.W.keepIn K (.ref f5) = true)
    (a6 : PySem.W.nsIn K mainGlobals "_law_sum" = some (some (.ref f6)))
    (l6 : K.lookup f6 = some ⟨oc6, od6, .func (PySem.W.fnOf "_law_sum" "_law_sum" (defArgs s_law_sum) (defBody s_law_sum) (defScope s_law_sum) .none kV6 dc6 pm6 an6 cd6 ct6), sl6⟩)
    (c6 : PySem.W.codeIn K cd6 "_law_sum" = true)
    (k6 : PySem.W.keepIn K (.ref f6) = true)
    (a7 : PySem.W.nsIn K mainGlobals "_law_sums" = some (some (.ref f7)))
    (l7 : K.lookup f7 = some ⟨oc7, od7, .func (PySem.W.fnOf "_law_sums" "_law_sums" (defArgs s_law_sums) (defBody s_law_sums) (defScope s_law_sums) .none kV7 dc7 pm7 an7 cd7 ct7), sl7⟩)
    (c7 : PySem.W.codeIn K cd7 "_law_sums" = true)
    (k7 : PySem.W.keepIn K (.ref f7) = true)
    (a8 : PySem.W.nsIn K mainGlobals "_law_turned" = some (some (.ref f8)))
    (l8 : K.lookup f8 = some ⟨oc8, od8, .func (PySem.W.fnOf "_law_turned" "_law_turned" (defArgs s_law_turned) (defBody s_law_turned) (defScope s_law_turned) .none kV8 dc8 pm8 an8 cd8 ct8), sl8⟩)
    (c8 : PySem.W.codeIn K cd8 "_law_turned" = true)
    (k8 : PySem.W.keepIn K (.ref f8) = true)
    (a9 : PySem.W.nsIn K mainGlobals "law" = some (some (.ref fl)))
    (l9 : K.lookup fl = some ⟨oc9, od9, .func (PySem.W.fnOf "law" "law" (defArgs s_law) (defBody s_law) (defScope s_law) .none kV9 dc9 pm9 an9 cd9 ct9), sl9⟩)
    (c9 : PySem.W.codeIn K cd9 "law" = true)
    (k9 : PySem.W.keepIn K (.ref fl) = true)
    (z0 : PySem.W.nsIn K mainGlobals "all" = some none)
    (z1 : PySem.W.nsIn K mainGlobals "bool" = some none)
    (z2 : PySem.W.nsIn K mainGlobals "int" = some none)
    (z3 : PySem.W.nsIn K mainGlobals "isinstance" = some none)
    (z4 : PySem.W.nsIn K mainGlobals "len" = some none)
    (z5 : PySem.W.nsIn K mainGlobals "ord" = some none)
    (z6 : PySem.W.nsIn K mainGlobals "range" = some none)
    (z7 : PySem.W.nsIn K mainGlobals "str" = some none)
    (z8 : PySem.W.nsIn K mainGlobals "tuple" = some none)
    (z9 : PySem.W.nsIn K mainGlobals "zip" = some none) :
    ∃ fd : FuncData, (∀ (s : Shared) (v : Value), BindsTo s fd ⟨[v], []⟩ [("_law_script", v)]) ∧ ∀ base : Heap, K.In base → base.Ns mainGlobals mg → FnOk l.prog w K mg base (L2.CX l.prog w) 6 fa fd ["_law_script"] (LF K aLaw) := by
  have e := hfa.symm.trans (PySem.W.mg_of X G a9)
  cases e
  have T : Txt K mg := { n_all := PySem.W.mg_none_of X G z0, n_bool := PySem.W.mg_none_of X G z1, n_int := PySem.W.mg_none_of X G z2, n_isinstance := PySem.W.mg_none_of X G z3, n_len := PySem.W.mg_none_of X G z4, n_ord := PySem.W.mg_none_of X G z5, n_range := PySem.W.mg_none_of X G z6, n_str := PySem.W.mg_none_of X G z7, n_tuple := PySem.W.mg_none_of X G z8, n_zip := PySem.W.mg_none_of X G z9 }
  have F0 := fun_mk (st := s_sum_of) l0 c0 k0
  have b0 := F0.binds (ps := ["data"]) fun _ _ _ _ _ _ us hl => match us, hl with | [_], _ => rfl
  have F1 := fun_mk (st := s_sum_of_parts) l1 c1 k1
  have b1 := F1.binds (ps := ["sums"]) fun _ _ _ _ _ _ us hl => match us, hl with | [_], _ => rfl
  have F2 := fun_mk (st := s_law_cell) l2 c2 k2
  have b2 := F2.binds (ps := ["_law_script", "_law_k"]) fun _ _ _ _ _ _ us hl => match us, hl with | [_, _], _ => rfl
  have F3 := fun_mk (st := s_law_mix) l3 c3 k3
  have b3 := F3.binds (ps := ["_law_cell_here", "_law_prime", "_law_many"]) fun _ _ _ _ _ _ us hl => match us, hl with | [_, _, _], _ => rfl
  have F4 := fun_mk (st := s_law_same) l4 c4 k4
  have b4 := F4.binds (ps := ["_law_found", "_law_due"]) fun _ _ _ _ _ _ us hl => match us, hl with | [_, _], _ => rfl
  have F5 := fun_mk (st := s_law_data) l5 c5 k5
  have b5 := F5.binds (ps := ["_law_cell_here"]) fun _ _ _ _ _ _ us hl => match us, hl with | [_], _ => rfl
  have F6 := fun_mk (st := s_law_sum) l6 c6 k6
  have b6 := F6.binds (ps := ["_law_data_here"]) fun _ _ _ _ _ _ us hl => match us, hl with | [_], _ => rfl
  have F7 := fun_mk (st := s_law_sums) l7 c7 k7
  have b7 := F7.binds (ps := ["_law_sums_here"]) fun _ _ _ _ _ _ us hl => match us, hl with | [_], _ => rfl
  have F8 := fun_mk (st := s_law_turned) l8 c8 k8
  have b8 := F8.binds (ps := ["_law_data_here", "_law_at"]) fun _ _ _ _ _ _ us hl => match us, hl with | [_, _], _ => rfl
  have F9 := fun_mk (st := s_law) l9 c9 k9
  refine ⟨PySem.W.fnOf "law" "law" (defArgs s_law) (defBody s_law) (defScope s_law) .none kV9 dc9 pm9 an9 cd9 ct9, fun s v => .of_eq rfl, fun base _ _ => ?_⟩
  have G_sum_of : GF l.prog w K mg base 1 "sum_of" A_sum_of := ⟨f0, _, ["data"], ok_sum_of T  F0, b0, PySem.W.mg_of X G a0, k0⟩
  have G_law_cell : GF l.prog w K mg base 1 "_law_cell" A_law_cell := ⟨f2, _, ["_law_script", "_law_k"], ok_law_cell T  F2, b2, PySem.W.mg_of X G a2, k2⟩
  have G_law_mix : GF l.prog w K mg base 1 "_law_mix" A_law_mix := ⟨f3, _, ["_law_cell_here", "_law_prime", "_law_many"], ok_law_mix T  F3, b3, PySem.W.mg_of X G a3, k3⟩
  have G_law_sum : GF l.prog w K mg base 1 "_law_sum" A_law_sum := ⟨f6, _, ["_law_data_here"], ok_law_sum T  F6, b6, PySem.W.mg_of X G a6, k6⟩
  have G_law_turned : GF l.prog w K mg base 1 "_law_turned" A_law_turned := ⟨f8, _, ["_law_data_here", "_law_at"], ok_law_turned T  F8, b8, PySem.W.mg_of X G a8, k8⟩
  have G_sum_of_parts : GF l.prog w K mg base 2 "sum_of_parts" A_sum_of_parts := ⟨f1, _, ["sums"], ok_sum_of_parts T G_sum_of F1, b1, PySem.W.mg_of X G a1, k1⟩
  have G_law_data : GF l.prog w K mg base 2 "_law_data" A_law_data := ⟨f5, _, ["_law_cell_here"], ok_law_data T G_law_mix F5, b5, PySem.W.mg_of X G a5, k5⟩
  have G_law_sums : GF l.prog w K mg base 2 "_law_sums" A_law_sums := ⟨f7, _, ["_law_sums_here"], ok_law_sums T G_law_sum F7, b7, PySem.W.mg_of X G a7, k7⟩
  have R0 : GF l.prog w K mg base 0 "_law_same" (A_law_same_at 0) := ⟨f4, _, ["_law_found", "_law_due"], fn_none (fun _ _ _ _ z => no_law_same z), b4, PySem.W.mg_of X G a4, k4⟩
  have R1 : GF l.prog w K mg base 1 "_law_same" (A_law_same_at 1) := ⟨f4, _, ["_law_found", "_law_due"], ok_law_same T R0 (len_law_same 1) (run_law_same 0) F4, b4, PySem.W.mg_of X G a4, k4⟩
  have R2 : GF l.prog w K mg base 2 "_law_same" (A_law_same_at 2) := ⟨f4, _, ["_law_found", "_law_due"], ok_law_same T R1 (len_law_same 2) (run_law_same 1) F4, b4, PySem.W.mg_of X G a4, k4⟩
  have R3 : GF l.prog w K mg base 3 "_law_same" (A_law_same_at 3) := ⟨f4, _, ["_law_found", "_law_due"], ok_law_same T R2 (len_law_same 3) (run_law_same 2) F4, b4, PySem.W.mg_of X G a4, k4⟩
  have R4 : GF l.prog w K mg base 4 "_law_same" (A_law_same_at 4) := ⟨f4, _, ["_law_found", "_law_due"], ok_law_same T R3 (len_law_same 4) (run_law_same 3) F4, b4, PySem.W.mg_of X G a4, k4⟩
  have G_law_same : GF l.prog w K mg base 5 "_law_same" (A_law_same_at 5) := ⟨f4, _, ["_law_found", "_law_due"], ok_law_same T R4 (len_law_same 5) (run_law_same 4) F4, b4, PySem.W.mg_of X G a4, k4⟩
  exact ok_law T G_law_cell G_law_data G_law_mix G_law_same G_law_sum G_law_sums G_law_turned G_sum_of G_sum_of_parts F9
end K02
open PySem PySem.W PyProof.Rows
set_option maxRecDepth 100000 in
set_option maxHeartbeats 0 in
theorem PySem.Challenge.cw_greatkeep_k02_sums_holds : PySem.Challenge.rw_greatkeep_k02_sums.Holds := by
  w_on; o_law; k_head; (case hw => w_witness2)
  k_fill
  refine AB.walkA (l := PySem.Challenge.rw_greatkeep_k02_sums) (k := 6) (x := "_law_script") rfl rfl ⟨rfl, by decide, by decide⟩ (fun w h Y => PySem.W.kIn_of Y) ?F
  case F =>
    intro w mg fa h KX G hmg
    refine' K02.all_mk KX G hmg ?a0 ?l0 ?c0 ?k0 ?a1 ?l1 ?c1 ?k1 ?a2 ?l2 ?c2 ?k2 ?a3 ?l3 ?c3 ?k3 ?a4 ?l4 ?c4 ?k4 ?a5 ?l5 ?c5 ?k5 ?a6 ?l6 ?c6 ?k6 ?a7 ?l7 ?c7 ?k7 ?a8 ?l8 ?c8 ?k8 ?a9 ?l9 ?c9 ?k9 ?z0 ?z1 ?z2 ?z3 ?z4 ?z5 ?z6 ?z7 ?z8 ?z9
    (case a0 => k_is); (case l0 => k_is); (case c0 => k_is); (case k0 => k_is); (case a1 => k_is)
    (case l1 => k_is); (case c1 => k_is); (case k1 => k_is); (case a2 => k_is); (case l2 => k_is)
    (case c2 => k_is); (case k2 => k_is); (case a3 => k_is); (case l3 => k_is); (case c3 => k_is)
    (case k3 => k_is); (case a4 => k_is); (case l4 => k_is); (case c4 => k_is); (case k4 => k_is)
    (case a5 => k_is); (case l5 => k_is); (case c5 => k_is); (case k5 => k_is); (case a6 => k_is)
    (case l6 => k_is); (case c6 => k_is); (case k6 => k_is); (case a7 => k_is); (case l7 => k_is)
    (case c7 => k_is); (case k7 => k_is); (case a8 => k_is); (case l8 => k_is); (case c8 => k_is)
    (case k8 => k_is); (case a9 => k_is); (case l9 => k_is); (case c9 => k_is); (case k9 => k_is)
    (case z0 => k_is); (case z1 => k_is); (case z2 => k_is); (case z3 => k_is); (case z4 => k_is)
    (case z5 => k_is); (case z6 => k_is); (case z7 => k_is); (case z8 => k_is); (case z9 => k_is)
