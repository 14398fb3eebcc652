import PyProof.Rows.All
import HandS.ForMost
import HandS.TupAny
import HandS.Deep
import HandS.Wide
import HandS.Gcd
import HandS.IsInst
import HandS.Flow
import KE.LtData
import HandS.TupLe
import HandS.Conv
import HandS.Style
import HandS.Zip
import KE.SortData
import HandS.Small
import HandS.Iter
import PySem.Challenge.RW_digworks_k86_chances_and_pits
set_option Elab.async false
set_option linter.all false
set_option maxRecDepth 100000
/-! Dg1: trees, frozen and owned representation, evolution of heaps. -/
namespace Dg
open PySem PySem.Spec PyProof.Rows L2

abbrev T := PyData
/-- how a slot's object is held: fro (never changed in place), an owned list, an owned dict, the script, an instance -/
inductive Sh where
  | fro | scr | lst (s : Sh) | dK (s : Sh) | dT (s : Sh) | ins (c : Str) (fs : List (Str × Sh))
abbrev Envt := List (Option T)

def keyT : Key → T
  | .inl i => .int i
  | .inr x => .str x
def keyTs (ks : List Key) : T := .tuple (ks.map keyT)

/-- a written tuple of the module -/
def SqTK (K : PySem.W.Frag) (a : Addr) (xs : List V) : Prop :=
  ∃ (o : Obj) (its : Array Value) (n : Nat), K.lookup a = some o ∧ o.cls = .type "tuple" ∧ o.data = .seq its n ∧ its.size ≤ sizeLine ∧ Vals xs its.toList

mutual
inductive Fz (K : PySem.W.Frag) (S : Addr → Prop) (H : Hp) : V → T → Prop
  | non : Fz K S H .non .none
  | bl (b : Bool) : Fz K S H (.bl b) (.bool b)
  | int (i : Int) : Fz K S H (.int i) (.int i)
  | str (x : Str) : Fz K S H (.str x) (.str x)
  | lst {a : Addr} {xs : List V} {ds : List T} : S a → H a = some (.lst xs) → FzAll K S H xs ds → Fz K S H (.ref a) (.list ds)
  | tup {a : Addr} {xs : List V} {ds : List T} : S a → H a = some (.tup xs) → FzAll K S H xs ds → Fz K S H (.ref a) (.tuple ds)
  | tupK {a : Addr} {xs : List V} {ds : List T} : SqTK K a xs → FzAll K S H xs ds → Fz K S H (.ref a) (.tuple ds)
  | dK {a : Addr} {kvs : List (Key × V)} {ds : List (T × T)} : S a → H a = some (.dK kvs) → ds.map (·.1) = kvs.map (fun p => keyT p.1) → FzAll K S H (kvs.map (·.2)) (ds.map (·.2)) → Fz K S H (.ref a) (.dict ds)
  | dT {a : Addr} {kvs : List (List Key × V)} {ds : List (T × T)} : S a → H a = some (.dT kvs) → ds.map (·.1) = kvs.map (fun p => keyTs p.1) → FzAll K S H (kvs.map (·.2)) (ds.map (·.2)) → Fz K S H (.ref a) (.dict ds)
inductive FzAll (K : PySem.W.Frag) (S : Addr → Prop) (H : Hp) : List V → List T → Prop
  | nil : FzAll K S H [] []
  | cons {v : V} {vs : List V} {d : T} {ds : List T} : Fz K S H v d → FzAll K S H vs ds → FzAll K S H (v :: vs) (d :: ds)
end

section
variable {K : PySem.W.Frag} {S S' : Addr → Prop} {H H' : Hp}
theorem Fz.mono (hs : ∀ a, S a → S' a) (hk : ∀ a o, S a → H a = some o → H' a = some o) {v : V} {t : T} (h : Fz K S H v t) : Fz K S' H' v t :=
  Fz.rec (motive_1 := fun v t _ => Fz K S' H' v t) (motive_2 := fun vs ts _ => FzAll K S' H' vs ts)
    .non .bl .int .str (fun s e _ ih => .lst (hs _ s) (hk _ _ s e) ih) (fun s e _ ih => .tup (hs _ s) (hk _ _ s e) ih) (fun k _ ih => .tupK k ih)
    (fun s e k _ ih => .dK (hs _ s) (hk _ _ s e) k ih) (fun s e k _ ih => .dT (hs _ s) (hk _ _ s e) k ih) .nil (fun _ _ a b => .cons a b) h
theorem FzAll.mono (hs : ∀ a, S a → S' a) (hk : ∀ a o, S a → H a = some o → H' a = some o) : ∀ {vs : List V} {ts : List T}, FzAll K S H vs ts → FzAll K S' H' vs ts
  | _, _, .nil => .nil
  | _, _, .cons a b => .cons (a.mono hs hk) (b.mono hs hk)
theorem FzAll.length : ∀ {vs : List V} {ts : List T}, FzAll K S H vs ts → vs.length = ts.length
  | _, _, .nil => rfl
  | _, _, .cons _ b => by simp [b.length]
theorem FzAll.get : ∀ {vs : List V} {ts : List T} {i : Nat} {t : T}, FzAll K S H vs ts → ts[i]? = some t → ∃ v, vs[i]? = some v ∧ Fz K S H v t
  | _, _, _, _, .nil, e => by simp at e
  | _, _, 0, _, .cons a _, e => by simp at e; subst e; exact ⟨_, rfl, a⟩
  | _, _, i + 1, t, .cons _ b, e => by
    obtain ⟨v, h1, h2⟩ := b.get (i := i) (t := t) (by simpa using e)
    exact ⟨v, by simpa using h1, h2⟩
theorem FzAll.getV : ∀ {vs : List V} {ts : List T} {i : Nat} {v : V}, FzAll K S H vs ts → vs[i]? = some v → ∃ t, ts[i]? = some t ∧ Fz K S H v t
  | _, _, _, _, .nil, e => by simp at e
  | _, _, 0, _, .cons a _, e => by simp at e; subst e; exact ⟨_, rfl, a⟩
  | _, _, i + 1, t, .cons _ b, e => by
    obtain ⟨v, h1, h2⟩ := b.getV (i := i) (v := t) (by simpa using e)
    exact ⟨v, by simpa using h1, h2⟩
theorem FzAll.append : ∀ {vs ws : List V} {ts us : List T}, FzAll K S H vs ts → FzAll K S H ws us → FzAll K S H (vs ++ ws) (ts ++ us)
  | _, _, _, _, .nil, h => h
  | _, _, _, _, .cons a b, h => .cons a (b.append h)
theorem FzAll.take : ∀ {vs : List V} {ts : List T} (n : Nat), FzAll K S H vs ts → FzAll K S H (vs.take n) (ts.take n)
  | _, _, 0, _ => .nil
  | _, _, _ + 1, .nil => .nil
  | _, _, n + 1, .cons a b => .cons a (b.take n)
theorem FzAll.drop : ∀ {vs : List V} {ts : List T} (n : Nat), FzAll K S H vs ts → FzAll K S H (vs.drop n) (ts.drop n)
  | _, _, 0, h => h
  | _, _, _ + 1, .nil => .nil
  | _, _, n + 1, .cons _ b => b.drop n
theorem FzAll.reverse : ∀ {vs : List V} {ts : List T}, FzAll K S H vs ts → FzAll K S H vs.reverse ts.reverse
  | _, _, .nil => .nil
  | _, _, .cons a b => by rw [List.reverse_cons, List.reverse_cons]; exact b.reverse.append (.cons a .nil)
theorem FzAll.repl : ∀ (n : Nat) {v : V} {t : T}, Fz K S H v t → FzAll K S H (List.replicate n v) (List.replicate n t)
  | 0, _, _, _ => .nil
  | n + 1, _, _, h => by rw [List.replicate_succ, List.replicate_succ]; exact .cons h (FzAll.repl n h)
theorem FzAll.flat : ∀ (n : Nat) {vs : List V} {ts : List T}, FzAll K S H vs ts → FzAll K S H (List.replicate n vs).flatten (List.replicate n ts).flatten
  | 0, _, _, _ => .nil
  | n + 1, _, _, h => by rw [List.replicate_succ, List.replicate_succ, List.flatten_cons, List.flatten_cons]; exact h.append (FzAll.flat n h)
theorem FzAll.set : ∀ {vs : List V} {ts : List T} (i : Nat) {v : V} {t : T}, FzAll K S H vs ts → Fz K S H v t → FzAll K S H (vs.set i v) (ts.set i t)
  | _, _, _, _, _, .nil, _ => .nil
  | _, _, 0, _, _, .cons _ b, h => .cons h b
  | _, _, i + 1, _, _, .cons a b, h => .cons a (b.set i h)
theorem FzAll.ints : ∀ (ns : List Int), FzAll K S H (ns.map V.int) (ns.map PyData.int)
  | [] => .nil
  | n :: r => .cons (.int n) (FzAll.ints r)
/-- what is read of data -/
def noDict : T → Bool
  | .dict _ => false
  | _ => true
end

mutual
inductive Ow (K : PySem.W.Frag) (mg : Str → Option Value) (S : Addr → Prop) (H : Hp) : Sh → V → T → List Addr → Prop
  | fro {v : V} {t : T} : Fz K S H v t → Ow K mg S H .fro v t []
  | scr {a : Addr} {ns : List Int} : (S a ∧ Rd H a (.lst (ns.map V.int)) ∨ SqL K (fun _ => none) a (ns.map V.int)) → Ow K mg S H .scr (.ref a) (.list (ns.map .int)) []
  | nol {s : Sh} {v : V} {t : T} : (∀ ds, t ≠ .list ds) → Fz K S H v t → Ow K mg S H (.lst s) v t []
  | lst {s : Sh} {a : Addr} {xs : List V} {ds : List T} {F : List Addr} : H a = some (.lst xs) → OwAll K mg S H s xs ds F → Ow K mg S H (.lst s) (.ref a) (.list ds) (a :: F)
  | nodK {s : Sh} {v : V} {t : T} : (∀ ds, t ≠ .dict ds) → Fz K S H v t → Ow K mg S H (.dK s) v t []
  | dK {s : Sh} {a : Addr} {kvs : List (Key × V)} {ds : List (T × T)} {F : List Addr} : H a = some (.dK kvs) → ds.map (·.1) = kvs.map (fun p => keyT p.1) → OwAll K mg S H s (kvs.map (·.2)) (ds.map (·.2)) F → Ow K mg S H (.dK s) (.ref a) (.dict ds) (a :: F)
  | nodT {s : Sh} {v : V} {t : T} : (∀ ds, t ≠ .dict ds) → Fz K S H v t → Ow K mg S H (.dT s) v t []
  | dT {s : Sh} {a : Addr} {kvs : List (List Key × V)} {ds : List (T × T)} {F : List Addr} : H a = some (.dT kvs) → ds.map (·.1) = kvs.map (fun p => keyTs p.1) → OwAll K mg S H s (kvs.map (·.2)) (ds.map (·.2)) F → Ow K mg S H (.dT s) (.ref a) (.dict ds) (a :: F)
  | ins {c : Str} {fs : List (Str × Sh)} {a C dx : Addr} {vs : List (Str × V)} {ds : List (T × T)} {F : List Addr} : mg c = some (.ref C) → H a = some (.ins C dx vs) → H dx = some (.own a) →
      OwFs K mg S H fs vs ds F → Ow K mg S H (.ins c fs) (.ref a) (.dict ds) (a :: dx :: F)
inductive OwAll (K : PySem.W.Frag) (mg : Str → Option Value) (S : Addr → Prop) (H : Hp) : Sh → List V → List T → List Addr → Prop
  | nil {s : Sh} : OwAll K mg S H s [] [] []
  | cons {s : Sh} {v : V} {vs : List V} {t : T} {ts : List T} {F G : List Addr} : Ow K mg S H s v t F → OwAll K mg S H s vs ts G → OwAll K mg S H s (v :: vs) (t :: ts) (F ++ G)
/-- an instance's fields: those of the shape, in the order in which they came -/
inductive OwFs (K : PySem.W.Frag) (mg : Str → Option Value) (S : Addr → Prop) (H : Hp) : List (Str × Sh) → List (Str × V) → List (T × T) → List Addr → Prop
  | nil {fs : List (Str × Sh)} : OwFs K mg S H fs [] [] []
  | cons {fs : List (Str × Sh)} {f : Str} {s : Sh} {v : V} {vs : List (Str × V)} {t : T} {ts : List (T × T)} {F G : List Addr} : fs.lookup f = some s → Ow K mg S H s v t F → OwFs K mg S H fs vs ts G → OwFs K mg S H fs ((f, v) :: vs) ((.str f, t) :: ts) (F ++ G)
end

section
variable {K : PySem.W.Frag} {mg : Str → Option Value} {S S' : Addr → Prop} {H H' : Hp}
theorem Ow.mono (hs : ∀ a, S a → S' a) {s : Sh} {v : V} {t : T} {F : List Addr} (h : Ow K mg S H s v t F) :
    (∀ a o, S a → H a = some o → H' a = some o) → (∀ a o, a ∈ F → H a = some o → H' a = some o) → Ow K mg S' H' s v t F := fun hk =>
  Ow.rec (motive_1 := fun s v t F _ => (∀ a o, a ∈ F → H a = some o → H' a = some o) → Ow K mg S' H' s v t F)
    (motive_2 := fun s vs ts F _ => (∀ a o, a ∈ F → H a = some o → H' a = some o) → OwAll K mg S' H' s vs ts F)
    (motive_3 := fun fs vs ts F _ => (∀ a o, a ∈ F → H a = some o → H' a = some o) → OwFs K mg S' H' fs vs ts F)
    (fun z _ => .fro (z.mono hs hk))
    (fun {a ns} z _ => .scr (by
      rcases z with ⟨z1, z2⟩ | z2
      · refine .inl ⟨hs _ z1, ?_⟩
        rcases z2 with z2 | ⟨o, z2⟩
        · exact .inl (hk _ _ z1 z2)
        · exact .inr ⟨o, hk _ _ z1 z2⟩
      · exact .inr z2))
    (fun n z _ => .nol n (z.mono hs hk))
    (fun e _ ih k => .lst (k _ _ List.mem_cons_self e) (ih fun a o m => k a o (List.mem_cons_of_mem _ m)))
    (fun n z _ => .nodK n (z.mono hs hk))
    (fun e q _ ih k => .dK (k _ _ List.mem_cons_self e) q (ih fun a o m => k a o (List.mem_cons_of_mem _ m)))
    (fun n z _ => .nodT n (z.mono hs hk))
    (fun e q _ ih k => .dT (k _ _ List.mem_cons_self e) q (ih fun a o m => k a o (List.mem_cons_of_mem _ m)))
    (fun c e d _ ih k => .ins c (k _ _ List.mem_cons_self e) (k _ _ (List.mem_cons_of_mem _ List.mem_cons_self) d) (ih fun a o m => k a o (List.mem_cons_of_mem _ (List.mem_cons_of_mem _ m))))
    (fun _ => .nil)
    (fun _ _ i1 i2 k => .cons (i1 fun a o m => k a o (List.mem_append_left _ m)) (i2 fun a o m => k a o (List.mem_append_right _ m)))
    (fun _ => .nil)
    (fun l _ _ i1 i2 k => .cons l (i1 fun a o m => k a o (List.mem_append_left _ m)) (i2 fun a o m => k a o (List.mem_append_right _ m)))
    h
end
end Dg

set_option Elab.async false
set_option linter.all false
set_option maxRecDepth 100000
namespace Dg
open PySem PySem.Spec PyProof.Rows L2
section
variable {K : PySem.W.Frag} {mg : Str → Option Value} {S S' S1 S2 : Addr → Prop} {H H' H1 H2 : Hp} {F F' F1 F2 G R : List Addr}

theorem OwAll.mono (hs : ∀ a, S a → S' a) (hk : ∀ a o, S a → H a = some o → H' a = some o) : ∀ {s : Sh} {vs : List V} {ts : List T} {F : List Addr}, OwAll K mg S H s vs ts F → (∀ a o, a ∈ F → H a = some o → H' a = some o) → OwAll K mg S' H' s vs ts F
  | _, _, _, _, .nil, _ => .nil
  | _, _, _, _, .cons a b, k => .cons (a.mono hs hk fun x o m => k x o (List.mem_append_left _ m)) (b.mono hs hk fun x o m => k x o (List.mem_append_right _ m))
theorem OwAll.length : ∀ {s : Sh} {vs : List V} {ts : List T} {F : List Addr}, OwAll K mg S H s vs ts F → vs.length = ts.length
  | _, _, _, _, .nil => rfl
  | _, _, _, _, .cons _ b => by simp [b.length]
theorem OwAll.fz : ∀ {vs : List V} {ts : List T} {F : List Addr}, OwAll K mg S H .fro vs ts F → FzAll K S H vs ts ∧ F = []
  | _, _, _, .nil => ⟨.nil, rfl⟩
  | _, _, _, .cons a b => by
    obtain ⟨h1, h2⟩ := b.fz
    cases a with
    | fro z => exact ⟨.cons z h1, by rw [h2]; rfl⟩
theorem OwAll.of : ∀ {vs : List V} {ts : List T}, FzAll K S H vs ts → OwAll K mg S H .fro vs ts []
  | _, _, .nil => .nil
  | _, _, .cons a b => .cons (F := []) (G := []) (.fro a) (OwAll.of b)
theorem OwAll.append : ∀ {s : Sh} {vs ws : List V} {ts us : List T} {F G : List Addr}, OwAll K mg S H s vs ts F → OwAll K mg S H s ws us G → OwAll K mg S H s (vs ++ ws) (ts ++ us) (F ++ G)
  | _, _, _, _, _, _, _, .nil, h => h
  | _, _, _, _, _, _, _, .cons a b, h => by rw [List.append_assoc]; exact .cons a (b.append h)
theorem Ow.fz {v : V} {t : T} {F : List Addr} (h : Ow K mg S H .fro v t F) : Fz K S H v t ∧ F = [] := by
  cases h with
  | fro z => exact ⟨z, rfl⟩

/-- the slots -/
inductive SR (K : PySem.W.Frag) (mg : Str → Option Value) (S : Addr → Prop) (H : Hp) : List Sh → L2.St → Envt → List Addr → Prop
  | nil : SR K mg S H [] [] [] []
  | off {s : Sh} {Γ : List Sh} {x : Option V} {σ : L2.St} {ε : Envt} {F : List Addr} : SR K mg S H Γ σ ε F → SR K mg S H (s :: Γ) (x :: σ) (none :: ε) F
  | on {s : Sh} {Γ : List Sh} {v : V} {t : T} {σ : L2.St} {ε : Envt} {F G : List Addr} : Ow K mg S H s v t G → SR K mg S H Γ σ ε F → SR K mg S H (s :: Γ) (some v :: σ) (some t :: ε) (G ++ F)

theorem SR.mono (hs : ∀ a, S a → S' a) (hk : ∀ a o, S a → H a = some o → H' a = some o) : ∀ {Γ : List Sh} {σ : L2.St} {ε : Envt} {F : List Addr}, SR K mg S H Γ σ ε F → (∀ a o, a ∈ F → H a = some o → H' a = some o) → SR K mg S' H' Γ σ ε F
  | _, _, _, _, .nil, _ => .nil
  | _, _, _, _, .off r, k => .off (r.mono hs hk k)
  | _, _, _, _, .on a b, k => .on (a.mono hs hk fun x o m => k x o (List.mem_append_left _ m)) (b.mono hs hk fun x o m => k x o (List.mem_append_right _ m))
theorem SR.len : ∀ {Γ : List Sh} {σ : L2.St} {ε : Envt} {F : List Addr}, SR K mg S H Γ σ ε F → σ.length = Γ.length ∧ ε.length = Γ.length
  | _, _, _, _, .nil => ⟨rfl, rfl⟩
  | _, _, _, _, .off r => by simp [r.len.1, r.len.2]
  | _, _, _, _, .on _ r => by simp [r.len.1, r.len.2]

/-- one slot, and the rest with whatever is put there -/
theorem SR.at : ∀ {Γ : List Sh} {σ : L2.St} {ε : Envt} {F : List Addr} (i : Nat) {t : T}, SR K mg S H Γ σ ε F → ε[i]? = some (some t) →
    ∃ s v G R, Γ[i]? = some s ∧ σ[i]? = some (some v) ∧ Ow K mg S H s v t G ∧ F.Perm (G ++ R) ∧
      (∀ v' t' G', Ow K mg S H s v' t' G' → ∃ F', F'.Perm (G' ++ R) ∧ SR K mg S H Γ (σ.set i (some v')) (ε.set i (some t')) F') ∧
      (∃ F', F'.Perm R ∧ ∀ x, SR K mg S H Γ (σ.set i x) (ε.set i none) F')
  | _, _, _, _, _, _, .nil, e => by simp at e
  | _, _, _, _, 0, t, .off r, e => by simp at e
  | _, _, _, _, 0, t, .on (G := G) (F := F) (v := v) a b, e => by
    simp at e; subst e
    exact ⟨_, v, G, F, rfl, rfl, a, .refl _, fun v' t' G' o => ⟨G' ++ F, .refl _, .on o b⟩, F, .refl _, fun x => .off b⟩
  | _, _, _, _, i + 1, t, .off r, e => by
    obtain ⟨s, v, G, R, e1, e2, o, p, k1, F2, p2, k2⟩ := r.at i (t := t) (by simpa using e)
    exact ⟨s, v, G, R, by simpa using e1, by simpa using e2, o, p, fun v' t' G' o' => let ⟨F', q, z⟩ := k1 v' t' G' o'; ⟨F', q, .off z⟩, F2, p2, fun x => .off (k2 x)⟩
  | _, _, _, _, i + 1, t, .on (G := G0) a b, e => by
    obtain ⟨s, v, G, R, e1, e2, o, p, k1, F2, p2, k2⟩ := b.at i (t := t) (by simpa using e)
    have mv : ∀ (A B C : List Addr), (A ++ (B ++ C)).Perm (B ++ (A ++ C)) := fun A B C => by
      rw [← List.append_assoc, ← List.append_assoc]
      exact List.Perm.append_right _ List.perm_append_comm
    exact ⟨s, v, G, G0 ++ R, by simpa using e1, by simpa using e2, o, (p.append_left G0).trans (mv _ _ _),
      fun v' t' G' o' => let ⟨F', q, z⟩ := k1 v' t' G' o'; ⟨G0 ++ F', (q.append_left G0).trans (mv _ _ _), .on a z⟩, G0 ++ F2, p2.append_left G0, fun x => .on a (k2 x)⟩
/-- a slot that holds nothing known -/
theorem SR.put : ∀ {Γ : List Sh} {σ : L2.St} {ε : Envt} {F : List Addr} (i : Nat) {s : Sh} {v : V} {t : T} {G : List Addr}, SR K mg S H Γ σ ε F → ε[i]? = some none → Γ[i]? = some s → Ow K mg S H s v t G →
    ∃ F', F'.Perm (G ++ F) ∧ SR K mg S H Γ (σ.set i (some v)) (ε.set i (some t)) F'
  | _, _, _, _, _, _, _, _, _, .nil, e, _, _ => by simp at e
  | _, _, _, _, 0, s, v, t, G, .off r, _, e, o => by
    simp at e; subst e
    exact ⟨_, .refl _, .on o r⟩
  | _, _, _, _, 0, _, _, _, _, .on _ _, e, _, _ => by simp at e
  | _, _, _, _, i + 1, s, v, t, G, .off r, e1, e2, o => by
    obtain ⟨F', p, z⟩ := r.put i (by simpa using e1) (by simpa using e2) o
    exact ⟨F', p, .off z⟩
  | _, _, _, _, i + 1, s, v, t, G, .on (G := G0) a b, e1, e2, o => by
    obtain ⟨F', p, z⟩ := b.put i (by simpa using e1) (by simpa using e2) o
    refine ⟨G0 ++ F', ?_, .on a z⟩
    refine (p.append_left G0).trans ?_
    rw [← List.append_assoc, ← List.append_assoc]
    exact List.Perm.append_right _ List.perm_append_comm
/-- what a slot with nothing known holds does not matter -/
theorem SR.free : ∀ {Γ : List Sh} {σ : L2.St} {ε : Envt} {F : List Addr} (i : Nat) (x : Option V), SR K mg S H Γ σ ε F → ε[i]? = some none → SR K mg S H Γ (σ.set i x) ε F
  | _, _, _, _, _, _, .nil, e => by simp at e
  | _, _, _, _, 0, x, .off r, _ => .off r
  | _, _, _, _, 0, _, .on _ _, e => by simp at e
  | _, _, _, _, i + 1, x, .off r, e => .off (r.free i x (by simpa using e))
  | _, _, _, _, i + 1, x, .on a b, e => .on a (b.free i x (by simpa using e))

/-- footprints are apart, live, not frozen -/
structure WF (S : Addr → Prop) (H : Hp) (F : List Addr) : Prop where
  nd : F.Nodup
  sep : ∀ a ∈ F, ¬ S a
  live : ∀ a ∈ F, H a ≠ none
  sl : ∀ a, S a → H a ≠ none
theorem WF.perm (w : WF S H F) (p : F.Perm F') : WF S H F' := ⟨p.nodup_iff.mp w.nd, fun a h => w.sep a (p.mem_iff.mpr h), fun a h => w.live a (p.mem_iff.mpr h), w.sl⟩
theorem WF.sub (w : WF S H F) (p : F'.Sublist F) : WF S H F' := ⟨w.nd.sublist p, fun a h => w.sep a (p.subset h), fun a h => w.live a (p.subset h), w.sl⟩
theorem WF.right (w : WF S H (G ++ F)) : WF S H F := w.sub (List.sublist_append_right _ _)
theorem WF.left (w : WF S H (G ++ F)) : WF S H G := w.sub (List.sublist_append_left _ _)

/-- from one state to a later one -/
structure Evo (S : Addr → Prop) (H : Hp) (F : List Addr) (S' : Addr → Prop) (H' : Hp) (F' : List Addr) : Prop where
  w0 : WF S H F
  w1 : WF S' H' F'
  keep : ∀ a o, H a = some o → a ∉ F → H' a = some o
  sub : ∀ a, S a → S' a
  new : ∀ a, a ∈ F' ∨ S' a → a ∈ F ∨ S a ∨ H a = none
theorem Evo.refl (w : WF S H F) : Evo S H F S H F := ⟨w, w, fun _ _ e _ => e, fun _ h => h, fun a h => h.elim .inl fun h => .inr (.inl h)⟩
theorem Evo.kS (e : Evo S H F S' H' F') : ∀ a o, S a → H a = some o → H' a = some o := fun a o s h => e.keep a o h fun m => e.w0.sep a m s
/-- what is apart stays as it is, and apart -/
theorem Evo.frame (e : Evo S H F S' H' F') {a : Addr} (h1 : a ∉ F) (h2 : ¬ S a) (h3 : H a ≠ none) : a ∉ F' ∧ ¬ S' a ∧ H' a ≠ none := by
  have no : ¬ (a ∈ F' ∨ S' a) := fun h => by rcases e.new a h with h | h | h <;> contradiction
  refine ⟨fun h => no (.inl h), fun h => no (.inr h), fun h => ?_⟩
  cases q : H a with
  | none => exact h3 q
  | some o => rw [e.keep a o q h1] at h; cases h
theorem Evo.trans (e1 : Evo S H F S1 H1 F1) (e2 : Evo S1 H1 F1 S2 H2 F2) : Evo S H F S2 H2 F2 := by
  refine ⟨e1.w0, e2.w1, fun a o h m => ?_, fun a h => e2.sub a (e1.sub a h), fun a h => ?_⟩
  · have h1 := e1.keep a o h m
    refine e2.keep a o h1 fun m1 => ?_
    rcases e1.new a (.inl m1) with z | z | z
    · exact m z
    · exact e1.w1.sep a m1 (e1.sub a z)
    · rw [h] at z; cases z
  · rcases e2.new a h with z | z | z
    · exact e1.new a (.inl z)
    · exact e1.new a (.inr z)
    · cases q : H a with
      | none => exact .inr (.inr rfl)
      | some o =>
        by_cases m : a ∈ F
        · exact .inl m
        · rw [e1.keep a o q m] at z; cases z
theorem Evo.perm (e : Evo S H F S' H' F') (p : F'.Perm F1) : Evo S H F S' H' F1 := ⟨e.w0, e.w1.perm p, e.keep, e.sub, fun a h => e.new a (h.imp_left p.mem_iff.mpr)⟩
theorem Evo.perm0 (e : Evo S H F S' H' F') (p : F.Perm F1) : Evo S H F1 S' H' F' := ⟨e.w0.perm p, e.w1, fun a o h m => e.keep a o h fun m1 => m (p.mem_iff.mp m1), e.sub, fun a h => (e.new a h).imp_left p.mem_iff.mp⟩
theorem Evo.less (e : Evo S H F S' H' F') (p : F1.Sublist F') : Evo S H F S' H' F1 := ⟨e.w0, e.w1.sub p, e.keep, e.sub, fun a h => e.new a (h.imp_left fun m => p.subset m)⟩
theorem Evo.dropL (e : Evo S H F S' H' (G ++ F')) : Evo S H F S' H' F' := e.less (List.sublist_append_right _ _)
theorem Evo.dropR (e : Evo S H F S' H' (G ++ F')) : Evo S H F S' H' G := e.less (List.sublist_append_left _ _)
/-- more footprints around -/
theorem Evo.around (e : Evo S H F S' H' F') (w : WF S H (R ++ F)) : Evo S H (R ++ F) S' H' (R ++ F') := by
  have ap : ∀ a ∈ R, a ∉ F' ∧ ¬ S' a ∧ H' a ≠ none := fun a m => by
    refine e.frame (fun m1 => ?_) (w.sep a (List.mem_append_left _ m)) (w.live a (List.mem_append_left _ m))
    exact (List.nodup_append.mp w.nd).2.2 a m a m1 rfl
  refine ⟨w, ⟨List.nodup_append.mpr ⟨(List.nodup_append.mp w.nd).1, e.w1.nd, fun a m b m1 z => ?_⟩, fun a m => ?_, fun a m => ?_, e.w1.sl⟩, fun a o h m => e.keep a o h fun m1 => m (List.mem_append_right _ m1), e.sub, fun a h => ?_⟩
  · subst z; exact (ap a m).1 m1
  · rcases List.mem_append.mp m with m | m
    · exact (ap a m).2.1
    · exact e.w1.sep a m
  · rcases List.mem_append.mp m with m | m
    · exact (ap a m).2.2
    · exact e.w1.live a m
  · rcases h with h | h
    · rcases List.mem_append.mp h with h | h
      · exact .inl (List.mem_append_left _ h)
      · exact (e.new a (.inl h)).imp_left (List.mem_append_right _)
    · exact (e.new a (.inr h)).imp_left (List.mem_append_right _)
/-- an owned thing apart from F stays -/
theorem Ow.along {s : Sh} {v : V} {t : T} (o : Ow K mg S H s v t G) (e : Evo S H F S' H' F') (w : WF S H (G ++ F)) : Ow K mg S' H' s v t G :=
  o.mono e.sub e.kS fun a x m h => e.keep a x h fun m1 => (List.nodup_append.mp w.nd).2.2 a m a m1 rfl
theorem OwAll.along {s : Sh} {vs : List V} {ts : List T} (o : OwAll K mg S H s vs ts G) (e : Evo S H F S' H' F') (w : WF S H (G ++ F)) : OwAll K mg S' H' s vs ts G :=
  o.mono e.sub e.kS fun a x m h => e.keep a x h fun m1 => (List.nodup_append.mp w.nd).2.2 a m a m1 rfl
theorem Fz.along {v : V} {t : T} (z : Fz K S H v t) (e : Evo S H F S' H' F') : Fz K S' H' v t := z.mono e.sub e.kS
theorem FzAll.along {vs : List V} {ts : List T} (z : FzAll K S H vs ts) (e : Evo S H F S' H' F') : FzAll K S' H' vs ts := z.mono e.sub e.kS

/-- a step that makes things: what is made stands at G or is frozen -/
structure Step (S : Addr → Prop) (H : Hp) (S' : Addr → Prop) (H' : Hp) (G : List Addr) : Prop where
  nd : G.Nodup
  keep : ∀ a o, H a = some o → H' a = some o
  sub : ∀ a, S a → S' a
  new : ∀ a, S' a → S a ∨ H a = none
  nw : ∀ a ∈ G, H a = none ∧ ¬ S' a ∧ H' a ≠ none
  sl : ∀ a, S' a → H' a ≠ none
theorem Step.evo (t : Step S H S' H' G) (w : WF S H F) : Evo S H F S' H' (G ++ F) := by
  have nf : ∀ a ∈ F, ¬ S' a := fun a m s => by
    rcases t.new a s with z | z
    · exact w.sep a m z
    · exact w.live a m z
  refine ⟨w, ⟨List.nodup_append.mpr ⟨t.nd, w.nd, fun a m b m1 z => ?_⟩, fun a m => ?_, fun a m => ?_, t.sl⟩, fun a o h _ => t.keep a o h, t.sub, fun a h => ?_⟩
  · subst z; exact w.live a m1 (t.nw a m).1
  · rcases List.mem_append.mp m with m | m
    · exact (t.nw a m).2.1
    · exact nf a m
  · rcases List.mem_append.mp m with m | m
    · exact (t.nw a m).2.2
    · intro z
      cases q : H a with
      | none => exact w.live a m q
      | some o => rw [t.keep a o q] at z; cases z
  · rcases h with h | h
    · rcases List.mem_append.mp h with h | h
      · exact .inr (.inr (t.nw a h).1)
      · exact .inl h
    · exact .inr (t.new a h)
theorem Step.refl (h : ∀ a, S a → H a ≠ none) : Step S H S H [] := ⟨.nil, fun _ _ e => e, fun _ h => h, fun _ h => .inl h, fun _ m => (by simp at m), h⟩
/-- a new frozen object -/
theorem Step.fz {p : Addr} {o : HO} (h : ∀ a, S a → H a ≠ none) (np : H p = none) : Step S H (fun a => S a ∨ a = p) (upd H p o) [] := by
  refine ⟨.nil, fun a x e => ?_, fun a s => .inl s, fun a s => ?_, fun a m => (by simp at m), fun a s => ?_⟩
  · rw [upd_ne (ne_of_none e np)]; exact e
  · rcases s with s | rfl
    · exact .inl s
    · exact .inr np
  · by_cases q : a = p
    · subst q; rw [upd_same]; exact fun z => nomatch z
    · rw [upd_ne q]
      rcases s with s | s
      · exact h a s
      · exact absurd s q
/-- a new owned object -/
theorem Step.ow {p : Addr} {o : HO} (h : ∀ a, S a → H a ≠ none) (np : H p = none) : Step S H S (upd H p o) [p] := by
  refine ⟨by simp, fun a x e => ?_, fun a s => s, fun a s => .inl s, fun a m => ?_, fun a s => ?_⟩
  · rw [upd_ne (ne_of_none e np)]; exact e
  · have e : a = p := by simpa using m
    subst e
    exact ⟨np, fun s => h a s np, by rw [upd_same]; exact fun z => nomatch z⟩
  · have q : a ≠ p := fun z => by subst z; exact h a s np
    rw [upd_ne q]; exact h a s
theorem Step.trans {G' : List Addr} (a : Step S H S1 H1 []) (b : Step S1 H1 S2 H2 G') : Step S H S2 H2 G' := by
  refine ⟨b.nd, fun x o e => b.keep x o (a.keep x o e), fun x s => b.sub x (a.sub x s), fun x s => ?_, fun x m => ?_, b.sl⟩
  · rcases b.new x s with z | z
    · exact a.new x z
    · cases q : H x with
      | none => exact .inr rfl
      | some o => rw [a.keep x o q] at z; cases z
  · obtain ⟨h1, h2, h3⟩ := b.nw x m
    refine ⟨?_, h2, h3⟩
    cases q : H x with
    | none => rfl
    | some o => rw [a.keep x o q] at h1; cases h1
theorem Step.same (t : Step S H S' H' G) : Same H H' := t.keep
theorem Fz.step {v : V} {t : T} (z : Fz K S H v t) (e : Step S H S' H' G) : Fz K S' H' v t := z.mono e.sub fun a o _ h => e.keep a o h
theorem FzAll.step {vs : List V} {ts : List T} (z : FzAll K S H vs ts) (e : Step S H S' H' G) : FzAll K S' H' vs ts := z.mono e.sub fun a o _ h => e.keep a o h
theorem Ow.step {s : Sh} {v : V} {t : T} (z : Ow K mg S H s v t F) (e : Step S H S' H' G) : Ow K mg S' H' s v t F := z.mono e.sub (fun a o _ h => e.keep a o h) fun a o _ h => e.keep a o h
theorem SR.step {Γ : List Sh} {σ : L2.St} {ε : Envt} (r : SR K mg S H Γ σ ε F) (e : Step S H S' H' G) : SR K mg S' H' Γ σ ε F := r.mono e.sub (fun a o _ h => e.keep a o h) fun a o _ h => e.keep a o h

end
end Dg

set_option Elab.async false
set_option linter.all false
set_option maxRecDepth 100000
namespace Dg
open PySem PySem.Spec PyProof.Rows L2

abbrev Mx := Envt → Option (T × Envt)
abbrev Mb := Envt → Option (Bool × Envt)
abbrev Ml := Envt → Option (List T × Envt)

/-- readable: the thing itself is there to be read, its parts are frozen -/
inductive Rv (K : PySem.W.Frag) (S : Addr → Prop) (H : Hp) : V → T → Prop
  | fz {v : V} {t : T} : Fz K S H v t → Rv K S H v t
  | lst {a : Addr} {xs : List V} {ds : List T} : H a = some (.lst xs) → FzAll K S H xs ds → Rv K S H (.ref a) (.list ds)
  | dK {a : Addr} {kvs : List (Key × V)} {ds : List (T × T)} : H a = some (.dK kvs) → ds.map (·.1) = kvs.map (fun p => keyT p.1) → FzAll K S H (kvs.map (·.2)) (ds.map (·.2)) → Rv K S H (.ref a) (.dict ds)
  | dT {a : Addr} {kvs : List (List Key × V)} {ds : List (T × T)} : H a = some (.dT kvs) → ds.map (·.1) = kvs.map (fun p => keyTs p.1) → FzAll K S H (kvs.map (·.2)) (ds.map (·.2)) → Rv K S H (.ref a) (.dict ds)

section
variable {K : PySem.W.Frag} {mg : Str → Option Value} {S S' : Addr → Prop} {H H' : Hp} {F F' G : List Addr}
theorem Rv.mono (hs : ∀ a, S a → S' a) (hk : Same H H') {v : V} {t : T} (h : Rv K S H v t) : Rv K S' H' v t := by
  cases h with
  | fz z => exact .fz (z.mono hs fun a o _ e => hk a o e)
  | lst e z => exact .lst (hk _ _ e) (z.mono hs fun a o _ e => hk a o e)
  | dK e q z => exact .dK (hk _ _ e) q (z.mono hs fun a o _ e => hk a o e)
  | dT e q z => exact .dT (hk _ _ e) q (z.mono hs fun a o _ e => hk a o e)
/-- shapes that read -/
def rsh : Sh → Bool
  | .fro => true
  | .lst .fro => true
  | .dK .fro => true
  | .dT .fro => true
  | _ => false
theorem Ow.rv {s : Sh} {v : V} {t : T} (h : rsh s = true) (o : Ow K mg S H s v t F) : Rv K S H v t := by
  cases o with
  | fro z => exact .fz z
  | scr => cases h
  | nol _ z => exact .fz z
  | @lst s a xs ds F e r => cases s <;> first | exact .lst e r.fz.1 | cases h
  | nodK _ z => exact .fz z
  | @dK s a kvs ds F e q r => cases s <;> first | exact .dK e q r.fz.1 | cases h
  | nodT _ z => exact .fz z
  | @dT s a kvs ds F e q r => cases s <;> first | exact .dT e q r.fz.1 | cases h
  | ins => cases h
/-- a list's items -/
theorem Rv.list {v : V} {ds : List T} (h : Rv K S H v (.list ds)) : ∃ a xs, v = .ref a ∧ H a = some (.lst xs) ∧ FzAll K S H xs ds := by
  cases h with
  | fz z => cases z with | lst _ e r => exact ⟨_, _, rfl, e, r⟩
  | lst e r => exact ⟨_, _, rfl, e, r⟩
theorem SqTK.sq {a : Addr} {xs : List V} (h : SqTK K a xs) : SqT K H a xs := .inr h
theorem Rv.tuple {v : V} {ds : List T} (h : Rv K S H v (.tuple ds)) : ∃ a xs, v = .ref a ∧ SqT K H a xs ∧ FzAll K S H xs ds ∧ Fz K S H v (.tuple ds) := by
  cases h with
  | fz z => 
    cases z with
    | tup s e r => exact ⟨_, _, rfl, SqT.of e, r, .tup s e r⟩
    | tupK k r => exact ⟨_, _, rfl, k.sq, r, .tupK k r⟩
theorem Rv.int {v : V} {i : Int} (h : Rv K S H v (.int i)) : v = .int i := by cases h with | fz z => cases z; rfl
theorem Rv.str {v : V} {i : Str} (h : Rv K S H v (.str i)) : v = .str i := by cases h with | fz z => cases z; rfl
theorem Rv.bl {v : V} {i : Bool} (h : Rv K S H v (.bool i)) : v = .bl i := by cases h with | fz z => cases z; rfl
theorem Rv.non {v : V} (h : Rv K S H v .none) : v = .non := by cases h with | fz z => cases z; rfl
theorem Rv.dict {v : V} {ds : List (T × T)} (h : Rv K S H v (.dict ds)) :
    ∃ a, v = .ref a ∧ ((∃ kvs, H a = some (.dK kvs) ∧ ds.map (·.1) = kvs.map (fun p => keyT p.1) ∧ FzAll K S H (kvs.map (·.2)) (ds.map (·.2))) ∨
      ∃ kvs, H a = some (.dT kvs) ∧ ds.map (·.1) = kvs.map (fun p => keyTs p.1) ∧ FzAll K S H (kvs.map (·.2)) (ds.map (·.2))) := by
  cases h with
  | fz z => 
    cases z with
    | dK s e q r => exact ⟨_, rfl, .inl ⟨_, e, q, r⟩⟩
    | dT s e q r => exact ⟨_, rfl, .inr ⟨_, e, q, r⟩⟩
  | dK e q r => exact ⟨_, rfl, .inl ⟨_, e, q, r⟩⟩
  | dT e q r => exact ⟨_, rfl, .inr ⟨_, e, q, r⟩⟩

/-- shapes that can be frozen -/
def okF : Sh → Bool
  | .fro => true
  | .scr => false
  | .lst s => okF s
  | .dK s => okF s
  | .dT s => okF s
  | .ins _ _ => false
theorem Ow.freeze {s : Sh} {v : V} {t : T} {F : List Addr} (o : Ow K mg S H s v t F) : okF s = true → (∀ a, S a → S' a) → (∀ a ∈ F, S' a) → Fz K S' H v t :=
  Ow.rec (motive_1 := fun s v t F _ => okF s = true → (∀ a, S a → S' a) → (∀ a ∈ F, S' a) → Fz K S' H v t)
    (motive_2 := fun s vs ts F _ => okF s = true → (∀ a, S a → S' a) → (∀ a ∈ F, S' a) → FzAll K S' H vs ts)
    (motive_3 := fun fs vs ts F _ => True)
    (fun z _ hs _ => z.mono hs fun _ _ _ e => e) (fun _ h => by cases h) (fun _ z _ hs _ => z.mono hs fun _ _ _ e => e)
    (fun e _ ih h hs hf => .lst (hf _ List.mem_cons_self) e (ih h hs fun a m => hf a (List.mem_cons_of_mem _ m)))
    (fun _ z _ hs _ => z.mono hs fun _ _ _ e => e)
    (fun e q _ ih h hs hf => .dK (hf _ List.mem_cons_self) e q (ih h hs fun a m => hf a (List.mem_cons_of_mem _ m)))
    (fun _ z _ hs _ => z.mono hs fun _ _ _ e => e)
    (fun e q _ ih h hs hf => .dT (hf _ List.mem_cons_self) e q (ih h hs fun a m => hf a (List.mem_cons_of_mem _ m)))
    (fun _ _ _ _ _ h => by cases h) (fun _ _ _ => .nil)
    (fun _ _ i1 i2 h hs hf => .cons (i1 h hs fun a m => hf a (List.mem_append_left _ m)) (i2 h hs fun a m => hf a (List.mem_append_right _ m)))
    trivial (fun _ _ _ _ _ => trivial) o
theorem OwAll.freeze : ∀ {s : Sh} {vs : List V} {ts : List T} {F : List Addr}, OwAll K mg S H s vs ts F → okF s = true → (∀ a, S a → S' a) → (∀ a ∈ F, S' a) → FzAll K S' H vs ts
  | _, _, _, _, .nil, _, _, _ => .nil
  | _, _, _, _, .cons a b, h, hs, hf => .cons (a.freeze h hs fun x m => hf x (List.mem_append_left _ m)) (b.freeze h hs fun x m => hf x (List.mem_append_right _ m))
theorem Evo.freeze (e : Evo S H F S' H' (G ++ F')) : Evo S H F (fun a => S' a ∨ a ∈ G) H' F' := by
  have nd := List.nodup_append.mp e.w1.nd
  refine ⟨e.w0, ⟨nd.2.1, fun a m h => ?_, fun a m => e.w1.live a (List.mem_append_right _ m), fun a h => ?_⟩, e.keep, fun a h => .inl (e.sub a h), fun a h => ?_⟩
  · rcases h with h | h
    · exact e.w1.sep a (List.mem_append_right _ m) h
    · exact nd.2.2 a h a m rfl
  · rcases h with h | h
    · exact e.w1.sl a h
    · exact e.w1.live a (List.mem_append_left _ h)
  · rcases h with h | h | h
    · exact e.new a (.inl (List.mem_append_right _ h))
    · exact e.new a (.inr h)
    · exact e.new a (.inl (List.mem_append_left _ h))
/-- the live things -/
def Live (H : Hp) : Addr → Prop := fun a => H a ≠ none
theorem Rv.fzL {v : V} {t : T} (sl : ∀ a, S a → H a ≠ none) (h : Rv K S H v t) : Fz K (Live H) H v t := by
  have m : ∀ {vs ts}, FzAll K S H vs ts → FzAll K (Live H) H vs ts := fun z => z.mono sl fun _ _ _ e => e
  cases h with
  | fz z => exact z.mono sl fun _ _ _ e => e
  | lst e z => exact .lst (fun q => by rw [e] at q; cases q) e (m z)
  | dK e q z => exact .dK (fun q => by rw [e] at q; cases q) e q (m z)
  | dT e q z => exact .dT (fun q => by rw [e] at q; cases q) e q (m z)
end

/-! ### judgements -/
def Fin (X : Cx) (Γ : List Sh) (S : Addr → Prop) (H : Hp) (F : List Addr) (σ : L2.St) (sh : Sh) (q : Bool) (r : T) (ε' : Envt) (Q : VK) : Prop :=
  ∀ S' H' v G F', Evo S H F S' H' (G ++ F') → SR X.K X.mg S' H' Γ σ ε' F' → Ow X.K X.mg S' H' sh v r G → (q = true → Same H H') → Q v H'
def FinR (X : Cx) (Γ : List Sh) (S : Addr → Prop) (H : Hp) (F : List Addr) (σ : L2.St) (q : Bool) (r : T) (ε' : Envt) (Q : VK) : Prop :=
  ∀ S' H' v F', Evo S H F S' H' F' → SR X.K X.mg S' H' Γ σ ε' F' → Rv X.K S' H' v r → (q = true → Same H H') → Q v H'
def FinB (X : Cx) (Γ : List Sh) (S : Addr → Prop) (H : Hp) (F : List Addr) (σ : L2.St) (q : Bool) (r : Bool) (ε' : Envt) (Q : Bool → Hp → Prop) : Prop :=
  ∀ S' H' F', Evo S H F S' H' F' → SR X.K X.mg S' H' Γ σ ε' F' → (q = true → Same H H') → Q r H'

/-- the expression e is run by m; its value is held as sh; q: nothing that stood is changed -/
structure EX (X : Cx) (Γ : List Sh) (e : Expr) (sh : Sh) (q : Bool) (m : Mx) : Prop where
  ex : ∃ t : TE, PE X e t ∧ ∀ S H σ ε F Q r ε', WF S H F → SR X.K X.mg S H Γ σ ε F → m ε = some (r, ε') → Fin X Γ S H F σ sh q r ε' Q → t σ H Q
/-- .. its value is there to be read -/
structure RX (X : Cx) (Γ : List Sh) (e : Expr) (q : Bool) (m : Mx) : Prop where
  ex : ∃ t : TE, PE X e t ∧ ∀ S H σ ε F Q r ε', WF S H F → SR X.K X.mg S H Γ σ ε F → m ε = some (r, ε') → FinR X Γ S H F σ q r ε' Q → t σ H Q
/-- a test -/
structure TX (X : Cx) (Γ : List Sh) (e : Expr) (q : Bool) (m : Mb) : Prop where
  ex : ∃ t : TT, PT X e t ∧ ∀ S H σ ε F Q r ε', WF S H F → SR X.K X.mg S H Γ σ ε F → m ε = some (r, ε') → FinB X Γ S H F σ q r ε' Q → t σ H Q

section
variable {X : Cx} {Γ : List Sh} {e a b : Expr} {sh : Sh} {q q1 q2 : Bool} {m ma mb : Mx} {pos : Pos}

theorem EX.rx (h : EX X Γ e sh q m) (hs : rsh sh = true := by rfl) : RX X Γ e q m := by
  obtain ⟨t, p, k⟩ := h.ex
  exact ⟨t, p, fun S H σ ε F Q r ε' w sr hm fin => k S H σ ε F Q r ε' w sr hm fun S' H' v G F' ev sr' o hq => fin S' H' v F' ev.dropL sr' (o.rv hs) hq⟩
/-- frozen from now on -/
theorem EX.frz (h : EX X Γ e sh q m) (hs : okF sh = true := by rfl) : EX X Γ e .fro q m := by
  obtain ⟨t, p, k⟩ := h.ex
  refine ⟨t, p, fun S H σ ε F Q r ε' w sr hm fin => k S H σ ε F Q r ε' w sr hm fun S' H' v G F' ev sr' o hq => ?_⟩
  exact fin (fun a => S' a ∨ a ∈ G) H' v [] F' ev.freeze (sr'.mono (fun a h => .inl h) (fun _ _ _ e => e) fun _ _ _ e => e) (.fro (o.freeze hs (fun a h => .inl h) fun a m => .inr m)) hq
def mNol (m : Mx) : Mx := fun ε => (m ε).bind fun r => match r.1 with | .list _ => none | _ => some r
theorem EX.nol {s : Sh} (h : EX X Γ e .fro q m) : EX X Γ e (.lst s) q (mNol m) := by
  obtain ⟨t, p, k⟩ := h.ex
  refine ⟨t, p, fun S H σ ε F Q r ε' w sr hm fin => ?_⟩
  unfold mNol at hm
  cases e1 : m ε with
  | none => rw [e1] at hm; cases hm
  | some z =>
    obtain ⟨r1, ε1⟩ := z
    rw [e1] at hm
    have hr : (∀ ds, r1 ≠ .list ds) ∧ r1 = r ∧ ε1 = ε' := by
      cases r1 with
      | list _ => cases hm
      | _ => cases hm; exact ⟨(fun _ z => nomatch z), rfl, rfl⟩
    obtain ⟨hn, rfl, rfl⟩ := hr
    exact k S H σ ε F Q _ _ w sr e1 fun S' H' v G F' ev sr' o hq => fin S' H' v [] F' (by have := o.fz.2; subst this; exact ev) sr' (.nol hn o.fz.1) hq

/-! names, constants -/
def mVar (i : Nat) : Mx := fun ε => match ε[i]? with | some (some t) => some (t, ε) | _ => none
def mMov (i : Nat) : Mx := fun ε => match ε[i]? with | some (some t) => some (t, ε.set i none) | _ => none
def mCst (t : T) : Mx := fun ε => some (t, ε)
theorem mVar_of {i : Nat} {ε ε' : Envt} {r : T} (h : mVar i ε = some (r, ε')) : ε[i]? = some (some r) ∧ ε' = ε := by
  unfold mVar at h
  split at h
  · rename_i t e; cases h; exact ⟨e, rfl⟩
  · cases h
theorem mMov_of {i : Nat} {ε ε' : Envt} {r : T} (h : mMov i ε = some (r, ε')) : ε[i]? = some (some r) ∧ ε' = ε.set i none := by
  unfold mMov at h
  split at h
  · rename_i t e; cases h; exact ⟨e, rfl⟩
  · cases h
theorem ex_var (i : Nat) {x : Str} (hΓ : Γ[i]? = some .fro := by rfl) (hN : X.N[i]? = some x := by rfl) (hv : Vis X.env.scope x := by first | exact Or.inl rfl | exact Or.inr (Or.inl rfl) | exact Or.inr (Or.inr rfl)) (hd : (x == ("__debug__" : Str)) = false := by decide) (hc : (x == ("__classdict__" : Str)) = false := by decide) :
    EX X Γ (.Name x pos) .fro true (mVar i) := by
  refine ⟨tVar i, pe_var hN hv hd hc, fun S H σ ε F Q r ε' w sr hm fin => ?_⟩
  obtain ⟨e, rfl⟩ := mVar_of hm
  obtain ⟨s, v, G, R, e1, e2, o, _, _⟩ := sr.at i e
  rw [hΓ] at e1; cases e1
  exact ⟨v, e2, fin S H v [] F (.refl w) sr (.fro o.fz.1) fun _ => Same.refl H⟩
theorem ex_scr (i : Nat) {x : Str} (hΓ : Γ[i]? = some .scr := by rfl) (hN : X.N[i]? = some x := by rfl) (hv : Vis X.env.scope x := by first | exact Or.inl rfl | exact Or.inr (Or.inl rfl) | exact Or.inr (Or.inr rfl)) (hd : (x == ("__debug__" : Str)) = false := by decide) (hc : (x == ("__classdict__" : Str)) = false := by decide) :
    EX X Γ (.Name x pos) .scr true (mVar i) := by
  refine ⟨tVar i, pe_var hN hv hd hc, fun S H σ ε F Q r ε' w sr hm fin => ?_⟩
  obtain ⟨e, rfl⟩ := mVar_of hm
  obtain ⟨s, v, G, R, e1, e2, o, _, _⟩ := sr.at i e
  rw [hΓ] at e1; cases e1
  cases o with
  | scr z => exact ⟨_, e2, fin S H _ [] F (.refl w) sr (.scr z) fun _ => Same.refl H⟩
/-- the slot's thing itself: the slot is empty from now on -/
theorem ex_mov (i : Nat) {x : Str} (hΓ : Γ[i]? = some sh := by rfl) (hN : X.N[i]? = some x := by rfl) (hv : Vis X.env.scope x := by first | exact Or.inl rfl | exact Or.inr (Or.inl rfl) | exact Or.inr (Or.inr rfl)) (hd : (x == ("__debug__" : Str)) = false := by decide) (hc : (x == ("__classdict__" : Str)) = false := by decide) :
    EX X Γ (.Name x pos) sh true (mMov i) := by
  refine ⟨tVar i, pe_var hN hv hd hc, fun S H σ ε F Q r ε' w sr hm fin => ?_⟩
  obtain ⟨e, rfl⟩ := mMov_of hm
  obtain ⟨s, v, G, R, e1, e2, o, p, _, F2, p2, k2⟩ := sr.at i e
  rw [hΓ] at e1; cases e1
  have hσ : σ.set i (some v) = σ := List.ext_getElem? fun j => by
    by_cases hj : i = j
    · subst hj
      have hl : i < σ.length := (List.getElem?_eq_some_iff.mp e2).1
      rw [List.getElem?_set_self hl, e2]
    · rw [List.getElem?_set_ne hj]
  have ev : Evo S H F S H (G ++ F2) := (Evo.refl w).perm (p.trans (p2.symm.append_left G))
  exact ⟨v, e2, fin S H v G F2 ev (hσ ▸ k2 (some v)) o fun _ => Same.refl H⟩
theorem rx_var (i : Nat) {x : Str} (hs : rsh sh = true := by rfl) (hΓ : Γ[i]? = some sh := by rfl) (hN : X.N[i]? = some x := by rfl) (hv : Vis X.env.scope x := by first | exact Or.inl rfl | exact Or.inr (Or.inl rfl) | exact Or.inr (Or.inr rfl)) (hd : (x == ("__debug__" : Str)) = false := by decide) (hc : (x == ("__classdict__" : Str)) = false := by decide) :
    RX X Γ (.Name x pos) true (mVar i) := by
  refine ⟨tVar i, pe_var hN hv hd hc, fun S H σ ε F Q r ε' w sr hm fin => ?_⟩
  obtain ⟨e, rfl⟩ := mVar_of hm
  obtain ⟨s, v, G, R, e1, e2, o, _, _⟩ := sr.at i e
  rw [hΓ] at e1; cases e1
  exact ⟨v, e2, fin S H v F (.refl w) sr (o.rv hs) fun _ => Same.refl H⟩
theorem ex_cst {v : V} {t : T} (p : PE X e (tC v)) (h : ∀ S H, Fz X.K S H v t) : EX X Γ e .fro true (mCst t) := by
  refine ⟨tC v, p, fun S H σ ε F Q r ε' w sr hm fin => ?_⟩
  cases hm
  exact fin S H v [] F (.refl w) sr (.fro (h S H)) fun _ => Same.refl H

/-! operations on values -/
def Put (X : Cx) (S : Addr → Prop) (H : Hp) (sh : Sh) (r : T) (Q : VK) : Prop := ∀ S' H' v G, Step S H S' H' G → Ow X.K X.mg S' H' sh v r G → Q v H'
structure OpS (X : Cx) (f : Value → Value → Sem Value) (sh : Sh) (g : T → T → Option T) : Prop where
  ex : ∃ r : R2, OpR X f r ∧ ∀ S H x y a b c Q, (∀ p, S p → H p ≠ none) → Rv X.K S H x a → Rv X.K S H y b → g a b = some c → Put X S H sh c Q → r x y H Q
structure UnS (X : Cx) (f : Value → Sem Value) (sh : Sh) (g : T → Option T) : Prop where
  ex : ∃ r : V → Hp → VK → Prop, UnR X f r ∧ ∀ S H x a c Q, (∀ p, S p → H p ≠ none) → Rv X.K S H x a → g a = some c → Put X S H sh c Q → r x H Q
theorem Put.now {S : Addr → Prop} {H : Hp} {r : T} {Q : VK} {v : V} (p : Put X S H .fro r Q) (sl : ∀ a, S a → H a ≠ none) (z : Fz X.K S H v r) : Q v H := p S H v [] (.refl sl) (.fro z)
theorem Put.nowL {S : Addr → Prop} {H : Hp} {s : Sh} {r : T} {Q : VK} {v : V} (p : Put X S H (.lst s) r Q) (sl : ∀ a, S a → H a ≠ none) (hn : ∀ ds, r ≠ .list ds) (z : Fz X.K S H v r) : Q v H := p S H v [] (.refl sl) (.nol hn z)

def mBin (g : T → T → Option T) (ma mb : Mx) : Mx := fun ε => (ma ε).bind fun x => (mb x.2).bind fun y => (g x.1 y.1).map fun z => (z, y.2)
def mUn (g : T → Option T) (ma : Mx) : Mx := fun ε => (ma ε).bind fun x => (g x.1).map fun z => (z, x.2)
theorem mBin_of {g : T → T → Option T} {ε ε' : Envt} {r : T} (h : mBin g ma mb ε = some (r, ε')) : ∃ x ε1 y, ma ε = some (x, ε1) ∧ mb ε1 = some (y, ε') ∧ g x y = some r := by
  unfold mBin at h
  cases e1 : ma ε with
  | none => rw [e1] at h; cases h
  | some z1 =>
    obtain ⟨x, ε1⟩ := z1
    rw [e1] at h
    simp only [Option.bind_some] at h
    cases e2 : mb ε1 with
    | none => rw [e2] at h; cases h
    | some z2 =>
      obtain ⟨y, ε2⟩ := z2
      rw [e2] at h
      simp only [Option.bind_some] at h
      cases e3 : g x y with
      | none => rw [e3] at h; cases h
      | some z => rw [e3] at h; cases h; exact ⟨x, ε1, y, rfl, e2, e3⟩
theorem mUn_of {g : T → Option T} {ε ε' : Envt} {r : T} (h : mUn g ma ε = some (r, ε')) : ∃ x, ma ε = some (x, ε') ∧ g x = some r := by
  unfold mUn at h
  cases e1 : ma ε with
  | none => rw [e1] at h; cases h
  | some z1 =>
    obtain ⟨x, ε1⟩ := z1
    rw [e1] at h
    simp only [Option.bind_some] at h
    cases e3 : g x with
    | none => rw [e3] at h; cases h
    | some z => rw [e3] at h; cases h; exact ⟨x, rfl, e3⟩
theorem qand {q1 q2 : Bool} {H H1 H2 : Hp} (h1 : q1 = true → Same H H1) (h2 : q2 = true → Same H1 H2) : (q1 && q2) = true → Same H H2 := fun h => by
  rw [Bool.and_eq_true] at h
  exact (h1 h.1).trans (h2 h.2)
/-- both operands, from the left: a is frozen -/
theorem two (ha : EX X Γ a .fro q1 ma) (hb : RX X Γ b q2 mb) : ∃ ta tb, PE X a ta ∧ PE X b tb ∧
    ∀ S H σ ε F (P : V → V → Hp → Prop) x ε1 y ε2, WF S H F → SR X.K X.mg S H Γ σ ε F → ma ε = some (x, ε1) → mb ε1 = some (y, ε2) →
      (∀ S' H' u v F', Evo S H F S' H' F' → SR X.K X.mg S' H' Γ σ ε2 F' → Rv X.K S' H' u x → Rv X.K S' H' v y → ((q1 && q2) = true → Same H H') → P u v H') →
      ta σ H fun u H1 => tb σ H1 fun v H2 => P u v H2 := by
  obtain ⟨ta, pa, ka⟩ := ha.ex
  obtain ⟨tb, pb, kb⟩ := hb.ex
  refine ⟨ta, tb, pa, pb, fun S H σ ε F P x ε1 y ε2 w sr h1 h2 fin => ka S H σ ε F _ x ε1 w sr h1 fun S1 H1 u G F1 ev1 sr1 o1 hq1 => ?_⟩
  obtain ⟨z, rfl⟩ := o1.fz
  exact kb S1 H1 σ ε1 F1 _ y ε2 ev1.w1 sr1 h2 fun S2 H2 v F2 ev2 sr2 rv2 hq2 => fin S2 H2 u v F2 (ev1.trans ev2) sr2 (.fz (z.along ev2)) rv2 (qand hq1 hq2)
/-- .. a is only read, b changes nothing -/
theorem twoQ (ha : RX X Γ a q1 ma) (hb : RX X Γ b true mb) : ∃ ta tb, PE X a ta ∧ PE X b tb ∧
    ∀ S H σ ε F (P : V → V → Hp → Prop) x ε1 y ε2, WF S H F → SR X.K X.mg S H Γ σ ε F → ma ε = some (x, ε1) → mb ε1 = some (y, ε2) →
      (∀ S' H' u v F', Evo S H F S' H' F' → SR X.K X.mg S' H' Γ σ ε2 F' → Rv X.K S' H' u x → Rv X.K S' H' v y → ((q1 && true) = true → Same H H') → P u v H') →
      ta σ H fun u H1 => tb σ H1 fun v H2 => P u v H2 := by
  obtain ⟨ta, pa, ka⟩ := ha.ex
  obtain ⟨tb, pb, kb⟩ := hb.ex
  refine ⟨ta, tb, pa, pb, fun S H σ ε F P x ε1 y ε2 w sr h1 h2 fin => ka S H σ ε F _ x ε1 w sr h1 fun S1 H1 u F1 ev1 sr1 r1 hq1 => ?_⟩
  exact kb S1 H1 σ ε1 F1 _ y ε2 ev1.w1 sr1 h2 fun S2 H2 v F2 ev2 sr2 rv2 hq2 => fin S2 H2 u v F2 (ev1.trans ev2) sr2 (r1.mono ev2.sub (hq2 rfl)) rv2 (qand hq1 hq2)
/-- the end of an operation -/
theorem put_fin {S S' : Addr → Prop} {H H' : Hp} {F F' : List Addr} {σ : L2.St} {ε2 : Envt} {r : T} {Q : VK} (fin : Fin X Γ S H F σ sh q r ε2 Q) (ev : Evo S H F S' H' F') (sr : SR X.K X.mg S' H' Γ σ ε2 F') (hq : q = true → Same H H') : Put X S' H' sh r Q :=
  fun S2 H2 v G st o => fin S2 H2 v G F' (ev.trans (st.evo ev.w1)) (sr.step st) o fun h => (hq h).trans st.same
theorem ex_bin {op : Operator} {g : T → T → Option T} (ho : OpS X (binaryOp op) sh g) (ha : EX X Γ a .fro q1 ma) (hb : RX X Γ b q2 mb) : EX X Γ (.BinOp a op b pos) sh (q1 && q2) (mBin g ma mb) := by
  obtain ⟨r, hr, kr⟩ := ho.ex
  obtain ⟨ta, tb, pa, pb, k⟩ := two ha hb
  refine ⟨_, pe_op hr pa pb, fun S H σ ε F Q z ε' w sr hm fin => ?_⟩
  obtain ⟨x, ε1, y, e1, e2, e3⟩ := mBin_of hm
  exact k S H σ ε F _ x ε1 y ε' w sr e1 e2 fun S' H' u v F' ev sr' r1 r2 hq => kr S' H' u v x y z Q ev.w1.sl r1 r2 e3 (put_fin fin ev sr' hq)
theorem ex_binQ {op : Operator} {g : T → T → Option T} (ho : OpS X (binaryOp op) sh g) (ha : RX X Γ a q1 ma) (hb : RX X Γ b true mb) : EX X Γ (.BinOp a op b pos) sh (q1 && true) (mBin g ma mb) := by
  obtain ⟨r, hr, kr⟩ := ho.ex
  obtain ⟨ta, tb, pa, pb, k⟩ := twoQ ha hb
  refine ⟨_, pe_op hr pa pb, fun S H σ ε F Q z ε' w sr hm fin => ?_⟩
  obtain ⟨x, ε1, y, e1, e2, e3⟩ := mBin_of hm
  exact k S H σ ε F _ x ε1 y ε' w sr e1 e2 fun S' H' u v F' ev sr' r1 r2 hq => kr S' H' u v x y z Q ev.w1.sl r1 r2 e3 (put_fin fin ev sr' hq)
theorem ex_un {op : UnaryOp} {g : T → Option T} (ho : UnS X (unaryOp op) sh g) (ha : RX X Γ a q ma) (hn : ∀ t r, PE X a t → UnR X (unaryOp op) r → PE X (.UnaryOp op a pos) (tUn r t)) : EX X Γ (.UnaryOp op a pos) sh q (mUn g ma) := by
  obtain ⟨r, hr, kr⟩ := ho.ex
  obtain ⟨ta, pa, ka⟩ := ha.ex
  refine ⟨_, hn ta r pa hr, fun S H σ ε F Q z ε' w sr hm fin => ?_⟩
  obtain ⟨x, e1, e3⟩ := mUn_of hm
  exact ka S H σ ε F _ x ε' w sr e1 fun S' H' u F' ev sr' r1 hq => kr S' H' u x z Q ev.w1.sl r1 e3 (put_fin fin ev sr' hq)
end
end Dg

set_option Elab.async false
set_option linter.all false
set_option maxRecDepth 100000
namespace Dg
open PySem PySem.Spec PyProof.Rows L2
section
variable {X : Cx} {Γ : List Sh} {e a b c : Expr} {es : List Expr} {sh : Sh} {q q1 q2 q3 : Bool} {m ma mb mc : Mx} {tb1 tb2 : Mb} {pos : Pos}

/-! comparisons -/
theorem ex_cmp {op : CmpOp} {g : T → T → Option T} (ho : OpS X (compareOp op) sh g) (ha : EX X Γ a .fro q1 ma) (hb : RX X Γ b q2 mb) (hm : behindInMarks op b = false := by rfl) : EX X Γ (.Compare a [op] [b] pos) sh (q1 && q2) (mBin g ma mb) := by
  obtain ⟨r, hr, kr⟩ := ho.ex
  obtain ⟨ta, tb, pa, pb, k⟩ := two ha hb
  refine ⟨_, pe_cmpR hr pa pb hm, fun S H σ ε F Q z ε' w sr hm fin => ?_⟩
  obtain ⟨x, ε1, y, e1, e2, e3⟩ := mBin_of hm
  exact k S H σ ε F _ x ε1 y ε' w sr e1 e2 fun S' H' u v F' ev sr' r1 r2 hq => kr S' H' u v x y z Q ev.w1.sl r1 r2 e3 (put_fin fin ev sr' hq)
theorem ex_cmpQ {op : CmpOp} {g : T → T → Option T} (ho : OpS X (compareOp op) sh g) (ha : RX X Γ a q1 ma) (hb : RX X Γ b true mb) (hm : behindInMarks op b = false := by rfl) : EX X Γ (.Compare a [op] [b] pos) sh (q1 && true) (mBin g ma mb) := by
  obtain ⟨r, hr, kr⟩ := ho.ex
  obtain ⟨ta, tb, pa, pb, k⟩ := twoQ ha hb
  refine ⟨_, pe_cmpR hr pa pb hm, fun S H σ ε F Q z ε' w sr hm fin => ?_⟩
  obtain ⟨x, ε1, y, e1, e2, e3⟩ := mBin_of hm
  exact k S H σ ε F _ x ε1 y ε' w sr e1 e2 fun S' H' u v F' ev sr' r1 r2 hq => kr S' H' u v x y z Q ev.w1.sl r1 r2 e3 (put_fin fin ev sr' hq)
/-- a test's own form: the value is a bool -/
def mTb (m : Mx) : Mb := fun ε => (m ε).bind fun r => match r.1 with | .bool k => some (k, r.2) | _ => none
theorem mTb_of {ε ε' : Envt} {k : Bool} (h : mTb m ε = some (k, ε')) : m ε = some (.bool k, ε') := by
  unfold mTb at h
  cases e1 : m ε with
  | none => rw [e1] at h; cases h
  | some z =>
    obtain ⟨r, ε1⟩ := z
    rw [e1] at h
    cases r <;> cases h
    rfl
theorem tx_cmp {op : CmpOp} {g : T → T → Option T} (ho : OpS X (compareOp op) sh g) (ha : EX X Γ a .fro q1 ma) (hb : RX X Γ b q2 mb) (hm : behindInMarks op b = false := by rfl) : TX X Γ (.Compare a [op] [b] pos) (q1 && q2) (mTb (mBin g ma mb)) := by
  obtain ⟨r, hr, kr⟩ := ho.ex
  obtain ⟨ta, tb, pa, pb, k⟩ := two ha hb
  refine ⟨_, pt_cmpR hr pa pb hm, fun S H σ ε F Q z ε' w sr hm fin => ?_⟩
  obtain ⟨x, ε1, y, e1, e2, e3⟩ := mBin_of (mTb_of hm)
  refine k S H σ ε F _ x ε1 y ε' w sr e1 e2 fun S' H' u v F' ev sr' r1 r2 hq => kr S' H' u v x y (.bool z) _ ev.w1.sl r1 r2 e3 fun S2 H2 v G st o => ?_
  refine ⟨z, ?_, fin S2 H2 F' (ev.trans (st.evo ev.w1).dropL) (sr'.step st) fun h => (hq h).trans st.same⟩
  cases o with
  | fro z => cases z; rfl
  | nol _ z => cases z; rfl
  | nodK _ z => cases z; rfl
  | nodT _ z => cases z; rfl
theorem tx_cmpQ {op : CmpOp} {g : T → T → Option T} (ho : OpS X (compareOp op) sh g) (ha : RX X Γ a q1 ma) (hb : RX X Γ b true mb) (hm : behindInMarks op b = false := by rfl) : TX X Γ (.Compare a [op] [b] pos) (q1 && true) (mTb (mBin g ma mb)) := by
  obtain ⟨r, hr, kr⟩ := ho.ex
  obtain ⟨ta, tb, pa, pb, k⟩ := twoQ ha hb
  refine ⟨_, pt_cmpR hr pa pb hm, fun S H σ ε F Q z ε' w sr hm fin => ?_⟩
  obtain ⟨x, ε1, y, e1, e2, e3⟩ := mBin_of (mTb_of hm)
  refine k S H σ ε F _ x ε1 y ε' w sr e1 e2 fun S' H' u v F' ev sr' r1 r2 hq => kr S' H' u v x y (.bool z) _ ev.w1.sl r1 r2 e3 fun S2 H2 v G st o => ?_
  refine ⟨z, ?_, fin S2 H2 F' (ev.trans (st.evo ev.w1).dropL) (sr'.step st) fun h => (hq h).trans st.same⟩
  cases o with
  | fro z => cases z; rfl
  | nol _ z => cases z; rfl
  | nodK _ z => cases z; rfl
  | nodT _ z => cases z; rfl
/-- a op b op' c -/
def mChain (g g' : T → T → Option T) (ma mb mc : Mx) : Mx := fun ε => (ma ε).bind fun x => (mb x.2).bind fun y => (g x.1 y.1).bind fun z =>
  match z with
  | .bool true => (mc y.2).bind fun w => (g' y.1 w.1).map fun r => (r, w.2)
  | .bool false => some (.bool false, y.2)
  | _ => none
theorem put_bool {S : Addr → Prop} {H : Hp} {k : Bool} {Q : VK} (sl : ∀ a, S a → H a ≠ none) (h : ∀ S' H', Step S H S' H' [] → Q (.bl k) H') : ∀ {s : Sh}, Ow X.K X.mg S H s (.bl k) (.bool k) [] → Q (.bl k) H := fun _ => h S H (.refl sl)
theorem ow_bool {S : Addr → Prop} {H : Hp} {k : Bool} {v : V} {G : List Addr} {K : PySem.W.Frag} {mg : Str → Option Value} (o : Ow K mg S H sh v (.bool k) G) : v = .bl k := by
  cases o with
  | fro z => cases z; rfl
  | nol _ z => cases z; rfl
  | nodK _ z => cases z; rfl
  | nodT _ z => cases z; rfl
theorem mChain_of {g g' : T → T → Option T} {ε ε' : Envt} {r : T} (h : mChain g g' ma mb mc ε = some (r, ε')) :
    ∃ x ε1 y ε2 k, ma ε = some (x, ε1) ∧ mb ε1 = some (y, ε2) ∧ g x y = some (.bool k) ∧ (if k = true then ∃ w, mc ε2 = some (w, ε') ∧ g' y w = some r else r = .bool false ∧ ε' = ε2) := by
  unfold mChain at h
  cases e1 : ma ε with
  | none => rw [e1] at h; cases h
  | some z1 =>
    obtain ⟨x, ε1⟩ := z1
    rw [e1] at h
    simp only [Option.bind_some] at h
    cases e2 : mb ε1 with
    | none => rw [e2] at h; cases h
    | some z2 =>
      obtain ⟨y, ε2⟩ := z2
      rw [e2] at h
      simp only [Option.bind_some] at h
      cases e3 : g x y with
      | none => rw [e3] at h; cases h
      | some z =>
        rw [e3] at h
        simp only [Option.bind_some] at h
        cases z with
        | bool k =>
          refine ⟨x, ε1, y, ε2, k, rfl, e2, e3, ?_⟩
          cases k with
          | false => cases h; exact ⟨rfl, rfl⟩
          | true =>
            rw [if_pos rfl]
            simp only at h
            cases e4 : mc ε2 with
            | none => rw [e4] at h; cases h
            | some z4 =>
              obtain ⟨w, ε4⟩ := z4
              rw [e4] at h
              simp only [Option.bind_some] at h
              cases e5 : g' y w with
              | none => rw [e5] at h; cases h
              | some z5 => rw [e5] at h; cases h; exact ⟨w, rfl, e5⟩
        | _ => cases h
theorem chain_core {op op' : CmpOp} {g g' : T → T → Option T} (ho : OpS X (compareOp op) sh g) (ho' : OpS X (compareOp op') sh g') (ha : EX X Γ a .fro q1 ma) (hb : EX X Γ b .fro q2 mb) (hc : RX X Γ c q3 mc) :
    ∃ r r' ta tb tc, OpR X (compareOp op) r ∧ OpR X (compareOp op') r' ∧ PE X a ta ∧ PE X b tb ∧ PE X c tc ∧ ∀ S H σ ε F Q z ε', WF S H F → SR X.K X.mg S H Γ σ ε F → mChain g g' ma mb mc ε = some (z, ε') →
      Fin X Γ S H F σ sh (q1 && q2 && q3) z ε' Q → (∀ S' H' F', Evo S H F S' H' F' → SR X.K X.mg S' H' Γ σ ε' F' → ((q1 && q2 && q3) = true → Same H H') → z = .bool false → Q (.bl false) H') → tChain r r' ta tb tc σ H Q := by
  obtain ⟨r, hr, kr⟩ := ho.ex
  obtain ⟨r', hr', kr'⟩ := ho'.ex
  obtain ⟨ta, pa, ka⟩ := ha.ex
  obtain ⟨tb, pb, kb⟩ := hb.ex
  obtain ⟨tc, pc, kc⟩ := hc.ex
  refine ⟨r, r', ta, tb, tc, hr, hr', pa, pb, pc, fun S H σ ε F Q z ε' w sr hm fin fin0 => ?_⟩
  obtain ⟨x, ε1, y, ε2, k, e1, e2, e3, e4⟩ := mChain_of hm
  refine ka S H σ ε F _ x ε1 w sr e1 fun S1 H1 u G1 F1 ev1 sr1 o1 hq1 => ?_
  obtain ⟨z1, rfl⟩ := o1.fz
  refine kb S1 H1 σ ε1 F1 _ y ε2 ev1.w1 sr1 e2 fun S2 H2 v G2 F2 ev2 sr2 o2 hq2 => ?_
  obtain ⟨z2, rfl⟩ := o2.fz
  refine kr S2 H2 u v x y (.bool k) _ ev2.w1.sl (.fz (z1.along ev2)) (.fz z2) e3 fun S3 H3 bv G3 st o3 => ?_
  have eb := ow_bool o3
  subst eb
  refine ⟨k, rfl, ?_⟩
  have ev3 : Evo S H F S3 H3 F2 := (ev1.trans ev2).trans (st.evo ev2.w1).dropL
  have hq12 : (q1 && q2) = true → Same H H3 := fun h => (qand hq1 hq2 h).trans st.same
  cases k with
  | false =>
    rw [if_neg Bool.false_ne_true] at e4 ⊢
    obtain ⟨rfl, rfl⟩ := e4
    exact fin0 S3 H3 F2 ev3 (sr2.step st) (fun h => hq12 (by rw [Bool.and_eq_true] at h; exact h.1)) rfl
  | true =>
    rw [if_pos rfl] at e4 ⊢
    obtain ⟨w', e5, e6⟩ := e4
    refine kc S3 H3 σ ε2 F2 _ w' ε' ev3.w1 (sr2.step st) e5 fun S4 H4 v4 F4 ev4 sr4 r4 hq4 => ?_
    exact kr' S4 H4 v v4 y w' z Q ev4.w1.sl (.fz ((z2.step st).along ev4)) r4 e6 (put_fin fin (ev3.trans ev4) sr4 (qand hq12 hq4))
theorem ex_chain {op op' : CmpOp} {g g' : T → T → Option T} (ho : OpS X (compareOp op) .fro g) (ho' : OpS X (compareOp op') .fro g') (ha : EX X Γ a .fro q1 ma) (hb : EX X Γ b .fro q2 mb) (hc : RX X Γ c q3 mc)
    (h : ∀ r r' ta tb tc, OpR X (compareOp op) r → OpR X (compareOp op') r' → PE X a ta → PE X b tb → PE X c tc → PE X (.Compare a [op, op'] [b, c] pos) (tChain r r' ta tb tc) := by intro r r' ta tb tc h1 h2 h3 h4 h5; exact pe_chain h1 h2 h3 h4 h5) :
    EX X Γ (.Compare a [op, op'] [b, c] pos) .fro (q1 && q2 && q3) (mChain g g' ma mb mc) := by
  obtain ⟨r, r', ta, tb, tc, hr, hr', pa, pb, pc, k⟩ := chain_core ho ho' ha hb hc
  refine ⟨_, h r r' ta tb tc hr hr' pa pb pc, fun S H σ ε F Q z ε' w sr hm fin => k S H σ ε F Q z ε' w sr hm fin fun S' H' F' ev sr' hq ez => ?_⟩
  subst ez
  exact fin S' H' (.bl false) [] F' ev sr' (.fro (.bl false)) hq
theorem tx_chain {op op' : CmpOp} {g g' : T → T → Option T} (ho : OpS X (compareOp op) .fro g) (ho' : OpS X (compareOp op') .fro g') (ha : EX X Γ a .fro q1 ma) (hb : EX X Γ b .fro q2 mb) (hc : RX X Γ c q3 mc)
    (h : ∀ r r' ta tb tc, OpR X (compareOp op) r → OpR X (compareOp op') r' → PE X a ta → PE X b tb → PE X c tc → PT X (.Compare a [op, op'] [b, c] pos) (tTest (tChain r r' ta tb tc)) := by intro r r' ta tb tc h1 h2 h3 h4 h5; exact pt_chain h1 h2 h3 h4 h5) :
    TX X Γ (.Compare a [op, op'] [b, c] pos) (q1 && q2 && q3) (mTb (mChain g g' ma mb mc)) := by
  obtain ⟨r, r', ta, tb, tc, hr, hr', pa, pb, pc, k⟩ := chain_core ho ho' ha hb hc
  refine ⟨_, h r r' ta tb tc hr hr' pa pb pc, fun S H σ ε F Q z ε' w sr hm fin => k S H σ ε F _ (.bool z) ε' w sr (mTb_of hm) (fun S' H' v G F' ev sr' o hq => ?_) fun S' H' F' ev sr' hq ez => ?_⟩
  · exact ⟨z, ow_bool o, fin S' H' F' ev.dropL sr' hq⟩
  · cases ez
    exact ⟨false, rfl, fin S' H' F' ev sr' hq⟩

/-! tests -/
def truT : T → Option Bool
  | .none => some false
  | .bool b => some b
  | .int i => some (i != 0)
  | .str y => if y.length ≤ sizeLine then some ((y.length : Int) != 0) else none
  | .list xs => some (!xs.isEmpty)
  | .tuple xs => some (!xs.isEmpty)
  | .dict _ => none
def mTru (m : Mx) : Mb := fun ε => (m ε).bind fun r => (truT r.1).map fun k => (k, r.2)
theorem mTru_of {ε ε' : Envt} {k : Bool} (h : mTru m ε = some (k, ε')) : ∃ r, m ε = some (r, ε') ∧ truT r = some k := by
  unfold mTru at h
  cases e1 : m ε with
  | none => rw [e1] at h; cases h
  | some z =>
    obtain ⟨r, ε1⟩ := z
    rw [e1] at h
    simp only [Option.bind_some] at h
    cases e2 : truT r with
    | none => rw [e2] at h; cases h
    | some y => rw [e2] at h; cases h; exact ⟨r, rfl, e2⟩
theorem FzAll.isEmpty {K : PySem.W.Frag} {S : Addr → Prop} {H : Hp} : ∀ {vs : List V} {ts : List T}, FzAll K S H vs ts → (!ts.isEmpty) = !vs.isEmpty
  | _, _, .nil => rfl
  | _, _, .cons _ _ => rfl
theorem truV_of {S : Addr → Prop} {H : Hp} {v : V} {t : T} {k : Bool} (r : Rv X.K S H v t) (h : truT t = some k) : TruV X.K v H k := by
  cases t with
  | none => rw [r.non]; cases h; rfl
  | bool b => rw [r.bl]; cases h; rfl
  | int i => rw [r.int]; cases h; rfl
  | str y =>
    rw [r.str]
    have h : (if y.length ≤ sizeLine then some ((y.length : Int) != 0) else none) = some k := h
    by_cases hy : y.length ≤ sizeLine
    · rw [if_pos hy] at h; cases h; exact ⟨hy, rfl⟩
    · rw [if_neg hy] at h; cases h
  | list xs =>
    obtain ⟨p, ys, rfl, e, z⟩ := r.list
    cases h
    exact .inl ⟨ys, SqL.of e, z.isEmpty⟩
  | tuple xs =>
    obtain ⟨p, ys, rfl, e, z, _⟩ := r.tuple
    cases h
    exact .inr (.inl ⟨ys, e, z.isEmpty⟩)
  | dict _ => cases h
theorem tx_tru (ha : RX X Γ a q ma) (he : ∀ whole, isTrue a X.env whole = (do let v ← whole; standAt a.pos; holding [v] (truthy v)) := by intro _; rfl) : TX X Γ a q (mTru ma) := by
  obtain ⟨ta, pa, ka⟩ := ha.ex
  refine ⟨_, pt_truth pa he, fun S H σ ε F Q z ε' w sr hm fin => ?_⟩
  obtain ⟨r, e1, e2⟩ := mTru_of hm
  exact ka S H σ ε F _ r ε' w sr e1 fun S' H' v F' ev sr' rv hq => ⟨z, truV_of rv e2, fin S' H' F' ev sr' hq⟩
def mNot (m : Mb) : Mb := fun ε => (m ε).map fun r => (!r.1, r.2)
theorem tx_not (ha : TX X Γ a q tb1) : TX X Γ (.UnaryOp .Not a pos) q (mNot tb1) := by
  obtain ⟨ta, pa, ka⟩ := ha.ex
  refine ⟨_, pt_not pa, fun S H σ ε F Q z ε' w sr hm fin => ?_⟩
  unfold mNot at hm
  cases e1 : tb1 ε with
  | none => rw [e1] at hm; cases hm
  | some y =>
    obtain ⟨k, ε1⟩ := y
    rw [e1] at hm
    cases hm
    exact ka S H σ ε F _ k ε1 w sr e1 fun S' H' F' ev sr' hq => fin S' H' F' ev sr' hq
/-- tests in a row -/
structure WX (X : Cx) (Γ : List Sh) (e : Expr) (q : Bool) (m : Mb) : Prop where
  ex : ∃ t : TT, PW X e t ∧ ∀ S H σ ε F Q r ε', WF S H F → SR X.K X.mg S H Γ σ ε F → m ε = some (r, ε') → FinB X Γ S H F σ q r ε' Q → t σ H Q
theorem WX.tx (h : WX X Γ e q tb1) : TX X Γ e q tb1 := by
  obtain ⟨t, p, k⟩ := h.ex
  exact ⟨t, p.pt, k⟩
theorem wx_and1 (h : TX X Γ a q tb1) : WX X Γ (.BoolOp .And [a] pos) q tb1 := by
  obtain ⟨t, p, k⟩ := h.ex
  exact ⟨t, pw_and1 p, k⟩
theorem wx_or1 (h : TX X Γ a q tb1) : WX X Γ (.BoolOp .Or [a] pos) q tb1 := by
  obtain ⟨t, p, k⟩ := h.ex
  exact ⟨t, pw_or1 p, k⟩
def mAnd (m1 m2 : Mb) : Mb := fun ε => (m1 ε).bind fun r => if r.1 = true then m2 r.2 else some (false, r.2)
def mOr (m1 m2 : Mb) : Mb := fun ε => (m1 ε).bind fun r => if r.1 = true then some (true, r.2) else m2 r.2
theorem wx_and (h : TX X Γ a q1 tb1) (h2 : WX X Γ (.BoolOp .And (b :: es) pos) q2 tb2) : WX X Γ (.BoolOp .And (a :: b :: es) pos) (q1 && q2) (mAnd tb1 tb2) := by
  obtain ⟨t, p, k⟩ := h.ex
  obtain ⟨t2, p2, k2⟩ := h2.ex
  refine ⟨_, pw_and p p2, fun S H σ ε F Q z ε' w sr hm fin => ?_⟩
  unfold mAnd at hm
  cases e1 : tb1 ε with
  | none => rw [e1] at hm; cases hm
  | some y =>
    obtain ⟨c, ε1⟩ := y
    rw [e1] at hm
    simp only [Option.bind_some] at hm
    refine k S H σ ε F _ c ε1 w sr e1 fun S' H' F' ev sr' hq => ?_
    cases c with
    | false =>
      cases hm
      exact fin S' H' F' ev sr' fun h => hq (by rw [Bool.and_eq_true] at h; exact h.1)
    | true =>
      rw [if_pos rfl] at hm ⊢
      exact k2 S' H' σ ε1 F' _ z ε' ev.w1 sr' hm fun S2 H2 F2 ev2 sr2 hq2 => fin S2 H2 F2 (ev.trans ev2) sr2 (qand hq hq2)
theorem wx_or (h : TX X Γ a q1 tb1) (h2 : WX X Γ (.BoolOp .Or (b :: es) pos) q2 tb2) : WX X Γ (.BoolOp .Or (a :: b :: es) pos) (q1 && q2) (mOr tb1 tb2) := by
  obtain ⟨t, p, k⟩ := h.ex
  obtain ⟨t2, p2, k2⟩ := h2.ex
  refine ⟨_, pw_or p p2, fun S H σ ε F Q z ε' w sr hm fin => ?_⟩
  unfold mOr at hm
  cases e1 : tb1 ε with
  | none => rw [e1] at hm; cases hm
  | some y =>
    obtain ⟨c, ε1⟩ := y
    rw [e1] at hm
    simp only [Option.bind_some] at hm
    refine k S H σ ε F _ c ε1 w sr e1 fun S' H' F' ev sr' hq => ?_
    cases c with
    | true =>
      cases hm
      exact fin S' H' F' ev sr' fun h => hq (by rw [Bool.and_eq_true] at h; exact h.1)
    | false =>
      rw [if_neg Bool.false_ne_true] at hm ⊢
      exact k2 S' H' σ ε1 F' _ z ε' ev.w1 sr' hm fun S2 H2 F2 ev2 sr2 hq2 => fin S2 H2 F2 (ev.trans ev2) sr2 (qand hq hq2)

/-! values by tests: not, and, or (of bools), if-else -/
theorem ex_one {op : BoolOp} (h : EX X Γ a sh q ma) : EX X Γ (.BoolOp op [a] pos) sh q ma := by
  obtain ⟨t, p, k⟩ := h.ex
  exact ⟨t, pe_one p, k⟩
def mAndV (m1 m2 : Mx) : Mx := fun ε => (m1 ε).bind fun r => match r.1 with | .bool true => m2 r.2 | .bool false => some (.bool false, r.2) | _ => none
def mOrV (m1 m2 : Mx) : Mx := fun ε => (m1 ε).bind fun r => match r.1 with | .bool true => some (.bool true, r.2) | .bool false => m2 r.2 | _ => none
def mNotV (m1 : Mx) : Mx := fun ε => (m1 ε).bind fun r => match r.1 with | .bool k => some (.bool (!k), r.2) | _ => none
theorem ex_and (h : EX X Γ a .fro q1 ma) (h2 : EX X Γ (.BoolOp .And (b :: es) pos) .fro q2 mb) : EX X Γ (.BoolOp .And (a :: b :: es) pos) .fro (q1 && q2) (mAndV ma mb) := by
  obtain ⟨t, p, k⟩ := h.ex
  obtain ⟨t2, p2, k2⟩ := h2.ex
  refine ⟨_, pe_and p p2, fun S H σ ε F Q z ε' w sr hm fin => ?_⟩
  unfold mAndV at hm
  cases e1 : ma ε with
  | none => rw [e1] at hm; cases hm
  | some y =>
    obtain ⟨c, ε1⟩ := y
    rw [e1] at hm
    simp only [Option.bind_some] at hm
    refine k S H σ ε F _ c ε1 w sr e1 fun S' H' v G F' ev sr' o hq => ?_
    cases c with
    | bool c =>
      have eb := ow_bool o
      subst eb
      refine ⟨c, rfl, ?_⟩
      cases c with
      | false =>
        cases hm
        exact fin S' H' _ G F' ev sr' o fun h => hq (by rw [Bool.and_eq_true] at h; exact h.1)
      | true =>
        rw [if_pos rfl]
        have ev' := ev.dropL
        exact k2 S' H' σ ε1 F' _ z ε' ev'.w1 sr' hm fun S2 H2 v2 G2 F2 ev2 sr2 o2 hq2 => fin S2 H2 v2 G2 F2 (ev'.trans ev2) sr2 o2 (qand hq hq2)
    | _ => cases hm
theorem ex_or (h : EX X Γ a .fro q1 ma) (h2 : EX X Γ (.BoolOp .Or (b :: es) pos) .fro q2 mb) : EX X Γ (.BoolOp .Or (a :: b :: es) pos) .fro (q1 && q2) (mOrV ma mb) := by
  obtain ⟨t, p, k⟩ := h.ex
  obtain ⟨t2, p2, k2⟩ := h2.ex
  refine ⟨_, pe_or p p2, fun S H σ ε F Q z ε' w sr hm fin => ?_⟩
  unfold mOrV at hm
  cases e1 : ma ε with
  | none => rw [e1] at hm; cases hm
  | some y =>
    obtain ⟨c, ε1⟩ := y
    rw [e1] at hm
    simp only [Option.bind_some] at hm
    refine k S H σ ε F _ c ε1 w sr e1 fun S' H' v G F' ev sr' o hq => ?_
    cases c with
    | bool c =>
      have eb := ow_bool o
      subst eb
      refine ⟨c, rfl, ?_⟩
      cases c with
      | true =>
        cases hm
        exact fin S' H' _ G F' ev sr' o fun h => hq (by rw [Bool.and_eq_true] at h; exact h.1)
      | false =>
        rw [if_neg Bool.false_ne_true]
        have ev' := ev.dropL
        exact k2 S' H' σ ε1 F' _ z ε' ev'.w1 sr' hm fun S2 H2 v2 G2 F2 ev2 sr2 o2 hq2 => fin S2 H2 v2 G2 F2 (ev'.trans ev2) sr2 o2 (qand hq hq2)
    | _ => cases hm
theorem ex_not (h : EX X Γ a .fro q ma) : EX X Γ (.UnaryOp .Not a pos) .fro q (mNotV ma) := by
  obtain ⟨t, p, k⟩ := h.ex
  refine ⟨_, pe_not p, fun S H σ ε F Q z ε' w sr hm fin => ?_⟩
  unfold mNotV at hm
  cases e1 : ma ε with
  | none => rw [e1] at hm; cases hm
  | some y =>
    obtain ⟨c, ε1⟩ := y
    rw [e1] at hm
    simp only [Option.bind_some] at hm
    refine k S H σ ε F _ c ε1 w sr e1 fun S' H' v G F' ev sr' o hq => ?_
    cases c with
    | bool c =>
      have eb := ow_bool o
      subst eb
      cases hm
      exact ⟨c, rfl, fin S' H' _ [] F' ev.dropL sr' (.fro (.bl _)) hq⟩
    | _ => cases hm
def mIf (c : Mb) (ma mb : Mx) : Mx := fun ε => (c ε).bind fun r => if r.1 = true then ma r.2 else mb r.2
theorem ex_if (hc : TX X Γ c q1 tb1) (ha : EX X Γ a sh q2 ma) (hb : EX X Γ b sh q3 mb) : EX X Γ (.IfExp c a b pos) sh (q1 && (q2 && q3)) (mIf tb1 ma mb) := by
  obtain ⟨tc, pc, kc⟩ := hc.ex
  obtain ⟨ta, pa, ka⟩ := ha.ex
  obtain ⟨tb, pb, kb⟩ := hb.ex
  refine ⟨_, pe_ifExp pc pa pb, fun S H σ ε F Q z ε' w sr hm fin => ?_⟩
  unfold mIf at hm
  cases e1 : tb1 ε with
  | none => rw [e1] at hm; cases hm
  | some y =>
    obtain ⟨c, ε1⟩ := y
    rw [e1] at hm
    simp only [Option.bind_some] at hm
    refine kc S H σ ε F _ c ε1 w sr e1 fun S' H' F' ev sr' hq => ?_
    have h1 : (q1 && (q2 && q3)) = true → q1 = true ∧ q2 = true ∧ q3 = true := fun h => by simpa [Bool.and_eq_true] using h
    cases c with
    | true =>
      rw [if_pos rfl] at hm ⊢
      exact ka S' H' σ ε1 F' _ z ε' ev.w1 sr' hm fun S2 H2 v2 G2 F2 ev2 sr2 o2 hq2 => fin S2 H2 v2 G2 F2 (ev.trans ev2) sr2 o2 fun h => (hq (h1 h).1).trans (hq2 (h1 h).2.1)
    | false =>
      rw [if_neg Bool.false_ne_true] at hm ⊢
      exact kb S' H' σ ε1 F' _ z ε' ev.w1 sr' hm fun S2 H2 v2 G2 F2 ev2 sr2 o2 hq2 => fin S2 H2 v2 G2 F2 (ev.trans ev2) sr2 o2 fun h => (hq (h1 h).1).trans (hq2 (h1 h).2.2)
end
end Dg

set_option Elab.async false
set_option linter.all false
set_option maxRecDepth 100000
namespace Dg
open PySem PySem.Spec PyProof.Rows L2
section
variable {X : Cx} {Γ : List Sh} {e a b c : Expr} {es : List Expr} {sh : Sh} {shs : List Sh} {q q1 q2 q3 : Bool} {m ma mb mc : Mx} {ml : Ml} {pos : Pos}

/-! displays -/
def mNil : Ml := fun ε => some ([], ε)
def mCons (ma : Mx) (ml : Ml) : Ml := fun ε => (ma ε).bind fun x => (ml x.2).map fun r => (x.1 :: r.1, r.2)
theorem mCons_of {ε ε' : Envt} {r : List T} (h : mCons ma ml ε = some (r, ε')) : ∃ x ε1 xs, ma ε = some (x, ε1) ∧ ml ε1 = some (xs, ε') ∧ r = x :: xs := by
  unfold mCons at h
  cases e1 : ma ε with
  | none => rw [e1] at h; cases h
  | some z1 =>
    obtain ⟨x, ε1⟩ := z1
    rw [e1] at h
    simp only [Option.bind_some] at h
    cases e2 : ml ε1 with
    | none => rw [e2] at h; cases h
    | some z2 =>
      obtain ⟨y, ε2⟩ := z2
      rw [e2] at h
      cases h
      exact ⟨x, ε1, y, rfl, e2, rfl⟩
structure FX (X : Cx) (Γ : List Sh) (es : List Expr) (q : Bool) (m : Ml) : Prop where
  ex : ∃ t : TA, PA X es t ∧ ∀ S H σ ε F Q r ε', WF S H F → SR X.K X.mg S H Γ σ ε F → m ε = some (r, ε') →
    (∀ S' H' vs F', Evo S H F S' H' F' → SR X.K X.mg S' H' Γ σ ε' F' → FzAll X.K S' H' vs r → (q = true → Same H H') → Q vs H') → t σ H Q
theorem fx_nil : FX X Γ [] true mNil := ⟨tNil, pa_nil, fun S H σ ε F Q r ε' w sr hm fin => by cases hm; exact fin S H [] F (.refl w) sr .nil fun _ => Same.refl H⟩
theorem fx_cons (ha : EX X Γ a .fro q1 ma) (hr : FX X Γ es q2 ml) (hs : starEach (a :: es) X.env = (false, eval a X.env) :: starEach es X.env := by rfl) : FX X Γ (a :: es) (q1 && q2) (mCons ma ml) := by
  obtain ⟨t, p, k⟩ := ha.ex
  obtain ⟨t2, p2, k2⟩ := hr.ex
  refine ⟨_, pa_cons p p2 hs, fun S H σ ε F Q r ε' w sr hm fin => ?_⟩
  obtain ⟨x, ε1, xs, e1, e2, rfl⟩ := mCons_of hm
  refine k S H σ ε F _ x ε1 w sr e1 fun S1 H1 v G F1 ev1 sr1 o1 hq1 => ?_
  obtain ⟨z, rfl⟩ := o1.fz
  exact k2 S1 H1 σ ε1 F1 _ xs ε' ev1.w1 sr1 e2 fun S2 H2 vs F2 ev2 sr2 zs hq2 => fin S2 H2 (v :: vs) F2 (ev1.trans ev2) sr2 (.cons (z.along ev2) zs) (qand hq1 hq2)
def mTup (ml : Ml) : Mx := fun ε => (ml ε).map fun r => (.tuple r.1, r.2)
def mLst (ml : Ml) : Mx := fun ε => (ml ε).map fun r => (.list r.1, r.2)
theorem map_of {α β : Type} {f : α → β} {o : Option α} {z : β} (h : o.map f = some z) : ∃ y, o = some y ∧ f y = z := by
  cases o with
  | none => cases h
  | some y => cases h; exact ⟨y, rfl, rfl⟩
theorem ex_tup {k : Nat} (h : FX X Γ es q ml) (hl : es.length ≤ 1000 := by decide) (hlen : ∀ ε r, ml ε = some r → r.1.length = es.length) : EX X Γ (.Tuple es k pos) .fro q (mTup ml) := by
  obtain ⟨t, p, kk⟩ := h.ex
  refine ⟨_, pe_tup p, fun S H σ ε F Q r ε' w sr hm fin => ?_⟩
  obtain ⟨⟨ts, ε1⟩, e1, e2⟩ := map_of hm
  cases e2
  have hl2 := hlen _ _ e1
  refine kk S H σ ε F _ ts ε1 w sr e1 fun S' H' vs F' ev sr' z hq => ⟨?_, fun p np => ?_⟩
  · rw [z.length, hl2]; have := sizeLine_eq; omega
  · have st := Step.fz (o := .tup vs) ev.w1.sl np
    exact fin _ _ _ [] F' (ev.trans (st.evo ev.w1)) (sr'.step st) (.fro (.tup (.inr rfl) upd_same (z.step st))) fun h => (hq h).trans st.same
theorem ex_lst (h : FX X Γ es q ml) (hl : es.length ≤ 1000 := by decide) (hlen : ∀ ε r, ml ε = some r → r.1.length = es.length) : EX X Γ (.List es pos) (.lst .fro) q (mLst ml) := by
  obtain ⟨t, p, kk⟩ := h.ex
  refine ⟨_, pe_lst p, fun S H σ ε F Q r ε' w sr hm fin => ?_⟩
  obtain ⟨⟨ts, ε1⟩, e1, e2⟩ := map_of hm
  cases e2
  have hl2 := hlen _ _ e1
  refine kk S H σ ε F _ ts ε1 w sr e1 fun S' H' vs F' ev sr' z hq => ⟨?_, fun p np => ?_⟩
  · rw [z.length, hl2]; have := sizeLine_eq; omega
  · have st := Step.ow (o := .lst vs) ev.w1.sl np
    exact fin _ _ _ [p] F' (ev.trans (st.evo ev.w1)) (sr'.step st) (.lst upd_same (OwAll.of (z.step st))) fun h => (hq h).trans st.same
theorem len_nil : ∀ ε (r : List T × Envt), mNil ε = some r → r.1.length = ([] : List Expr).length := fun ε r h => by cases h; rfl
theorem len_cons (h : ∀ ε r, ml ε = some r → r.1.length = es.length) : ∀ ε r, mCons ma ml ε = some r → r.1.length = (a :: es).length := fun ε r h1 => by
  obtain ⟨x, ε1, xs, _, e2, e3⟩ := mCons_of (r := r.1) (ε' := r.2) h1
  rw [e3, List.length_cons, h _ _ e2]
  rfl

/-! built-ins: all arguments but the last are frozen -/
inductive RvL (K : PySem.W.Frag) (S : Addr → Prop) (H : Hp) : List V → List T → Prop
  | nil : RvL K S H [] []
  | cons {v : V} {t : T} {vs : List V} {ts : List T} : Rv K S H v t → RvL K S H vs ts → RvL K S H (v :: vs) (t :: ts)
theorem RvL.of {K : PySem.W.Frag} {S : Addr → Prop} {H : Hp} : ∀ {vs : List V} {ts : List T}, FzAll K S H vs ts → RvL K S H vs ts
  | _, _, .nil => .nil
  | _, _, .cons a b => .cons (.fz a) (RvL.of b)
structure RXs (X : Cx) (Γ : List Sh) (es : List Expr) (q : Bool) (m : Ml) : Prop where
  ex : ∃ t : TA, PA X es t ∧ ∀ S H σ ε F Q r ε', WF S H F → SR X.K X.mg S H Γ σ ε F → m ε = some (r, ε') →
    (∀ S' H' vs F', Evo S H F S' H' F' → SR X.K X.mg S' H' Γ σ ε' F' → RvL X.K S' H' vs r → (q = true → Same H H') → Q vs H') → t σ H Q
theorem rxs_one (ha : RX X Γ a q ma) (hs : starEach [a] X.env = (false, eval a X.env) :: starEach [] X.env := by rfl) : RXs X Γ [a] q (mCons ma mNil) := by
  obtain ⟨t, p, k⟩ := ha.ex
  refine ⟨_, pa_cons p pa_nil hs, fun S H σ ε F Q r ε' w sr hm fin => ?_⟩
  obtain ⟨x, ε1, xs, e1, e2, rfl⟩ := mCons_of hm
  cases e2
  exact k S H σ ε F _ x _ w sr e1 fun S1 H1 v F1 ev1 sr1 r1 hq1 => fin S1 H1 [v] F1 ev1 sr1 (.cons r1 .nil) hq1
theorem rxs_cons (ha : EX X Γ a .fro q1 ma) (hr : RXs X Γ es q2 ml) (hs : starEach (a :: es) X.env = (false, eval a X.env) :: starEach es X.env := by rfl) : RXs X Γ (a :: es) (q1 && q2) (mCons ma ml) := by
  obtain ⟨t, p, k⟩ := ha.ex
  obtain ⟨t2, p2, k2⟩ := hr.ex
  refine ⟨_, pa_cons p p2 hs, fun S H σ ε F Q r ε' w sr hm fin => ?_⟩
  obtain ⟨x, ε1, xs, e1, e2, rfl⟩ := mCons_of hm
  refine k S H σ ε F _ x ε1 w sr e1 fun S1 H1 v G F1 ev1 sr1 o1 hq1 => ?_
  obtain ⟨z, rfl⟩ := o1.fz
  exact k2 S1 H1 σ ε1 F1 _ xs ε' ev1.w1 sr1 e2 fun S2 H2 vs F2 ev2 sr2 zs hq2 => fin S2 H2 (v :: vs) F2 (ev1.trans ev2) sr2 (.cons (.fz (z.along ev2)) zs) (qand hq1 hq2)
/-- a reads, the rest changes nothing -/
theorem rxs_consQ (ha : RX X Γ a q1 ma) (hr : RXs X Γ es true ml) (hs : starEach (a :: es) X.env = (false, eval a X.env) :: starEach es X.env := by rfl) : RXs X Γ (a :: es) (q1 && true) (mCons ma ml) := by
  obtain ⟨t, p, k⟩ := ha.ex
  obtain ⟨t2, p2, k2⟩ := hr.ex
  refine ⟨_, pa_cons p p2 hs, fun S H σ ε F Q r ε' w sr hm fin => ?_⟩
  obtain ⟨x, ε1, xs, e1, e2, rfl⟩ := mCons_of hm
  refine k S H σ ε F _ x ε1 w sr e1 fun S1 H1 v F1 ev1 sr1 r1 hq1 => ?_
  exact k2 S1 H1 σ ε1 F1 _ xs ε' ev1.w1 sr1 e2 fun S2 H2 vs F2 ev2 sr2 zs hq2 => fin S2 H2 (v :: vs) F2 (ev1.trans ev2) sr2 (.cons (r1.mono ev2.sub (hq2 rfl)) zs) (qand hq1 hq2)
structure CallS (X : Cx) (f : Value) (sh : Sh) (g : List T → Option T) : Prop where
  ex : ∃ r : List V → Hp → VK → Prop, CallR X f r ∧ ∀ S H xs ts c Q, (∀ p, S p → H p ≠ none) → RvL X.K S H xs ts → g ts = some c → Put X S H sh c Q → r xs H Q
def mCall (g : List T → Option T) (ml : Ml) : Mx := fun ε => (ml ε).bind fun r => (g r.1).map fun z => (z, r.2)
theorem mCall_of {g : List T → Option T} {ε ε' : Envt} {r : T} (h : mCall g ml ε = some (r, ε')) : ∃ xs, ml ε = some (xs, ε') ∧ g xs = some r := by
  unfold mCall at h
  cases e1 : ml ε with
  | none => rw [e1] at h; cases h
  | some z1 =>
    obtain ⟨x, ε1⟩ := z1
    rw [e1] at h
    simp only [Option.bind_some] at h
    cases e3 : g x with
    | none => rw [e3] at h; cases h
    | some z => rw [e3] at h; cases h; exact ⟨x, rfl, e3⟩
theorem call_fin {f : Value} {g : List T → Option T} (hc : CallS X f sh g) (ha : RXs X Γ es q ml) (he : ∀ r t, CallR X f r → PA X es t → PE X e (tCB r t)) : EX X Γ e sh q (mCall g ml) := by
  obtain ⟨r, hr, kr⟩ := hc.ex
  obtain ⟨t, p, k⟩ := ha.ex
  refine ⟨_, he r t hr p, fun S H σ ε F Q z ε' w sr hm fin => ?_⟩
  obtain ⟨xs, e1, e2⟩ := mCall_of hm
  exact k S H σ ε F _ xs ε' w sr e1 fun S' H' vs F' ev sr' rl hq => kr S' H' vs xs z Q ev.w1.sl rl e2 (put_fin fin ev sr' hq)
theorem ex_callB {id : String} {g : List T → Option T} {x : Str} {p : Pos} (hc : CallS X (.builtin id) sh g) (hm : X.mg x = none) (ha : RXs X Γ (e :: es) q ml) (hg : Gl X x := by rfl) (hv : bootBuiltins x = some (.builtin id) := by decide +kernel) (hn : x ≠ "__name__" := by decide) (hdb : (x == ("__debug__" : Str)) = false := by decide)
    (h : ∀ r t, X.mg x = none → Gl X x → bootBuiltins x = some (.builtin id) → CallR X (.builtin id) r → PA X (e :: es) t → PE X (.Call (.Name x p) (e :: es) [] pos) (tCB r t) := by intro r t z1 z2 z3 h1 h2; exact pe_callB h1 (by assumption) (by assumption) (by assumption) h2) : EX X Γ (.Call (.Name x p) (e :: es) [] pos) sh q (mCall g ml) :=
  call_fin hc ha fun r t => h r t hm hg hv
theorem ex_callTy {T' : String} {g : List T → Option T} {x : Str} {p : Pos} (hc : CallS X (.type T') sh g) (hm : X.mg x = none) (ha : RXs X Γ (e :: es) q ml) (hg : Gl X x := by rfl) (hv : bootBuiltins x = some (.type T') := by decide +kernel) (hn : x ≠ "__name__" := by decide) (hdb : (x == ("__debug__" : Str)) = false := by decide)
    (h : ∀ r t, X.mg x = none → Gl X x → bootBuiltins x = some (.type T') → CallR X (.type T') r → PA X (e :: es) t → PE X (.Call (.Name x p) (e :: es) [] pos) (tCB r t) := by intro r t z1 z2 z3 h1 h2; exact pe_callTy h1 (by assumption) (by assumption) (by assumption) h2) : EX X Γ (.Call (.Name x p) (e :: es) [] pos) sh q (mCall g ml) :=
  call_fin hc ha fun r t => h r t hm hg hv
/-- a function of another module, by a name of this one -/
theorem ex_callF {id : String} {g : List T → Option T} {x : Str} {p : Pos} (hc : CallS X (.builtin id) sh g) (hm : X.mg x = some (.builtin id)) (ha : RXs X Γ (e :: es) q ml) (hg : Gl X x := by rfl) (hdb : (x == ("__debug__" : Str)) = false := by decide)
    (h : ∀ r t, X.mg x = some (.builtin id) → Gl X x → CallR X (.builtin id) r → PA X (e :: es) t → PE X (.Call (.Name x p) (e :: es) [] pos) (tCB r t) := by intro r t z1 z2 h1 h2; exact pe_callBfun h1 (by assumption) (by assumption) h2) : EX X Γ (.Call (.Name x p) (e :: es) [] pos) sh q (mCall g ml) :=
  call_fin hc ha fun r t => h r t hm hg

/-! subscripts -/
structure IxS (X : Cx) (sh : Sh) (g : T → T → Option T) : Prop where
  ex : ∃ r : R2, IxR X r ∧ ∀ S H x y a b c Q, (∀ p, S p → H p ≠ none) → Rv X.K S H x a → Rv X.K S H y b → g a b = some c → Put X S H sh c Q → r x y H Q
theorem ex_ix {g : T → T → Option T} (ho : IxS X sh g) (ha : EX X Γ a .fro q1 ma) (hb : RX X Γ b q2 mb) (hs : PlainIx b := by exact fun _ _ => rfl) : EX X Γ (.Subscript a b pos) sh (q1 && q2) (mBin g ma mb) := by
  obtain ⟨r, hr, kr⟩ := ho.ex
  obtain ⟨ta, tb, pa, pb, k⟩ := two ha hb
  refine ⟨_, pe_ix hr pa pb hs, fun S H σ ε F Q z ε' w sr hm fin => ?_⟩
  obtain ⟨x, ε1, y, e1, e2, e3⟩ := mBin_of hm
  exact k S H σ ε F _ x ε1 y ε' w sr e1 e2 fun S' H' u v F' ev sr' r1 r2 hq => kr S' H' u v x y z Q ev.w1.sl r1 r2 e3 (put_fin fin ev sr' hq)
theorem ex_ixQ {g : T → T → Option T} (ho : IxS X sh g) (ha : RX X Γ a q1 ma) (hb : RX X Γ b true mb) (hs : PlainIx b := by exact fun _ _ => rfl) : EX X Γ (.Subscript a b pos) sh (q1 && true) (mBin g ma mb) := by
  obtain ⟨r, hr, kr⟩ := ho.ex
  obtain ⟨ta, tb, pa, pb, k⟩ := twoQ ha hb
  refine ⟨_, pe_ix hr pa pb hs, fun S H σ ε F Q z ε' w sr hm fin => ?_⟩
  obtain ⟨x, ε1, y, e1, e2, e3⟩ := mBin_of hm
  exact k S H σ ε F _ x ε1 y ε' w sr e1 e2 fun S' H' u v F' ev sr' r1 r2 hq => kr S' H' u v x y z Q ev.w1.sl r1 r2 e3 (put_fin fin ev sr' hq)
/-- x[b], x a slot that is read when b is there -/
def mIxL (g : T → T → Option T) (i : Nat) (mb : Mx) : Mx := fun ε => (mVar i ε).bind fun _ => (mb ε).bind fun y => (mVar i y.2).bind fun x => (g x.1 y.1).map fun z => (z, y.2)
theorem ex_ixL {g : T → T → Option T} (i : Nat) {x : Str} {p : Pos} (ho : IxS X sh g) {s : Sh} (hb : RX X Γ b q2 mb) (hsh : rsh s = true := by rfl) (hΓ : Γ[i]? = some s := by rfl) (hs : PlainIx b := by exact fun _ _ => rfl)
    (hN : X.N[i]? = some x := by rfl) (hv : Vis X.env.scope x := by first | exact Or.inl rfl | exact Or.inr (Or.inl rfl) | exact Or.inr (Or.inr rfl)) (hd : (x == ("__debug__" : Str)) = false := by decide) (hc : (x == ("__classdict__" : Str)) = false := by decide) :
    EX X Γ (.Subscript (.Name x p) b pos) sh q2 (mIxL g i mb) := by
  obtain ⟨r, hr, kr⟩ := ho.ex
  obtain ⟨tb, pb, kb⟩ := hb.ex
  refine ⟨_, pe_ix hr (pe_var hN hv hd hc) pb hs, fun S H σ ε F Q z ε' w sr hm fin => ?_⟩
  unfold mIxL at hm
  cases e0 : mVar i ε with
  | none => rw [e0] at hm; cases hm
  | some z0 =>
    rw [e0] at hm
    simp only [Option.bind_some] at hm
    cases e1 : mb ε with
    | none => rw [e1] at hm; cases hm
    | some z1 =>
      obtain ⟨y, ε1⟩ := z1
      rw [e1] at hm
      simp only [Option.bind_some] at hm
      cases e2 : mVar i ε1 with
      | none => rw [e2] at hm; cases hm
      | some z2 =>
        obtain ⟨t, ε2⟩ := z2
        rw [e2] at hm
        simp only [Option.bind_some] at hm
        cases e3 : g t y with
        | none => rw [e3] at hm; cases hm
        | some z3 =>
          rw [e3] at hm
          cases hm
          obtain ⟨t0, ε0⟩ := z0
          obtain ⟨e0', _⟩ := mVar_of e0
          obtain ⟨e2', _⟩ := mVar_of e2
          obtain ⟨s0, v, _, _, _, eσ, _⟩ := sr.at i e0'
          refine ⟨v, eσ, kb S H σ ε F _ y _ w sr e1 fun S' H' u F' ev sr' r2 hq => ?_⟩
          obtain ⟨s1, v', _, _, es, eσ', o, _⟩ := sr'.at i e2'
          rw [eσ] at eσ'; cases eσ'
          rw [hΓ] at es; cases es
          exact kr S' H' v u t y _ Q ev.w1.sl (o.rv hsh) r2 e3 (put_fin fin ev sr' hq)

/-! slices -/
abbrev Mo := Envt → Option (Option Int × Envt)
structure OX (X : Cx) (Γ : List Sh) (o : Option Expr) (q : Bool) (m : Mo) : Prop where
  ex : ∃ t, PO X o t ∧ ∀ S H σ ε F Q r ε', WF S H F → SR X.K X.mg S H Γ σ ε F → m ε = some (r, ε') →
    (∀ S' H' F', Evo S H F S' H' F' → SR X.K X.mg S' H' Γ σ ε' F' → (q = true → Same H H') → Q r H') → t σ H Q
def mNoP : Mo := fun ε => some (none, ε)
def mP (m : Mx) : Mo := fun ε => (m ε).bind fun r => match r.1 with | .int i => some (some i, r.2) | _ => none
theorem ox_none : OX X Γ none true mNoP := ⟨_, po_none, fun S H σ ε F Q r ε' w sr hm fin => by cases hm; exact fin S H F (.refl w) sr fun _ => Same.refl H⟩
theorem ox_some (h : EX X Γ a .fro q ma) : OX X Γ (some a) q (mP ma) := by
  obtain ⟨t, p, k⟩ := h.ex
  refine ⟨_, po_some p, fun S H σ ε F Q r ε' w sr hm fin => ?_⟩
  unfold mP at hm
  cases e1 : ma ε with
  | none => rw [e1] at hm; cases hm
  | some y =>
    obtain ⟨c, ε1⟩ := y
    rw [e1] at hm
    simp only [Option.bind_some] at hm
    cases c with
    | int i =>
      cases hm
      refine k S H σ ε F _ _ _ w sr e1 fun S' H' v G F' ev sr' o hq => ?_
      obtain ⟨z, rfl⟩ := o.fz
      cases z
      exact ⟨i, rfl, fin S' H' F' ev sr' hq⟩
    | _ => cases hm
structure SlS (X : Cx) (sh : Sh) (g : T → Option Int → Option Int → Option T) : Prop where
  ex : ∃ r, SlR X r ∧ ∀ S H x a lo hi c Q, (∀ p, S p → H p ≠ none) → Rv X.K S H x a → g a lo hi = some c → Put X S H sh c Q → r x lo hi H Q
def mSl (g : T → Option Int → Option Int → Option T) (ma : Mx) (ml mh : Mo) : Mx := fun ε => (ma ε).bind fun x => (ml x.2).bind fun l => (mh l.2).bind fun u => (g x.1 l.1 u.1).map fun z => (z, u.2)
theorem mSl_of {g : T → Option Int → Option Int → Option T} {m1 m2 : Mo} {ε ε' : Envt} {r : T} (h : mSl g ma m1 m2 ε = some (r, ε')) :
    ∃ x ε1 l ε2 u, ma ε = some (x, ε1) ∧ m1 ε1 = some (l, ε2) ∧ m2 ε2 = some (u, ε') ∧ g x l u = some r := by
  unfold mSl at h
  cases e1 : ma ε with
  | none => rw [e1] at h; cases h
  | some z1 =>
    obtain ⟨x, ε1⟩ := z1
    rw [e1] at h
    simp only [Option.bind_some] at h
    cases e2 : m1 ε1 with
    | none => rw [e2] at h; cases h
    | some z2 =>
      obtain ⟨l, ε2⟩ := z2
      rw [e2] at h
      simp only [Option.bind_some] at h
      cases e3 : m2 ε2 with
      | none => rw [e3] at h; cases h
      | some z3 =>
        obtain ⟨u, ε3⟩ := z3
        rw [e3] at h
        simp only [Option.bind_some] at h
        cases e4 : g x l u with
        | none => rw [e4] at h; cases h
        | some z4 => rw [e4] at h; cases h; exact ⟨x, ε1, l, ε2, u, rfl, e2, e3, e4⟩
theorem ex_sl {g : T → Option Int → Option Int → Option T} {lo hi : Option Expr} {m1 m2 : Mo} {p2 : Pos} (ho : SlS X sh g) (ha : EX X Γ a .fro q1 ma) (hl : OX X Γ lo q2 m1) (hh : OX X Γ hi q3 m2) : EX X Γ (.Subscript a (.Slice lo hi none p2) pos) sh (q1 && q2 && q3) (mSl g ma m1 m2) := by
  obtain ⟨r, hr, kr⟩ := ho.ex
  obtain ⟨t, p, k⟩ := ha.ex
  obtain ⟨t1, p1, k1⟩ := hl.ex
  obtain ⟨t2, pp2, k2⟩ := hh.ex
  refine ⟨_, pe_slice hr p p1 pp2, fun S H σ ε F Q z ε' w sr hm fin => ?_⟩
  obtain ⟨x, ε1, l, ε2, u, e1, e2, e3, e4⟩ := mSl_of hm
  refine k S H σ ε F _ x ε1 w sr e1 fun S1 H1 v G F1 ev1 sr1 o1 hq1 => ?_
  obtain ⟨zx, rfl⟩ := o1.fz
  refine k1 S1 H1 σ ε1 F1 _ l ε2 ev1.w1 sr1 e2 fun S2 H2 F2 ev2 sr2 hq2 => k2 S2 H2 σ ε2 F2 _ u ε' ev2.w1 sr2 e3 fun S3 H3 F3 ev3 sr3 hq3 => ?_
  exact kr S3 H3 v x l u z Q ev3.w1.sl (.fz ((zx.along ev2).along ev3)) e4 (put_fin fin ((ev1.trans ev2).trans ev3) sr3 (qand (qand hq1 hq2) hq3))
theorem ex_slQ {g : T → Option Int → Option Int → Option T} {lo hi : Option Expr} {m1 m2 : Mo} {p2 : Pos} (ho : SlS X sh g) (ha : RX X Γ a q1 ma) (hl : OX X Γ lo true m1) (hh : OX X Γ hi true m2) : EX X Γ (.Subscript a (.Slice lo hi none p2) pos) sh (q1 && true && true) (mSl g ma m1 m2) := by
  obtain ⟨r, hr, kr⟩ := ho.ex
  obtain ⟨t, p, k⟩ := ha.ex
  obtain ⟨t1, p1, k1⟩ := hl.ex
  obtain ⟨t2, pp2, k2⟩ := hh.ex
  refine ⟨_, pe_slice hr p p1 pp2, fun S H σ ε F Q z ε' w sr hm fin => ?_⟩
  obtain ⟨x, ε1, l, ε2, u, e1, e2, e3, e4⟩ := mSl_of hm
  refine k S H σ ε F _ x ε1 w sr e1 fun S1 H1 v F1 ev1 sr1 rx hq1 => ?_
  refine k1 S1 H1 σ ε1 F1 _ l ε2 ev1.w1 sr1 e2 fun S2 H2 F2 ev2 sr2 hq2 => k2 S2 H2 σ ε2 F2 _ u ε' ev2.w1 sr2 e3 fun S3 H3 F3 ev3 sr3 hq3 => ?_
  exact kr S3 H3 v x l u z Q ev3.w1.sl ((rx.mono ev2.sub (hq2 rfl)).mono ev3.sub (hq3 rfl)) e4 (put_fin fin ((ev1.trans ev2).trans ev3) sr3 (qand (qand hq1 hq2) hq3))
end
end Dg

set_option Elab.async false
set_option linter.all false
set_option maxRecDepth 100000
namespace Dg
open PySem PySem.Spec PyProof.Rows L2
section
variable {X : Cx} {K : PySem.W.Frag} {S : Addr → Prop} {H : Hp}

/-! data -/
theorem Fz.dp {v : V} {t : T} (h : Fz K S H v t) : t.canLay0 = true → Dp K H v t :=
  Fz.rec (motive_1 := fun v t _ => t.canLay0 = true → Dp K H v t) (motive_2 := fun vs ts _ => PyData.canLayAll0 ts = true → DpAll K H vs ts)
    (fun _ => .non) (fun b _ => .bl b) (fun i _ => .int i) (fun x _ => .str x)
    (fun _ e _ ih h => .lst (SqL.of e) (ih (by simpa [PyData.canLay0] using h))) (fun _ e _ ih h => .tup (SqT.of e) (ih (by simpa [PyData.canLay0] using h)))
    (fun k _ ih h => .tup k.sq (ih (by simpa [PyData.canLay0] using h))) (fun _ _ _ _ _ h => by simp [PyData.canLay0] at h) (fun _ _ _ _ _ h => by simp [PyData.canLay0] at h)
    (fun _ => .nil) (fun _ _ i1 i2 h => by
      rw [PyData.canLayAll0, Bool.and_eq_true] at h
      exact .cons (i1 h.1) (i2 h.2)) h
theorem Rv.dp {v : V} {t : T} (sl : ∀ a, S a → H a ≠ none) (h : Rv K S H v t) (c : t.canLay0 = true) : Dp K H v t := (h.fzL sl).dp c
theorem shaped_lay {t : T} (h : SeqAt.shaped t = true) : t.canLay0 = true := SeqAt.canLay_of_shaped h

/-! operators -/
def opAdd : T → T → Option T
  | .int i, .int j => some (.int (i + j))
  | .str i, .str j => if i.length + j.length ≤ sizeLine then some (.str (i ++ j)) else none
  | .list xs, .list ys => if xs.length + ys.length ≤ sizeLine then some (.list (xs ++ ys)) else none
  | .tuple xs, .tuple ys => if xs.length + ys.length ≤ sizeLine then some (.tuple (xs ++ ys)) else none
  | _, _ => none
theorem os_add : OpS X (binaryOp .Add) (.lst .fro) opAdd := by
  refine ⟨_, .or op_add (.or op_add_str (.or op_cat op_catA)), fun S H x y a b c Q sl ra rb e put => ?_⟩
  cases a <;> cases b <;> try (cases e)
  · rename_i i j
    rw [ra.int, rb.int]
    exact .inl ⟨i, j, rfl, rfl, put.nowL sl (by intro ds z; cases z) (.int _)⟩
  · rename_i i j
    have e : (if i.length + j.length ≤ sizeLine then some (PyData.str (i ++ j)) else none) = some c := e
    by_cases h : i.length + j.length ≤ sizeLine
    · rw [if_pos h] at e; cases e
      rw [ra.str, rb.str]
      exact .inr (.inl ⟨i, j, rfl, rfl, h, put.nowL sl (by intro ds z; cases z) (.str _)⟩)
    · rw [if_neg h] at e; cases e
  · rename_i i j
    have e : (if i.length + j.length ≤ sizeLine then some (PyData.list (i ++ j)) else none) = some c := e
    by_cases h : i.length + j.length ≤ sizeLine
    · rw [if_pos h] at e; cases e
      obtain ⟨p, xs, rfl, hx, zx⟩ := ra.list
      obtain ⟨r, ys, rfl, hy, zy⟩ := rb.list
      refine .inr (.inr (.inl ⟨p, r, xs, ys, rfl, rfl, hx, hy, by rw [zx.length, zy.length]; exact h, fun n np => ?_⟩))
      have st := Step.ow (o := .lst (xs ++ ys)) sl np
      exact put _ _ _ _ st (.lst upd_same (OwAll.of ((zx.append zy).step st)))
    · rw [if_neg h] at e; cases e
  · rename_i i j
    have e : (if i.length + j.length ≤ sizeLine then some (PyData.tuple (i ++ j)) else none) = some c := e
    by_cases h : i.length + j.length ≤ sizeLine
    · rw [if_pos h] at e; cases e
      obtain ⟨p, xs, rfl, hx, zx, fx⟩ := ra.tuple
      obtain ⟨r, ys, rfl, hy, zy, fy⟩ := rb.tuple
      refine .inr (.inr (.inr ⟨p, r, xs, ys, rfl, rfl, hx, hy, by rw [zx.length, zy.length]; exact h, fun n => ?_, fun n n2 => ?_, fun n n2 w np => ?_⟩))
      · subst n
        cases zx
        exact put.nowL sl (by intro ds z; cases z) fy
      · subst n2
        cases zy
        exact put.nowL sl (by intro ds z; cases z) (by rw [List.append_nil]; exact fx)
      · have st := Step.fz (o := .tup (xs ++ ys)) sl np
        exact put _ _ _ _ st (.nol (by intro ds z; cases z) (.tup (.inr rfl) upd_same ((zx.append zy).step st)))
    · rw [if_neg h] at e; cases e
def int2 (f : Int → Int → Option T) : T → T → Option T
  | .int i, .int j => f i j
  | _, _ => none
theorem int2_of {f : Int → Int → Option T} {a b c : T} (h : int2 f a b = some c) : ∃ i j, a = .int i ∧ b = .int j ∧ f i j = some c := by
  cases a <;> cases b <;> first | cases h | exact ⟨_, _, rfl, rfl, h⟩
def opSub : T → T → Option T := int2 fun i j => some (.int (i - j))
theorem os_sub : OpS X (binaryOp .Sub) .fro opSub := by
  refine ⟨_, op_sub, fun S H x y a b c Q sl ra rb e put => ?_⟩
  obtain ⟨i, j, rfl, rfl, e2⟩ := int2_of e
  have e := e2
  cases e
  rw [ra.int, rb.int]
  exact ⟨i, j, rfl, rfl, put.now sl (.int _)⟩
/-- one factor within 64 bits -/
def mulOk (i j : Int) : Bool := (decide (-(2 ^ 64) < i) && decide (i < 2 ^ 64)) || (decide (-(2 ^ 64) < j) && decide (j < 2 ^ 64))
theorem mulOk_of {i j : Int} (h : mulOk i j = true) : CMul i j := by
  unfold mulOk at h
  simp only [Bool.or_eq_true, Bool.and_eq_true, decide_eq_true_eq] at h
  exact h
def opMulI : T → T → Option T := int2 fun i j => if mulOk i j = true then some (.int (i * j)) else none
theorem os_mulI : OpS X (binaryOp .Mult) .fro opMulI := by
  refine ⟨_, op_mul, fun S H x y a b c Q sl ra rb e put => ?_⟩
  obtain ⟨i, j, rfl, rfl, e2⟩ := int2_of e
  have e := e2
  by_cases h : mulOk i j = true
  · rw [if_pos h] at e; cases e
    rw [ra.int, rb.int]
    exact ⟨i, j, rfl, rfl, mulOk_of h, put.now sl (.int _)⟩
  · rw [if_neg h] at e; cases e
def opFdiv : T → T → Option T := int2 fun i j => if j ≠ 0 ∧ j.natAbs < 1073741824 then some (.int (i.fdiv j)) else none
theorem os_fdiv : OpS X (binaryOp .FloorDiv) .fro opFdiv := by
  refine ⟨_, op_fdivN, fun S H x y a b c Q sl ra rb e put => ?_⟩
  obtain ⟨i, j, rfl, rfl, e2⟩ := int2_of e
  have e := e2
  by_cases h : j ≠ 0 ∧ j.natAbs < 1073741824
  · rw [if_pos h] at e; cases e
    rw [ra.int, rb.int]
    exact ⟨i, j, rfl, rfl, h, put.now sl (.int _)⟩
  · rw [if_neg h] at e; cases e
def opMod : T → T → Option T := int2 fun i j => if j ≠ 0 then some (.int (i.fmod j)) else none
theorem os_mod : OpS X (binaryOp .Mod) .fro opMod := by
  refine ⟨_, op_modN, fun S H x y a b c Q sl ra rb e put => ?_⟩
  obtain ⟨i, j, rfl, rfl, e2⟩ := int2_of e
  have e := e2
  by_cases h : j ≠ 0
  · rw [if_pos h] at e; cases e
    rw [ra.int, rb.int]
    exact ⟨i, j, rfl, rfl, h, put.now sl (.int _)⟩
  · rw [if_neg h] at e; cases e
def opPow : T → T → Option T := int2 fun i j => if 0 ≤ j ∧ j ≤ 1000000 ∧ i.natAbs < 2 ^ 64 then some (.int (i ^ j.toNat)) else none
theorem os_pow : OpS X (binaryOp .Pow) .fro opPow := by
  refine ⟨_, op_pow, fun S H x y a b c Q sl ra rb e put => ?_⟩
  obtain ⟨i, j, rfl, rfl, e2⟩ := int2_of e
  have e := e2
  by_cases h : 0 ≤ j ∧ j ≤ 1000000 ∧ i.natAbs < 2 ^ 64
  · rw [if_pos h] at e; cases e
    rw [ra.int, rb.int]
    exact ⟨i, j, rfl, rfl, h, put.now sl (.int _)⟩
  · rw [if_neg h] at e; cases e
def opNeg : T → Option T
  | .int i => some (.int (-i))
  | _ => none
theorem us_neg : UnS X (unaryOp .USub) .fro opNeg := by
  refine ⟨_, un_neg, fun S H x a c Q sl ra e put => ?_⟩
  cases a <;> try (cases e)
  rename_i i
  rw [ra.int]
  exact ⟨i, rfl, put.now sl (.int _)⟩
theorem ex_neg {Γ : List Sh} {a : Expr} {q : Bool} {m : Mx} {pos : Pos} (ha : RX X Γ a q m) : EX X Γ (.UnaryOp .USub a pos) .fro q (mUn opNeg m) := ex_un us_neg ha fun _ _ p r => pe_un r p
/-! == and its kin -/
def opEq (a b : T) : Option T := if SeqAt.shaped a = true ∧ SeqAt.shaped b = true then some (.bool (PyData.eqv a b)) else none
def opNe (a b : T) : Option T := if SeqAt.shaped a = true ∧ SeqAt.shaped b = true then some (.bool (!PyData.eqv a b)) else none
theorem os_eq (hu : X.A.units + 64 < cLine) : OpS X (compareOp .Eq) .fro opEq := by
  refine ⟨_, op_eqD hu, fun S H x y a b c Q sl ra rb e put => ?_⟩
  unfold opEq at e
  by_cases h : SeqAt.shaped a = true ∧ SeqAt.shaped b = true
  · rw [if_pos h] at e; cases e
    exact ⟨a, b, ra.dp sl (shaped_lay h.1), rb.dp sl (shaped_lay h.2), h.1, h.2, put.now sl (.bl _)⟩
  · rw [if_neg h] at e; cases e
theorem os_ne (hu : X.A.units + 64 < cLine) : OpS X (compareOp .NotEq) .fro opNe := by
  refine ⟨_, op_neD hu, fun S H x y a b c Q sl ra rb e put => ?_⟩
  unfold opNe at e
  by_cases h : SeqAt.shaped a = true ∧ SeqAt.shaped b = true
  · rw [if_pos h] at e; cases e
    exact ⟨a, b, ra.dp sl (shaped_lay h.1), rb.dp sl (shaped_lay h.2), h.1, h.2, put.now sl (.bl _)⟩
  · rw [if_neg h] at e; cases e
/-- the order of alike data -/
def rLtA (K : PySem.W.Frag) : R2 := fun x y H Q => ∃ d e, Dp K H x d ∧ Dp K H y e ∧ PySem.W.alike d e = true ∧ d ≠ .none ∧ d.depth ≤ 64 ∧ Q (.bl (PySem.W.dataLt d e)) H
theorem op_ltA (hu : X.A.units + 64 < cLine) : OpR X (compareOp .Lt) (rLtA X.K) := by
  intro pins s σ H x y v u Q I rx ry h
  obtain ⟨d, e, hd, he, al, hn, dp, q⟩ := h
  obtain ⟨as, r1⟩ := Dp.reads I d x v hd rx
  obtain ⟨bs, r2⟩ := Dp.reads I e y u he ry
  exact PySem.W.rcLt_alike d e X.A s v u as bs r1 r2 al hn (by have := Nat.min_le_left d.depth e.depth; omega) _ _ _ _ ⟨.bl _, H, I, rfl, q⟩
def opLt : T → T → Option T
  | .int i, .int j => some (.bool (decide (i < j)))
  | .str i, .str j => some (.bool (decide (i.cps.toList < j.cps.toList)))
  | .tuple xs, .tuple ys => if PySem.W.alikeAll xs ys = true ∧ PyData.canLayAll0 xs = true ∧ PyData.canLayAll0 ys = true ∧ (PyData.tuple xs).depth ≤ 64 then some (.bool (PySem.W.dataLt (.tuple xs) (.tuple ys))) else none
  | _, _ => none
theorem os_lt (hu : X.A.units + 64 < cLine) : OpS X (compareOp .Lt) .fro opLt := by
  refine ⟨_, .or op_lt (.or op_lt_str (op_ltA hu)), fun S H x y a b c Q sl ra rb e put => ?_⟩
  cases a <;> cases b <;> try (cases e)
  · rw [ra.int, rb.int]
    exact .inl ⟨_, _, rfl, rfl, put.now sl (.bl _)⟩
  · rw [ra.str, rb.str]
    exact .inr (.inl ⟨_, _, rfl, rfl, put.now sl (.bl _)⟩)
  · rename_i xs ys
    have e : (if PySem.W.alikeAll xs ys = true ∧ PyData.canLayAll0 xs = true ∧ PyData.canLayAll0 ys = true ∧ (PyData.tuple xs).depth ≤ 64 then some (.bool (PySem.W.dataLt (.tuple xs) (.tuple ys))) else none) = some c := e
    by_cases h : PySem.W.alikeAll xs ys = true ∧ PyData.canLayAll0 xs = true ∧ PyData.canLayAll0 ys = true ∧ (PyData.tuple xs).depth ≤ 64
    · rw [if_pos h] at e; cases e
      exact .inr (.inr ⟨_, _, ra.dp sl (by rw [PyData.canLay0]; exact h.2.1), rb.dp sl (by rw [PyData.canLay0]; exact h.2.2.1), by rw [PySem.W.alike]; exact h.1, (fun z => nomatch z), h.2.2.2, put.now sl (.bl _)⟩)
    · rw [if_neg h] at e; cases e
def opLe : T → T → Option T
  | .int i, .int j => some (.bool (decide (i ≤ j)))
  | .str i, .str j => some (.bool (!decide (j.cps.toList < i.cps.toList)))
  | _, _ => none
theorem os_le : OpS X (compareOp .LtE) .fro opLe := by
  refine ⟨_, .or op_le op_le_str, fun S H x y a b c Q sl ra rb e put => ?_⟩
  cases a <;> cases b <;> cases e
  · rw [ra.int, rb.int]
    exact .inl ⟨_, _, rfl, rfl, put.now sl (.bl _)⟩
  · rw [ra.str, rb.str]
    exact .inr ⟨_, _, rfl, rfl, put.now sl (.bl _)⟩
def opGt : T → T → Option T
  | .int i, .int j => some (.bool (decide (j < i)))
  | .str i, .str j => some (.bool (decide (j.cps.toList < i.cps.toList)))
  | _, _ => none
theorem os_gt : OpS X (compareOp .Gt) .fro opGt := by
  refine ⟨_, .or op_gt op_gt_str, fun S H x y a b c Q sl ra rb e put => ?_⟩
  cases a <;> cases b <;> cases e
  · rw [ra.int, rb.int]
    exact .inl ⟨_, _, rfl, rfl, put.now sl (.bl _)⟩
  · rw [ra.str, rb.str]
    exact .inr ⟨_, _, rfl, rfl, put.now sl (.bl _)⟩
def opGe : T → T → Option T
  | .int i, .int j => some (.bool (decide (j ≤ i)))
  | .str i, .str j => some (.bool (!decide (i.cps.toList < j.cps.toList)))
  | _, _ => none
theorem os_ge : OpS X (compareOp .GtE) .fro opGe := by
  refine ⟨_, .or op_ge op_ge_str, fun S H x y a b c Q sl ra rb e put => ?_⟩
  cases a <;> cases b <;> cases e
  · rw [ra.int, rb.int]
    exact .inl ⟨_, _, rfl, rfl, put.now sl (.bl _)⟩
  · rw [ra.str, rb.str]
    exact .inr ⟨_, _, rfl, rfl, put.now sl (.bl _)⟩
/-! is None, is True .. -/
def isNon : T → Bool
  | .none => true
  | _ => false
theorem Rv.non_iff {v : V} {t : T} (h : Rv K S H v t) : decide (v = .non) = isNon t := by
  cases h with
  | fz z => cases z <;> rfl
  | lst => rfl
  | dK => rfl
  | dT => rfl
def opIs : T → T → Option T
  | a, .none => some (.bool (isNon a))
  | .bool a, .bool b => some (.bool (decide (a = b)))
  | _, _ => none
def opIsNot : T → T → Option T
  | a, .none => some (.bool (!isNon a))
  | .bool a, .bool b => some (.bool (!decide (a = b)))
  | _, _ => none
theorem os_is : OpS X (compareOp .Is) .fro opIs := by
  refine ⟨_, .or op_isN op_is_bl, fun S H x y a b c Q sl ra rb e put => ?_⟩
  cases b with
  | none =>
    have e : some (PyData.bool (isNon a)) = some c := by cases a <;> exact e
    cases e
    rw [rb.non]
    exact .inl ⟨rfl, by rw [ra.non_iff]; exact put.now sl (.bl _)⟩
  | bool k =>
    cases a <;> try (cases e)
    rw [ra.bl, rb.bl]
    exact .inr ⟨_, _, rfl, rfl, put.now sl (.bl _)⟩
  | _ => cases a <;> cases e
theorem os_isnot : OpS X (compareOp .IsNot) .fro opIsNot := by
  refine ⟨_, .or op_notN op_isnot_bl, fun S H x y a b c Q sl ra rb e put => ?_⟩
  cases b with
  | none =>
    have e : some (PyData.bool (!isNon a)) = some c := by cases a <;> exact e
    cases e
    rw [rb.non]
    exact .inl ⟨rfl, by rw [ra.non_iff]; exact put.now sl (.bl _)⟩
  | bool k =>
    cases a <;> try (cases e)
    rw [ra.bl, rb.bl]
    exact .inr ⟨_, _, rfl, rfl, put.now sl (.bl _)⟩
  | _ => cases a <;> cases e
/-! in, lists and tuples -/
def rInTD (K : PySem.W.Frag) : R2 := fun x y H Q => ∃ d ds, Dp K H x d ∧ Dp K H y (.tuple ds) ∧ SeqAt.shaped d = true ∧ SeqAt.shaped (.tuple ds) = true ∧ Q (.bl (ds.any fun z => PyData.eqv z d)) H
def rNotInTD (K : PySem.W.Frag) : R2 := fun x y H Q => ∃ d ds, Dp K H x d ∧ Dp K H y (.tuple ds) ∧ SeqAt.shaped d = true ∧ SeqAt.shaped (.tuple ds) = true ∧ Q (.bl (!ds.any fun z => PyData.eqv z d)) H
theorem op_inTD (hu : X.A.units + 65 < cLine) : OpR X (compareOp .In) (rInTD X.K) := by
  intro pins s σ H x y v u Q I rx ry h
  obtain ⟨d, ds, hd, he, sd, se, q⟩ := h
  obtain ⟨as, r1⟩ := Dp.reads I d x v hd rx
  obtain ⟨bs, r2⟩ := Dp.reads I (.tuple ds) y u he ry
  exact SeqAt.in_tuple_reads r2 r1 (SeqAt.canLay_of_shaped se) (SeqAt.canLay_of_shaped sd) (room_in_shaped sd hu) ⟨.bl _, H, I, rfl, q⟩
theorem op_notInTD (hu : X.A.units + 65 < cLine) : OpR X (compareOp .NotIn) (rNotInTD X.K) := by
  intro pins s σ H x y v u Q I rx ry h
  obtain ⟨d, ds, hd, he, sd, se, q⟩ := h
  obtain ⟨as, r1⟩ := Dp.reads I d x v hd rx
  obtain ⟨bs, r2⟩ := Dp.reads I (.tuple ds) y u he ry
  exact SeqAt.notIn_tuple_reads r2 r1 (SeqAt.canLay_of_shaped se) (SeqAt.canLay_of_shaped sd) (room_in_shaped sd hu) ⟨.bl _, H, I, rfl, q⟩
def opIn (f : Bool → Bool) : T → T → Option T
  | d, .list ds => if SeqAt.shaped d = true ∧ SeqAt.shaped (.list ds) = true then some (.bool (f (ds.any fun z => PyData.eqv z d))) else none
  | d, .tuple ds => if SeqAt.shaped d = true ∧ SeqAt.shaped (.tuple ds) = true then some (.bool (f (ds.any fun z => PyData.eqv z d))) else none
  | _, _ => none
theorem os_in (hu : X.A.units + 65 < cLine) : OpS X (compareOp .In) .fro (opIn id) := by
  refine ⟨_, .or (op_inD hu) (op_inTD hu), fun S H x y a b c Q sl ra rb e put => ?_⟩
  cases b with
  | list ds =>
    have e : (if SeqAt.shaped a = true ∧ SeqAt.shaped (.list ds) = true then some (PyData.bool (ds.any fun z => PyData.eqv z a)) else none) = some c := by cases a <;> exact e
    by_cases h : SeqAt.shaped a = true ∧ SeqAt.shaped (.list ds) = true
    · rw [if_pos h] at e; cases e
      exact .inl ⟨a, ds, ra.dp sl (shaped_lay h.1), rb.dp sl (shaped_lay h.2), h.1, h.2, put.now sl (.bl _)⟩
    · rw [if_neg h] at e; cases e
  | tuple ds =>
    have e : (if SeqAt.shaped a = true ∧ SeqAt.shaped (.tuple ds) = true then some (PyData.bool (ds.any fun z => PyData.eqv z a)) else none) = some c := by cases a <;> exact e
    by_cases h : SeqAt.shaped a = true ∧ SeqAt.shaped (.tuple ds) = true
    · rw [if_pos h] at e; cases e
      exact .inr ⟨a, ds, ra.dp sl (shaped_lay h.1), rb.dp sl (shaped_lay h.2), h.1, h.2, put.now sl (.bl _)⟩
    · rw [if_neg h] at e; cases e
  | _ => cases a <;> cases e
theorem os_notin (hu : X.A.units + 65 < cLine) : OpS X (compareOp .NotIn) .fro (opIn not) := by
  refine ⟨_, .or (op_notInD hu) (op_notInTD hu), fun S H x y a b c Q sl ra rb e put => ?_⟩
  cases b with
  | list ds =>
    have e : (if SeqAt.shaped a = true ∧ SeqAt.shaped (.list ds) = true then some (PyData.bool (!ds.any fun z => PyData.eqv z a)) else none) = some c := by cases a <;> exact e
    by_cases h : SeqAt.shaped a = true ∧ SeqAt.shaped (.list ds) = true
    · rw [if_pos h] at e; cases e
      exact .inl ⟨a, ds, ra.dp sl (shaped_lay h.1), rb.dp sl (shaped_lay h.2), h.1, h.2, put.now sl (.bl _)⟩
    · rw [if_neg h] at e; cases e
  | tuple ds =>
    have e : (if SeqAt.shaped a = true ∧ SeqAt.shaped (.tuple ds) = true then some (PyData.bool (!ds.any fun z => PyData.eqv z a)) else none) = some c := by cases a <;> exact e
    by_cases h : SeqAt.shaped a = true ∧ SeqAt.shaped (.tuple ds) = true
    · rw [if_pos h] at e; cases e
      exact .inr ⟨a, ds, ra.dp sl (shaped_lay h.1), rb.dp sl (shaped_lay h.2), h.1, h.2, put.now sl (.bl _)⟩
    · rw [if_neg h] at e; cases e
  | _ => cases a <;> cases e
/-! items, slices -/
theorem FzAll.atI {vs : List V} {ts : List T} {i : Int} {t : T} (z : FzAll K S H vs ts) (h : atI ts i = some t) : ∃ v, L2.atI vs i = some v ∧ Fz K S H v t := by
  unfold L2.atI at h ⊢
  rw [z.length]
  cases e : ixN ts.length i with
  | none => rw [e] at h; cases h
  | some j => rw [e] at h; exact z.get h
def opIx : T → T → Option T
  | .list ds, .int i => atI ds i
  | .tuple ds, .int i => atI ds i
  | .str z, .int i => if z.length ≤ sizeLine then (atI z.cps.toList i).map fun c => .str ⟨#[c]⟩ else none
  | _, _ => none
theorem is_ix : IxS X .fro opIx := by
  refine ⟨_, ix_seq, fun S H x y a b c Q sl ra rb e put => ?_⟩
  cases a <;> cases b <;> try (cases e)
  · rename_i z i
    have e : (if z.length ≤ sizeLine then (atI z.cps.toList i).map fun c => PyData.str ⟨#[c]⟩ else none) = some c := e
    by_cases h : z.length ≤ sizeLine
    · rw [if_pos h] at e
      obtain ⟨k, e1, e2⟩ := map_of e
      subst e2
      rw [ra.str, rb.int]
      exact .inr (.inr ⟨z, i, k, rfl, rfl, h, e1, put.now sl (.str _)⟩)
    · rw [if_neg h] at e; cases e
  · rename_i ds i
    obtain ⟨p, xs, rfl, hx, zx⟩ := ra.list
    obtain ⟨v, e1, z⟩ := zx.atI e
    rw [rb.int]
    exact .inl ⟨p, xs, i, v, rfl, rfl, SqL.of hx, e1, put.now sl z⟩
  · rename_i ds i
    obtain ⟨p, xs, rfl, hx, zx, _⟩ := ra.tuple
    obtain ⟨v, e1, z⟩ := zx.atI e
    rw [rb.int]
    exact .inr (.inl ⟨p, xs, i, v, rfl, rfl, hx, e1, put.now sl z⟩)
def cutA {α : Type} (xs : List α) (lo hi : Option Int) : List α := (xs.drop (HT.sIx xs.length 0 lo)).take (HT.sIx xs.length xs.length hi - HT.sIx xs.length 0 lo)
theorem FzAll.cut {vs : List V} {ts : List T} (z : FzAll K S H vs ts) (lo hi : Option Int) : FzAll K S H (cutV vs lo hi) (cutA ts lo hi) := by
  unfold cutV cutA
  rw [z.length]
  exact (z.drop _).take _
def opSl : T → Option Int → Option Int → Option T
  | .list ds, lo, hi => some (.list (cutA ds lo hi))
  | .tuple ds, lo, hi => some (.tuple (cutA ds lo hi))
  | .str z, lo, hi => if z.length ≤ sizeLine then some (.str (cutS z lo hi)) else none
  | _, _, _ => none
theorem cut_all {α : Type} {xs : List α} {lo hi : Option Int} (h : HT.sIx xs.length 0 lo = 0 ∧ HT.sIx xs.length xs.length hi = xs.length) : cutA xs lo hi = xs := by
  unfold cutA
  rw [h.1, h.2]
  simp
theorem ss_sl : SlS X (.lst .fro) opSl := by
  refine ⟨_, .or sl_list (.or sl_tupA sl_str), fun S H x a lo hi c Q sl ra e put => ?_⟩
  cases a <;> try (cases e)
  · rename_i z
    have e : (if z.length ≤ sizeLine then some (PyData.str (cutS z lo hi)) else none) = some c := e
    by_cases h : z.length ≤ sizeLine
    · rw [if_pos h] at e; cases e
      rw [ra.str]
      exact .inr (.inr ⟨z, rfl, h, put.nowL sl (by intro ds z; cases z) (.str _)⟩)
    · rw [if_neg h] at e; cases e
  · rename_i ds
    obtain ⟨p, xs, rfl, hx, zx⟩ := ra.list
    refine .inl ⟨p, xs, rfl, SqL.of hx, fun n np => ?_⟩
    have st := Step.ow (o := .lst (cutV xs lo hi)) sl np
    exact put _ _ _ _ st (.lst upd_same (OwAll.of ((zx.cut lo hi).step st)))
  · rename_i ds
    obtain ⟨p, xs, rfl, hx, zx, fx⟩ := ra.tuple
    refine .inr (.inl ⟨p, xs, rfl, hx, fun h => ?_, fun h n np => ?_⟩)
    · rw [zx.length] at h
      refine put.nowL sl (by intro ds z; cases z) ?_
      rw [cut_all h]
      exact fx
    · have st := Step.fz (o := .tup (cutV xs lo hi)) sl np
      exact put _ _ _ _ st (.nol (by intro ds z; cases z) (.tup (.inr rfl) upd_same ((zx.cut lo hi).step st)))
end
end Dg

set_option Elab.async false
set_option linter.all false
set_option maxRecDepth 100000
namespace Dg
open PySem PySem.Spec PyProof.Rows L2

/-! ### arguments of a def -/
inductive OwL (K : PySem.W.Frag) (mg : Str → Option Value) (S : Addr → Prop) (H : Hp) : List Sh → List V → List T → List Addr → Prop
  | nil : OwL K mg S H [] [] [] []
  | cons {s : Sh} {ss : List Sh} {v : V} {vs : List V} {t : T} {ts : List T} {F G : List Addr} : Ow K mg S H s v t F → OwL K mg S H ss vs ts G → OwL K mg S H (s :: ss) (v :: vs) (t :: ts) (F ++ G)
inductive ArgR (K : PySem.W.Frag) (mg : Str → Option Value) (S : Addr → Prop) (H : Hp) (Γ : List Sh) (σ : L2.St) : List Sh → List (Option Nat) → List V → List (Option T) → List Addr → Prop
  | nil : ArgR K mg S H Γ σ [] [] [] [] []
  | val {s : Sh} {ss : List Sh} {bs : List (Option Nat)} {v : V} {vs : List V} {t : T} {ts : List (Option T)} {F G : List Addr} : Ow K mg S H s v t F → ArgR K mg S H Γ σ ss bs vs ts G → ArgR K mg S H Γ σ (s :: ss) (none :: bs) (v :: vs) (some t :: ts) (F ++ G)
  | lent {s : Sh} {ss : List Sh} {i : Nat} {bs : List (Option Nat)} {v : V} {vs : List V} {ts : List (Option T)} {G : List Addr} : σ[i]? = some (some v) → Γ[i]? = some s → ArgR K mg S H Γ σ ss bs vs ts G → ArgR K mg S H Γ σ (s :: ss) (some i :: bs) (v :: vs) (none :: ts) G
/-- which slots' things were lent -/
inductive Lent (Γ : List Sh) (σ : L2.St) : List Sh → List (Option Nat) → List V → Prop
  | nil : Lent Γ σ [] [] []
  | val {s : Sh} {ss : List Sh} {bs : List (Option Nat)} {v : V} {vs : List V} : Lent Γ σ ss bs vs → Lent Γ σ (s :: ss) (none :: bs) (v :: vs)
  | lent {s : Sh} {ss : List Sh} {i : Nat} {bs : List (Option Nat)} {v : V} {vs : List V} : σ[i]? = some (some v) → Γ[i]? = some s → Lent Γ σ ss bs vs → Lent Γ σ (s :: ss) (some i :: bs) (v :: vs)
abbrev Ma := Envt → Option (List (Option T) × Envt)
section
variable {K : PySem.W.Frag} {mg : Str → Option Value} {S S' : Addr → Prop} {H H' : Hp} {Γ : List Sh} {σ : L2.St} {F F' G R : List Addr}
theorem OwL.mono (hs : ∀ a, S a → S' a) (hk : ∀ a o, S a → H a = some o → H' a = some o) : ∀ {ss : List Sh} {vs : List V} {ts : List T} {F : List Addr}, OwL K mg S H ss vs ts F → (∀ a o, a ∈ F → H a = some o → H' a = some o) → OwL K mg S' H' ss vs ts F
  | _, _, _, _, .nil, _ => .nil
  | _, _, _, _, .cons a b, k => .cons (a.mono hs hk fun x o m => k x o (List.mem_append_left _ m)) (b.mono hs hk fun x o m => k x o (List.mem_append_right _ m))
theorem OwL.length : ∀ {ss : List Sh} {vs : List V} {ts : List T} {F : List Addr}, OwL K mg S H ss vs ts F → vs.length = ss.length ∧ ts.length = ss.length
  | _, _, _, _, .nil => ⟨rfl, rfl⟩
  | _, _, _, _, .cons _ b => by simp [b.length.1, b.length.2]
def froB : Sh → Bool
  | .fro => true
  | .scr => true
  | _ => false
def allFro (ss : List Sh) : Bool := ss.all froB
theorem OwL.quiet : ∀ {ss : List Sh} {vs : List V} {ts : List T} {F : List Addr}, OwL K mg S H ss vs ts F → allFro ss = true → F = []
  | _, _, _, _, .nil, _ => rfl
  | _, _, _, _, .cons (s := s) a b, h => by
    unfold allFro at h
    rw [List.all_cons, Bool.and_eq_true] at h
    have e := b.quiet h.2
    subst e
    cases a with
    | fro => rfl
    | scr => rfl
    | _ => exact absurd h.1 Bool.false_ne_true
theorem ArgR.mono (hs : ∀ a, S a → S' a) (hk : ∀ a o, S a → H a = some o → H' a = some o) : ∀ {ss : List Sh} {bs : List (Option Nat)} {vs : List V} {ts : List (Option T)} {F : List Addr}, ArgR K mg S H Γ σ ss bs vs ts F → (∀ a o, a ∈ F → H a = some o → H' a = some o) → ArgR K mg S' H' Γ σ ss bs vs ts F
  | _, _, _, _, _, .nil, _ => .nil
  | _, _, _, _, _, .val a b, k => .val (a.mono hs hk fun x o m => k x o (List.mem_append_left _ m)) (b.mono hs hk fun x o m => k x o (List.mem_append_right _ m))
  | _, _, _, _, _, .lent a b c, k => .lent a b (c.mono hs hk k)
def lents : List (Option Nat) → List Nat
  | [] => []
  | none :: b => lents b
  | some i :: b => i :: lents b
def mFill : List (Option Nat) → List (Option T) → Envt → Option (List T × Envt)
  | [], [], ε => some ([], ε)
  | none :: b, some t :: ts, ε => (mFill b ts ε).map fun r => (t :: r.1, r.2)
  | some i :: b, none :: ts, ε => match ε[i]? with
    | some (some t) => (mFill b ts (ε.set i none)).map fun r => (t :: r.1, r.2)
    | _ => none
  | _, _, _ => none
def mBack : List (Option Nat) → List T → Envt → Envt
  | none :: b, _ :: ts, ε => mBack b ts ε
  | some i :: b, t :: ts, ε => mBack b ts (ε.set i (some t))
  | _, _, ε => ε
theorem set_same {α : Type} {l : List α} {i : Nat} {x : α} (h : l[i]? = some x) : l.set i x = l := List.ext_getElem? fun j => by
  by_cases hj : i = j
  · subst hj
    rw [List.getElem?_set_self (List.getElem?_eq_some_iff.mp h).1, h]
  · rw [List.getElem?_set_ne hj]
theorem fill_ok : ∀ {ss : List Sh} {bs : List (Option Nat)} {vs : List V} {ts : List (Option T)} {G : List Addr} {ε ε2 : Envt} {F : List Addr} {full : List T},
    ArgR K mg S H Γ σ ss bs vs ts G → SR K mg S H Γ σ ε F → mFill bs ts ε = some (full, ε2) →
      Lent Γ σ ss bs vs ∧ (lents bs).Nodup ∧ (∀ i ∈ lents bs, ε2[i]? = some none ∧ ∃ t, ε[i]? = some (some t)) ∧ (∀ i : Nat, ε[i]? = some none → ε2[i]? = some none) ∧
        ∃ G2 F2, (G ++ F).Perm (G2 ++ F2) ∧ OwL K mg S H ss vs full G2 ∧ SR K mg S H Γ σ ε2 F2
  | _, _, _, _, _, ε, ε2, F, full, .nil, sr, h => by
    cases h
    exact ⟨.nil, .nil, (fun i m => by cases m), (fun i e => e), [], F, .refl _, .nil, sr⟩
  | _, _, _, _, _, ε, ε2, F, full, .val (F := F0) (G := G0) (t := t) (ts := ts) o ar, sr, h => by
    obtain ⟨⟨r, ε3⟩, e1, e2⟩ := map_of h
    cases e2
    obtain ⟨l, nd, ln, kp, G2, F2, p, ol, sr2⟩ := fill_ok ar sr e1
    refine ⟨.val l, nd, ln, kp, F0 ++ G2, F2, ?_, .cons o ol, sr2⟩
    rw [List.append_assoc, List.append_assoc]
    exact p.append_left F0
  | _, _, _, _, _, ε, ε2, F, full, .lent (i := i) (v := v) eσ eΓ ar, sr, h => by
    unfold mFill at h
    split at h
    · rename_i t et
      obtain ⟨⟨r, ε3⟩, e1, e2⟩ := map_of h
      cases e2
      obtain ⟨s', v', G', R, es, ev, ow, p, _, F2, p2, k2⟩ := sr.at i et
      rw [eσ] at ev; cases ev
      rw [eΓ] at es; cases es
      have sr1 := k2 (some v)
      rw [set_same eσ] at sr1
      obtain ⟨l, nd, ln, kp, G3, F3, p3, ol, sr3⟩ := fill_ok ar sr1 e1
      have li : i < ε.length := (List.getElem?_eq_some_iff.mp et).1
      have e0 : (ε.set i none)[i]? = some none := List.getElem?_set_self li
      have ni : i ∉ lents _ := fun m => by
        obtain ⟨_, t', e'⟩ := ln i m
        rw [e0] at e'; cases e'
      refine ⟨.lent eσ eΓ l, List.nodup_cons.mpr ⟨ni, nd⟩, fun j m => ?_, fun j ej => ?_, G' ++ G3, F3, ?_, .cons ow ol, sr3⟩
      · rcases List.mem_cons.mp m with rfl | m
        · exact ⟨kp _ e0, t, et⟩
        · obtain ⟨a, t', e'⟩ := ln j m
          refine ⟨a, t', ?_⟩
          by_cases q : i = j
          · subst q; rw [e0] at e'; cases e'
          · rw [List.getElem?_set_ne q] at e'; exact e'
      · refine kp j ?_
        by_cases q : i = j
        · subst q; exact e0
        · rw [List.getElem?_set_ne q]; exact ej
      · rw [List.append_assoc]
        refine (p.append_left _).trans ?_
        have mv : ∀ (A B C : List Addr), (A ++ (B ++ C)).Perm (B ++ (A ++ C)) := fun A B C => by
          rw [← List.append_assoc, ← List.append_assoc]
          exact List.Perm.append_right _ List.perm_append_comm
        exact (mv _ _ _).trans (((p2.symm.append_left _).trans p3).append_left G')
    · cases h
theorem back_ok : ∀ {ss : List Sh} {bs : List (Option Nat)} {vs : List V} {ts : List T} {G : List Addr} {ε : Envt} {F : List Addr},
    Lent Γ σ ss bs vs → OwL K mg S H ss vs ts G → SR K mg S H Γ σ ε F → (lents bs).Nodup → (∀ i ∈ lents bs, ε[i]? = some none) → ∃ D F', (G ++ F).Perm (D ++ F') ∧ SR K mg S H Γ σ (mBack bs ts ε) F'
  | _, _, _, _, _, ε, F, .nil, .nil, sr, _, _ => ⟨[], F, .refl _, sr⟩
  | _, _, _, _, _, ε, F, .val l, .cons (F := F0) (G := G0) o ol, sr, nd, hn => by
    obtain ⟨D, F', p, sr'⟩ := back_ok l ol sr nd hn
    refine ⟨F0 ++ D, F', ?_, sr'⟩
    rw [List.append_assoc, List.append_assoc]
    exact p.append_left F0
  | _, _, _, _, _, ε, F, .lent (i := i) eσ eΓ l, .cons (F := F0) (G := G0) (t := t) o ol, sr, nd, hn => by
    obtain ⟨F1, p1, sr1⟩ := sr.put i (hn i List.mem_cons_self) eΓ o
    rw [set_same eσ] at sr1
    have nd := List.nodup_cons.mp nd
    obtain ⟨D, F', p, sr'⟩ := back_ok (ε := ε.set i (some t)) l ol sr1 nd.2 (fun j m => by
      have q : i ≠ j := fun z => nd.1 (z ▸ m)
      rw [List.getElem?_set_ne q]
      exact hn j (List.mem_cons_of_mem _ m))
    refine ⟨D, F', ?_, sr'⟩
    have mv : ∀ (A B C : List Addr), (A ++ (B ++ C)).Perm (B ++ (A ++ C)) := fun A B C => by
      rw [← List.append_assoc, ← List.append_assoc]
      exact List.Perm.append_right _ List.perm_append_comm
    refine List.Perm.trans ?_ p
    rw [List.append_assoc]
    exact (mv _ _ _).trans (p1.symm.append_left G0)
end

/-- an argument list for a def: m gives the values; lent things are told by their slots -/
structure AX (X : Cx) (Γ : List Sh) (es : List Expr) (shs : List Sh) (bs : List (Option Nat)) (q : Bool) (m : Ma) : Prop where
  ex : ∃ t : TA, PA X es t ∧ ∀ S H σ ε F Q r ε', WF S H F → SR X.K X.mg S H Γ σ ε F → m ε = some (r, ε') →
    (∀ S' H' vs G F', Evo S H F S' H' (G ++ F') → SR X.K X.mg S' H' Γ σ ε' F' → ArgR X.K X.mg S' H' Γ σ shs bs vs r G → (q = true → Same H H') → Q vs H') → t σ H Q
def aNil : Ma := fun ε => some ([], ε)
def aVal (ma : Mx) (ml : Ma) : Ma := fun ε => (ma ε).bind fun x => (ml x.2).map fun r => (some x.1 :: r.1, r.2)
def aLent (i : Nat) (ml : Ma) : Ma := fun ε => (mVar i ε).bind fun _ => (ml ε).map fun r => (none :: r.1, r.2)
section
variable {X : Cx} {Γ : List Sh} {e a b c : Expr} {es : List Expr} {sh shr : Sh} {shs : List Sh} {bs : List (Option Nat)} {q q1 q2 q3 : Bool} {m ma mb mc : Mx} {ml : Ml} {al : Ma} {pos : Pos}
theorem ax_nil : AX X Γ [] [] [] true aNil := ⟨tNil, pa_nil, fun S H σ ε F Q r ε' w sr hm fin => by cases hm; exact fin S H [] [] F (.refl w) sr .nil fun _ => Same.refl H⟩
theorem ax_val (ha : EX X Γ a sh q1 ma) (hr : AX X Γ es shs bs q2 al) (hs : starEach (a :: es) X.env = (false, eval a X.env) :: starEach es X.env := by rfl) : AX X Γ (a :: es) (sh :: shs) (none :: bs) (q1 && q2) (aVal ma al) := by
  obtain ⟨t, p, k⟩ := ha.ex
  obtain ⟨t2, p2, k2⟩ := hr.ex
  refine ⟨_, pa_cons p p2 hs, fun S H σ ε F Q r ε' w sr hm fin => ?_⟩
  unfold aVal at hm
  cases e1 : ma ε with
  | none => rw [e1] at hm; cases hm
  | some y =>
    obtain ⟨x, ε1⟩ := y
    rw [e1] at hm
    simp only [Option.bind_some] at hm
    obtain ⟨⟨xs, ε2⟩, e2, e3⟩ := map_of hm
    cases e3
    refine k S H σ ε F _ x ε1 w sr e1 fun S1 H1 v G F1 ev1 sr1 o1 hq1 => ?_
    refine k2 S1 H1 σ ε1 F1 _ xs ε2 ev1.dropL.w1 sr1 e2 fun S2 H2 vs G2 F2 ev2 sr2 ar hq2 => ?_
    refine fin S2 H2 (v :: vs) (G ++ G2) F2 ?_ sr2 (.val (o1.along ev2 ev1.w1) ar) (qand hq1 hq2)
    rw [List.append_assoc]
    exact ev1.trans (ev2.around ev1.w1)
theorem ax_lent (i : Nat) {x : Str} {p0 : Pos} (hr : AX X Γ es shs bs q2 al) (hΓ : Γ[i]? = some sh := by rfl) (hs : starEach (.Name x p0 :: es) X.env = (false, eval (.Name x p0) X.env) :: starEach es X.env := by rfl)
    (hN : X.N[i]? = some x := by rfl) (hv : Vis X.env.scope x := by first | exact Or.inl rfl | exact Or.inr (Or.inl rfl) | exact Or.inr (Or.inr rfl)) (hd : (x == ("__debug__" : Str)) = false := by decide) (hc : (x == ("__classdict__" : Str)) = false := by decide) :
    AX X Γ (.Name x p0 :: es) (sh :: shs) (some i :: bs) q2 (aLent i al) := by
  obtain ⟨t2, p2, k2⟩ := hr.ex
  refine ⟨_, pa_cons (pe_var hN hv hd hc) p2 hs, fun S H σ ε F Q r ε' w sr hm fin => ?_⟩
  unfold aLent at hm
  cases e1 : mVar i ε with
  | none => rw [e1] at hm; cases hm
  | some y =>
    obtain ⟨x, ε1⟩ := y
    rw [e1] at hm
    simp only [Option.bind_some] at hm
    obtain ⟨⟨xs, ε2⟩, e2, e3⟩ := map_of hm
    cases e3
    obtain ⟨s, v, _, _, es', eσ, _⟩ := sr.at i (mVar_of e1).1
    refine ⟨v, eσ, k2 S H σ ε F _ xs ε2 w sr e2 fun S2 H2 vs G2 F2 ev2 sr2 ar hq2 => ?_⟩
    exact fin S2 H2 (v :: vs) G2 F2 ev2 sr2 (.lent eσ hΓ ar) hq2

/-! ### a def's promise by its run -/
abbrev Mf := List T → Option (T × List T)
def spM (K : PySem.W.Frag) (mg : Str → Option Value) (shs : List Sh) (shr : Sh) (fm : Mf) : Sp := fun vs H Q _ => ∃ S G ts r outs, WF S H G ∧ OwL K mg S H shs vs ts G ∧ fm ts = some (r, outs) ∧
  ∀ S' H' v Gr Go, Evo S H G S' H' (Gr ++ Go) → OwL K mg S' H' shs vs outs Go → Ow K mg S' H' shr v r Gr → Q v H'
def mCallU (fm : Mf) (bs : List (Option Nat)) (al : Ma) : Mx := fun ε => (al ε).bind fun a => (mFill bs a.1 a.2).bind fun f => (fm f.1).map fun o => (o.1, mBack bs o.2 f.2)
theorem mCallU_of {fm : Mf} {ε ε' : Envt} {r : T} (h : mCallU fm bs al ε = some (r, ε')) : ∃ ts ε1 full ε2 outs, al ε = some (ts, ε1) ∧ mFill bs ts ε1 = some (full, ε2) ∧ fm full = some (r, outs) ∧ ε' = mBack bs outs ε2 := by
  unfold mCallU at h
  cases e1 : al ε with
  | none => rw [e1] at h; cases h
  | some z1 =>
    obtain ⟨ts, ε1⟩ := z1
    rw [e1] at h
    simp only [Option.bind_some] at h
    cases e2 : mFill bs ts ε1 with
    | none => rw [e2] at h; cases h
    | some z2 =>
      obtain ⟨full, ε2⟩ := z2
      rw [e2] at h
      simp only [Option.bind_some] at h
      obtain ⟨⟨r', outs⟩, e3, e4⟩ := map_of h
      cases e4
      exact ⟨ts, ε1, full, ε2, outs, rfl, e2, e3, rfl⟩
/-- what follows a call -/
theorem call_end {fm : Mf} {S S1 : Addr → Prop} {H H1 : Hp} {σ : L2.St} {ε1 ε2 : Envt} {F F1 G : List Addr} {vs : List V} {ts : List (Option T)} {full outs : List T} {r : T} {Q : VK}
    (ev : Evo S H F S1 H1 (G ++ F1)) (sr : SR X.K X.mg S1 H1 Γ σ ε1 F1) (ar : ArgR X.K X.mg S1 H1 Γ σ shs bs vs ts G) (hq : q = true → Same H H1) (e2 : mFill bs ts ε1 = some (full, ε2)) (e3 : fm full = some (r, outs))
    (fin : Fin X Γ S H F σ shr (q && allFro shs) r (mBack bs outs ε2) Q) (E : XK) : spM X.K X.mg shs shr fm vs H1 Q E := by
  obtain ⟨l, nd, ln, _, G2, F2, p, ol, sr2⟩ := fill_ok ar sr e2
  have ev' := ev.perm p
  refine ⟨S1, G2, full, r, outs, ev'.w1.left, ol, e3, fun S' H' v Gr Go evc oo orr => ?_⟩
  have w2 : WF S1 H1 (F2 ++ G2) := ev'.w1.perm List.perm_append_comm
  have eva := evc.around w2
  have sr3 : SR X.K X.mg S' H' Γ σ ε2 F2 := sr2.mono evc.sub evc.kS fun a o m h => evc.keep a o h fun m1 => (List.nodup_append.mp w2.nd).2.2 a m a m1 rfl
  obtain ⟨D, F', p3, sr4⟩ := back_ok l oo sr3 nd fun i m => (ln i m).1
  have pp : (F2 ++ (Gr ++ Go)).Perm (D ++ (Gr ++ F')) := by
    have h1 : (F2 ++ (Gr ++ Go)).Perm (Gr ++ (Go ++ F2)) := by
      refine (List.perm_append_comm).trans ?_
      rw [List.append_assoc]
    refine h1.trans ((p3.append_left Gr).trans ?_)
    rw [← List.append_assoc, ← List.append_assoc]
    exact List.Perm.append_right _ List.perm_append_comm
  refine fin S' H' v Gr F' ((ev'.trans ((eva.perm pp).perm0 List.perm_append_comm)).dropL) sr4 orr fun h => ?_
  rw [Bool.and_eq_true] at h
  refine (hq h.1).trans fun a o e => evc.keep a o e fun m => ?_
  rw [ol.quiet h.2] at m
  cases m
theorem ex_call {fm : Mf} {k : Nat} {f : Addr} {fd : FuncData} {ps : List Str} {x : Str} {p : Pos} (FO : FnOk X.prog X.w X.K X.mg X.base CX0 k f fd ps (spM X.K X.mg shs shr fm)) (hr : Room k X.A) (hm : X.mg x = some (.ref f)) (hk : PySem.W.keepIn X.K (.ref f) = true) (hb : Binds X.K fd ps [])
    (ha : AX X Γ (e :: es) shs bs q al) (hg : Gl X x := by rfl) (hdb : (x == ("__debug__" : Str)) = false := by decide)
    (h : ∀ sp t, Room k X.A → X.mg x = some (.ref f) → PySem.W.keepIn X.K (.ref f) = true → Binds X.K fd ps [] → Gl X x → FnOk X.prog X.w X.K X.mg X.base CX0 k f fd ps sp → PA X (e :: es) t → PE X (.Call (.Name x p) (e :: es) [] pos) (tCall sp [] E0 t) := by intro sp t z1 z2 z3 z4 z5 h1 h2; exact pe_call h1 (by assumption) (by assumption) (by assumption) (by assumption) (by assumption) .nil pass0 h2) :
    EX X Γ (.Call (.Name x p) (e :: es) [] pos) shr (q && allFro shs) (mCallU fm bs al) := by
  obtain ⟨t, pa, kk⟩ := ha.ex
  refine ⟨_, h _ t hr hm hk hb hg FO pa, fun S H σ ε F Q r ε' w sr hm fin => ?_⟩
  obtain ⟨ts, ε1, full, ε2, outs, e1, e2, e3, rfl⟩ := mCallU_of hm
  refine kk S H σ ε F _ ts ε1 w sr e1 fun S1 H1 vs G F1 ev1 sr1 ar hq => ?_
  show spM X.K X.mg shs shr fm (vs ++ []) H1 Q E0
  rw [List.append_nil]
  exact call_end ev1 sr1 ar hq e2 e3 fin E0
end
end Dg

set_option Elab.async false
set_option linter.all false
set_option maxRecDepth 100000
namespace Dg
open PySem PySem.Spec PyProof.Rows L2

section
variable {K : PySem.W.Frag} {mg : Str → Option Value} {S S' S1 S2 : Addr → Prop} {H H' H1 H2 : Hp} {Γ : List Sh} {F F' G R : List Addr}
theorem Evo.write {a : Addr} {o : HO} (w : WF S H F) (m : a ∈ F) : Evo S H F S (upd H a o) F := by
  have nz : ∀ b, H b ≠ none → upd H a o b ≠ none := fun b h => by
    by_cases q : b = a
    · subst q; rw [upd_same]; exact fun z => nomatch z
    · rw [upd_ne q]; exact h
  refine ⟨w, ⟨w.nd, w.sep, fun b h => nz b (w.live b h), fun b h => nz b (w.sl b h)⟩, fun b x e h => ?_, fun b h => h, fun b h => h.imp_right .inl⟩
  rw [upd_ne (fun z => by subst z; exact h m)]
  exact e
/-- a new thing is put into a slot -/
theorem SR.assign {σ : L2.St} {ε : Envt} {i : Nat} {s : Sh} {v : V} {t : T} (sr : SR K mg S H Γ σ ε F) (hΓ : Γ[i]? = some s) (o : Ow K mg S H s v t G) : ∃ D F', (G ++ F).Perm (D ++ F') ∧ SR K mg S H Γ (σ.set i (some v)) (ε.set i (some t)) F' := by
  have hl : i < ε.length := by rw [sr.len.2]; exact (List.getElem?_eq_some_iff.mp hΓ).1
  cases e : ε[i] with
  | none =>
    obtain ⟨F', p, sr'⟩ := sr.put i (by rw [List.getElem?_eq_getElem hl, e]) hΓ o
    exact ⟨[], F', p.symm, sr'⟩
  | some t0 =>
    obtain ⟨s', v', G0, R, es, ev, ow, p, k1, _⟩ := sr.at i (by rw [List.getElem?_eq_getElem hl, e])
    rw [hΓ] at es; cases es
    obtain ⟨F', q, sr'⟩ := k1 v t G o
    refine ⟨G0, F', ?_, sr'⟩
    have mv : ∀ (A B C : List Addr), (A ++ (B ++ C)).Perm (B ++ (A ++ C)) := fun A B C => by
      rw [← List.append_assoc, ← List.append_assoc]
      exact List.Perm.append_right _ List.perm_append_comm
    exact (p.append_left G).trans ((mv _ _ _).trans (q.symm.append_left G0))
end

/-! ### targets -/
abbrev Mg := T → Envt → Option Envt
def cG (X : Cx) (Γ : List Sh) (sl : List Nat) (m : Mg) : TG := fun v σ H Q => ∃ S ε F t ε', WF S H F ∧ SR X.K X.mg S H Γ σ ε F ∧ Fz X.K S H v t ∧ m t ε = some ε' ∧
  ∀ σ' F', Evo S H F S H F' → SR X.K X.mg S H Γ σ' ε' F' → (∀ i, i ∉ sl → σ'[i]? = σ[i]?) → σ'.length = σ.length → Q σ' H
structure GX (X : Cx) (Γ : List Sh) (tg : Expr) (sl : List Nat) (m : Mg) : Prop where
  ex : PG X tg (cG X Γ sl m)
abbrev Mgs := List T → Envt → Option Envt
structure GXs (X : Cx) (Γ : List Sh) (ts : List Expr) (sl : List Nat) (m : Mgs) : Prop where
  ex : PGs X ts (fun vs σ H Q => ∃ S ε F t ε', WF S H F ∧ SR X.K X.mg S H Γ σ ε F ∧ FzAll X.K S H vs t ∧ m t ε = some ε' ∧
    ∀ σ' F', Evo S H F S H F' → SR X.K X.mg S H Γ σ' ε' F' → (∀ i, i ∉ sl → σ'[i]? = σ[i]?) → σ'.length = σ.length → Q σ' H)
section
variable {X : Cx} {Γ : List Sh} {tg e : Expr} {es : List Expr} {sl sl2 : List Nat} {m : Mg} {ms : Mgs} {pos : Pos}
theorem pgImp {t t' : TG} (h : PG X tg t) (k : ∀ v σ H Q, t' v σ H Q → t v σ H Q) : PG X tg t' := ⟨fun pins s σ H v u Q I r hq => h.run pins s σ H v u Q I r (k _ _ _ _ hq)⟩
theorem pgsImp {t t' : TGs} (h : PGs X es t) (k : ∀ v σ H Q, t' v σ H Q → t v σ H Q) : PGs X es t' := ⟨fun pins s σ H v u Q I r hq => h.run pins s σ H v u Q I r (k _ _ _ _ hq)⟩
def gSet (i : Nat) : Mg := fun t ε => some (ε.set i (some t))
theorem gx_name (i : Nat) {x : Str} (hN : X.N.Nodup) (hΓ : Γ[i]? = some .fro := by rfl) (hi : X.N[i]? = some x := by rfl) (hx : Loc X.env.scope x := by first | exact .inl rfl | exact .inr rfl) (hf : X.fn x = true ∨ X.env.scope.names.lookup x = some .local := by first | exact .inl rfl | exact .inr rfl) :
    GX X Γ (.Name x pos) [i] (gSet i) := by
  refine ⟨pgImp (pg_name hN hi hx hf) fun v σ H Q h => ?_⟩
  obtain ⟨S, ε, F, t, ε', w, sr, z, hm, k⟩ := h
  cases hm
  obtain ⟨D, F', p, sr'⟩ := sr.assign hΓ (.fro z)
  exact k _ F' ((Evo.refl w).perm p).dropL sr' (fun j hj => List.getElem?_set_ne (fun q => hj (by simp [q]))) (List.length_set ..)
def gsNil : Mgs := fun ts ε => match ts with | [] => some ε | _ => none
def gsCons (m : Mg) (ms : Mgs) : Mgs := fun ts ε => match ts with | t :: r => (m t ε).bind fun ε1 => ms r ε1 | [] => none
theorem gxs_nil : GXs X Γ [] [] gsNil := by
  refine ⟨pgsImp pgs_nil fun vs σ H Q h => ?_⟩
  obtain ⟨S, ε, F, t, ε', w, sr, z, hm, k⟩ := h
  cases z with
  | nil => cases hm; exact ⟨rfl, k σ F (.refl w) sr (fun _ _ => rfl) rfl⟩
  | cons => cases hm
theorem gxs_cons (h1 : GX X Γ e sl m) (h2 : GXs X Γ es sl2 ms) (hp : ∀ t u, PG X e t → PGs X es u → PGs X (e :: es) (gCons t u) := by intro t u h1 h2; exact pgs_cons h1 h2) : GXs X Γ (e :: es) (sl ++ sl2) (gsCons m ms) := by
  refine ⟨pgsImp (hp _ _ h1.ex h2.ex) fun vs σ H Q h => ?_⟩
  obtain ⟨S, ε, F, t, ε', w, sr, z, hm, k⟩ := h
  cases z with
  | nil => cases hm
  | @cons v vs d ds z zs =>
    have hm : (m d ε).bind (fun ε1 => ms ds ε1) = some ε' := hm
    cases e1 : m d ε with
    | none => rw [e1] at hm; cases hm
    | some ε1 =>
      rw [e1] at hm
      refine ⟨v, vs, rfl, S, ε, F, d, ε1, w, sr, z, e1, fun σ1 F1 ev1 sr1 k1 l1 => ?_⟩
      exact ⟨S, ε1, F1, ds, ε', ev1.w1, sr1, zs, hm, fun σ2 F2 ev2 sr2 k2 l2 => k σ2 F2 (ev1.trans ev2) sr2 (fun i hi => by
        rw [List.mem_append, not_or] at hi
        rw [k2 i hi.2, k1 i hi.1]) (l2.trans l1)⟩
def gTupM (n : Nat) (ms : Mgs) : Mg := fun t ε => match t with | .tuple ts => if ts.length = n then ms ts ε else none | _ => none
theorem gx_tup {k n : Nat} (hc : X.calm = true) (h : GXs X Γ es sl ms) (hp : ∀ t, PGs X es t → PG X (.Tuple es k pos) (gTup X.K n t)) : GX X Γ (.Tuple es k pos) sl (gTupM n ms) := by
  refine ⟨pgImp (hp _ h.ex) fun v σ H Q h => ?_⟩
  obtain ⟨S, ε, F, t, ε', w, sr, z, hm, kk⟩ := h
  cases t with
  | tuple ts =>
    have hm : (if ts.length = n then ms ts ε else none) = some ε' := hm
    by_cases hn : ts.length = n
    · rw [if_pos hn] at hm
      obtain ⟨a, xs, rfl, hx, zx, _⟩ := (Rv.fz z).tuple
      exact ⟨a, xs, rfl, hx, by rw [zx.length]; exact hn, S, ε, F, ts, ε', w, sr, zx, hm, kk⟩
    · rw [if_neg hn] at hm; cases hm
  | _ => cases hm
end

/-! ### what is walked -/
def Src (K : PySem.W.Frag) (J : It) (ds : List T) (S : Addr → Prop) (H : Hp) (Gs : List Addr) : Prop := ∀ (S1 : Addr → Prop) (H1 : Hp), (∀ a, S a → S1 a) → (∀ a o, S a ∨ a ∈ Gs → H a = some o → H1 a = some o) → (∀ a, S1 a → H1 a ≠ none) →
  ∀ i, (i < ds.length → J.go i H1) ∧ (ds.length ≤ i → J.stop i H1) ∧ ∀ x H2, i < ds.length → J.yld i H1 x H2 → ∃ t S2, ds[i]? = some t ∧ Step S1 H1 S2 H2 [] ∧ Fz K S2 H2 x t
/-- .. as long as nothing that stood is changed -/
def SrcQ (K : PySem.W.Frag) (J : It) (ds : List T) (S : Addr → Prop) (H : Hp) : Prop := ∀ (S1 : Addr → Prop) (H1 : Hp), (∀ a, S a → S1 a) → Same H H1 → (∀ a, S1 a → H1 a ≠ none) →
  ∀ i, (i < ds.length → J.go i H1) ∧ (ds.length ≤ i → J.stop i H1) ∧ ∀ x H2, i < ds.length → J.yld i H1 x H2 → ∃ t S2, ds[i]? = some t ∧ Step S1 H1 S2 H2 [] ∧ Fz K S2 H2 x t
structure IX (X : Cx) (Γ : List Sh) (tg iter : Expr) (q : Bool) (m : Ml) : Prop where
  ex : ∃ wi : TI, PI X tg iter wi ∧ ∀ S H σ ε F R ds ε', WF S H F → SR X.K X.mg S H Γ σ ε F → m ε = some (ds, ε') →
    (∀ S' H' J Gs F', Evo S H F S' H' (Gs ++ F') → SR X.K X.mg S' H' Γ σ ε' F' → Src X.K J ds S' H' Gs → (q = true → Same H H') → R J H') → wi σ H R
structure IQ (X : Cx) (Γ : List Sh) (tg iter : Expr) (q : Bool) (m : Ml) : Prop where
  ex : ∃ wi : TI, PI X tg iter wi ∧ ∀ S H σ ε F R ds ε', WF S H F → SR X.K X.mg S H Γ σ ε F → m ε = some (ds, ε') →
    (∀ S' H' J F', Evo S H F S' H' F' → SR X.K X.mg S' H' Γ σ ε' F' → SrcQ X.K J ds S' H' → (q = true → Same H H') → R J H') → wi σ H R
section
variable {X : Cx} {Γ : List Sh} {tg e : Expr} {es : List Expr} {sh : Sh} {q : Bool} {m ma : Mx} {ml : Ml} {pos : Pos}
theorem PI.or {it : Expr} {w1 w2 : TI} (h1 : PI X tg it w1) (h2 : PI X tg it w2) : PI X tg it (fun σ H R => w1 σ H R ∨ w2 σ H R) :=
  ⟨fun pins s σ H R I h => h.elim (h1.run pins s σ H R I) (h2.run pins s σ H R I)⟩
def mItems (ma : Mx) : Ml := fun ε => (ma ε).bind fun r => match r.1 with | .list ds => some (ds, r.2) | .tuple ds => some (ds, r.2) | _ => none
theorem mItems_of {ε ε' : Envt} {ds : List T} (h : mItems ma ε = some (ds, ε')) : ma ε = some (.list ds, ε') ∨ ma ε = some (.tuple ds, ε') := by
  unfold mItems at h
  cases e1 : ma ε with
  | none => rw [e1] at h; cases h
  | some y =>
    obtain ⟨r, ε1⟩ := y
    rw [e1] at h
    cases r <;> cases h
    · exact .inl rfl
    · exact .inr rfl
theorem src_list {K : PySem.W.Frag} {S : Addr → Prop} {H : Hp} {a : Addr} {xs : List V} {ds : List T} {Gs : List Addr} (e : H a = some (.lst xs)) (ha : S a ∨ a ∈ Gs) (z : FzAll K S H xs ds) : Src K (Itl K a) ds S H Gs := by
  intro S1 H1 hs hk hl i
  have e1 := hk a _ ha e
  have z1 : FzAll K S1 H1 xs ds := z.mono hs fun b o sb eb => hk b o (.inl sb) eb
  refine ⟨fun hi => ?_, fun hi => ⟨xs, SqL.of e1, by rw [z1.length]; exact hi⟩, fun x H2 hi hy => ?_⟩
  · obtain ⟨v, h1, _⟩ := z1.get (i := i) (List.getElem?_eq_getElem hi)
    exact ⟨xs, v, SqL.of e1, h1⟩
  · obtain ⟨rfl, hy⟩ := hy
    obtain ⟨t, h1, h2⟩ := z1.getV (hy xs (SqL.of e1))
    exact ⟨t, S1, h1, .refl hl, h2⟩
theorem src_tup {K : PySem.W.Frag} {S : Addr → Prop} {H : Hp} {v : V} {ds : List T} {Gs : List Addr} (z : Fz K S H v (.tuple ds)) : ∃ a, v = .ref a ∧ (∃ xs, SqT K H a xs) ∧ Src K (Itt K a) ds S H Gs := by
  have key : ∀ {S1 H1} {a : Addr} {xs : List V}, SqT K H1 a xs → FzAll K S1 H1 xs ds → (∀ b, S1 b → H1 b ≠ none) → ∀ i, (i < ds.length → (Itt K a).go i H1) ∧ (ds.length ≤ i → (Itt K a).stop i H1) ∧ ∀ x H2, i < ds.length → (Itt K a).yld i H1 x H2 → ∃ t S2, ds[i]? = some t ∧ Step S1 H1 S2 H2 [] ∧ Fz K S2 H2 x t := by
    intro S1 H1 a xs e1 z1 hl i
    refine ⟨fun hi => ?_, fun hi => ⟨xs, e1, by rw [z1.length]; exact hi⟩, fun x H2 hi hy => ?_⟩
    · obtain ⟨v, h1, _⟩ := z1.get (i := i) (List.getElem?_eq_getElem hi)
      exact ⟨xs, v, e1, h1⟩
    · obtain ⟨rfl, hy⟩ := hy
      obtain ⟨t, h1, h2⟩ := z1.getV (hy xs e1)
      exact ⟨t, S1, h1, .refl hl, h2⟩
  cases z with
  | tup s e z => exact ⟨_, rfl, ⟨_, SqT.of e⟩, fun S1 H1 hs hk hl => key (SqT.of (hk _ _ (.inl s) e)) (z.mono hs fun b o sb eb => hk b o (.inl sb) eb) hl⟩
  | tupK k z => exact ⟨_, rfl, ⟨_, k.sq⟩, fun S1 H1 hs hk hl => key k.sq (z.mono hs fun b o sb eb => hk b o (.inl sb) eb) hl⟩
/-- for x in e: e a list or a tuple -/
theorem ix_seq (ha : EX X Γ e sh q ma) (hs : sh = .fro ∨ sh = .lst .fro := by first | exact .inl rfl | exact .inr rfl) : IX X Γ tg e q (mItems ma) := by
  obtain ⟨t, p, k⟩ := ha.ex
  refine ⟨_, PI.or (pi_list p) (pi_tup p), fun S H σ ε F R ds ε' w sr hm fin => ?_⟩
  rcases mItems_of hm with e1 | e1
  · refine .inl (k S H σ ε F _ _ ε' w sr e1 fun S' H' v G F' ev sr' o hq => ?_)
    have : ∃ a xs, v = .ref a ∧ H' a = some (.lst xs) ∧ (S' a ∨ a ∈ G) ∧ FzAll X.K S' H' xs ds := by
      rcases hs with rfl | rfl
      · cases o with | fro z => cases z with | lst s e z => exact ⟨_, _, rfl, e, .inl s, z⟩
      · cases o with
        | nol n _ => exact absurd rfl (n ds)
        | lst e r => exact ⟨_, _, rfl, e, .inr List.mem_cons_self, r.fz.1⟩
    obtain ⟨a, xs, rfl, e2, sa, z⟩ := this
    exact ⟨a, rfl, ⟨xs, SqL.of e2⟩, fin S' H' _ G F' ev sr' (src_list e2 sa z) hq⟩
  · refine .inr (k S H σ ε F _ _ ε' w sr e1 fun S' H' v G F' ev sr' o hq => ?_)
    have z : Fz X.K S' H' v (.tuple ds) := by
      rcases hs with rfl | rfl
      · cases o with | fro z => exact z
      · cases o with | nol n z => exact z
    obtain ⟨a, rfl, hx, sc⟩ := src_tup (Gs := []) z
    exact ⟨a, rfl, hx, fin S' H' _ [] F' ev.dropL sr' sc hq⟩
theorem iq_seq (ha : RX X Γ e q ma) : IQ X Γ tg e q (mItems ma) := by
  obtain ⟨t, p, k⟩ := ha.ex
  refine ⟨_, PI.or (pi_list p) (pi_tup p), fun S H σ ε F R ds ε' w sr hm fin => ?_⟩
  rcases mItems_of hm with e1 | e1
  · refine .inl (k S H σ ε F _ _ ε' w sr e1 fun S' H' v F' ev sr' r hq => ?_)
    obtain ⟨a, xs, rfl, e2, z⟩ := r.list
    refine ⟨a, rfl, ⟨xs, SqL.of e2⟩, fin S' H' _ F' ev sr' (fun S1 H1 hs hk hl => ?_) hq⟩
    exact src_list (Gs := [a]) e2 (.inr List.mem_cons_self) z S1 H1 hs (fun b o _ eb => hk b o eb) hl
  · refine .inr (k S H σ ε F _ _ ε' w sr e1 fun S' H' v F' ev sr' r hq => ?_)
    obtain ⟨a, xs, rfl, e2, z, zf⟩ := r.tuple
    obtain ⟨a', ea, hx, sc⟩ := src_tup (Gs := []) zf
    cases ea
    exact ⟨a, rfl, hx, fin S' H' _ F' ev sr' (fun S1 H1 hs hk hl => sc S1 H1 hs (fun b o _ eb => hk b o eb) hl) hq⟩
/-- range: frozen ints -/
def rngT (lo c : Int) (n : Nat) : List T := (List.range n).map fun k : Nat => .int (lo + (k : Int) * c)
theorem rngT_len (lo c : Int) (n : Nat) : (rngT lo c n).length = n := by simp [rngT]
theorem rngT_get {lo c : Int} {n i : Nat} (h : i < n) : (rngT lo c n)[i]? = some (.int (lo + (i : Int) * c)) := by simp [rngT, h]
theorem src_rng {K : PySem.W.Frag} {S : Addr → Prop} {H : Hp} (lo : Int) (n : Nat) : Src K (Itr lo n) (rngT lo 1 n) S H [] := by
  intro S1 H1 hs hk hl i
  rw [rngT_len]
  refine ⟨fun h => h, fun h => h, fun x H2 hi hy => ?_⟩
  obtain ⟨rfl, rfl⟩ := hy
  refine ⟨_, S1, rngT_get hi, .refl hl, ?_⟩
  rw [Int.mul_one]
  exact .int _
theorem src_rngC {K : PySem.W.Frag} {S : Addr → Prop} {H : Hp} (lo c : Int) (n : Nat) : Src K (Itc lo c n) (rngT lo c n) S H [] := by
  intro S1 H1 hs hk hl i
  rw [rngT_len]
  refine ⟨fun h => h, fun h => h, fun x H2 hi hy => ?_⟩
  obtain ⟨rfl, rfl⟩ := hy
  exact ⟨_, S1, rngT_get hi, .refl hl, .int _⟩
def rngOk (j : Int) : Bool := decide (-(2 ^ 62) ≤ j) && decide (j < 2 ^ 62)
theorem rngOk_of {j : Int} (h : rngOk j = true) : -(2 ^ 62) ≤ j ∧ j < 2 ^ 62 := by
  unfold rngOk at h
  simpa [Bool.and_eq_true] using h
def rng1 : List T → Option (List T)
  | [.int j] => if rngOk j = true then some (rngT 0 1 j.toNat) else none
  | _ => none
def rng2 : List T → Option (List T)
  | [.int i, .int j] => if rngOk i = true ∧ rngOk j = true then some (rngT i 1 (j - i).toNat) else none
  | _ => none
def rng3 : List T → Option (List T)
  | [.int i, .int j, .int c] => if c ≠ 0 ∧ c.natAbs < 1073741824 ∧ Builtin.Range.small i j c = true ∧ 0 ≤ Builtin.Range.rangeSize i j c then some (rngT i c (Builtin.Range.rangeSize i j c).toNat) else none
  | _ => none
def mRng (g : List T → Option (List T)) (ml : Ml) : Ml := fun ε => (ml ε).bind fun r => (g r.1).map fun z => (z, r.2)
theorem mRng_of {g : List T → Option (List T)} {ε ε' : Envt} {r : List T} (h : mRng g ml ε = some (r, ε')) : ∃ xs, ml ε = some (xs, ε') ∧ g xs = some r := by
  unfold mRng at h
  cases e1 : ml ε with
  | none => rw [e1] at h; cases h
  | some z1 =>
    obtain ⟨x, ε1⟩ := z1
    rw [e1] at h
    simp only [Option.bind_some] at h
    obtain ⟨z, e3, e4⟩ := map_of h
    cases e4
    exact ⟨x, rfl, e3⟩
theorem ix_rng1 {a : Expr} {p : Pos} (hm : X.mg "range" = none) (ha : FX X Γ [a] q ml) (hg : Gl X "range" := by rfl)
    (h : ∀ ta, X.mg "range" = none → Gl X "range" → PA X [a] ta → PI X tg (.Call (.Name "range" p) [a] [] pos) (iRng1 ta) := by intro ta z1 z2 h1; exact pi_range1 (by assumption) (by assumption) h1) : IX X Γ tg (.Call (.Name "range" p) [a] [] pos) q (mRng rng1 ml) := by
  obtain ⟨t, pa, k⟩ := ha.ex
  refine ⟨_, h t hm hg pa, fun S H σ ε F R ds ε' w sr hm' fin => ?_⟩
  obtain ⟨xs, e1, e2⟩ := mRng_of hm'
  refine k S H σ ε F _ xs ε' w sr e1 fun S' H' vs F' ev sr' z hq => ?_
  match xs, z, e2 with
  | [.int j], .cons (v := v) zv .nil, e2 =>
    have e2 : (if rngOk j = true then some (rngT 0 1 j.toNat) else none) = some ds := e2
    by_cases hj : rngOk j = true
    · rw [if_pos hj] at e2; cases e2
      cases zv
      exact ⟨j, rfl, (rngOk_of hj).1, (rngOk_of hj).2, fin S' H' _ [] F' ev sr' (src_rng 0 _) hq⟩
    · rw [if_neg hj] at e2; cases e2
theorem ix_rng2 {a b : Expr} {p : Pos} (hm : X.mg "range" = none) (ha : FX X Γ [a, b] q ml) (hg : Gl X "range" := by rfl)
    (h : ∀ ta, X.mg "range" = none → Gl X "range" → PA X [a, b] ta → PI X tg (.Call (.Name "range" p) [a, b] [] pos) (iRng2 ta) := by intro ta z1 z2 h1; exact pi_range2 (by assumption) (by assumption) h1) : IX X Γ tg (.Call (.Name "range" p) [a, b] [] pos) q (mRng rng2 ml) := by
  obtain ⟨t, pa, k⟩ := ha.ex
  refine ⟨_, h t hm hg pa, fun S H σ ε F R ds ε' w sr hm' fin => ?_⟩
  obtain ⟨xs, e1, e2⟩ := mRng_of hm'
  refine k S H σ ε F _ xs ε' w sr e1 fun S' H' vs F' ev sr' z hq => ?_
  match xs, z, e2 with
  | [.int i, .int j], .cons zi (.cons zj .nil), e2 =>
    have e2 : (if rngOk i = true ∧ rngOk j = true then some (rngT i 1 (j - i).toNat) else none) = some ds := e2
    by_cases hj : rngOk i = true ∧ rngOk j = true
    · rw [if_pos hj] at e2; cases e2
      cases zi
      cases zj
      exact ⟨i, j, rfl, ⟨(rngOk_of hj.1).1, (rngOk_of hj.1).2, (rngOk_of hj.2).1, (rngOk_of hj.2).2⟩, fin S' H' _ [] F' ev sr' (src_rng i _) hq⟩
    · rw [if_neg hj] at e2; cases e2
theorem ix_rng3 {a b c : Expr} {p : Pos} (hm : X.mg "range" = none) (ha : FX X Γ [a, b, c] q ml) (hg : Gl X "range" := by rfl)
    (h : ∀ ta, X.mg "range" = none → Gl X "range" → PA X [a, b, c] ta → PI X tg (.Call (.Name "range" p) [a, b, c] [] pos) (iRng3 ta) := by intro ta z1 z2 h1; exact pi_range3 (by assumption) (by assumption) h1) : IX X Γ tg (.Call (.Name "range" p) [a, b, c] [] pos) q (mRng rng3 ml) := by
  obtain ⟨t, pa, k⟩ := ha.ex
  refine ⟨_, h t hm hg pa, fun S H σ ε F R ds ε' w sr hm' fin => ?_⟩
  obtain ⟨xs, e1, e2⟩ := mRng_of hm'
  refine k S H σ ε F _ xs ε' w sr e1 fun S' H' vs F' ev sr' z hq => ?_
  match xs, z, e2 with
  | [.int i, .int j, .int c'], .cons zi (.cons zj (.cons zc .nil)), e2 =>
    have e2 : (if c' ≠ 0 ∧ c'.natAbs < 1073741824 ∧ Builtin.Range.small i j c' = true ∧ 0 ≤ Builtin.Range.rangeSize i j c' then some (rngT i c' (Builtin.Range.rangeSize i j c').toNat) else none) = some ds := e2
    by_cases hj : c' ≠ 0 ∧ c'.natAbs < 1073741824 ∧ Builtin.Range.small i j c' = true ∧ 0 ≤ Builtin.Range.rangeSize i j c'
    · rw [if_pos hj] at e2; cases e2
      cases zi
      cases zj
      cases zc
      exact ⟨i, j, c', _, rfl, ⟨hj.1, hj.2.1, hj.2.2.1, (Int.toNat_of_nonneg hj.2.2.2).symm⟩, fin S' H' _ [] F' ev sr' (src_rngC i c' _) hq⟩
    · rw [if_neg hj] at e2; cases e2
theorem IX.iq (h : IX X Γ tg e q ml) : IQ X Γ tg e q ml := by
  obtain ⟨t, p, k⟩ := h.ex
  exact ⟨t, p, fun S H σ ε F R ds ε' w sr hm fin => k S H σ ε F R ds ε' w sr hm fun S' H' J Gs F' ev sr' sc hq => fin S' H' J F' ev.dropL sr' (fun S1 H1 hs hk hl => sc S1 H1 hs (fun a o _ e => hk a o e) hl) hq⟩
end
end Dg

set_option Elab.async false
set_option linter.all false
set_option maxRecDepth 100000
namespace Dg
open PySem PySem.Spec PyProof.Rows L2

/-! ### canonical readings -/
def cE (X : Cx) (Γ : List Sh) (sh : Sh) (q : Bool) (m : Mx) : TE := fun σ H Q => ∃ S ε F r ε', WF S H F ∧ SR X.K X.mg S H Γ σ ε F ∧ m ε = some (r, ε') ∧ Fin X Γ S H F σ sh q r ε' Q
def cT (X : Cx) (Γ : List Sh) (q : Bool) (m : Mb) : TT := fun σ H Q => ∃ S ε F r ε', WF S H F ∧ SR X.K X.mg S H Γ σ ε F ∧ m ε = some (r, ε') ∧ FinB X Γ S H F σ q r ε' Q
theorem EX.can {X : Cx} {Γ : List Sh} {e : Expr} {sh : Sh} {q : Bool} {m : Mx} (h : EX X Γ e sh q m) : PE X e (cE X Γ sh q m) := by
  obtain ⟨t, p, k⟩ := h.ex
  exact ⟨fun pins s σ H Q I hq => by
    obtain ⟨S, ε, F, r, ε', w, sr, hm, fin⟩ := hq
    exact p.run pins s σ H Q I (k S H σ ε F Q r ε' w sr hm fin)⟩
theorem TX.can {X : Cx} {Γ : List Sh} {e : Expr} {q : Bool} {m : Mb} (h : TX X Γ e q m) : PT X e (cT X Γ q m) := by
  obtain ⟨t, p, k⟩ := h.ex
  exact ⟨fun pins s σ H Q I hq => by
    obtain ⟨S, ε, F, r, ε', w, sr, hm, fin⟩ := hq
    exact p.run pins s σ H Q I (k S H σ ε F Q r ε' w sr hm fin)⟩
/-- the tests of a comprehension -/
structure KX (X : Cx) (Γ : List Sh) (ifs : List Expr) (q : Bool) (m : Mb) : Prop where
  ex : PTs X ifs (cT X Γ q m)
def mYes : Mb := fun ε => some (true, ε)
theorem kx_nil {X : Cx} {Γ : List Sh} : KX X Γ [] true mYes := ⟨⟨fun pins s σ H Q I hq => by
  obtain ⟨S, ε, F, r, ε', w, sr, hm, fin⟩ := hq
  cases hm
  exact pts_nil.run pins s σ H Q I (fin S H F (.refl w) sr fun _ => Same.refl H)⟩⟩
theorem kx_one {X : Cx} {Γ : List Sh} {e : Expr} {q : Bool} {m : Mb} (h : TX X Γ e q m) : KX X Γ [e] q m := ⟨pts_one h.can⟩

/-! ### slots that a block has for itself -/
def wipeE : List Nat → Envt → Envt
  | [], ε => ε
  | v :: vs, ε => (wipeE vs ε).set v none
def resE : List Nat → Envt → Envt → Envt
  | [], _, ε => ε
  | v :: vs, ε0, ε => (resE vs ε0 ε).set v ((ε0[v]?).getD none)
section
variable {K : PySem.W.Frag} {mg : Str → Option Value} {S S' S1 S2 : Addr → Prop} {H H' H1 H2 : Hp} {Γ : List Sh} {F F' G R : List Addr}
theorem SR.agree : ∀ {Γ : List Sh} {σ σ' : L2.St} {ε : Envt} {F : List Addr}, SR K mg S H Γ σ ε F → σ'.length = σ.length → (∀ (i : Nat) t, ε[i]? = some (some t) → σ'[i]? = σ[i]?) → SR K mg S H Γ σ' ε F
  | _, _, [], _, _, .nil, _, _ => .nil
  | _, _, _ :: _, _, _, .nil, h, _ => by simp at h
  | _, _, [], _, _, .off _, h, _ => by simp at h
  | _, _, [], _, _, .on _ _, h, _ => by simp at h
  | _, _, x :: σ', _, _, .off r, h, k => .off (r.agree (by simpa using h) fun i t e => by simpa using k (i + 1) t (by simpa using e))
  | _, _, x :: σ', _, _, .on (v := v) (t := t) a b, h, k => by
    have e : some x = some (some v) := by simpa using k 0 t (by simp)
    cases e
    exact .on a (b.agree (by simpa using h) fun i t e => by simpa using k (i + 1) t (by simpa using e))
theorem wipeE_get {ε : Envt} {i : Nat} {t : T} : ∀ {vs : List Nat}, (wipeE vs ε)[i]? = some (some t) → i ∉ vs ∧ ε[i]? = some (some t)
  | [], h => ⟨by simp, h⟩
  | v :: vs, h => by
    unfold wipeE at h
    by_cases hi : v = i
    · subst hi
      by_cases hv : v < (wipeE vs ε).length
      · rw [List.getElem?_set_self hv] at h; cases h
      · rw [List.getElem?_eq_none (by simpa using hv)] at h; cases h
    · rw [List.getElem?_set_ne hi] at h
      obtain ⟨h1, h2⟩ := wipeE_get h
      exact ⟨by simp only [List.mem_cons, not_or]; exact ⟨fun e => hi e.symm, h1⟩, h2⟩
theorem wipe_get {σ : L2.St} {i : Nat} : ∀ {vs : List Nat}, i ∉ vs → (wipe σ vs)[i]? = σ[i]?
  | [], _ => rfl
  | v :: vs, h => by
    simp only [List.mem_cons, not_or] at h
    unfold wipe
    rw [List.getElem?_set_ne (fun e => h.1 e.symm)]
    exact wipe_get h.2
theorem wipe_at {σ : L2.St} {i : Nat} : ∀ {vs : List Nat}, i ∈ vs → (wipe σ vs)[i]? = (σ[i]?).map fun _ => none
  | v :: vs, h => by
    unfold wipe
    by_cases hi : v = i
    · subst hi
      rw [List.getElem?_set, wipe_length]
      by_cases hl : v < σ.length
      · simp [hl, List.getElem?_eq_getElem]
      · simp [hl]
    · rw [List.getElem?_set_ne hi]
      exact wipe_at ((List.mem_cons.mp h).resolve_left fun e => hi e.symm)
theorem wipe_eq {a b : L2.St} {vs : List Nat} (hl : a.length = b.length) (h : ∀ i, i ∉ vs → a[i]? = b[i]?) : wipe a vs = wipe b vs := List.ext_getElem? fun i => by
  by_cases hi : i ∈ vs
  · rw [wipe_at hi, wipe_at hi]
    by_cases q : i < a.length
    · rw [List.getElem?_eq_getElem q, List.getElem?_eq_getElem (hl ▸ q)]; rfl
    · rw [List.getElem?_eq_none (by omega), List.getElem?_eq_none (by omega)]
  · rw [wipe_get hi, wipe_get hi]; exact h i hi
theorem wipe_wipe {σ : L2.St} {vs : List Nat} : wipe (wipe σ vs) vs = wipe σ vs := wipe_eq (wipe_length _ _) fun i hi => wipe_get hi
theorem SR.off1 {σ : L2.St} {ε : Envt} {i : Nat} (sr : SR K mg S H Γ σ ε F) (hΓ : Γ[i]? = some .fro) : ∃ F', F.Perm F' ∧ SR K mg S H Γ σ (ε.set i none) F' := by
  have hl : i < ε.length := by rw [sr.len.2]; exact (List.getElem?_eq_some_iff.mp hΓ).1
  cases e : ε[i] with
  | none => exact ⟨F, .refl _, by rw [set_same (by rw [List.getElem?_eq_getElem hl, e])]; exact sr⟩
  | some t0 =>
    obtain ⟨s', v', G0, R, es, ev, ow, p, _, F2, p2, k2⟩ := sr.at i (by rw [List.getElem?_eq_getElem hl, e])
    rw [hΓ] at es; cases es
    have eg := ow.fz.2
    subst eg
    refine ⟨F2, p.trans p2.symm, ?_⟩
    have := k2 (some v')
    rwa [set_same ev] at this
theorem SR.wipe {σ : L2.St} {ε : Envt} (sr : SR K mg S H Γ σ ε F) : ∀ {vs : List Nat}, (∀ i ∈ vs, Γ[i]? = some .fro) → ∃ F', F.Perm F' ∧ SR K mg S H Γ σ (wipeE vs ε) F'
  | [], _ => ⟨F, .refl _, sr⟩
  | v :: vs, h => by
    obtain ⟨F1, p1, sr1⟩ := sr.wipe (vs := vs) fun i m => h i (List.mem_cons_of_mem _ m)
    obtain ⟨F2, p2, sr2⟩ := sr1.off1 (h v List.mem_cons_self)
    exact ⟨F2, p1.trans p2, sr2⟩
theorem SR.res {σ : L2.St} {ε0 ε : Envt} {F0 : List Addr} (sr0 : SR K mg S H Γ σ ε0 F0) (hs : ∀ a, S a → S' a) (hk : ∀ a o, S a → H a = some o → H' a = some o) (sr : SR K mg S' H' Γ σ ε F) :
    ∀ {vs : List Nat}, (∀ i ∈ vs, Γ[i]? = some .fro) → ∃ D F', F.Perm (D ++ F') ∧ SR K mg S' H' Γ σ (resE vs ε0 ε) F'
  | [], _ => ⟨[], F, .refl _, sr⟩
  | v :: vs, h => by
    obtain ⟨D1, F1, p1, sr1⟩ := sr0.res hs hk sr (vs := vs) fun i m => h i (List.mem_cons_of_mem _ m)
    have hΓ := h v List.mem_cons_self
    unfold resE
    cases e : (ε0[v]?).getD none with
    | none =>
      obtain ⟨F2, p2, sr2⟩ := sr1.off1 hΓ
      exact ⟨D1, F2, p1.trans (p2.append_left D1), sr2⟩
    | some t =>
      have e1 : ε0[v]? = some (some t) := by
        cases q : ε0[v]? with
        | none => rw [q] at e; cases e
        | some y => rw [q] at e; cases e; rfl
      obtain ⟨s', v', G0, R, es, ev, ow, _⟩ := sr0.at v e1
      rw [hΓ] at es; cases es
      obtain ⟨D2, F2, p2, sr2⟩ := sr1.assign hΓ (.fro (ow.fz.1.mono hs hk))
      rw [set_same ev] at sr2
      refine ⟨D1 ++ D2, F2, ?_, sr2⟩
      rw [List.append_assoc]
      exact p1.trans (List.Perm.append_left D1 (by simpa using p2))
end

/-! ### list comprehensions -/
def mLoopC (mt : Mg) (mk : Mb) (me : Mx) (vs : List Nat) : List T → Envt → Option (List T × Envt)
  | [], ε => some ([], ε)
  | t :: ts, ε => (mt t ε).bind fun ε1 => (mk ε1).bind fun b =>
    if b.1 = true then (me b.2).bind fun y => (mLoopC mt mk me vs ts (wipeE vs y.2)).map fun r => (y.1 :: r.1, r.2)
    else mLoopC mt mk me vs ts (wipeE vs b.2)
def mLc (src : Ml) (mt : Mg) (mk : Mb) (me : Mx) (vs : List Nat) : Mx := fun ε => (src ε).bind fun d =>
  if d.1.length < sizeLine then (mLoopC mt mk me vs d.1 (wipeE vs d.2)).map fun r => (.list r.1, resE vs d.2 r.2) else none
section
variable {X : Cx} {Γ : List Sh} {tg iter elt : Expr} {ifs : List Expr} {sl : List Nat} {q q1 q2 q3 : Bool} {src : Ml} {mt : Mg} {mk : Mb} {me : Mx} {pos : Pos} {own : List (Str × Nat)}
theorem mLc_of {vs : List Nat} {ε ε' : Envt} {r : T} (h : mLc src mt mk me vs ε = some (r, ε')) : ∃ ds ε1 ts ε2, src ε = some (ds, ε1) ∧ ds.length < sizeLine ∧ mLoopC mt mk me vs ds (wipeE vs ε1) = some (ts, ε2) ∧ r = .list ts ∧ ε' = resE vs ε1 ε2 := by
  unfold mLc at h
  cases e1 : src ε with
  | none => rw [e1] at h; cases h
  | some d =>
    obtain ⟨ds, ε1⟩ := d
    rw [e1] at h
    simp only [Option.bind_some] at h
    by_cases hl : ds.length < sizeLine
    · rw [if_pos hl] at h
      obtain ⟨⟨ts, ε2⟩, e2, e3⟩ := map_of h
      cases e3
      exact ⟨ds, ε1, ts, ε2, rfl, hl, e2, rfl, rfl⟩
    · rw [if_neg hl] at h; cases h
/-- one turn -/
theorem mLoopC_cons {vs : List Nat} {t : T} {rest : List T} {ε : Envt} {out : List T × Envt} (h : mLoopC mt mk me vs (t :: rest) ε = some out) :
    ∃ ε1 b ε2, mt t ε = some ε1 ∧ mk ε1 = some (b, ε2) ∧ (if b = true then ∃ y ε3 ts, me ε2 = some (y, ε3) ∧ mLoopC mt mk me vs rest (wipeE vs ε3) = some (ts, out.2) ∧ out.1 = y :: ts else mLoopC mt mk me vs rest (wipeE vs ε2) = some out) := by
  unfold mLoopC at h
  cases e1 : mt t ε with
  | none => rw [e1] at h; cases h
  | some ε1 =>
    rw [e1] at h
    simp only [Option.bind_some] at h
    cases e2 : mk ε1 with
    | none => rw [e2] at h; cases h
    | some z2 =>
      obtain ⟨b, ε2⟩ := z2
      rw [e2] at h
      simp only [Option.bind_some] at h
      refine ⟨ε1, b, ε2, rfl, e2, ?_⟩
      cases b with
      | false => exact h
      | true =>
        rw [if_pos rfl] at h ⊢
        cases e3 : me ε2 with
        | none => rw [e3] at h; cases h
        | some z3 =>
          obtain ⟨y, ε3⟩ := z3
          rw [e3] at h
          simp only [Option.bind_some] at h
          obtain ⟨⟨ts, ε4⟩, e4, e5⟩ := map_of h
          cases e5
          exact ⟨y, ε3, ts, rfl, e4, rfl⟩
/-- what the turns of a block do -/
theorem lc_run {vs : List Nat} {S0 S1 : Addr → Prop} {H0 H1 : Hp} {F0 F1 Gs : List Addr} {J : It} {σ : L2.St} {ds ts : List T} {ε1 ε2 : Envt} {Q : VK} (hsl : ∀ i ∈ sl, i ∈ vs) (hΓ : ∀ i ∈ vs, Γ[i]? = some .fro)
    (ev : Evo S0 H0 F0 S1 H1 (Gs ++ F1)) (sr : SR X.K X.mg S1 H1 Γ σ ε1 F1) (hq : q1 = true → Same H0 H1) (hlen : ds.length < sizeLine) (hm : mLoopC mt mk me vs ds (wipeE vs ε1) = some (ts, ε2))
    (sc : (∀ (S2 : Addr → Prop) (H2 : Hp), (∀ a, S1 a → S2 a) → (∀ a o, S1 a ∨ a ∈ Gs → H1 a = some o → H2 a = some o) → ((q2 && q3) = true → Same H1 H2) → (∀ a, S2 a → H2 a ≠ none) →
      ∀ i, (i < ds.length → J.go i H2) ∧ (ds.length ≤ i → J.stop i H2) ∧ ∀ x H3, i < ds.length → J.yld i H2 x H3 → ∃ t S3, ds[i]? = some t ∧ Step S2 H2 S3 H3 [] ∧ Fz X.K S3 H3 x t))
    (fin : Fin X Γ S0 H0 F0 σ (.lst .fro) (q1 && (q2 && q3)) (.list ts) (resE vs ε1 ε2) Q) :
    ∀ D, H1 D = none → ∃ W : Nat → Nat → Hp → Prop, (∃ m, W 0 m (upd H1 D (.lst []))) ∧ ∀ i m H, W i m H →
      (J.stop i H ∧ Q (.ref D) H) ∨ (J.go i H ∧ ∃ Nx : Hp → Prop, (∀ H', Nx H' → ∃ m', m' < m ∧ W (i + 1) m' H') ∧ ∀ x H', J.yld i H x H' → cG X Γ sl mt x (wipe σ vs) H' fun σ2 H2 => wipe σ2 vs = wipe σ vs ∧ cT X Γ q2 mk σ2 H2 fun b H3 =>
        if b = true then cE X Γ .fro q3 me σ2 H3 fun y H4 => ∃ acc, H4 D = some (.lst acc) ∧ acc.length < sizeLine ∧ Nx (upd H4 D (.lst (acc ++ [y]))) else Nx H3) := by
  intro D nD
  have st0 : Step S1 H1 S1 (upd H1 D (.lst [])) [D] := Step.ow ev.w1.sl nD
  obtain ⟨F1w, pw, srw⟩ := sr.wipe hΓ
  let W : Nat → Nat → Hp → Prop := fun i m H => ∃ S2 ε3 F2 acc as rest, i + m = ds.length ∧ Evo S1 H1 (Gs ++ F1) S2 H ((D :: Gs) ++ F2) ∧ SR X.K X.mg S2 H Γ σ ε3 F2 ∧ (∀ j ∈ vs, ε3[j]? = some none) ∧ H D = some (.lst acc) ∧ FzAll X.K S2 H acc as ∧
    mLoopC mt mk me vs (ds.drop i) ε3 = some (rest, ε2) ∧ ts = as ++ rest ∧ as.length ≤ i ∧ ((q2 && q3) = true → Same H1 H) ∧ ∀ a ∈ Gs, ∀ o, H1 a = some o → H a = some o
  have wn : ∀ (ε : Envt), ε.length = Γ.length → ∀ j ∈ vs, (wipeE vs ε)[j]? = some none := fun ε hl j hj => by
    have ll : ∀ (vs : List Nat), (wipeE vs ε).length = ε.length := fun vs => by
      induction vs with
      | nil => rfl
      | cons a r ih => unfold wipeE; rw [List.length_set, ih]
    have hlt : j < (wipeE vs ε).length := by rw [ll, hl]; exact (List.getElem?_eq_some_iff.mp (hΓ j hj)).1
    cases q : (wipeE vs ε)[j]? with
    | none => rw [List.getElem?_eq_none_iff] at q; omega
    | some y =>
      cases y with
      | none => rfl
      | some t => exact absurd hj (wipeE_get q).1
  refine ⟨W, ⟨ds.length, S1, wipeE vs ε1, F1w, [], [], ts, by omega, ?_, srw.step st0, wn _ sr.len.2, upd_same, .nil, hm, rfl, Nat.le_refl _, fun _ => st0.same, fun a _ o e => st0.keep a o e⟩, fun i m H hW => ?_⟩
  · have := st0.evo ev.w1
    exact this.perm (List.Perm.append_left _ (List.Perm.append_left _ pw))
  · obtain ⟨S2, ε3, F2, acc, as, rest, em, ev2, sr2, hn, eD, za, hm2, ets, hal, hq2, kG⟩ := hW
    have kGs : ∀ a o, S1 a ∨ a ∈ Gs → H1 a = some o → H a = some o := fun a o h e => h.elim (fun h => ev2.kS a o h e) fun h => kG a h o e
    have scW := sc S2 H ev2.sub kGs hq2 ev2.w1.sl i
    by_cases hi : i < ds.length
    · refine .inr ⟨scW.1 hi, fun H' => W (i + 1) (m - 1) H', fun H' h => ⟨m - 1, by omega, h⟩, fun x H' hy => ?_⟩
      obtain ⟨t, S3, et, st, zx⟩ := scW.2.2 x H' hi hy
      have ed : ds.drop i = t :: ds.drop (i + 1) := by
        rw [List.drop_eq_getElem_cons hi]
        rw [List.getElem?_eq_getElem hi] at et
        cases et
        rfl
      rw [ed] at hm2
      obtain ⟨ε4, b, ε5, m4, m5, mrest⟩ := mLoopC_cons hm2
      have evA : Evo S1 H1 (Gs ++ F1) S3 H' ((D :: Gs) ++ F2) := ev2.trans (st.evo ev2.w1)
      have eD1 : H' D = some (.lst acc) := st.keep _ _ eD
      have srA : SR X.K X.mg S3 H' Γ (wipe σ vs) ε3 F2 := (sr2.step st).agree (wipe_length _ _) fun j t' e => wipe_get fun hj => by
        rw [hn j hj] at e
        cases e
      have kp : ∀ {S S' : Addr → Prop} {H H' : Hp} {F F' : List Addr}, Evo S H F S' H' F' → WF S H ((D :: Gs) ++ F) → ∀ a ∈ D :: Gs, ∀ o, H a = some o → H' a = some o := fun e w a m o h =>
        e.keep a o h fun m1 => (List.nodup_append.mp w.nd).2.2 a m a m1 rfl
      refine ⟨S3, ε3, F2, t, ε4, evA.w1.right, srA, zx, m4, fun σ' F3 ev3 sr3 ag lg => ?_⟩
      have evB := evA.trans (ev3.around evA.w1)
      have agw : ∀ j, j ∉ vs → σ'[j]? = σ[j]? := fun j hj => by rw [ag j fun h => hj (hsl j h), wipe_get hj]
      have lgw : σ'.length = σ.length := by rw [lg, wipe_length]
      refine ⟨wipe_eq lgw agw, S3, ε4, F3, b, ε5, ev3.w1, sr3, m5, fun S4 H4 F4 ev4 sr4 hq4 => ?_⟩
      have evC := evB.trans (ev4.around evB.w1)
      have eD4 : H4 D = some (.lst acc) := kp ev4 evB.w1 D List.mem_cons_self _ eD1
      have za4 : FzAll X.K S4 H4 acc as := (za.step st).along ev4
      have kG4 : ∀ a ∈ Gs, ∀ o, H1 a = some o → H4 a = some o := fun a ma o e => kp ev4 evB.w1 a (List.mem_cons_of_mem _ ma) o (st.keep a o (kG a ma o e))
      have back : ∀ {S5 : Addr → Prop} {H5 : Hp} {ε' : Envt} {F5 : List Addr}, SR X.K X.mg S5 H5 Γ σ' ε' F5 → ∃ F5w, F5.Perm F5w ∧ SR X.K X.mg S5 H5 Γ σ (wipeE vs ε') F5w := fun sr5 => by
        obtain ⟨F5w, p5, sr5w⟩ := sr5.wipe hΓ
        exact ⟨F5w, p5, sr5w.agree lgw.symm fun j t' e => (agw j (wipeE_get e).1).symm⟩
      cases b with
      | false =>
        rw [if_neg Bool.false_ne_true] at mrest
        show W (i + 1) (m - 1) H4
        obtain ⟨F4w, p4, sr4w⟩ := back sr4
        refine ⟨S4, wipeE vs ε5, F4w, acc, as, rest, by omega, evC.perm (List.Perm.append_left _ p4), sr4w, wn _ sr4.len.2, eD4, za4, mrest, ets, by omega, fun h => ?_, kG4⟩
        have h' := h
        rw [Bool.and_eq_true] at h
        exact ((hq2 h').trans st.same).trans (hq4 h.1)
      | true =>
        rw [if_pos rfl] at mrest
        show cE X Γ .fro q3 me σ' H4 fun y H4 => ∃ acc, H4 D = some (.lst acc) ∧ acc.length < sizeLine ∧ W (i + 1) (m - 1) (upd H4 D (.lst (acc ++ [y])))
        obtain ⟨y, ε6, ts', m6, m7, erest⟩ := mrest
        refine ⟨S4, ε5, F4, y, ε6, ev4.w1, sr4, m6, fun S5 H5 v G F5 ev5 sr5 o5 hq5 => ?_⟩
        obtain ⟨zy, rfl⟩ := o5.fz
        have ev5 : Evo S4 H4 F4 S5 H5 F5 := ev5
        have evD := evC.trans (ev5.around evC.w1)
        have eD5 : H5 D = some (.lst acc) := kp ev5 evC.w1 D List.mem_cons_self _ eD4
        have za5 : FzAll X.K S5 H5 acc as := za4.along ev5
        refine ⟨acc, eD5, by rw [za5.length]; omega, ?_⟩
        obtain ⟨F5w, p5, sr5w⟩ := back sr5
        have evE := evD.perm (List.Perm.append_left (D :: Gs) p5)
        have wr := Evo.write (o := .lst (acc ++ [v])) evE.w1 (a := D) (by simp)
        have nS : ¬ S5 D := evE.w1.sep D (by simp)
        have kw : ∀ a o, a ≠ D → H5 a = some o → upd H5 D (.lst (acc ++ [v])) a = some o := fun a o n e => by rw [upd_ne n]; exact e
        have kS : ∀ a o, S5 a → H5 a = some o → upd H5 D (.lst (acc ++ [v])) a = some o := fun a o s e => kw a o (fun z => nS (z ▸ s)) e
        have nF : ∀ a ∈ F5w, a ≠ D := fun a ma z => by
          subst z
          exact (List.nodup_append.mp evE.w1.nd).2.2 a (by simp) a ma rfl
        have nG : ∀ a ∈ Gs, a ≠ D := fun a ma z => by
          subst z
          have := (List.nodup_append.mp evE.w1.nd).1
          exact (List.nodup_cons.mp this).1 ma
        refine ⟨S5, wipeE vs ε6, F5w, acc ++ [v], as ++ [y], ts', by omega, evE.trans wr, sr5w.mono (fun _ h => h) kS fun a o ma e => kw a o (nF a ma) e, wn _ sr5.len.2, upd_same, ?_, m7, ?_, ?_, fun h => ?_, fun a ma o e => ?_⟩
        · exact (za5.append (.cons zy .nil)).mono (fun _ h => h) kS
        · rw [ets, show rest = y :: ts' from erest, List.append_assoc]; rfl
        · rw [List.length_append]; simp; omega
        · have h' := h
          rw [Bool.and_eq_true] at h
          have s5 : Same H1 H5 := (((hq2 h').trans st.same).trans (hq4 h.1)).trans (hq5 h.2)
          intro a o e
          exact kw a o (fun z => by subst z; rw [nD] at e; cases e) (s5 a o e)
        · exact kw a o (nG a ma) (kp ev5 evC.w1 a (List.mem_cons_of_mem _ ma) o (kG4 a ma o e))
    · refine .inl ⟨scW.2.1 (by omega), ?_⟩
      have e0 : ds.drop i = [] := List.drop_eq_nil_of_le (by omega)
      rw [e0] at hm2
      cases hm2
      rw [List.append_nil] at ets
      subst ets
      obtain ⟨D2, F3, p3, sr3⟩ := sr.res ev2.sub ev2.kS sr2 (vs := vs) hΓ
      refine fin S2 H (.ref D) [D] F3 ?_ sr3 (.lst eD (OwAll.of za)) fun h => ?_
      · have e3 := ev.trans ev2
        have e4 : Evo S0 H0 F0 S2 H ([D] ++ F2) := e3.less (by
          show List.Sublist (D :: F2) (D :: (Gs ++ F2))
          exact (List.sublist_append_right _ _).cons_cons _)
        have e5 := e4.perm (p3.append_left [D])
        refine e5.less ?_
        show List.Sublist (D :: F3) (D :: (D2 ++ F3))
        exact (List.sublist_append_right _ _).cons_cons _
      · have h1 : q1 = true ∧ (q2 && q3) = true := by rw [Bool.and_eq_true] at h; exact h
        exact (hq h1.1).trans (hq2 h1.2)
end
end Dg

set_option Elab.async false
set_option linter.all false
set_option maxRecDepth 100000
namespace Dg
open PySem PySem.Spec PyProof.Rows L2

/-! ### list comprehensions as expressions, and given to a name -/
/-- a list comprehension: its parts -/
structure LX (X : Cx) (Γ : List Sh) (elt tg iter : Expr) (ifs : List Expr) (scope : Scope) (own : List (Str × Nat)) (q : Bool) (m : Mx) : Prop where
  ex : ∃ wi g tt te, PI X tg iter wi ∧ (∀ (s : Shared) (H : Hp) (C : Addr) (cl : List (Str × Addr)) (fp : List Addr), PG (X.blk s H scope (compEnvC scope cl C X.env) fp) tg g) ∧
    (∀ (s : Shared) (H : Hp) (C : Addr) (cl : List (Str × Addr)) (fp : List Addr), PTs (X.blk s H scope (compEnvC scope cl C X.env) fp) ifs tt) ∧
    (∀ (s : Shared) (H : Hp) (C : Addr) (cl : List (Str × Addr)) (fp : List Addr), PE (X.blk s H scope (compEnvC scope cl C X.env) fp) elt te) ∧
    ∀ S H σ ε F Q r ε', WF S H F → SR X.K X.mg S H Γ σ ε F → m ε = some (r, ε') → Fin X Γ S H F σ (.lst .fro) q r ε' Q → tLc wi g tt te (own.map (·.2)) σ H Q
section
variable {X : Cx} {Γ : List Sh} {tg iter elt e : Expr} {ifs : List Expr} {sl : List Nat} {q q1 q2 q3 : Bool} {src : Ml} {mt : Mg} {mk : Mb} {me m : Mx} {pos : Pos} {own : List (Str × Nat)} {scope : Scope}
theorem lx_of (hi : IX X Γ tg iter q1 src)
    (hg : ∀ (s : Shared) (H : Hp) (C : Addr) (cl : List (Str × Addr)) (fp : List Addr), GX (X.blk s H scope (compEnvC scope cl C X.env) fp) Γ tg sl mt)
    (ht : ∀ (s : Shared) (H : Hp) (C : Addr) (cl : List (Str × Addr)) (fp : List Addr), KX (X.blk s H scope (compEnvC scope cl C X.env) fp) Γ ifs q2 mk)
    (he : ∀ (s : Shared) (H : Hp) (C : Addr) (cl : List (Str × Addr)) (fp : List Addr), EX (X.blk s H scope (compEnvC scope cl C X.env) fp) Γ elt .fro q3 me)
    (hsl : ∀ i ∈ sl, i ∈ own.map (·.2)) (hΓ : ∀ i ∈ own.map (·.2), Γ[i]? = some .fro) : LX X Γ elt tg iter ifs scope own (q1 && (q2 && q3)) (mLc src mt mk me (own.map (·.2))) := by
  obtain ⟨wi, pi, ki⟩ := hi.ex
  refine ⟨wi, cG X Γ sl mt, cT X Γ q2 mk, cE X Γ .fro q3 me, pi, fun s H C cl fp => (hg s H C cl fp).ex, fun s H C cl fp => (ht s H C cl fp).ex, fun s H C cl fp => (he s H C cl fp).can, fun S H σ ε F Q r ε' w sr hm fin => ?_⟩
  obtain ⟨ds, ε1, ts, ε2, e1, hl, e2, rfl, rfl⟩ := mLc_of hm
  exact ki S H σ ε F _ ds ε1 w sr e1 fun S1 H1 J Gs F1 ev sr1 sc hq =>
    lc_run hsl hΓ ev sr1 hq hl e2 (fun S2 H2 a b _ d => sc S2 H2 a b d) fin
theorem lx_ofQ (hi : IQ X Γ tg iter q1 src)
    (hg : ∀ (s : Shared) (H : Hp) (C : Addr) (cl : List (Str × Addr)) (fp : List Addr), GX (X.blk s H scope (compEnvC scope cl C X.env) fp) Γ tg sl mt)
    (ht : ∀ (s : Shared) (H : Hp) (C : Addr) (cl : List (Str × Addr)) (fp : List Addr), KX (X.blk s H scope (compEnvC scope cl C X.env) fp) Γ ifs true mk)
    (he : ∀ (s : Shared) (H : Hp) (C : Addr) (cl : List (Str × Addr)) (fp : List Addr), EX (X.blk s H scope (compEnvC scope cl C X.env) fp) Γ elt .fro true me)
    (hsl : ∀ i ∈ sl, i ∈ own.map (·.2)) (hΓ : ∀ i ∈ own.map (·.2), Γ[i]? = some .fro) : LX X Γ elt tg iter ifs scope own (q1 && (true && true)) (mLc src mt mk me (own.map (·.2))) := by
  obtain ⟨wi, pi, ki⟩ := hi.ex
  refine ⟨wi, cG X Γ sl mt, cT X Γ true mk, cE X Γ .fro true me, pi, fun s H C cl fp => (hg s H C cl fp).ex, fun s H C cl fp => (ht s H C cl fp).ex, fun s H C cl fp => (he s H C cl fp).can, fun S H σ ε F Q r ε' w sr hm fin => ?_⟩
  obtain ⟨ds, ε1, ts, ε2, e1, hl, e2, rfl, rfl⟩ := mLc_of hm
  exact ki S H σ ε F _ ds ε1 w sr e1 fun S1 H1 J F1 ev sr1 sc hq =>
    lc_run (Gs := []) hsl hΓ ev sr1 hq hl e2 (fun S2 H2 a _ c d => sc S2 H2 a (c rfl) d) fin
theorem ex_lc (hc : X.calm = true) (hN : X.N.Nodup) (h : LX X Γ elt tg iter ifs scope own q m) (ok : BlkOk X.N X.env.scope scope own) (hs : ∀ x, foldedSetIterable iter X.env x = pure x := by intro _; rfl) :
    EX X Γ (.ListComp elt [⟨tg, iter, ifs, 0⟩] scope pos) (.lst .fro) q m := by
  obtain ⟨wi, g, tt, te, pi, pg, pt, pe, k⟩ := h.ex
  exact ⟨_, pe_lc hc hN pi ok pg pt pe hs, k⟩
end

/-! ### statements -/
inductive Out where
  | nx | bk | ct | rt (t : T)
abbrev Ms := Envt → Option (Out × Envt)
def SEnd (X : Cx) (pin : List Nat) (Γ : List Sh) (shr : Sh) (S : Addr → Prop) (H : Hp) (F : List Addr) (σ : L2.St) (D : Ends) (ε' : Envt) : Out → Prop
  | .nx => ∀ S' H' σ' F', Evo S H F S' H' F' → SR X.K X.mg S' H' Γ σ' ε' F' → (∀ i ∈ pin, σ'[i]? = σ[i]?) → D.nx σ' H'
  | .bk => ∀ S' H' σ' F', Evo S H F S' H' F' → SR X.K X.mg S' H' Γ σ' ε' F' → (∀ i ∈ pin, σ'[i]? = σ[i]?) → D.bk σ' H'
  | .ct => ∀ S' H' σ' F', Evo S H F S' H' F' → SR X.K X.mg S' H' Γ σ' ε' F' → (∀ i ∈ pin, σ'[i]? = σ[i]?) → D.ct σ' H'
  | .rt r => ∀ S' H' σ' v G F', Evo S H F S' H' (G ++ F') → SR X.K X.mg S' H' Γ σ' ε' F' → (∀ i ∈ pin, σ'[i]? = σ[i]?) → Ow X.K X.mg S' H' shr v r G → D.rt v H'
structure SX (X : Cx) (pin : List Nat) (Γ : List Sh) (shr : Sh) (st : Stmt) (m : Ms) : Prop where
  ex : ∃ t : TS, PS X st t ∧ ∀ S H σ ε F D out ε', WF S H F → SR X.K X.mg S H Γ σ ε F → m ε = some (out, ε') → SEnd X pin Γ shr S H F σ D ε' out → t D σ H
structure SXs (X : Cx) (pin : List Nat) (Γ : List Sh) (shr : Sh) (st : List Stmt) (m : Ms) : Prop where
  ex : ∃ t : TS, PSs X st t ∧ ∀ S H σ ε F D out ε', WF S H F → SR X.K X.mg S H Γ σ ε F → m ε = some (out, ε') → SEnd X pin Γ shr S H F σ D ε' out → t D σ H
section
variable {X : Cx} {pin : List Nat} {Γ : List Sh} {shr sh : Sh} {tg iter e c : Expr} {st : Stmt} {sts b1 b2 : List Stmt} {sl : List Nat} {q q1 q2 q3 : Bool} {src : Ml} {mt : Mg} {mk : Mb} {me m : Mx} {s1 s2 : Ms} {pos : Pos} {own : List (Str × Nat)} {scope : Scope}
/-- going on from a later state -/
theorem SEnd.later {S S1 : Addr → Prop} {H H1 : Hp} {F F1 : List Addr} {σ σ1 : L2.St} {D : Ends} {ε' : Envt} {out : Out} (h : SEnd X pin Γ shr S H F σ D ε' out) (ev : Evo S H F S1 H1 F1) (hp : ∀ i ∈ pin, σ1[i]? = σ[i]?) : SEnd X pin Γ shr S1 H1 F1 σ1 D ε' out := by
  cases out with
  | nx => exact fun S' H' σ' F' e r p => h S' H' σ' F' (ev.trans e) r fun i m => (p i m).trans (hp i m)
  | bk => exact fun S' H' σ' F' e r p => h S' H' σ' F' (ev.trans e) r fun i m => (p i m).trans (hp i m)
  | ct => exact fun S' H' σ' F' e r p => h S' H' σ' F' (ev.trans e) r fun i m => (p i m).trans (hp i m)
  | rt t => exact fun S' H' σ' v G F' e r p o => h S' H' σ' v G F' (ev.trans e) r (fun i m => (p i m).trans (hp i m)) o
def sNil : Ms := fun ε => some (.nx, ε)
def sCons (s1 s2 : Ms) : Ms := fun ε => (s1 ε).bind fun r => match r.1 with | .nx => s2 r.2 | _ => some r
theorem sxs_nil : SXs X pin Γ shr [] sNil := ⟨_, pss_nil, fun S H σ ε F D out ε' w sr hm k => by
  cases hm
  exact k S H σ F (.refl w) sr fun _ _ => rfl⟩
theorem sxs_cons (h1 : SX X pin Γ shr st s1) (h2 : SXs X pin Γ shr sts s2) : SXs X pin Γ shr (st :: sts) (sCons s1 s2) := by
  obtain ⟨t1, p1, k1⟩ := h1.ex
  obtain ⟨t2, p2, k2⟩ := h2.ex
  refine ⟨_, pss_cons p1 p2, fun S H σ ε F D out ε' w sr hm k => ?_⟩
  unfold sCons at hm
  cases e1 : s1 ε with
  | none => rw [e1] at hm; cases hm
  | some y =>
    obtain ⟨o1, ε1⟩ := y
    rw [e1] at hm
    refine k1 S H σ ε F _ o1 ε1 w sr e1 ?_
    cases o1 with
    | nx => exact fun S' H' σ' F' e r p => k2 S' H' σ' ε1 F' D out ε' e.w1 r hm (k.later e p)
    | bk => cases hm; exact k
    | ct => cases hm; exact k
    | rt t => cases hm; exact k
theorem sxs_one (h1 : SX X pin Γ shr st s1) : SXs X pin Γ shr [st] s1 := by
  obtain ⟨t1, p1, k1⟩ := h1.ex
  exact ⟨_, pss_one p1, k1⟩
def sIf (c : Mb) (a b : Ms) : Ms := fun ε => (c ε).bind fun r => if r.1 = true then a r.2 else b r.2
theorem sx_if (hc : TX X Γ c q mk) (ha : SXs X pin Γ shr b1 s1) (hb : SXs X pin Γ shr b2 s2) : SX X pin Γ shr (.If c b1 b2 pos) (sIf mk s1 s2) := by
  obtain ⟨tc, pc, kc⟩ := hc.ex
  obtain ⟨t1, p1, k1⟩ := ha.ex
  obtain ⟨t2, p2, k2⟩ := hb.ex
  refine ⟨_, ps_if pc p1 p2, fun S H σ ε F D out ε' w sr hm k => ?_⟩
  unfold sIf at hm
  cases e1 : mk ε with
  | none => rw [e1] at hm; cases hm
  | some y =>
    obtain ⟨b, ε1⟩ := y
    rw [e1] at hm
    simp only [Option.bind_some] at hm
    refine kc S H σ ε F _ b ε1 w sr e1 fun S' H' F' ev sr' _ => ?_
    cases b with
    | true =>
      rw [if_pos rfl] at hm ⊢
      exact k1 S' H' σ ε1 F' D out ε' ev.w1 sr' hm (k.later ev fun _ _ => rfl)
    | false =>
      rw [if_neg Bool.false_ne_true] at hm ⊢
      exact k2 S' H' σ ε1 F' D out ε' ev.w1 sr' hm (k.later ev fun _ _ => rfl)
theorem sx_pass : SX X pin Γ shr (.Pass pos) sNil := ⟨_, ps_pass, fun S H σ ε F D out ε' w sr hm k => by cases hm; exact k S H σ F (.refl w) sr fun _ _ => rfl⟩
def sBk : Ms := fun ε => some (.bk, ε)
def sCt : Ms := fun ε => some (.ct, ε)
theorem sx_break : SX X pin Γ shr (.Break pos) sBk := ⟨_, ps_break, fun S H σ ε F D out ε' w sr hm k => by cases hm; exact k S H σ F (.refl w) sr fun _ _ => rfl⟩
theorem sx_continue : SX X pin Γ shr (.Continue pos) sCt := ⟨_, ps_continue, fun S H σ ε F D out ε' w sr hm k => by cases hm; exact k S H σ F (.refl w) sr fun _ _ => rfl⟩
def sRet (m : Mx) : Ms := fun ε => (m ε).map fun r => (.rt r.1, r.2)
theorem sx_ret (h : EX X Γ e shr q me) : SX X pin Γ shr (.Return (some e) pos) (sRet me) := by
  obtain ⟨t, p, kk⟩ := h.ex
  refine ⟨_, ps_ret p, fun S H σ ε F D out ε' w sr hm k => ?_⟩
  obtain ⟨⟨r, ε1⟩, e1, e2⟩ := map_of hm
  cases e2
  exact kk S H σ ε F _ r ε1 w sr e1 fun S' H' v G F' ev sr' o _ => k S' H' σ v G F' ev sr' (fun _ _ => rfl) o
theorem sx_retN (hs : ∀ K mg S H, Ow K mg S H shr .non .none []) : SX X pin Γ shr (.Return none pos) (fun ε => some (.rt .none, ε)) := by
  refine ⟨_, ps_retN, fun S H σ ε F D out ε' w sr hm k => ?_⟩
  cases hm
  exact k S H σ .non [] F (.refl w) sr (fun _ _ => rfl) (hs _ _ _ _)
def sDrop (m : Mx) : Ms := fun ε => (m ε).map fun r => (.nx, r.2)
theorem sx_expr (h : EX X Γ e sh q me) (hp : ∀ t, PE X e t → PS X (.Expr e pos) (tDrop t) := by intro t h1; exact ps_expr h1) : SX X pin Γ shr (.Expr e pos) (sDrop me) := by
  obtain ⟨t, p, kk⟩ := h.ex
  refine ⟨_, hp t p, fun S H σ ε F D out ε' w sr hm k => ?_⟩
  obtain ⟨⟨r, ε1⟩, e1, e2⟩ := map_of hm
  cases e2
  exact kk S H σ ε F _ r ε1 w sr e1 fun S' H' v G F' ev sr' o _ => k S' H' σ F' ev.dropL sr' fun _ _ => rfl
def sSet (i : Nat) (m : Mx) : Ms := fun ε => (m ε).map fun r => (.nx, r.2.set i (some r.1))
theorem set_end {i : Nat} {S S' : Addr → Prop} {H H' : Hp} {F F' G : List Addr} {σ : L2.St} {D : Ends} {ε1 : Envt} {r : T} {v : V} (k : SEnd X pin Γ shr S H F σ D (ε1.set i (some r)) .nx) (hi : i ∉ pin) (hΓ : Γ[i]? = some sh)
    (ev : Evo S H F S' H' (G ++ F')) (sr : SR X.K X.mg S' H' Γ σ ε1 F') (o : Ow X.K X.mg S' H' sh v r G) : D.nx (σ.set i (some v)) H' := by
  obtain ⟨D2, F2, p2, sr2⟩ := sr.assign hΓ o
  exact k S' H' _ F2 (ev.perm p2).dropL sr2 fun j hj => List.getElem?_set_ne fun z => hi (by rw [z]; exact hj)
theorem sx_set (i : Nat) {x : Str} {pos' : Pos} (hN : X.N.Nodup) (h : EX X Γ e sh q me) (hΓ : Γ[i]? = some sh := by rfl) (hpin : i ∉ pin := by decide) (hi : X.N[i]? = some x := by rfl) (hx : Loc X.env.scope x := by first | exact .inl rfl | exact .inr rfl) (hf : X.fn x = true ∨ X.env.scope.names.lookup x = some .local := by first | exact .inl rfl | exact .inr rfl)
    (hp : ∀ t, X.N.Nodup → X.N[i]? = some x → Loc X.env.scope x → (X.fn x = true ∨ X.env.scope.names.lookup x = some .local) → PE X e t → PS X (.Assign [.Name x pos'] e pos) (tAsg t (gName i)) := by intro t z1 z2 z3 z4 h1; exact ps_set z1 z2 z3 h1 rfl z4) : SX X pin Γ shr (.Assign [.Name x pos'] e pos) (sSet i me) := by
  obtain ⟨t, p, kk⟩ := h.ex
  refine ⟨_, hp t hN hi hx hf p, fun S H σ ε F D out ε' w sr hm k => ?_⟩
  obtain ⟨⟨r, ε1⟩, e1, e2⟩ := map_of hm
  cases e2
  exact kk S H σ ε F _ r ε1 w sr e1 fun S' H' v G F' ev sr' o _ => set_end k hpin hΓ ev sr' o
/-- y = [..], where the model has its own way -/
theorem sx_setLc (i : Nat) {y : Str} {py spos : Pos} (hc : X.calm = true) (hN : X.N.Nodup) (h : LX X Γ e tg iter ifs scope own q me) (ok : BlkOk X.N X.env.scope scope own) (hsh : Γ[i]? = some (.lst .fro) ∨ Γ[i]? = some .fro := by first | exact .inl rfl | exact .inr rfl) (hpin : i ∉ pin := by decide) (hy : X.N[i]? = some y := by rfl) (hyl : X.env.scope.names.lookup y = some .local := by rfl)
    (hsw : swapsWith (.ListComp e [⟨tg, iter, ifs, 0⟩] scope pos) (some (.Name y py)) spos.line X.env = pure true) (hs : ∀ x, foldedSetIterable iter X.env x = pure x := by intro _; rfl) :
    SX X pin Γ shr (.Assign [.Name y py] (.ListComp e [⟨tg, iter, ifs, 0⟩] scope pos) spos) (sSet i me) := by
  obtain ⟨wi, g, tt, te, pi, pg, pt, pe, kk⟩ := h.ex
  refine ⟨_, ps_setLc hc hN hy hyl hsw pi ok pg pt pe hs, fun S H σ ε F D out ε' w sr hm k => ?_⟩
  obtain ⟨⟨r, ε1⟩, e1, e2⟩ := map_of hm
  cases e2
  refine kk S H σ ε F _ r ε1 w sr e1 fun S' H' v G F' ev sr' o _ => ?_
  rcases hsh with hΓ | hΓ
  · exact set_end k hpin hΓ ev sr' o
  · exact set_end (G := []) k hpin hΓ ev.freeze (sr'.mono (fun a h => .inl h) (fun _ _ _ e => e) fun _ _ _ e => e) (.fro (o.freeze rfl (fun a h => .inl h) fun a m => .inr m))
/-- a, b = e -/
def sTgt (mt : Mg) (m : Mx) : Ms := fun ε => (m ε).bind fun r => (mt r.1 r.2).map fun ε1 => (.nx, ε1)
theorem sx_tgt (h : EX X Γ e .fro q me) (hg : GX X Γ tg sl mt) (hpin : ∀ i ∈ pin, i ∉ sl := by decide) (hp : ∀ t g, PE X e t → PG X tg g → PS X (.Assign [tg] e pos) (tAsg t g) := by intro t g h1 h2; exact ps_asg h1 h2) :
    SX X pin Γ shr (.Assign [tg] e pos) (sTgt mt me) := by
  obtain ⟨t, p, kk⟩ := h.ex
  refine ⟨_, hp t _ p hg.ex, fun S H σ ε F D out ε' w sr hm k => ?_⟩
  unfold sTgt at hm
  cases e1 : me ε with
  | none => rw [e1] at hm; cases hm
  | some y =>
    obtain ⟨r, ε1⟩ := y
    rw [e1] at hm
    simp only [Option.bind_some] at hm
    obtain ⟨ε2, e2, e3⟩ := map_of hm
    cases e3
    refine kk S H σ ε F _ r ε1 w sr e1 fun S' H' v G F' ev sr' o _ => ?_
    obtain ⟨z, rfl⟩ := o.fz
    exact ⟨S', ε1, F', r, _, ev.dropL.w1, sr', z, e2, fun σ' F2 ev2 sr2 ag _ => k S' H' σ' F2 (ev.dropL.trans ev2) sr2 fun i m => ag i (hpin i m)⟩

/-! loops -/
def sFor (mt : Mg) (mb : Ms) : List T → Envt → Option (Out × Envt)
  | [], ε => some (.nx, ε)
  | t :: ts, ε => (mt t ε).bind fun ε1 => (mb ε1).bind fun r => match r.1 with
    | .nx => sFor mt mb ts r.2
    | .ct => sFor mt mb ts r.2
    | .bk => some (.nx, r.2)
    | .rt v => some (.rt v, r.2)
def mFor (src : Ml) (mt : Mg) (mb : Ms) : Ms := fun ε => (src ε).bind fun d => sFor mt mb d.1 d.2
theorem sx_for {body : List Stmt} {mb : Ms} (hp : PassesOwn (model X.prog X.w) X.A X.env X.xe) (hc : X.calm = true) (hi : IX X Γ tg iter q src) (hg : GX X Γ tg sl mt) (hb : SXs X pin Γ shr body mb) (hpin : ∀ i ∈ pin, i ∉ sl := by decide) (hfs : ∀ x, foldedSetIterable iter X.env x = pure x := by intro _; rfl) :
    SX X pin Γ shr (.For tg iter body [] pos) (mFor src mt mb) := by
  obtain ⟨wi, pi, ki⟩ := hi.ex
  obtain ⟨tb, pb, kb⟩ := hb.ex
  refine ⟨_, ps_for hp hc pi hg.ex pb hfs, fun S H σ ε F D out ε' w sr hm k => ?_⟩
  unfold mFor at hm
  cases e1 : src ε with
  | none => rw [e1] at hm; cases hm
  | some y =>
    obtain ⟨ds, ε1⟩ := y
    rw [e1] at hm
    simp only [Option.bind_some] at hm
    refine ki S H σ ε F _ ds ε1 w sr e1 fun S1 H1 J Gs F1 ev sr1 sc _ => ?_
    let W : Nat → Nat → L2.St → Hp → Prop := fun i m σ2 H2 => ∃ S2 ε2 F2, i + m = ds.length ∧ Evo S1 H1 (Gs ++ F1) S2 H2 (Gs ++ F2) ∧ SR X.K X.mg S2 H2 Γ σ2 ε2 F2 ∧ (∀ i ∈ pin, σ2[i]? = σ[i]?) ∧ sFor mt mb (ds.drop i) ε2 = some (out, ε') ∧ ∀ a ∈ Gs, ∀ o, H1 a = some o → H2 a = some o
    refine ⟨W, ⟨ds.length, S1, ε1, F1, by omega, .refl ev.w1, sr1, fun _ _ => rfl, hm, fun _ _ _ e => e⟩, fun i m σ2 H2 hW => ?_⟩
    obtain ⟨S2, ε2, F2, em, ev2, sr2, pn, hm2, kG⟩ := hW
    have kGs : ∀ a o, S1 a ∨ a ∈ Gs → H1 a = some o → H2 a = some o := fun a o h e => h.elim (fun h => ev2.kS a o h e) fun h => kG a h o e
    have scW := sc S2 H2 ev2.sub kGs ev2.w1.sl i
    by_cases hi : i < ds.length
    · refine .inr ⟨scW.1 hi, fun σ' H' => W (i + 1) (m - 1) σ' H', fun σ' H' h => ⟨m - 1, by omega, h⟩, fun x H' hy => ?_⟩
      obtain ⟨t, S3, et, st, zx⟩ := scW.2.2 x H' hi hy
      have ed : ds.drop i = t :: ds.drop (i + 1) := by
        rw [List.drop_eq_getElem_cons hi]
        rw [List.getElem?_eq_getElem hi] at et
        cases et
        rfl
      rw [ed] at hm2
      unfold sFor at hm2
      cases e2 : mt t ε2 with
      | none => rw [e2] at hm2; cases hm2
      | some ε3 =>
        rw [e2] at hm2
        simp only [Option.bind_some] at hm2
        cases e3 : mb ε3 with
        | none => rw [e3] at hm2; cases hm2
        | some y3 =>
          obtain ⟨o3, ε4⟩ := y3
          rw [e3] at hm2
          simp only [Option.bind_some] at hm2
          have evA : Evo S1 H1 (Gs ++ F1) S3 H' (Gs ++ F2) := ev2.trans (st.evo ev2.w1)
          have kp : ∀ {S S' : Addr → Prop} {H H' : Hp} {F F' : List Addr}, Evo S H F S' H' F' → WF S H (Gs ++ F) → ∀ a ∈ Gs, ∀ o, H a = some o → H' a = some o := fun e w a m o h =>
            e.keep a o h fun m1 => (List.nodup_append.mp w.nd).2.2 a m a m1 rfl
          refine ⟨S3, ε2, F2, t, ε3, evA.w1.right, sr2.step st, zx, e2, fun σ' F3 ev3 sr3 ag _ => ?_⟩
          have evB := evA.trans (ev3.around evA.w1)
          have pn3 : ∀ i ∈ pin, σ'[i]? = σ[i]? := fun j hj => (ag j (hpin j hj)).trans (pn j hj)
          refine kb S3 H' σ' ε3 F3 _ o3 ε4 ev3.w1 sr3 e3 ?_
          have go : sFor mt mb (ds.drop (i + 1)) ε4 = some (out, ε') → ∀ S' H'' σ'' F', Evo S3 H' F3 S' H'' F' → SR X.K X.mg S' H'' Γ σ'' ε4 F' → (∀ i ∈ pin, σ''[i]? = σ'[i]?) → W (i + 1) (m - 1) σ'' H'' := fun hr S' H'' σ'' F' e r p =>
            ⟨S', ε4, F', by omega, evB.trans (e.around evB.w1), r, fun j hj => (p j hj).trans (pn3 j hj), hr, fun a ma o ea => kp e evB.w1 a ma o (st.keep a o (kG a ma o ea))⟩
          have lt : SEnd X pin Γ shr S3 H' F3 σ' D ε' out := k.later (ev.trans evB).dropL pn3
          cases o3 with
          | nx => exact go hm2
          | ct => exact go hm2
          | bk => cases hm2; exact lt
          | rt v => cases hm2; exact lt
    · have e0 : ds.drop i = [] := List.drop_eq_nil_of_le (by omega)
      rw [e0] at hm2
      cases hm2
      exact .inl ⟨scW.2.1 (by omega), k S2 H2 σ2 F2 (ev.trans ev2).dropL sr2 pn⟩
def sWhile (mk : Mb) (mb : Ms) : Nat → Envt → Option (Out × Envt)
  | 0, _ => none
  | n + 1, ε => (mk ε).bind fun c => if c.1 = true then (mb c.2).bind fun r => match r.1 with
    | .nx => sWhile mk mb n r.2
    | .ct => sWhile mk mb n r.2
    | .bk => some (.nx, r.2)
    | .rt v => some (.rt v, r.2)
    else some (.nx, c.2)
theorem sx_while (n : Nat) {body : List Stmt} {mb : Ms} (hp : PassesOwn (model X.prog X.w) X.A X.env X.xe) (hc : TX X Γ c q mk) (hb : SXs X pin Γ shr body mb) : SX X pin Γ shr (.While c body [] pos) (sWhile mk mb n) := by
  obtain ⟨tc, pc, kc⟩ := hc.ex
  obtain ⟨tb, pb, kb⟩ := hb.ex
  refine ⟨_, ps_while hp pc pb, fun S H σ ε F D out ε' w sr hm k => ?_⟩
  refine ⟨fun m σ2 H2 => ∃ S2 ε2 F2, Evo S H F S2 H2 F2 ∧ SR X.K X.mg S2 H2 Γ σ2 ε2 F2 ∧ (∀ i ∈ pin, σ2[i]? = σ[i]?) ∧ sWhile mk mb m ε2 = some (out, ε'), ⟨n, S, ε, F, .refl w, sr, fun _ _ => rfl, hm⟩, fun m σ2 H2 hW => ?_⟩
  obtain ⟨S2, ε2, F2, ev2, sr2, pn, hm2⟩ := hW
  cases m with
  | zero => cases hm2
  | succ m =>
    unfold sWhile at hm2
    cases e1 : mk ε2 with
    | none => rw [e1] at hm2; cases hm2
    | some y =>
      obtain ⟨b, ε3⟩ := y
      rw [e1] at hm2
      simp only [Option.bind_some] at hm2
      refine kc S2 H2 σ2 ε2 F2 _ b ε3 ev2.w1 sr2 e1 fun S3 H3 F3 ev3 sr3 _ => ?_
      cases b with
      | false =>
        rw [if_neg Bool.false_ne_true] at hm2 ⊢
        cases hm2
        exact k S3 H3 σ2 F3 (ev2.trans ev3) sr3 pn
      | true =>
        rw [if_pos rfl] at hm2 ⊢
        cases e2 : mb ε3 with
        | none => rw [e2] at hm2; cases hm2
        | some y3 =>
          obtain ⟨o3, ε4⟩ := y3
          rw [e2] at hm2
          simp only [Option.bind_some] at hm2
          refine ⟨fun σ' H' => ∃ S4 ε5 F4, Evo S H F S4 H' F4 ∧ SR X.K X.mg S4 H' Γ σ' ε5 F4 ∧ (∀ i ∈ pin, σ'[i]? = σ[i]?) ∧ sWhile mk mb m ε5 = some (out, ε'), fun σ' H' h => ⟨m, Nat.lt_succ_self m, h⟩, ?_⟩
          refine kb S3 H3 σ2 ε3 F3 _ o3 ε4 ev3.w1 sr3 e2 ?_
          have go : sWhile mk mb m ε4 = some (out, ε') → ∀ S' H'' σ'' F', Evo S3 H3 F3 S' H'' F' → SR X.K X.mg S' H'' Γ σ'' ε4 F' → (∀ i ∈ pin, σ''[i]? = σ2[i]?) → ∃ S4 ε5 F4, Evo S H F S4 H'' F4 ∧ SR X.K X.mg S4 H'' Γ σ'' ε5 F4 ∧ (∀ i ∈ pin, σ''[i]? = σ[i]?) ∧ sWhile mk mb m ε5 = some (out, ε') := fun hr S' H'' σ'' F' e r p =>
            ⟨S', ε4, F', (ev2.trans ev3).trans e, r, fun j hj => (p j hj).trans (pn j hj), hr⟩
          have lt : SEnd X pin Γ shr S3 H3 F3 σ2 D ε' out := k.later (ev2.trans ev3) pn
          cases o3 with
          | nx => exact go hm2
          | ct => exact go hm2
          | bk => cases hm2; exact lt
          | rt v => cases hm2; exact lt
end
end Dg

set_option Elab.async false
set_option linter.all false
set_option maxRecDepth 100000
namespace Dg
open PySem PySem.Spec PyProof.Rows L2
section
variable {X : Cx} {K : PySem.W.Frag} {S : Addr → Prop} {H : Hp}
theorem RvL.one {v : List V} {t : T} (r : RvL K S H v [t]) : ∃ x, v = [x] ∧ Rv K S H x t := by
  cases r with
  | cons a b => cases b; exact ⟨_, rfl, a⟩
theorem RvL.two {v : List V} {t u : T} (r : RvL K S H v [t, u]) : ∃ x y, v = [x, y] ∧ Rv K S H x t ∧ Rv K S H y u := by
  cases r with
  | cons a b => cases b with | cons c d => cases d; exact ⟨_, _, rfl, a, c⟩
def bLen : List T → Option T
  | [.list ds] => some (.int ds.length)
  | [.tuple ds] => some (.int ds.length)
  | [.str z] => if z.length ≤ sizeLine then some (.int z.length) else none
  | _ => none
theorem cs_len : CallS X (.builtin "len") .fro bLen := by
  refine ⟨_, .or call_len_seq call_len_str, fun S H xs ts c Q sl r e put => ?_⟩
  match ts, r, e with
  | [.list ds], r, e =>
    cases e
    obtain ⟨x, rfl, rx⟩ := r.one
    obtain ⟨a, ys, rfl, hx, z⟩ := rx.list
    exact .inl ⟨a, ys, rfl, .inl (SqL.of hx), by rw [z.length]; exact put.now sl (.int _)⟩
  | [.tuple ds], r, e =>
    cases e
    obtain ⟨x, rfl, rx⟩ := r.one
    obtain ⟨a, ys, rfl, hx, z, _⟩ := rx.tuple
    exact .inl ⟨a, ys, rfl, .inr hx, by rw [z.length]; exact put.now sl (.int _)⟩
  | [.str z], r, e =>
    have e : (if z.length ≤ sizeLine then some (PyData.int z.length) else none) = some c := e
    obtain ⟨x, rfl, rx⟩ := r.one
    by_cases h : z.length ≤ sizeLine
    · rw [if_pos h] at e; cases e
      rw [rx.str]
      exact .inr ⟨z, rfl, h, put.now sl (.int _)⟩
    · rw [if_neg h] at e; cases e
def bAbs : List T → Option T
  | [.int i] => some (.int (if i < 0 then -i else i))
  | _ => none
theorem cs_abs : CallS X (.builtin "abs") .fro bAbs := by
  refine ⟨_, call_abs, fun S H xs ts c Q sl r e put => ?_⟩
  match ts, r, e with
  | [.int i], r, e =>
    cases e
    obtain ⟨x, rfl, rx⟩ := r.one
    rw [rx.int]
    exact ⟨i, rfl, put.now sl (.int _)⟩
def bInt : List T → Option T
  | [.int i] => some (.int i)
  | _ => none
theorem cs_int : CallS X (.type "int") .fro bInt := by
  refine ⟨_, call_int1, fun S H xs ts c Q sl r e put => ?_⟩
  match ts, r, e with
  | [.int i], r, e =>
    cases e
    obtain ⟨x, rfl, rx⟩ := r.one
    rw [rx.int]
    exact .inl ⟨i, rfl, put.now sl (.int _)⟩
def bTuple : List T → Option T
  | [.list ds] => some (.tuple ds)
  | [.tuple ds] => some (.tuple ds)
  | _ => none
theorem cs_tuple : CallS X (.type "tuple") .fro bTuple := by
  refine ⟨_, call_tuple_of, fun S H xs ts c Q sl r e put => ?_⟩
  match ts, r, e with
  | [.list ds], r, e =>
    cases e
    obtain ⟨x, rfl, rx⟩ := r.one
    obtain ⟨a, ys, rfl, hx, z⟩ := rx.list
    refine ⟨a, ys, rfl, .inl ⟨SqL.of hx, fun p np => ?_⟩⟩
    have st := Step.fz (o := .tup ys) sl np
    exact put _ _ _ _ st (.fro (.tup (.inr rfl) upd_same (z.step st)))
  | [.tuple ds], r, e =>
    cases e
    obtain ⟨x, rfl, rx⟩ := r.one
    obtain ⟨a, ys, rfl, hx, z, zf⟩ := rx.tuple
    exact ⟨a, ys, rfl, .inr ⟨hx, put.now sl zf⟩⟩
def bList : List T → Option T
  | [.list ds] => some (.list ds)
  | [.tuple ds] => some (.list ds)
  | _ => none
theorem cs_list : CallS X (.type "list") (.lst .fro) bList := by
  refine ⟨_, call_list_of, fun S H xs ts c Q sl r e put => ?_⟩
  match ts, r, e with
  | [.list ds], r, e =>
    cases e
    obtain ⟨x, rfl, rx⟩ := r.one
    obtain ⟨a, ys, rfl, hx, z⟩ := rx.list
    refine ⟨a, ys, rfl, .inl (SqL.of hx), fun p np => ?_⟩
    have st := Step.ow (o := .lst ys) sl np
    exact put _ _ _ _ st (.lst upd_same (OwAll.of (z.step st)))
  | [.tuple ds], r, e =>
    cases e
    obtain ⟨x, rfl, rx⟩ := r.one
    obtain ⟨a, ys, rfl, hx, z, zf⟩ := rx.tuple
    refine ⟨a, ys, rfl, .inr hx, fun p np => ?_⟩
    have st := Step.ow (o := .lst ys) sl np
    exact put _ _ _ _ st (.lst upd_same (OwAll.of (z.step st)))
/-- list(script) -/
def mListS (m : Mx) : Mx := fun ε => (m ε).bind fun r => match r.1 with | .list ds => some (.list ds, r.2) | _ => none
theorem ex_listS {Γ : List Sh} {e : Expr} {q : Bool} {m : Mx} {p pos : Pos} (ha : EX X Γ e .scr q m) (hm : X.mg "list" = none) (hg : Gl X "list" := by rfl) (hs : starEach [e] X.env = (false, eval e X.env) :: starEach [] X.env := by rfl)
    (h : ∀ r t, X.mg "list" = none → Gl X "list" → CallR X (.type "list") r → PA X [e] t → PE X (.Call (.Name "list" p) [e] [] pos) (tCB r t) := by intro r t z1 z2 h1 h2; exact pe_callTy h1 (by assumption) (by assumption) (by decide +kernel) h2) : EX X Γ (.Call (.Name "list" p) [e] [] pos) (.lst .fro) q (mListS m) := by
  obtain ⟨t, pa, k⟩ := ha.ex
  refine ⟨_, h _ _ hm hg call_list_of (pa_cons pa pa_nil hs), fun S H σ ε F Q r ε' w sr hm' fin => ?_⟩
  unfold mListS at hm'
  cases e1 : m ε with
  | none => rw [e1] at hm'; cases hm'
  | some y =>
    obtain ⟨c, ε1⟩ := y
    rw [e1] at hm'
    simp only [Option.bind_some] at hm'
    refine k S H σ ε F _ c ε1 w sr e1 fun S' H' v G F' ev sr' o hq => ?_
    cases o with
    | @scr a ns z =>
      cases hm'
      have sq : SqL X.K H' a (ns.map V.int) := by
        rcases z with ⟨_, z⟩ | z
        · exact .inl z
        · rcases z with z | z
          · rcases z with z | ⟨_, z⟩ <;> cases z
          · exact .inr z
      refine ⟨a, ns.map V.int, rfl, .inl sq, fun p np => ?_⟩
      have st := Step.ow (o := .lst (ns.map V.int)) ev.w1.sl np
      exact fin _ _ _ [p] F' (ev.trans (st.evo ev.w1)) (sr'.step st) (.lst upd_same (OwAll.of (FzAll.ints ns))) fun h => (hq h).trans st.same
def toInts : List T → Option (List Int)
  | [] => some []
  | .int i :: r => (toInts r).map (i :: ·)
  | _ => none
theorem toInts_of : ∀ {ds : List T} {ns : List Int}, toInts ds = some ns → ds = ns.map PyData.int
  | [], ns, h => by cases h; rfl
  | .int i :: r, ns, h => by
    obtain ⟨m, e1, e2⟩ := map_of h
    subst e2
    rw [toInts_of e1]; rfl
  | .none :: _, _, h => by cases h
  | .bool _ :: _, _, h => by cases h
  | .str _ :: _, _, h => by cases h
  | .list _ :: _, _, h => by cases h
  | .tuple _ :: _, _, h => by cases h
  | .dict _ :: _, _, h => by cases h
theorem FzAll.toI : ∀ {ns : List Int} {vs : List V}, FzAll K S H vs (ns.map PyData.int) → vs = ns.map V.int
  | [], _, h => by cases h; rfl
  | n :: r, _, h => by
    cases h with
    | cons a b => cases a; rw [FzAll.toI b]; rfl
def toBools : List T → Option (List Bool)
  | [] => some []
  | .bool i :: r => (toBools r).map (i :: ·)
  | _ => none
theorem toBools_of : ∀ {ds : List T} {ns : List Bool}, toBools ds = some ns → ds = ns.map PyData.bool
  | [], ns, h => by cases h; rfl
  | .bool i :: r, ns, h => by
    obtain ⟨m, e1, e2⟩ := map_of h
    subst e2
    rw [toBools_of e1]; rfl
  | .none :: _, _, h => by cases h
  | .int _ :: _, _, h => by cases h
  | .str _ :: _, _, h => by cases h
  | .list _ :: _, _, h => by cases h
  | .tuple _ :: _, _, h => by cases h
  | .dict _ :: _, _, h => by cases h
theorem FzAll.toB : ∀ {ns : List Bool} {vs : List V}, FzAll K S H vs (ns.map PyData.bool) → vs = ns.map V.bl
  | [], _, h => by cases h; rfl
  | n :: r, _, h => by
    cases h with
    | cons a b => cases a; rw [FzAll.toB b]; rfl
def bInts (f : List Int → Option T) : List T → Option T
  | [.list ds] => (toInts ds).bind f
  | _ => none
def bBools (f : List Bool → T) : List T → Option T
  | [.list ds] => (toBools ds).map f
  | _ => none
theorem bInts_of {f : List Int → Option T} {ts : List T} {c : T} (h : bInts f ts = some c) : ∃ ns, ts = [.list (ns.map .int)] ∧ f ns = some c := by
  match ts, h with
  | [.list ds], h =>
    have h : (toInts ds).bind f = some c := h
    cases e : toInts ds with
    | none => rw [e] at h; cases h
    | some ns => rw [e] at h; exact ⟨ns, by rw [toInts_of e], h⟩
theorem bBools_of {f : List Bool → T} {ts : List T} {c : T} (h : bBools f ts = some c) : ∃ ns, ts = [.list (ns.map .bool)] ∧ f ns = c := by
  match ts, h with
  | [.list ds], h =>
    obtain ⟨ns, e1, e2⟩ := map_of (o := toBools ds) h
    exact ⟨ns, by rw [toBools_of e1], e2⟩
def bSum : List T → Option T := bInts fun ns => some (.int ns.sum)
theorem cs_sum (hc : X.calm = true) : CallS X (.builtin "sum") .fro bSum := by
  refine ⟨_, cr_sum hc, fun S H xs ts c Q sl r e put => ?_⟩
  obtain ⟨ns, rfl, e2⟩ := bInts_of e
  cases e2
  obtain ⟨x, rfl, rx⟩ := r.one
  obtain ⟨a, ys, rfl, hx, z⟩ := rx.list
  exact ⟨a, ns, rfl, SqL.of (z.toI ▸ hx), put.now sl (.int _)⟩
/-- the greatest and the least of some ints -/
def maxI : List Int → Option Int
  | [] => none
  | x :: r => some (r.foldl (fun a b => if a < b then b else a) x)
def minI : List Int → Option Int
  | [] => none
  | x :: r => some (r.foldl (fun a b => if b < a then b else a) x)
theorem maxI_spec {ns : List Int} {m : Int} (h : maxI ns = some m) : m ∈ ns ∧ ∀ y ∈ ns, y ≤ m := by
  cases ns with
  | nil => cases h
  | cons x r =>
    cases h
    have key : ∀ (r : List Int) (x : Int), (r.foldl (fun a b => if a < b then b else a) x = x ∨ r.foldl (fun a b => if a < b then b else a) x ∈ r) ∧ x ≤ r.foldl (fun a b => if a < b then b else a) x ∧ ∀ y ∈ r, y ≤ r.foldl (fun a b => if a < b then b else a) x := by
      intro r
      induction r with
      | nil => intro x; simp
      | cons z r ih =>
        intro x
        rw [List.foldl_cons]
        by_cases q : x < z
        · rw [if_pos q]
          obtain ⟨h1, h2, h3⟩ := ih z
          refine ⟨.inr ?_, by omega, fun y hy => ?_⟩
          · rcases h1 with h1 | h1
            · rw [h1]; exact List.mem_cons_self
            · exact List.mem_cons_of_mem _ h1
          · rcases List.mem_cons.mp hy with rfl | hy
            · exact h2
            · exact h3 y hy
        · rw [if_neg q]
          obtain ⟨h1, h2, h3⟩ := ih x
          refine ⟨?_, h2, fun y hy => ?_⟩
          · rcases h1 with h1 | h1
            · exact .inl h1
            · exact .inr (List.mem_cons_of_mem _ h1)
          · rcases List.mem_cons.mp hy with rfl | hy
            · omega
            · exact h3 y hy
    obtain ⟨h1, h2, h3⟩ := key r x
    refine ⟨?_, fun y hy => ?_⟩
    · rcases h1 with h1 | h1
      · rw [h1]; exact List.mem_cons_self
      · exact List.mem_cons_of_mem _ h1
    · rcases List.mem_cons.mp hy with rfl | hy
      · exact h2
      · exact h3 y hy
theorem minI_spec {ns : List Int} {m : Int} (h : minI ns = some m) : m ∈ ns ∧ ∀ y ∈ ns, m ≤ y := by
  cases ns with
  | nil => cases h
  | cons x r =>
    cases h
    have key : ∀ (r : List Int) (x : Int), (r.foldl (fun a b => if b < a then b else a) x = x ∨ r.foldl (fun a b => if b < a then b else a) x ∈ r) ∧ r.foldl (fun a b => if b < a then b else a) x ≤ x ∧ ∀ y ∈ r, r.foldl (fun a b => if b < a then b else a) x ≤ y := by
      intro r
      induction r with
      | nil => intro x; simp
      | cons z r ih =>
        intro x
        rw [List.foldl_cons]
        by_cases q : z < x
        · rw [if_pos q]
          obtain ⟨h1, h2, h3⟩ := ih z
          refine ⟨.inr ?_, by omega, fun y hy => ?_⟩
          · rcases h1 with h1 | h1
            · rw [h1]; exact List.mem_cons_self
            · exact List.mem_cons_of_mem _ h1
          · rcases List.mem_cons.mp hy with rfl | hy
            · exact h2
            · exact h3 y hy
        · rw [if_neg q]
          obtain ⟨h1, h2, h3⟩ := ih x
          refine ⟨?_, h2, fun y hy => ?_⟩
          · rcases h1 with h1 | h1
            · exact .inl h1
            · exact .inr (List.mem_cons_of_mem _ h1)
          · rcases List.mem_cons.mp hy with rfl | hy
            · omega
            · exact h3 y hy
    obtain ⟨h1, h2, h3⟩ := key r x
    refine ⟨?_, fun y hy => ?_⟩
    · rcases h1 with h1 | h1
      · rw [h1]; exact List.mem_cons_self
      · exact List.mem_cons_of_mem _ h1
    · rcases List.mem_cons.mp hy with rfl | hy
      · exact h2
      · exact h3 y hy
/-- max, min of a list of ints, or of two ints -/
def bMax : List T → Option T
  | [.int i, .int j] => some (.int (if j > i then j else i))
  | ts => bInts (fun ns => (maxI ns).map .int) ts
def bMin : List T → Option T
  | [.int i, .int j] => some (.int (if j < i then j else i))
  | ts => bInts (fun ns => (minI ns).map .int) ts
theorem bMax_of {ts : List T} {c : T} (h : bMax ts = some c) : (∃ i j, ts = [.int i, .int j] ∧ c = .int (if j > i then j else i)) ∨ ∃ ns m, ts = [.list (ns.map .int)] ∧ maxI ns = some m ∧ c = .int m := by
  unfold bMax at h
  split at h
  · cases h; exact .inl ⟨_, _, rfl, rfl⟩
  · obtain ⟨ns, e1, e2⟩ := bInts_of h
    obtain ⟨m, e3, e4⟩ := map_of e2
    exact .inr ⟨ns, m, e1, e3, e4.symm⟩
theorem bMin_of {ts : List T} {c : T} (h : bMin ts = some c) : (∃ i j, ts = [.int i, .int j] ∧ c = .int (if j < i then j else i)) ∨ ∃ ns m, ts = [.list (ns.map .int)] ∧ minI ns = some m ∧ c = .int m := by
  unfold bMin at h
  split at h
  · cases h; exact .inl ⟨_, _, rfl, rfl⟩
  · obtain ⟨ns, e1, e2⟩ := bInts_of h
    obtain ⟨m, e3, e4⟩ := map_of e2
    exact .inr ⟨ns, m, e1, e3, e4.symm⟩
theorem cs_max (hc : X.calm = true) : CallS X (.builtin "max") .fro bMax := by
  refine ⟨_, .or (call_max2 hc) (cr_max hc), fun S H xs ts c Q sl r e put => ?_⟩
  rcases bMax_of e with ⟨i, j, rfl, rfl⟩ | ⟨ns, m, rfl, e2, rfl⟩
  · obtain ⟨x, y, rfl, rx, ry⟩ := r.two
    rw [rx.int, ry.int]
    exact .inl ⟨i, j, rfl, put.now sl (.int _)⟩
  · obtain ⟨x, rfl, rx⟩ := r.one
    obtain ⟨a, ys, rfl, hx, z⟩ := rx.list
    obtain ⟨h1, h2⟩ := maxI_spec e2
    refine .inr ⟨a, ns, rfl, SqL.of (z.toI ▸ hx), ?_, fun m' h3 h4 => ?_⟩
    · exact List.length_pos_of_mem h1
    · have : m' = m := Int.le_antisymm (h2 _ h3) (h4 _ h1)
      subst this
      exact put.now sl (.int _)
theorem cs_min (hc : X.calm = true) : CallS X (.builtin "min") .fro bMin := by
  refine ⟨_, .or (call_min2 hc) (cr_min hc), fun S H xs ts c Q sl r e put => ?_⟩
  rcases bMin_of e with ⟨i, j, rfl, rfl⟩ | ⟨ns, m, rfl, e2, rfl⟩
  · obtain ⟨x, y, rfl, rx, ry⟩ := r.two
    rw [rx.int, ry.int]
    exact .inl ⟨i, j, rfl, put.now sl (.int _)⟩
  · obtain ⟨x, rfl, rx⟩ := r.one
    obtain ⟨a, ys, rfl, hx, z⟩ := rx.list
    obtain ⟨h1, h2⟩ := minI_spec e2
    refine .inr ⟨a, ns, rfl, SqL.of (z.toI ▸ hx), ?_, fun m' h3 h4 => ?_⟩
    · exact List.length_pos_of_mem h1
    · have : m' = m := Int.le_antisymm (h4 _ h1) (h2 _ h3)
      subst this
      exact put.now sl (.int _)
def bAny : List T → Option T := bBools fun ns => .bool (ns.any id)
theorem cs_any (hc : X.calm = true) : CallS X (.builtin "any") .fro bAny := by
  refine ⟨_, cr_any hc, fun S H xs ts c Q sl r e put => ?_⟩
  obtain ⟨ns, rfl, rfl⟩ := bBools_of e
  obtain ⟨x, rfl, rx⟩ := r.one
  obtain ⟨a, ys, rfl, hx, z⟩ := rx.list
  exact ⟨a, ns, rfl, SqL.of (z.toB ▸ hx), put.now sl (.bl _)⟩
def bAll : List T → Option T := bBools fun ns => .bool (ns.all id)
theorem cs_all (hc : X.calm = true) : CallS X (.builtin "all") .fro bAll := by
  refine ⟨_, cr_all hc, fun S H xs ts c Q sl r e put => ?_⟩
  obtain ⟨ns, rfl, rfl⟩ := bBools_of e
  obtain ⟨x, rfl, rx⟩ := r.one
  obtain ⟨a, ys, rfl, hx, z⟩ := rx.list
  exact ⟨a, ns, rfl, SqL.of (z.toB ▸ hx), put.now sl (.bl _)⟩
def bGcd : List T → Option T
  | [.int a, .int b] => some (.int ((Nat.gcd a.natAbs b.natAbs : Nat) : Int))
  | _ => none
theorem cs_gcd : CallS X (.builtin "math.gcd") .fro bGcd := by
  refine ⟨_, cr_gcd, fun S H xs ts c Q sl r e put => ?_⟩
  match ts, r, e with
  | [.int a, .int b], r, e =>
    cases e
    obtain ⟨x, y, rfl, rx, ry⟩ := r.two
    rw [rx.int, ry.int]
    exact ⟨a, b, rfl, put.now sl (.int _)⟩

/-! ### append -/
def sApp (i : Nat) (m : Mx) : Ms := fun ε => match ε[i]? with
  | some (some (.list _)) => (m ε).bind fun r => match r.2[i]? with
    | some (some (.list ds)) => if ds.length < sizeLine then some (.nx, r.2.set i (some (.list (ds ++ [r.1])))) else none
    | _ => none
  | _ => none
theorem sApp_of {i : Nat} {m : Mx} {ε ε' : Envt} {out : Out} (h : sApp i m ε = some (out, ε')) : ∃ d0 y ε1 ds, ε[i]? = some (some (.list d0)) ∧ m ε = some (y, ε1) ∧ ε1[i]? = some (some (.list ds)) ∧ ds.length < sizeLine ∧ out = .nx ∧ ε' = ε1.set i (some (.list (ds ++ [y]))) := by
  unfold sApp at h
  split at h
  · rename_i d0 e0
    cases e1 : m ε with
    | none => rw [e1] at h; cases h
    | some z1 =>
      obtain ⟨y, ε1⟩ := z1
      rw [e1] at h
      simp only [Option.bind_some] at h
      split at h
      · rename_i ds eds
        by_cases hl : ds.length < sizeLine
        · rw [if_pos hl] at h
          cases h
          exact ⟨d0, y, ε1, ds, e0, rfl, eds, hl, rfl, rfl⟩
        · rw [if_neg hl] at h; cases h
      · cases h
  · cases h
theorem OwAll.snoc {mg : Str → Option Value} {s : Sh} {vs : List V} {ts : List T} {F G : List Addr} {v : V} {t : T} (h : OwAll K mg S H s vs ts F) (o : Ow K mg S H s v t G) : OwAll K mg S H s (vs ++ [v]) (ts ++ [t]) (F ++ G) := by
  have := h.append (.cons o .nil)
  rwa [List.append_nil] at this
theorem sx_app {Γ : List Sh} {pin : List Nat} {shr s : Sh} {e : Expr} {q : Bool} {m : Mx} (i : Nat) {x : Str} {p apos cpos pos : Pos} (h : EX X Γ e s q m) (hΓ : Γ[i]? = some (.lst s) := by rfl)
    (hN : X.N[i]? = some x := by rfl) (hv : Vis X.env.scope x := by first | exact Or.inl rfl | exact Or.inr (Or.inl rfl) | exact Or.inr (Or.inr rfl)) (hd : (x == ("__debug__" : Str)) = false := by decide) (hc : (x == ("__classdict__" : Str)) = false := by decide)
    (hp : ∀ t t2, PE X (.Name x p) t → PE X e t2 → PS X (.Expr (.Call (.Attribute (.Name x p) "append" apos) [e] [] cpos) pos) (tDrop (tBM X.K "list" rAppend t (tCons t2 tNil))) := by
      intro t t2 h1 h2; exact ps_expr (pe_bm PySem.F.plainAttrs_list PySem.F.slot_list_append PySem.F.type_list_append mt_append h1 (pa_cons h2 pa_nil))) :
    SX X pin Γ shr (.Expr (.Call (.Attribute (.Name x p) "append" apos) [e] [] cpos) pos) (sApp i m) := by
  obtain ⟨t, pe, k⟩ := h.ex
  refine ⟨_, hp _ _ (pe_var hN hv hd hc) pe, fun S H σ ε F D out ε' w sr hm kk => ?_⟩
  obtain ⟨d0, y, ε1, ds, e0, e1, eds, hl, rfl, rfl⟩ := sApp_of hm
  obtain ⟨s0, v0, G0, R0, es0, eσ, o0, _⟩ := sr.at i e0
  rw [hΓ] at es0; cases es0
  have hty : tyV X.K "list" v0 H := by
    cases o0 with
    | nol n _ => exact absurd rfl (n d0)
    | lst e2 _ => exact .inl ⟨rfl, _, SqL.of e2⟩
  refine ⟨v0, eσ, hty, k S H σ ε F _ y ε1 w sr e1 fun S' H' v G F' ev sr' o hq => ?_⟩
  obtain ⟨s1, v1, G1, R1, es1, eσ1, o1, p1, _, F2, p2, k2⟩ := sr'.at i eds
  rw [hΓ] at es1; cases es1
  rw [eσ] at eσ1; cases eσ1
  cases o1 with
  | nol n _ => exact absurd rfl (n ds)
  | @lst s a xs _ Fs e2 oa =>
    have sr2 := k2 (some (.ref a))
    rw [set_same eσ] at sr2
    have evp : Evo S H F S' H' (a :: (Fs ++ G) ++ F2) := ev.perm (by
      refine (p1.append_left G).trans ?_
      refine (List.Perm.append_left G (p2.symm.append_left (a :: Fs))).trans ?_
      have h1 : (G ++ (a :: Fs ++ F2)).Perm ((a :: Fs) ++ (G ++ F2)) := by
        rw [← List.append_assoc, ← List.append_assoc]
        exact List.Perm.append_right _ List.perm_append_comm
      refine h1.trans ?_
      simp)
    have wr := Evo.write (o := .lst (xs ++ [v])) evp.w1 (a := a) (by simp)
    have nd := evp.w1.nd
    have nd1 := List.nodup_append.mp nd
    have nd2 := List.nodup_cons.mp nd1.1
    have nS : ¬ S' a := evp.w1.sep a (by simp)
    have kw : ∀ b o, b ≠ a → H' b = some o → upd H' a (.lst (xs ++ [v])) b = some o := fun b o n e => by rw [upd_ne n]; exact e
    have kS : ∀ b o, S' b → H' b = some o → upd H' a (.lst (xs ++ [v])) b = some o := fun b o sb e => kw b o (fun z => nS (z ▸ sb)) e
    have nF : ∀ b ∈ F2, b ≠ a := fun b mb z => nd1.2.2 a (by simp) b mb z.symm
    have sr3 : SR X.K X.mg S' (upd H' a (.lst (xs ++ [v]))) Γ σ (ε1.set i none) F2 := sr2.mono (fun _ h => h) kS fun b o mb e => kw b o (nF b mb) e
    have oa' := (oa.snoc o).mono (K := X.K) (mg := X.mg) (S' := S') (H' := upd H' a (.lst (xs ++ [v]))) (fun _ h => h) kS fun b o mb e => kw b o (fun z => nd2.1 (z ▸ mb)) e
    have hli : i < ε1.length := (List.getElem?_eq_some_iff.mp eds).1
    obtain ⟨F3, p3, sr4⟩ := sr3.put i (List.getElem?_set_self hli) hΓ (.lst (a := a) upd_same oa')
    rw [List.set_set, set_same eσ] at sr4
    exact ⟨a, xs, v, rfl, rfl, e2, by rw [oa.length]; exact hl, kk _ _ σ F3 ((evp.trans wr).perm p3.symm) sr4 fun _ _ => rfl⟩
end
end Dg

set_option Elab.async false
set_option linter.all false
set_option maxRecDepth 100000
namespace Dg
open PySem PySem.Spec PyProof.Rows L2
section
variable {X : Cx} {K : PySem.W.Frag} {mg : Str → Option Value} {S S' : Addr → Prop} {H H' : Hp} {Γ : List Sh} {pin : List Nat} {shr sh : Sh} {e a b c : Expr} {q q1 q2 : Bool} {m ma mb : Mx} {pos : Pos}
/-- the thing in a slot is changed in place -/
theorem slot_write {σ : L2.St} {ε1 : Envt} {i : Nat} {F F' F2 G Fs N D : List Addr} {ad : Addr} {o' : HO} {t' : T} (ev : Evo S H F S' H' (G ++ F')) (pF : F'.Perm ((ad :: Fs) ++ F2)) (sr2 : SR K mg S' H' Γ σ (ε1.set i none) F2) (hσ : σ[i]? = some (some (.ref ad))) (hΓ : Γ[i]? = some sh) (hli : i < ε1.length)
    (pN : (G ++ Fs).Perm (D ++ N)) (own : (∀ b o, b ≠ ad → H' b = some o → upd H' ad o' b = some o) → ad ∉ G ++ Fs → ¬ S' ad → Ow K mg S' (upd H' ad o') sh (.ref ad) t' (ad :: N)) :
    ∃ F3, Evo S H F S' (upd H' ad o') F3 ∧ SR K mg S' (upd H' ad o') Γ σ (ε1.set i (some t')) F3 := by
  have p1 : (G ++ F').Perm (D ++ ((ad :: N) ++ F2)) := by
    refine (pF.append_left G).trans ?_
    have h1 : (G ++ (ad :: Fs ++ F2)).Perm (ad :: ((G ++ Fs) ++ F2)) := by
      show (G ++ ad :: (Fs ++ F2)).Perm _
      rw [List.append_assoc]
      exact List.perm_middle
    refine h1.trans (((pN.append_right F2).cons ad).trans ?_)
    rw [List.append_assoc]
    exact List.perm_middle.symm
  have evp : Evo S H F S' H' ((ad :: N) ++ F2) := (ev.perm p1).dropL
  have wr := Evo.write (o := o') evp.w1 (a := ad) (by simp)
  have nS : ¬ S' ad := evp.w1.sep ad (by simp)
  have kw : ∀ b o, b ≠ ad → H' b = some o → upd H' ad o' b = some o := fun b o n e => by rw [upd_ne n]; exact e
  have kS : ∀ b o, S' b → H' b = some o → upd H' ad o' b = some o := fun b o sb e => kw b o (fun z => nS (z ▸ sb)) e
  have nF : ∀ b ∈ F2, b ≠ ad := fun b mb z => (List.nodup_append.mp evp.w1.nd).2.2 ad (by simp) b mb z.symm
  have nGF : ad ∉ G ++ Fs := fun mm => by
    have nd := (ev.w1.perm ((pF.append_left G).trans (List.perm_middle))).nd
    have h2 : ad ∉ G ++ (Fs ++ F2) := (List.nodup_cons.mp nd).1
    rw [← List.append_assoc] at h2
    exact h2 (List.mem_append_left _ mm)
  have sr3 : SR K mg S' (upd H' ad o') Γ σ (ε1.set i none) F2 := sr2.mono (fun _ h => h) kS fun b o mb e => kw b o (nF b mb) e
  obtain ⟨F3, p3, sr4⟩ := sr3.put i (List.getElem?_set_self hli) hΓ (own kw nGF nS)
  rw [List.set_set, set_same hσ] at sr4
  exact ⟨F3, (evp.trans wr).perm p3.symm, sr4⟩
theorem OwAll.at : ∀ {s : Sh} {vs : List V} {ts : List T} {F : List Addr} {j : Nat} {v : V} {t : T} {G : List Addr}, OwAll K mg S H s vs ts F → j < ts.length → Ow K mg S H s v t G → ∃ D F', (F ++ G).Perm (D ++ F') ∧ OwAll K mg S H s (vs.set j v) (ts.set j t) F'
  | _, _, _, _, j, _, _, _, .nil, h, _ => by simp at h
  | _, _, _, _, 0, v, t, G, .cons (F := F1) (G := G1) a b, _, o => ⟨F1, G ++ G1, by
      rw [List.append_assoc]
      exact List.Perm.append_left F1 List.perm_append_comm, .cons o b⟩
  | _, _, _, _, j + 1, v, t, G, .cons (F := F1) (G := G1) a b, h, o => by
    obtain ⟨D, F', p, z⟩ := OwAll.at (j := j) b (by simpa using h) o
    refine ⟨D, F1 ++ F', ?_, .cons a z⟩
    have h1 : (F1 ++ G1 ++ G).Perm (F1 ++ (D ++ F')) := by
      rw [List.append_assoc]
      exact p.append_left F1
    refine h1.trans ?_
    rw [← List.append_assoc, ← List.append_assoc]
    exact List.Perm.append_right _ List.perm_append_comm
/-! ### x[i] = e -/
def sPut (i : Nat) (mv mi : Mx) : Ms := fun ε => (mv ε).bind fun v => (mVar i v.2).bind fun _ => (mi v.2).bind fun k => match k.1, k.2[i]? with
  | .int n, some (some (.list ds)) => (ixN ds.length n).map fun j => (.nx, k.2.set i (some (.list (ds.set j v.1))))
  | _, _ => none
theorem sPut_of {i : Nat} {mv mi : Mx} {ε ε' : Envt} {out : Out} (h : sPut i mv mi ε = some (out, ε')) : ∃ y ε1 t0 n ε2 ds j, mv ε = some (y, ε1) ∧ ε1[i]? = some (some t0) ∧ mi ε1 = some (.int n, ε2) ∧ ε2[i]? = some (some (.list ds)) ∧ ixN ds.length n = some j ∧ out = .nx ∧ ε' = ε2.set i (some (.list (ds.set j y))) := by
  unfold sPut at h
  cases e1 : mv ε with
  | none => rw [e1] at h; cases h
  | some z1 =>
    obtain ⟨y, ε1⟩ := z1
    rw [e1] at h
    simp only [Option.bind_some] at h
    cases e2 : mVar i ε1 with
    | none => rw [e2] at h; cases h
    | some z2 =>
      obtain ⟨t0, ε0⟩ := z2
      rw [e2] at h
      simp only [Option.bind_some] at h
      cases e3 : mi ε1 with
      | none => rw [e3] at h; cases h
      | some z3 =>
        obtain ⟨k, ε2⟩ := z3
        rw [e3] at h
        simp only [Option.bind_some] at h
        cases k with
        | int n =>
          split at h
          · rename_i ek n' ds eds en
            cases eds
            obtain ⟨j, e4, e5⟩ := map_of h
            cases e5
            exact ⟨y, ε1, t0, _, ε2, ds, j, rfl, (mVar_of e2).1, e3, en, e4, rfl, rfl⟩
          · cases h
        | _ => cases h
theorem sx_put {s : Sh} {mv mi : Mx} {idx : Expr} (i : Nat) {x : Str} {p p' : Pos} (h : EX X Γ e s q mv) (hi : EX X Γ idx .fro q2 mi) (hΓ : Γ[i]? = some (.lst s) := by rfl)
    (hN : X.N[i]? = some x := by rfl) (hv : Vis X.env.scope x := by first | exact Or.inl rfl | exact Or.inr (Or.inl rfl) | exact Or.inr (Or.inr rfl)) (hd : (x == ("__debug__" : Str)) = false := by decide) (hc : (x == ("__classdict__" : Str)) = false := by decide)
    (hp : ∀ t g, PE X e t → PG X (.Subscript (.Name x p) idx p') g → PS X (.Assign [.Subscript (.Name x p) idx p'] e pos) (tAsg t g) := by intro t g h1 h2; exact ps_asg h1 h2)
    (hg : ∀ to ti, PE X (.Name x p) to → PE X idx ti → PG X (.Subscript (.Name x p) idx p') (gSub to ti rSetL) := by intro to ti h1 h2; exact pg_sub h1 h2 set_list) :
    SX X pin Γ shr (.Assign [.Subscript (.Name x p) idx p'] e pos) (sPut i mv mi) := by
  obtain ⟨t, pe, k⟩ := h.ex
  obtain ⟨t2, pe2, k2⟩ := hi.ex
  refine ⟨_, hp _ _ pe (hg _ _ (pe_var hN hv hd hc) pe2), fun S H σ ε F D out ε' w sr hm kk => ?_⟩
  obtain ⟨y, ε1, t0, n, ε2, ds, j, e1, e0, e2, eds, ej, rfl, rfl⟩ := sPut_of hm
  refine k S H σ ε F _ y ε1 w sr e1 fun S1 H1 v G F1 ev1 sr1 o1 hq1 => ?_
  obtain ⟨s0, v0, G0, R0, es0, eσ, o0, _⟩ := sr1.at i e0
  refine ⟨v0, eσ, k2 S1 H1 σ ε1 F1 _ _ ε2 ev1.dropL.w1 sr1 e2 fun S2 H2 vi G2 F2 ev2 sr2 o2 _ => ?_⟩
  obtain ⟨zi, rfl⟩ := o2.fz
  cases zi
  obtain ⟨s1, v1, G1, R1, es1, eσ1, ow1, p1, _, F3, p3, k3⟩ := sr2.at i eds
  rw [hΓ] at es1; cases es1
  rw [eσ] at eσ1; cases eσ1
  cases ow1 with
  | nol n _ => exact absurd rfl (n ds)
  | @lst s ad xs _ Fs e3 oa =>
    have sr3 := k3 (some (.ref ad))
    rw [set_same eσ] at sr3
    have evA : Evo S H F S2 H2 (G ++ F2) := ev1.trans (ev2.around ev1.w1)
    have oG := o1.along ev2 ev1.w1
    have hli : i < ε2.length := (List.getElem?_eq_some_iff.mp eds).1
    have hj : j < ds.length := by
      rw [← oa.length] at ej
      have := (ixN_seq ej).2.1
      rw [oa.length] at this
      exact this
    obtain ⟨D4, F4, p4, oa4⟩ := OwAll.at (j := j) oa hj oG
    obtain ⟨F5, ev5, sr5⟩ := slot_write (o' := .lst (xs.set j v)) (t' := .list (ds.set j y)) evA (p1.trans (p3.symm.append_left _)) sr3 eσ hΓ hli
      (List.perm_append_comm.trans p4) (fun kw nGF nS => .lst upd_same (oa4.mono (fun _ h => h) (fun b o sb e => kw b o (fun z => nS (z ▸ sb)) e) fun b o mb e => kw b o (fun z => nGF (by
        have : b ∈ Fs ++ G := p4.mem_iff.mpr (List.mem_append_right _ mb)
        rw [← z]
        exact (List.perm_append_comm (l₁ := Fs) (l₂ := G)).mem_iff.mp this)) e))
    exact ⟨ad, xs, n, j, rfl, rfl, e3, by rw [oa.length]; exact ej, kk _ _ σ F5 ev5 sr5 fun _ _ => rfl⟩
/-! ### x, y = a, b -/
def sPar (i j : Nat) (ma mb : Mx) : Ms := fun ε => (ma ε).bind fun x => (mb x.2).map fun y => (.nx, (y.2.set i (some x.1)).set j (some y.1))
theorem sx_par (i j : Nat) {x y : Str} {px py pt pt2 : Pos} {kt k2 : Nat} (hc : X.calm = true) (hN : X.N.Nodup) (ha : EX X Γ a .fro q1 ma) (hb : EX X Γ b .fro q2 mb) (hΓi : Γ[i]? = some .fro := by rfl) (hΓj : Γ[j]? = some .fro := by rfl) (hpi : i ∉ pin := by decide) (hpj : j ∉ pin := by decide)
    (hp : ∀ ta, X.calm = true → X.N.Nodup → PA X [a, b] ta → PS X (.Assign [.Tuple [.Name x px, .Name y py] kt pt] (.Tuple [a, b] k2 pt2) pos) (tPar i j ta) := by intro ta z1 z2 h1; exact ps_par z1 z2 rfl rfl (by decide) rfl rfl h1 rfl)
    (hs : starEach [a, b] X.env = (false, eval a X.env) :: starEach [b] X.env := by rfl) (hs2 : starEach [b] X.env = (false, eval b X.env) :: starEach [] X.env := by rfl) :
    SX X pin Γ shr (.Assign [.Tuple [.Name x px, .Name y py] kt pt] (.Tuple [a, b] k2 pt2) pos) (sPar i j ma mb) := by
  obtain ⟨ta, pa, ka⟩ := ha.ex
  obtain ⟨tb, pb, kb⟩ := hb.ex
  refine ⟨_, hp _ hc hN (pa_cons pa (pa_cons pb pa_nil hs2) hs), fun S H σ ε F D out ε' w sr hm k => ?_⟩
  unfold sPar at hm
  cases e1 : ma ε with
  | none => rw [e1] at hm; cases hm
  | some z1 =>
    obtain ⟨u, ε1⟩ := z1
    rw [e1] at hm
    simp only [Option.bind_some] at hm
    obtain ⟨⟨w', ε2⟩, e2, e3⟩ := map_of hm
    cases e3
    refine ka S H σ ε F _ u ε1 w sr e1 fun S1 H1 v1 G1 F1 ev1 sr1 o1 _ => ?_
    obtain ⟨z1, rfl⟩ := o1.fz
    refine kb S1 H1 σ ε1 F1 _ w' ε2 ev1.w1 sr1 e2 fun S2 H2 v2 G2 F2 ev2 sr2 o2 _ => ?_
    obtain ⟨z2, rfl⟩ := o2.fz
    refine ⟨v1, v2, rfl, ?_⟩
    obtain ⟨D3, F3, p3, sr3⟩ := sr2.assign hΓi (.fro (z1.along ev2))
    obtain ⟨D4, F4, p4, sr4⟩ := sr3.assign hΓj (.fro z2)
    have ev : Evo S H F S2 H2 F2 := ev1.trans ev2
    refine k S2 H2 _ F4 (((ev.perm p3).dropL).perm p4).dropL sr4 fun l hl => ?_
    rw [List.getElem?_set_ne (fun z => hpj (by rw [z]; exact hl)), List.getElem?_set_ne (fun z => hpi (by rw [z]; exact hl))]

/-! ### defs -/
def mOuts : List Sh → List T → Envt → Option (List T)
  | [], _, _ => some []
  | s :: ss, t :: ts, x :: ε => if froB s = true then (mOuts ss ts ε).map fun r => t :: r else match x with
    | some t' => (mOuts ss ts ε).map fun r => t' :: r
    | none => none
  | _, _, _ => none
def mDef (shs : List Sh) (n : Nat) (mb : Ms) : Mf := fun ts => match mb (ts.map some ++ List.replicate (n - ts.length) none) with
  | some (.rt r, ε) => (mOuts shs ts ε).map fun o => (r, o)
  | some (.nx, ε) => (mOuts shs ts ε).map fun o => (.none, o)
  | _ => none
theorem start_sr : ∀ {ss : List Sh} {vs : List V} {ts : List T} {F : List Addr}, OwL K mg S H ss vs ts F → ∀ {Γr : List Sh}, SR K mg S H (ss ++ Γr) (vs.map some ++ List.replicate Γr.length none) (ts.map some ++ List.replicate Γr.length none) F
  | _, _, _, _, .nil, Γr => by
    have : ∀ Γr : List Sh, SR K mg S H Γr (List.replicate Γr.length none) (List.replicate Γr.length none) [] := fun Γr => by
      induction Γr with
      | nil => exact .nil
      | cons s r ih => exact .off ih
    exact this Γr
  | _, _, _, _, .cons a b, Γr => .on a (start_sr b)
theorem outs_ok (hs : ∀ a, S a → S' a) (hk : ∀ a o, S a → H a = some o → H' a = some o) : ∀ {ss : List Sh} {vs : List V} {ts outs : List T} {G : List Addr} {Γr : List Sh} {σ' : L2.St} {ε' : Envt} {F' : List Addr}, OwL K mg S H ss vs ts G → SR K mg S' H' (ss ++ Γr) σ' ε' F' →
    (∀ (i : Nat) s, ss[i]? = some s → froB s = false → σ'[i]? = (vs[i]?).map some) → mOuts ss ts ε' = some outs → ∃ Go, Go.Sublist F' ∧ OwL K mg S' H' ss vs outs Go
  | _, _, _, outs, _, _, _, _, F', .nil, _, _, hm => by cases hm; exact ⟨[], List.nil_sublist _, .nil⟩
  | _, _, _, outs, _, Γr, σ', ε', F', .cons (s := s) (ss := ss) (v := v) (vs := vs) (t := t) (ts := ts) a b, sr, hp, hm => by
    cases sr with
    | @off _ _ x σ2 ε2 F2 sr =>
      unfold mOuts at hm
      by_cases hf : froB s = true
      · rw [if_pos hf] at hm
        obtain ⟨o2, e1, e2⟩ := map_of hm
        subst e2
        obtain ⟨Go, sub, z⟩ := outs_ok hs hk b sr (fun i s' h1 h2 => by simpa using hp (i + 1) s' (by simpa using h1) h2) e1
        refine ⟨Go, sub, ?_⟩
        have ea : Ow K mg S' H' s v t [] := by
          cases a with
          | fro z => exact .fro (z.mono hs hk)
          | scr z => exact (Ow.scr z).mono hs hk fun _ _ m => by cases m
          | _ => cases hf
        exact .cons (F := []) ea z
      · rw [if_neg hf] at hm; cases hm
    | @on _ _ v' t' σ2 ε2 F2 G2 ow sr =>
      unfold mOuts at hm
      by_cases hf : froB s = true
      · rw [if_pos hf] at hm
        obtain ⟨o2, e1, e2⟩ := map_of hm
        subst e2
        obtain ⟨Go, sub, z⟩ := outs_ok hs hk b sr (fun i s' h1 h2 => by simpa using hp (i + 1) s' (by simpa using h1) h2) e1
        refine ⟨Go, sub.trans (List.sublist_append_right _ _), ?_⟩
        have ea : Ow K mg S' H' s v t [] := by
          cases a with
          | fro z => exact .fro (z.mono hs hk)
          | scr z => exact (Ow.scr z).mono hs hk fun _ _ m => by cases m
          | _ => cases hf
        exact .cons (F := []) ea z
      · rw [if_neg hf] at hm
        obtain ⟨o2, e1, e2⟩ := map_of hm
        subst e2
        obtain ⟨Go, sub, z⟩ := outs_ok hs hk b sr (fun i s' h1 h2 => by simpa using hp (i + 1) s' (by simpa using h1) h2) e1
        have ev : v' = v := by
          have := hp 0 s rfl (by simpa using hf)
          simpa using this
        subst ev
        exact ⟨G2 ++ Go, sub.append_left G2, .cons ow z⟩
def rsNon : Sh → Bool
  | .fro => true
  | .lst _ => true
  | .dK _ => true
  | .dT _ => true
  | _ => false
theorem ow_non {s : Sh} (h : rsNon s = true) : Ow K mg S H s .non .none [] := by
  cases s with
  | fro => exact .fro .non
  | lst s => exact .nol (fun _ z => nomatch z) .non
  | dK s => exact .nodK (fun _ z => nomatch z) .non
  | dT s => exact .nodT (fun _ z => nomatch z) .non
  | _ => cases h
theorem def_ok {P : Program} {w : World} {base : Heap} {x qual : Str} {st : Stmt} {f : Addr} {fd : FuncData} {N ps : List Str} {k : Nat} {shs Γr : List Sh} {mb : Ms} (FF : Fun K x qual st f fd) (Sc : FnScope N ps (defScope st)) (hlen : shs.length = ps.length) (hN : N.length = (shs ++ Γr).length)
    (hpin : ∀ (i : Nat) s, shs[i]? = some s → froB s = false → i ∈ pin) (hsn : rsNon shr = true)
    (hb : ∀ (cdv : Value) (A : Around) (outer : List Env) (s : Shared) (H : Hp) (E : XK), Room k (A.deeper (envOfC qual (defScope st) s.heap.objs.size f cdv)) → SXs (cxOf CX0 P w K mg base N qual (defScope st) f cdv A outer s H E).nox pin (shs ++ Γr) shr (defBody st) mb) :
    FnOk P w K mg base CX0 (k + 1) f fd ps (spM K mg shs shr (mDef shs N.length mb)) := by
  refine FF.ok Sc (fun vs H Q E h => ?_) fun cdv A outer s H vs Q E hr h => ?_
  · obtain ⟨S, G, ts, r, outs, _, ol, _⟩ := h
    rw [ol.length.1, hlen]
  · obtain ⟨S, G, ts, r, outs, wf, ol, hm, cont⟩ := h
    obtain ⟨t, p, kk⟩ := (hb cdv A outer s H E hr).ex
    refine ⟨t, p, ?_⟩
    have lv := ol.length
    have hst : L2.start N vs = vs.map some ++ List.replicate Γr.length none := by
      unfold L2.start
      rw [lv.1, hN, List.length_append, Nat.add_sub_cancel_left]
    have hε : (ts.map some ++ List.replicate (N.length - ts.length) none : Envt) = ts.map some ++ List.replicate Γr.length none := by
      rw [lv.2, hN, List.length_append, Nat.add_sub_cancel_left]
    rw [hst]
    unfold mDef at hm
    rw [hε] at hm
    have pv : ∀ {σ' : L2.St}, (∀ i ∈ pin, σ'[i]? = (vs.map some ++ List.replicate Γr.length none)[i]?) → ∀ (i : Nat) s, shs[i]? = some s → froB s = false → σ'[i]? = (vs[i]?).map some := fun hp i s h1 h2 => by
      rw [hp i (hpin i s h1 h2)]
      have hi : i < vs.length := by rw [lv.1]; exact (List.getElem?_eq_some_iff.mp h1).1
      rw [List.getElem?_append_left (by simpa using hi), List.getElem?_map]
    split at hm
    · rename_i r' ε' e1
      obtain ⟨o, e2, e3⟩ := map_of hm
      cases e3
      refine kk S H _ _ G _ _ _ wf (start_sr ol) e1 ?_
      intro S' H' σ' v Gr F' ev sr hp ow
      obtain ⟨Go, sub, oo⟩ := outs_ok ev.sub ev.kS ol sr (pv hp) e2
      exact cont S' H' v Gr Go (ev.less (List.Sublist.append_left sub Gr)) oo ow
    · rename_i ε' e1
      obtain ⟨o, e2, e3⟩ := map_of hm
      cases e3
      refine kk S H _ _ G _ _ _ wf (start_sr ol) e1 ?_
      intro S' H' σ' F' ev sr hp
      obtain ⟨Go, sub, oo⟩ := outs_ok ev.sub ev.kS ol sr (pv hp) e2
      exact cont S' H' .non [] Go (ev.less sub) oo (ow_non hsn)
    · cases hm
end
end Dg

set_option Elab.async false
set_option linter.all false
set_option maxRecDepth 100000
/-! t[::-1]; isinstance; sorted -/
namespace Dg
open PySem PySem.Spec PyProof.Rows L2
section
variable {prog : Program} {w : World} {A : Around} {E : Value → Shared → Prop} {s : Shared}
theorem sliceApplied_back {sl : Addr} {vl vu vs : Value} {n : Nat} {Q : Int × Int × Nat → Shared → Prop} (hs : s.heap.IsSliceOf sl vl vu vs) (pl : IsPart vl none) (pu : IsPart vu none) (ps : IsPart vs (some (-1)))
    (h : Q ((n : Int) - 1, -1, n) s) : wpAny (model prog w) A (Builtin.Slice.sliceApplied (.ref sl) (pure (n : Int))) Q E s := by
  obtain ⟨os, hos, hcs, hds⟩ := id hs
  unfold Builtin.Slice.sliceApplied Builtin.Slice.sliceFields
  refine wpAny_bind (wpAny_bind (wpAny_field hos hds (x := vl) rfl (wpAny_bind (wpAny_field hos hds (x := vu) rfl (wpAny_bind (wpAny_field hos hds (x := vs) rfl (wpAny_pure ?_)))))))
  refine wpAny_bind (HT.slicePart_ ps ?_)
  show wpAny _ _ (if ((-1 : Int) == 0) = true then _ else _) _ _ s
  rw [if_neg (by decide)]
  refine wpAny_bind (HT.slicePart_ pl (wpAny_bind (HT.slicePart_ pu (wpAny_bind (wpAny_pure ?_)))))
  show wpAny _ _ (match Builtin.Slice.sliceAdjust none none (-1) (n : Int) with | (lo, hi) => pure (lo, (-1 : Int), Builtin.Slice.slicePlaces lo hi (-1))) _ _ s
  have e1 : Builtin.Slice.sliceAdjust none none (-1) (n : Int) = ((n : Int) - 1, -1) := by
    unfold Builtin.Slice.sliceAdjust
    simp
  rw [e1]
  have e2 : Builtin.Slice.slicePlaces ((n : Int) - 1) (-1) (-1) = n := by
    unfold Builtin.Slice.slicePlaces
    simp
    split <;> omega
  show wpAny _ _ (pure ((n : Int) - 1, (-1 : Int), Builtin.Slice.slicePlaces ((n : Int) - 1) (-1) (-1))) _ _ s
  rw [e2]
  exact wpAny_pure h
theorem fm_congr {α β : Type} {f g : α → Option β} : ∀ {l : List α}, (∀ x ∈ l, f x = g x) → l.filterMap f = l.filterMap g
  | [], _ => rfl
  | x :: r, h => by
    rw [List.filterMap_cons, List.filterMap_cons, h x List.mem_cons_self, fm_congr fun y hy => h y (List.mem_cons_of_mem _ hy)]
theorem pick_back (xs : Array Value) : ((List.range xs.size).filterMap fun (m : Nat) => xs[(((xs.size : Nat) : Int) - 1 + (m : Int) * (-1)).toNat]?).toArray = xs.toList.reverse.toArray := by
  have e : (List.range xs.size).filterMap (fun (m : Nat) => xs[(((xs.size : Nat) : Int) - 1 + (m : Int) * (-1)).toNat]?) = ((List.range xs.size).map fun k => xs.size - 1 - k).filterMap (xs[·]?) := by
    rw [List.filterMap_map]
    refine fm_congr fun m hm => ?_
    have hm : m < xs.size := List.mem_range.mp hm
    show xs[_]? = xs[_]?
    have : (((xs.size : Nat) : Int) - 1 + (m : Int) * (-1)).toNat = xs.size - 1 - m := by omega
    rw [this]
  rw [e, PySem.W.krv_range, List.filterMap_reverse, PySem.W.krv_all]
theorem getItem_tuple_back {t sl : Addr} {items : Array Value} {vl vu vs : Value} {Q : Value → Shared → Prop} (ht : IsTup s.heap t items) (hs : s.heap.IsSliceOf sl vl vu vs) (pl : IsPart vl none) (pu : IsPart vu none) (ps : IsPart vs (some (-1)))
    (h : Q (.ref s.heap.objs.size) { s with heap := s.heap.push { cls := .type "tuple", data := .seq items.toList.reverse.toArray } })
    (hsz : items.size ≤ sizeLine) : wpAny (model prog w) A (getItem (.ref t) (.ref sl)) Q E s := by
  have htake : sizeOk (.seq items.toList.reverse.toArray) := by
    show items.toList.reverse.toArray.size ≤ sizeLine
    simpa using hsz
  obtain ⟨os, hos, hcs, hds⟩ := id hs
  have hTs : s.TypeIs (.ref sl) "slice" := ⟨os, hos, hcs⟩
  unfold getItem
  try with_reducible refine wpAny_holding ?_
  first | refine wpAny_bind (wpAny_pure ?_) | skip
  refine wpAny_bind (wpAny_sequenceKey ht.typeIs (by decide) ?_)
  refine wpAny_bind (wpAny_callSpecial?_slot (name := Str.ofString "__getitem__") ht.typeIs PyProof.Rows.slot_tuple_getitem
    (wpAny_call_entry PyProof.Rows.slot_tuple_getitem ht.typeIs entry_tuple_getitem ?_ (args_tuple_getitem _ _)))
  show wpAny _ _ (Builtin.Tuple.tupleItemsOf (.ref t) >>= _) _ _ s
  refine wpAny_bind (tupleItemsOf_ ht ?_)
  refine wpAny_bind (wpAny_typeOf hTs ?_)
  rw [if_pos (by decide)]
  refine wpAny_bind (sliceApplied_back hs pl pu ps ?_)
  have hno : ¬ ((((items.size : Int) - 1) == 0 && (-1 : Int) == 1 && items.size == items.size) = true) := by
    intro q
    rw [Bool.and_eq_true, Bool.and_eq_true] at q
    exact absurd q.1.2 (by decide)
  show wpAny _ _ (if (((items.size : Int) - 1) == 0 && (-1 : Int) == 1 && items.size == items.size) = true then _ else _) _ _ s
  rw [if_neg hno, pick_back]
  first
    | exact wpAny_bind (m := Builtin.Tuple.tupleExact _) (wpAny_newObj_type (wpAny_pure ⟨_, rfl, wpAny_pure h⟩) htake)
    | exact wpAny_bind (m := Builtin.Tuple.tupleExact _) (wpAny_newObj_type (wpAny_bind (wpAny_pure (wpAny_pure ⟨_, rfl, wpAny_pure h⟩))) htake)
    | exact wpAny_bind (wpAny_bind (m := Builtin.Tuple.tupleExact _) (wpAny_newObj_type (wpAny_pure (wpAny_pure ⟨_, rfl, wpAny_pure h⟩)) htake))
    | exact wpAny_bind (wpAny_bind (m := Builtin.Tuple.tupleExact _) (wpAny_newObj_type (wpAny_pure ⟨_, rfl, wpAny_pure h⟩) htake))
end
section
variable {X : Cx}
def tRevT (K : PySem.W.Frag) (te : TE) : TE := fun σ H Q => te σ H fun x H1 => ∃ a xs, x = .ref a ∧ SqT K H1 a xs ∧ ∀ p, H1 p = none → Q (.ref p) (upd H1 p (.tup xs.reverse))
theorem pe_revT {e : Expr} {te : TE} {k : Nat} {p1 p2 p3 pos : Pos} (he : PE X e te) : PE X (.Subscript e (.Slice none none (some (.UnaryOp .USub (.Constant (.int 1) k p1) p2)) p3) pos) (tRevT X.K te) := by
  refine ⟨fun pins s σ H Q I h => ?_⟩
  refine Subscript_ (thn (he.run pins s σ H _ I h) fun v s1 ⟨x, H1, I1, r1, q1⟩ => ?_)
  obtain ⟨a, xs, ex, hx, q⟩ := q1
  subst ex
  cases r1
  have hst : PO X (some (.UnaryOp .USub (.Constant (.int 1) k p1) p2)) (tPart (tUn (rU fun i => .int (-i)) (tC (.int 1)))) := po_some (pe_un un_neg pe_int)
  refine wpAny_Slice (thn (po_none.run pins s1 σ H1 (fun o H2 => o = none ∧ H2 = H1) I1 ⟨rfl, rfl⟩) fun vl s2 ⟨l, H2, I2, pl, el, e2⟩ => ?_)
  subst el e2
  refine thn (po_none.run pins s2 σ H2 (fun o H3 => o = none ∧ H3 = H2) I2 ⟨rfl, rfl⟩) fun vu s3 ⟨u, H3, I3, pu, eu, e3⟩ => ?_
  subst eu e3
  refine thn (hst.run pins s3 σ H3 (fun o H4 => o = some (-1) ∧ H4 = H3) I3 ⟨1, rfl, -1, rfl, rfl, rfl⟩) fun vs s4 ⟨o, H4, I4, ps, eo, e4⟩ => ?_
  subst eo e4
  have I5 : Inv X pins σ H4 { s4 with heap := s4.heap.push { cls := .type "slice", data := .fields #[vl, vu, vs] } } := I4.kept (t' := s4.toks) fun b ob q => Heap.get?_push_of_some _ q
  obtain ⟨its, r, ht, hz⟩ := I5.tuple hx
  have hlen := r.length
  show wpAny (model X.prog X.w) X.A (subscriptTail e (.Slice none none (some (.UnaryOp .USub (.Constant (.int 1) k p1) p2)) p3) (.ref a) (.ref s4.heap.objs.size)) (EP X pins σ Q) X.xe { s4 with heap := s4.heap.push { cls := .type "slice", data := .fields #[vl, vu, vs] } }
  refine tail_any (ops := [.ref a, .ref s4.heap.objs.size]) ht.typeIs (PyProof.Rows.slot_tuple_getitem.lookup) ?_ (by with_unfolding_all rfl)
  refine getItem_tuple_back ht (Heap.IsSliceOf.new _ vl vu vs) pl pu ps ?_ (by rw [List.size_toArray]; omega)
  refine ⟨.ref _, _, I5.laid (t' := s4.toks) (o := .tup xs.reverse) (fun b ob q => Heap.get?_push_of_some _ q) (Nat.le_refl _) ?_, rfl, q _ (I5.hok.fresh (Nat.le_refl _))⟩
  exact ⟨by rw [List.length_reverse]; exact hz, _, r.reverse, IsTup.new _ _⟩
theorem PE.or {e : Expr} {t t' : TE} (h : PE X e t) (h' : PE X e t') : PE X e (fun σ H Q => t σ H Q ∨ t' σ H Q) :=
  ⟨fun pins s σ H Q I hq => hq.elim (h.run pins s σ H Q I) (h'.run pins s σ H Q I)⟩
def opRev : T → Option T
  | .list ds => some (.list ds.reverse)
  | .tuple ds => some (.tuple ds.reverse)
  | _ => none
theorem ex_rev {Γ : List Sh} {e : Expr} {q : Bool} {m : Mx} {k : Nat} {p1 p2 p3 pos : Pos} (h : RX X Γ e q m) : EX X Γ (.Subscript e (.Slice none none (some (.UnaryOp .USub (.Constant (.int 1) k p1) p2)) p3) pos) (.lst .fro) q (mUn opRev m) := by
  obtain ⟨t, p, kk⟩ := h.ex
  refine ⟨_, PE.or (pe_revL p) (pe_revT p), fun S H σ ε F Q r ε' w sr hm fin => ?_⟩
  obtain ⟨x, e1, e3⟩ := mUn_of hm
  cases x with
  | list ds =>
    cases e3
    refine .inl (kk S H σ ε F _ _ ε' w sr e1 fun S' H' v F' ev sr' rv hq => ?_)
    obtain ⟨a, xs, rfl, hx, z⟩ := rv.list
    refine ⟨a, xs, rfl, SqL.of hx, fun p np => ?_⟩
    have st := Step.ow (o := .lst xs.reverse) ev.w1.sl np
    exact put_fin fin ev sr' hq _ _ _ _ st (.lst upd_same (OwAll.of (z.reverse.step st)))
  | tuple ds =>
    cases e3
    refine .inr (kk S H σ ε F _ _ ε' w sr e1 fun S' H' v F' ev sr' rv hq => ?_)
    obtain ⟨a, xs, rfl, hx, z, _⟩ := rv.tuple
    refine ⟨a, xs, rfl, hx, fun p np => ?_⟩
    have st := Step.fz (o := .tup xs.reverse) ev.w1.sl np
    exact put_fin fin ev sr' hq _ _ _ _ st (.nol (by intro ds z; cases z) (.tup (.inr rfl) upd_same (z.reverse.step st)))
  | _ => cases e3

/-! ### isinstance -/
def tyN : T → String
  | .none => "NoneType"
  | .bool _ => "bool"
  | .int _ => "int"
  | .str _ => "str"
  | .list _ => "list"
  | .tuple _ => "tuple"
  | .dict _ => "dict"
theorem Rv.ty {K : PySem.W.Frag} {S : Addr → Prop} {H : Hp} {v : V} {t : T} (h : Rv K S H v t) : TyX K H v (.type (tyN t)) := by
  cases h with
  | fz z =>
    cases z with
    | non => exact .base .non
    | bl b => exact .base (.bl b)
    | int i => exact .base (.int i)
    | str x => exact .base (.str x)
    | lst _ e _ => exact .base (.lst e)
    | tup _ e _ => exact .base (.tup e)
    | tupK k _ => obtain ⟨o, its, n, h1, h2, _⟩ := k; exact .kTuple h1 h2
    | dK _ e _ _ => exact .base (.dK e)
    | dT _ e _ _ => exact .base (.dT e)
  | lst e _ => exact .base (.lst e)
  | dK e _ _ => exact .base (.dK e)
  | dT e _ _ => exact .base (.dT e)
def isiList : T → Bool
  | .list _ => true
  | _ => false
def isiTuple : T → Bool
  | .tuple _ => true
  | _ => false
def isiInt : T → Bool
  | .int _ => true
  | .bool _ => true
  | _ => false
def isiBool : T → Bool
  | .bool _ => true
  | _ => false
def isiStr : T → Bool
  | .str _ => true
  | _ => false
/-- is a t an n? -/
def IsiOk (n : String) (f : T → Bool) : Prop := ∀ t : T, kitB (tyN t) n = some (f t)
theorem isi_of {n : String} {f : T → Bool} {b0 b1 b2 b3 b4 b5 b6 : Bool} (h : (kitB "NoneType" n = some b0 ∧ kitB "bool" n = some b1 ∧ kitB "int" n = some b2 ∧ kitB "str" n = some b3 ∧ kitB "list" n = some b4 ∧ kitB "tuple" n = some b5 ∧ kitB "dict" n = some b6))
    (g : f .none = b0 ∧ (∀ b, f (.bool b) = b1) ∧ (∀ b, f (.int b) = b2) ∧ (∀ b, f (.str b) = b3) ∧ (∀ b, f (.list b) = b4) ∧ (∀ b, f (.tuple b) = b5) ∧ ∀ b, f (.dict b) = b6) : IsiOk n f := fun t => by
  obtain ⟨h0, h1, h2, h3, h4, h5, h6⟩ := h
  obtain ⟨g0, g1, g2, g3, g4, g5, g6⟩ := g
  cases t with
  | none => rw [g0]; exact h0
  | bool b => rw [g1]; exact h1
  | int b => rw [g2]; exact h2
  | str b => rw [g3]; exact h3
  | list b => rw [g4]; exact h4
  | tuple b => rw [g5]; exact h5
  | dict b => rw [g6]; exact h6
theorem isi_list : IsiOk "list" isiList := isi_of (b0 := false) (b1 := false) (b2 := false) (b3 := false) (b4 := true) (b5 := false) (b6 := false) (by decide +kernel) ⟨rfl, fun _ => rfl, fun _ => rfl, fun _ => rfl, fun _ => rfl, fun _ => rfl, fun _ => rfl⟩
theorem isi_tuple : IsiOk "tuple" isiTuple := isi_of (b0 := false) (b1 := false) (b2 := false) (b3 := false) (b4 := false) (b5 := true) (b6 := false) (by decide +kernel) ⟨rfl, fun _ => rfl, fun _ => rfl, fun _ => rfl, fun _ => rfl, fun _ => rfl, fun _ => rfl⟩
theorem isi_int : IsiOk "int" isiInt := isi_of (b0 := false) (b1 := true) (b2 := true) (b3 := false) (b4 := false) (b5 := false) (b6 := false) (by decide +kernel) ⟨rfl, fun _ => rfl, fun _ => rfl, fun _ => rfl, fun _ => rfl, fun _ => rfl, fun _ => rfl⟩
theorem isi_bool : IsiOk "bool" isiBool := isi_of (b0 := false) (b1 := true) (b2 := false) (b3 := false) (b4 := false) (b5 := false) (b6 := false) (by decide +kernel) ⟨rfl, fun _ => rfl, fun _ => rfl, fun _ => rfl, fun _ => rfl, fun _ => rfl, fun _ => rfl⟩
theorem isi_str : IsiOk "str" isiStr := isi_of (b0 := false) (b1 := false) (b2 := false) (b3 := true) (b4 := false) (b5 := false) (b6 := false) (by decide +kernel) ⟨rfl, fun _ => rfl, fun _ => rfl, fun _ => rfl, fun _ => rfl, fun _ => rfl, fun _ => rfl⟩
def mIsi (f : T → Bool) (m : Mx) : Mx := fun ε => (m ε).map fun r => (.bool (f r.1), r.2)
theorem ex_isi1 {Γ : List Sh} {e : Expr} {q : Bool} {m : Mx} {n : Str} {ns : String} {fi : T → Bool} {p p2 pos : Pos} (h : RX X Γ e q m) (ok : IsiOk ns fi) (hm : X.mg "isinstance" = none) (hm2 : X.mg n = none) (hg : Gl X "isinstance" := by rfl) (hg2 : Gl X n := by rfl)
    (hb : bootBuiltins n = some (.type ns) := by decide +kernel) (hn : n ≠ "__name__" := by decide) (hd : (n == ("__debug__" : Str)) = false := by decide) (hs : starEach [e, .Name n p2] X.env = (false, eval e X.env) :: starEach [.Name n p2] X.env := by rfl) (hs2 : starEach [.Name n p2] X.env = (false, eval (.Name n p2) X.env) :: starEach [] X.env := by rfl)
    (hp : ∀ r t, X.mg "isinstance" = none → Gl X "isinstance" → CallR X (.builtin "isinstance") r → PA X [e, .Name n p2] t → PE X (.Call (.Name "isinstance" p) [e, .Name n p2] [] pos) (tCB r t) := by intro r t z1 z2 h1 h2; exact pe_callB h1 (by assumption) (by assumption) (by decide +kernel) h2) :
    EX X Γ (.Call (.Name "isinstance" p) [e, .Name n p2] [] pos) .fro q (mIsi fi m) := by
  obtain ⟨t, pe, k⟩ := h.ex
  refine ⟨_, hp _ _ hm hg call_isi (pa_cons pe (pa_cons (pe_bltn (v := .ty ns) hg2 hm2 hb rfl hn hd) pa_nil hs2) hs), fun S H σ ε F Q r ε' w sr hm' fin => ?_⟩
  obtain ⟨⟨z, ε1⟩, e1, e2⟩ := map_of hm'
  cases e2
  exact k S H σ ε F _ z ε1 w sr e1 fun S' H' v F' ev sr' rv hq => ⟨v, .ty ns, _, .type ns, fi z, rfl, .ty ns, rv.ty, kit_ty (ok z), fin S' H' (.bl _) [] F' ev sr' (.fro (.bl _)) hq⟩
theorem kitAny_two {K : PySem.W.Frag} {t c d : Value} {b b' : Bool} (h : PySem.W.kitOne K t c = some b) (h' : PySem.W.kitOne K t d = some b') : PySem.W.kitAny K t [c, d] = some (b || b') := by
  unfold PySem.W.kitAny
  rw [h]
  cases b with
  | true => rfl
  | false =>
    show PySem.W.kitAny K t [d] = _
    unfold PySem.W.kitAny
    rw [h']
    cases b' <;> rfl
theorem ex_isi2 {Γ : List Sh} {e : Expr} {q : Bool} {m : Mx} {n n' : Str} {ns ns' : String} {fi fi' : T → Bool} {kt : Nat} {p p2 p3 p4 pos : Pos} (h : RX X Γ e q m) (ok : IsiOk ns fi) (ok' : IsiOk ns' fi') (hm : X.mg "isinstance" = none) (hm2 : X.mg n = none) (hm3 : X.mg n' = none) (hg : Gl X "isinstance" := by rfl) (hg2 : Gl X n := by rfl) (hg3 : Gl X n' := by rfl)
    (hb : bootBuiltins n = some (.type ns) := by decide +kernel) (hb' : bootBuiltins n' = some (.type ns') := by decide +kernel) (hn : n ≠ "__name__" := by decide) (hn' : n' ≠ "__name__" := by decide) (hd : (n == ("__debug__" : Str)) = false := by decide) (hd' : (n' == ("__debug__" : Str)) = false := by decide)
    (hs : starEach [e, .Tuple [.Name n p2, .Name n' p3] kt p4] X.env = (false, eval e X.env) :: starEach [.Tuple [.Name n p2, .Name n' p3] kt p4] X.env := by rfl) (hs2 : starEach [.Tuple [.Name n p2, .Name n' p3] kt p4] X.env = (false, eval (.Tuple [.Name n p2, .Name n' p3] kt p4) X.env) :: starEach [] X.env := by rfl)
    (hs3 : starEach [.Name n p2, .Name n' p3] X.env = (false, eval (.Name n p2) X.env) :: starEach [.Name n' p3] X.env := by rfl) (hs4 : starEach [.Name n' p3] X.env = (false, eval (.Name n' p3) X.env) :: starEach [] X.env := by rfl)
    (hp : ∀ r t, X.mg "isinstance" = none → Gl X "isinstance" → CallR X (.builtin "isinstance") r → PA X [e, .Tuple [.Name n p2, .Name n' p3] kt p4] t → PE X (.Call (.Name "isinstance" p) [e, .Tuple [.Name n p2, .Name n' p3] kt p4] [] pos) (tCB r t) := by intro r t z1 z2 h1 h2; exact pe_callB h1 (by assumption) (by assumption) (by decide +kernel) h2) :
    EX X Γ (.Call (.Name "isinstance" p) [e, .Tuple [.Name n p2, .Name n' p3] kt p4] [] pos) .fro q (mIsi (fun t => fi t || fi' t) m) := by
  obtain ⟨t, pe, k⟩ := h.ex
  refine ⟨_, hp _ _ hm hg call_isiT (pa_cons pe (pa_cons (pe_tup (pa_cons (pe_bltn (v := .ty ns) hg2 hm2 hb rfl hn hd) (pa_cons (pe_bltn (v := .ty ns') hg3 hm3 hb' rfl hn' hd') pa_nil hs4) hs3)) pa_nil hs2) hs), fun S H σ ε F Q r ε' w sr hm' fin => ?_⟩
  obtain ⟨⟨z, ε1⟩, e1, e2⟩ := map_of hm'
  cases e2
  refine k S H σ ε F _ z ε1 w sr e1 fun S' H' v F' ev sr' rv hq => ⟨by show 2 ≤ sizeLine; rw [sizeLine_eq]; decide, fun tp ntp => ?_⟩
  have st := Step.fz (o := .tup [.ty ns, .ty ns']) ev.w1.sl ntp
  refine ⟨v, tp, [.ty ns, .ty ns'], _, [.type ns, .type ns'], fi z || fi' z, rfl, upd_same, .cons (.ty ns) (.cons (.ty ns') .nil), (rv.mono st.sub st.same).ty, kitAny_two (kit_ty (ok z)) (kit_ty (ok' z)), ?_⟩
  exact fin _ _ (.bl _) [] F' (ev.trans (st.evo ev.w1)) (sr'.step st) (.fro (.bl _)) fun h => (hq h).trans st.same
end
end Dg

set_option Elab.async false
set_option linter.all false
set_option maxRecDepth 100000
/-! sorted(list), sorted(tuple) -/
namespace PySem.W
open PySem PySem.Calls PyProof.Rows
section
variable {prog : Program} {w : World} {A : Around} {E : Value → Shared → Prop} {s : Shared}
theorem dg_collect_tuple {l : Addr} {vs : List Value} {Q : List Value → Shared → Prop} (hl : IsTup s.heap l vs.toArray)
    (h : Q vs { s with heap := (s.heap.push (seqObj "list" #[] 0)).update s.heap.objs.size (Obj.mapSeq (· ++ vs.toArray)) }) (hsz : vs.length ≤ sizeLine) :
    wpAny (model prog w) A (collect (.ref l)) Q E s := by
  obtain ⟨o, ho, hc, n, hd⟩ := id hl
  unfold collect
  refine wpAny_bind (wpAny_runValue (codeAny_builtin entry_proto_collect' ?_))
  show wpAny _ _ (do again (.builtin "list.__iadd__" ⟨[← newList [], .ref l], []⟩)) _ _ s
  refine wpAny_bind (wpAny_newList (wpAny_pure ⟨Code.quiet_builtin _ (by decide +kernel), codeAny_builtin entry_list_iadd' ?_⟩))
  show wpAny _ _ (Builtin.List.listExtendWith (.ref s.heap.objs.size) (.ref l) (.ref s.heap.objs.size)) _ _ { s with heap := s.heap.push (seqObj "list" #[] 0) }
  unfold Builtin.List.listExtendWith
  have ho' : (s.heap.push (seqObj "list" #[] 0)).get? l = some o := Heap.get?_push_of_some _ ho
  refine wpAny_bind (wpAny_typeOf (T := "tuple") ⟨o, ho', hc⟩ ?_)
  have ht : (Value.type "tuple" == Value.type "tuple") = true := by rfl
  rw [if_pos (by rw [ht]; simp)]
  refine wpAny_bind (listItems_at ho' hd ?_)
  refine wpAny_bind (listItems_at (xs := #[]) (n := 0) (Heap.get?_push_size _ rfl) rfl ?_)
  rw [if_neg (by simp)]
  refine wpAny_bind (listUpdate_at (xs := #[]) (n := 0) (Heap.get?_push_size _ rfl) rfl ?_ (Nat.zero_le _) (by show (#[] ++ vs.toArray).size ≤ sizeLine + 1; simp only [Array.size_append, List.size_toArray, List.length_nil]; omega))
  refine wpAny_pure ?_
  show wpAny (model prog w) A (do
      let o ← load s.heap.objs.size
      match o.data with
      | .seq xs _ => pure xs.toList
      | _ => unsupported "internal:collect") Q E { s with heap := (s.heap.push (seqObj "list" #[] 0)).update s.heap.objs.size (Obj.mapSeq (· ++ vs.toArray)) }
  refine wpAny_bind (wpAny_load (get?_update_seq (Heap.get?_push_size _ rfl) _) ?_)
  show wpAny _ _ (pure ((#[] : Array Value) ++ vs.toArray).toList) Q E _
  rw [show ((#[] : Array Value) ++ vs.toArray).toList = vs by simp]
  exact wpAny_pure h
theorem dg_sorted_of_sort {l : Addr} {vs : List Value} {Q : Value → Shared → Prop} (hl : IsTup s.heap l vs.toArray) (hL : vs.length ≤ sizeLine)
    (body : ∀ E' : Value → Shared → Prop, wpAny (model prog w) A.in1.in1 (Builtin.«list.sort» ⟨[.ref (s.heap.objs.size + 1)], []⟩) (fun f s' => f = .done (.ret .none) ∧ Q (.ref (s.heap.objs.size + 1)) s') E' { s with heap := copyHeap s.heap vs }) :
    wpAny (model prog w) A (call (.builtin "sorted") [.ref l]) Q E s := by
  refine call_function_entry_kw kind_sorted plain_sorted entry_sorted (args_sorted1 _) ?_
  unfold Builtin.«sorted»
  refine wpAny_bind (m := checkCount "sorted" 1 1 _) (wpAny_pure ?_)
  refine wpAny_bind (dg_collect_tuple hl ?_ hL)
  refine wpAny_bind (wpAny_newList ?_ hL)
  have hsz : ((s.heap.push (seqObj "list" #[] 0)).update s.heap.objs.size (Obj.mapSeq (· ++ vs.toArray))).objs.size = s.heap.objs.size + 1 := by
    rw [Heap.size_update, size_push']
  show wpAny _ _ _ _ _ { s with heap := copyHeap s.heap vs }
  rw [hsz]
  refine wpAny_bind (wpAny_holding (wpAny_call_entry_kw PyProof.Rows.slot_list_sort ⟨_, copyHeap_at s.heap vs, rfl⟩ entry_list_sort ?body (args_list_sort _)))
  case body =>
    show wpAny (model prog w) A.in1.in1 (Builtin.«list.sort» ⟨[.ref (s.heap.objs.size + 1)], []⟩) _ _ _
    refine wpAny_mono (body _) (fun f s' hf => ?_) fun _ _ e => e
    obtain ⟨rfl, hq⟩ := hf
    exact ⟨_, rfl, wpAny_pure ⟨_, rfl, hq⟩⟩
theorem dg_sorted_data {β : Type} {vs : List Value} {bs : List β} {enc : β → PyData} {R : Value → β → Prop} {l : Addr} {Q : Value → Shared → Prop} (hl : IsTup s.heap l vs.toArray) (e : EachIs R vs bs) (er : EachIs (fun v b => ∃ as, Reads s.heap v (enc b) as) vs bs) (hal : AllAlike (bs.map enc)) (hk : Sortable (bs.map enc)) (hL : bs.length ≤ sizeLine)
    (hu : ∀ b, b ∈ bs → A.units + 2 + (enc b).depth < cLine) (h : ∀ out, out.length = bs.length → EachIs R out (bs.mergeSort (dataLe false enc)) → Q (.ref (s.heap.objs.size + 1)) { s with heap := sortedAll s.heap vs (List.toArray out) }) :
    wpAny (model prog w) A (call (.builtin "sorted") [.ref l]) Q E s := by
  have er' : EachIs (fun v b => ∃ as, Reads (sortingHeap (copyHeap s.heap vs) (s.heap.objs.size + 1) vs) v (enc b) as) vs bs := er.mono fun _ _ ⟨as, r⟩ => ⟨as, PyProof.Rows.Reads.keeps (fun _ _ => sorting_copy_old) r⟩
  exact dg_sorted_of_sort hl (by rw [e.length]; exact hL) fun _ => list_sort_vals (s := { s with heap := copyHeap s.heap vs }) (copyHeap_at s.heap vs)
    (SortsAt.data (s := { s with heap := sortingHeap (copyHeap s.heap vs) (s.heap.objs.size + 1) vs }) (each_map (R := fun v d => ∃ as, Reads (sortingHeap (copyHeap s.heap vs) (s.heap.objs.size + 1) vs) v d as) enc er') hal hk (bound_map hu)) (by rw [e.length]; exact hL)
    ⟨rfl, h _ (by rw [sortVals_length false rfl]; exact e.length) (sortVals_data false e er' hal)⟩
end
end PySem.W
namespace Dg
open PySem PySem.Spec PyProof.Rows L2
section
variable {X : Cx} {K : PySem.W.Frag} {S : Addr → Prop} {H : Hp}
def rSortD (K : PySem.W.Frag) : List V → Hp → VK → Prop := fun vs H Q => ∃ (a : Addr) (xs : List V) (ds : List T) (Zr : V → T → Prop), vs = [V.ref a] ∧ (SqL K H a xs ∨ SqT K H a xs) ∧ Paired Zr xs ds ∧ (∀ x d, Zr x d → Dp K H x d) ∧
  PySem.W.AllAlike ds ∧ PySem.W.Sortable ds ∧ (∀ d ∈ ds, d.depth ≤ 64) ∧ ∀ ys p, Paired Zr ys (ds.mergeSort (PySem.W.dataLe false id)) → H p = none → Q (.ref p) (upd H p (.lst ys))
theorem each_of {R : V → T → Prop} : ∀ {xs : List V} {us : List Value} {ds : List T}, Vals xs us → Paired R xs ds → PySem.W.EachIs (fun u d => ∃ x, RelV x u ∧ R x d) us ds
  | _, _, _, .nil, .nil => .nil
  | _, _, _, .cons a b, .cons c d => .cons ⟨_, a, c⟩ (each_of b d)
theorem of_each {R : V → T → Prop} : ∀ {us : List Value} {ds : List T}, PySem.W.EachIs (fun u d => ∃ x, RelV x u ∧ R x d) us ds → ∃ xs, Vals xs us ∧ Paired R xs ds
  | _, _, .nil => ⟨[], .nil, .nil⟩
  | _, _, .cons ⟨x, a, c⟩ t => by
    obtain ⟨xs, h1, h2⟩ := of_each t
    exact ⟨x :: xs, .cons a h1, .cons c h2⟩
theorem cr_sortD (hu : X.A.units + 66 < cLine) : CallR X (.builtin "sorted") (rSortD X.K) := by
  intro pins s σ H vs us Q I r h
  obtain ⟨a, xs, ds, Zr, rfl, hs, pz, dp, al, so, de, q⟩ := h
  rw [Vals.ref1 r]
  have key : ∀ {its : List Value}, Vals xs its → xs.length ≤ sizeLine → PySem.W.EachIs (fun u d => ∃ x, RelV x u ∧ Zr x d) its ds ∧ PySem.W.EachIs (fun v b => ∃ as, Reads s.heap v (id b) as) its ds := fun rv hz => by
    refine ⟨each_of rv pz, ?_⟩
    exact (each_of rv pz).mono fun u d ⟨x, rx, z⟩ => Dp.reads I d x u (dp x d z) rx
  have fin : ∀ {its : List Value}, Vals xs its → xs.length ≤ sizeLine → ∀ out, out.length = ds.length → PySem.W.EachIs (fun u d => ∃ x, RelV x u ∧ Zr x d) out (ds.mergeSort (PySem.W.dataLe false id)) →
      EP X pins σ Q (.ref (s.heap.objs.size + 1)) { s with heap := sortedAll s.heap its (List.toArray out) } := fun {its} rv hz out hl ho => by
    obtain ⟨ys, vy, py⟩ := of_each ho
    obtain ⟨ep, he'⟩ := PyProof.Rows.sortedAll_at s.heap its (List.toArray out)
    have hlen : ys.length ≤ sizeLine := by
      rw [vy.length, hl, ← Paired.length pz]
      exact hz
    refine ⟨.ref _, upd H (s.heap.objs.size + 1) (.lst ys), I.laid (t' := s.toks) (fun _ _ => PyProof.Rows.sortedAll_old) (Nat.le_succ _) ⟨hlen, out, ep, vy, by simpa using he'⟩, rfl, q _ _ py (I.hok.fresh (Nat.le_succ _))⟩
  have hal : PySem.W.AllAlike (ds.map id) := by rw [List.map_id]; exact al
  have hso : PySem.W.Sortable (ds.map id) := by rw [List.map_id]; exact so
  have hde : ∀ b, b ∈ ds → X.A.units + 2 + (id b).depth < cLine := fun b hb => by
    have := de b hb
    show X.A.units + 2 + b.depth < cLine
    omega
  rcases hs with hs | hs
  · obtain ⟨its, rv, hl, hz⟩ := I.list hs
    obtain ⟨e1, e2⟩ := key rv hz
    exact PySem.W.sorted_data hl.isList e1 e2 hal hso (by rw [← Paired.length pz]; exact hz) hde (fin rv hz)
  · obtain ⟨its, rv, hl, hz⟩ := I.tuple hs
    obtain ⟨e1, e2⟩ := key rv hz
    exact PySem.W.dg_sorted_data hl e1 e2 hal hso (by rw [← Paired.length pz]; exact hz) hde (fin rv hz)
def headTup : T → Bool
  | .tuple (_ :: _) => true
  | _ => false
def plainT : T → Bool
  | .none => false
  | .tuple _ => false
  | _ => true
def sortOk (ds : List T) : Bool := ds.all (fun d => ds.all fun d' => PySem.W.alike d d') && (ds.all headTup || ds.all plainT) && PyData.canLayAll0 ds && decide (PyData.depthAll ds ≤ 64)
theorem canLay_mem : ∀ {ds : List T}, PyData.canLayAll0 ds = true → ∀ d ∈ ds, d.canLay0 = true
  | [], _, _, m => by cases m
  | x :: r, h, d, m => by
    rw [PyData.canLayAll0, Bool.and_eq_true] at h
    rcases List.mem_cons.mp m with rfl | m
    · exact h.1
    · exact canLay_mem h.2 d m
theorem depth_mem : ∀ {ds : List T}, ∀ d ∈ ds, d.depth ≤ PyData.depthAll ds
  | x :: r, d, m => by
    rw [PyData.depthAll]
    rcases List.mem_cons.mp m with rfl | m
    · exact Nat.le_max_left _ _
    · exact Nat.le_trans (depth_mem d m) (Nat.le_max_right _ _)
theorem sortOk_of {ds : List T} (h : sortOk ds = true) : PySem.W.AllAlike ds ∧ PySem.W.Sortable ds ∧ (∀ d ∈ ds, d.canLay0 = true) ∧ ∀ d ∈ ds, d.depth ≤ 64 := by
  unfold sortOk at h
  simp only [Bool.and_eq_true, Bool.or_eq_true, decide_eq_true_eq] at h
  obtain ⟨⟨⟨h1, h2⟩, h3⟩, h4⟩ := h
  refine ⟨fun d hd d' hd' => ?_, ?_, canLay_mem h3, fun d hd => Nat.le_trans (depth_mem d hd) h4⟩
  · exact List.all_eq_true.mp (List.all_eq_true.mp h1 d hd) d' hd'
  · rcases h2 with h2 | h2
    · refine .inl fun d hd => ?_
      have := List.all_eq_true.mp h2 d hd
      cases d with
      | tuple xs => cases xs with
        | nil => cases this
        | cons x r => exact ⟨x, r, rfl⟩
      | _ => cases this
    · refine .inr fun d hd => ?_
      have := List.all_eq_true.mp h2 d hd
      cases d with
      | none => cases this
      | tuple _ => cases this
      | _ => exact ⟨(fun z => nomatch z), fun _ z => nomatch z⟩
def sortT (ds : List T) : List T := ds.mergeSort (PySem.W.dataLe false id)
def bSorted : List T → Option T
  | [.list ds] => if sortOk ds = true then some (.list (sortT ds)) else none
  | [.tuple ds] => if sortOk ds = true then some (.list (sortT ds)) else none
  | _ => none
theorem FzAll.paired : ∀ {vs : List V} {ts : List T}, FzAll K S H vs ts → Paired (Fz K S H) vs ts
  | _, _, .nil => .nil
  | _, _, .cons a b => .cons a (FzAll.paired b)
theorem FzAll.ofP : ∀ {vs : List V} {ts : List T}, Paired (Fz K S H) vs ts → FzAll K S H vs ts
  | _, _, .nil => .nil
  | _, _, .cons a b => .cons a (FzAll.ofP b)
theorem Paired.andMem {α β : Type} {R : α → β → Prop} : ∀ {xs : List α} {ys : List β}, Paired R xs ys → Paired (fun a b => R a b ∧ b ∈ ys) xs ys
  | _, _, .nil => .nil
  | _, _, .cons a b => .cons ⟨a, List.mem_cons_self⟩ (L2.Paired.mapP (Paired.andMem b) fun _ _ h => ⟨h.1, List.mem_cons_of_mem _ h.2⟩)
theorem cs_sorted (hu : X.A.units + 66 < cLine) : CallS X (.builtin "sorted") (.lst .fro) bSorted := by
  refine ⟨_, cr_sortD hu, fun S H xs ts c Q sl r e put => ?_⟩
  have main : ∀ {a : Addr} {ys : List V} {ds : List T}, (SqL X.K H a ys ∨ SqT X.K H a ys) → FzAll X.K S H ys ds → sortOk ds = true → Put X S H (.lst .fro) (.list (sortT ds)) Q → rSortD X.K [V.ref a] H Q := fun {a ys ds} hs z ok put => by
    obtain ⟨h1, h2, h3, h4⟩ := sortOk_of ok
    refine ⟨a, ys, ds, fun v d => Fz X.K S H v d ∧ d ∈ ds, rfl, hs, Paired.andMem z.paired, fun x d hz => (Rv.fz hz.1).dp sl (h3 d hz.2), h1, h2, h4, fun ys' p hp np => ?_⟩
    have z' : FzAll X.K S H ys' (sortT ds) := FzAll.ofP (L2.Paired.mapP hp fun _ _ h => h.1)
    have st := Step.ow (o := .lst ys') sl np
    exact put _ _ _ _ st (.lst upd_same (OwAll.of (z'.step st)))
  match ts, r, e with
  | [.list ds], r, e =>
    have e : (if sortOk ds = true then some (PyData.list (sortT ds)) else none) = some c := e
    obtain ⟨x, rfl, rx⟩ := r.one
    obtain ⟨a, ys, rfl, hx, z⟩ := rx.list
    by_cases h : sortOk ds = true
    · rw [if_pos h] at e; cases e
      exact main (.inl (SqL.of hx)) z h put
    · rw [if_neg h] at e; cases e
  | [.tuple ds], r, e =>
    have e : (if sortOk ds = true then some (PyData.list (sortT ds)) else none) = some c := e
    obtain ⟨x, rfl, rx⟩ := r.one
    obtain ⟨a, ys, rfl, hx, z, _⟩ := rx.tuple
    by_cases h : sortOk ds = true
    · rw [if_pos h] at e; cases e
      exact main (.inr hx) z h put
    · rw [if_neg h] at e; cases e
end
end Dg

set_option Elab.async false
set_option linter.all false
set_option maxRecDepth 100000
/-! what a printed walk needs -/
namespace L2
open PySem PySem.Spec PyProof.Rows
theorem Room.h64 {k : Nat} {A : Around} (r : Room k A) : A.units + 64 < cLine := by have := r.un; omega
theorem Room.h65 {k : Nat} {A : Around} (r : Room k A) : A.units + 65 < cLine := by have := r.un; omega
theorem Room.h66 {k : Nat} {A : Around} (r : Room k A) : A.units + 66 < cLine := by have := r.un; omega
end L2
namespace Dg
open PySem PySem.Spec PyProof.Rows L2
def pinB (shs : List Sh) (pin : List Nat) : Bool := (List.range shs.length).all fun i => match shs[i]? with
  | some s => froB s || pin.contains i
  | none => true
theorem pin_ok {shs : List Sh} {pin : List Nat} (h : pinB shs pin = true) : ∀ (i : Nat) s, shs[i]? = some s → froB s = false → i ∈ pin := fun i s e f => by
  have hi : i < shs.length := (List.getElem?_eq_some_iff.mp e).1
  have h2 := List.all_eq_true.mp h i (List.mem_range.mpr hi)
  simp only [e, f, Bool.false_or] at h2
  simpa using h2
def isFro : Option Sh → Bool
  | some .fro => true
  | _ => false
def froAll (Γ : List Sh) (vs : List Nat) : Bool := vs.all fun i => isFro Γ[i]?
theorem fro_ok {Γ : List Sh} {vs : List Nat} (h : froAll Γ vs = true) : ∀ i ∈ vs, Γ[i]? = some .fro := fun i hi => by
  have := List.all_eq_true.mp h i hi
  cases e : Γ[i]? with
  | none => rw [e] at this; cases this
  | some s => cases s <;> first | rfl | (rw [e] at this; cases this)
section
variable {X : Cx} {Γ : List Sh} {a : Expr} {q : Bool} {ma : Mx} {pos : Pos}
/-- not e as a value, e by its truth -/
def mNotB (m : Mx) : Mx := fun ε => (m ε).bind fun r => (truT r.1).map fun k => (.bool (!k), r.2)
theorem ex_notT (h : RX X Γ a q ma) : EX X Γ (.UnaryOp .Not a pos) .fro q (mNotB ma) := by
  obtain ⟨t, p, k⟩ := h.ex
  refine ⟨_, pe_notT p, fun S H σ ε F Q z ε' w sr hm fin => ?_⟩
  unfold mNotB at hm
  cases e1 : ma ε with
  | none => rw [e1] at hm; cases hm
  | some y =>
    obtain ⟨c, ε1⟩ := y
    rw [e1] at hm
    simp only [Option.bind_some] at hm
    obtain ⟨b, e2, e3⟩ := map_of hm
    cases e3
    exact k S H σ ε F _ c ε' w sr e1 fun S' H' v F' ev sr' rv hq => ⟨b, truV_of rv e2, fin S' H' (.bl _) [] F' ev sr' (.fro (.bl _)) hq⟩
end
theorem fn_none {P : Program} {w : World} {K : PySem.W.Frag} {mg : Str → Option Value} {base : Heap} {CX : CXT} {k : Nat} {f : Addr} {fd : FuncData} {ps : List Str} {shs : List Sh} {shr : Sh} (h : shs.length = ps.length) : FnOk P w K mg base CX k f fd ps (spM K mg shs shr fun _ => none) := by
  refine ⟨fun vs H Q E h' => ?_, fun A outer s H args us vs Q E _ _ _ _ h' => ?_⟩
  · obtain ⟨S, G, ts, r, outs, _, _, hm, _⟩ := h'
    cases hm
  · obtain ⟨S, G, ts, r, outs, _, _, hm, _⟩ := h'
    cases hm
/-- the law's promise: a script whose run by fm ends in True -/
def spLaw (K : PySem.W.Frag) (fm : Mf) : Sp := fun vs H Q _ => ∃ (a : Addr) (ns : List Int) (outs : List T), vs = [V.ref a] ∧ SqL K H a (ns.map V.int) ∧ fm [.list (ns.map .int)] = some (.bool true, outs) ∧ ∀ H', Q (.bl true) H'
theorem spLaw_imp {K : PySem.W.Frag} {mg : Str → Option Value} {shr : Sh} {fm : Mf} (vs : List V) (H : Hp) (Q : VK) (E : XK) (h : spLaw K fm vs H Q E) : spM K mg [.scr] shr fm vs H Q E := by
  obtain ⟨a, ns, outs, rfl, hs, e, hQ⟩ := h
  refine ⟨Live H, [], [.list (ns.map .int)], .bool true, outs, ⟨.nil, (fun _ m => by cases m), (fun _ m => by cases m), fun _ h => h⟩, ?_, e, fun S' H' v Gr Go _ _ o => ?_⟩
  · refine .cons (F := []) (.scr ?_) .nil
    rcases hs with hs | hs
    · refine .inl ⟨fun z => ?_, hs⟩
      rcases hs with hs | ⟨o, hs⟩ <;> (rw [hs] at z; cases z)
    · exact .inr (.inr hs)
  · have ev : v = .bl true := by
      cases o with
      | fro z => exact (Rv.fz z).bl
      | nol _ z => exact (Rv.fz z).bl
      | nodK _ z => exact (Rv.fz z).bl
      | nodT _ z => exact (Rv.fz z).bl
    rw [ev]
    exact hQ H'
theorem law_start {K : PySem.W.Frag} {fm : Mf} {n : Nat} {H : Hp} {a : Addr} {ns : List Int} (law : ∀ ns : List Int, ns.length ≤ n → ∃ outs, fm [.list (ns.map .int)] = some (.bool true, outs)) (hl : ns.length ≤ n) (hs : SqL K H a (ns.map V.int))
    (E : XK) : spLaw K fm [.ref a] H (fun v _ => v = .bl true) E := by
  obtain ⟨outs, e⟩ := law ns hl
  exact ⟨a, ns, outs, rfl, hs, e, fun _ => rfl⟩
end Dg

set_option Elab.async false
set_option linter.all false
set_option maxRecDepth 100000
/-! running the mirrors on known slots: rules of the first order -/
namespace Dg
open PySem L2

def kO {α β : Type} (o : Option α) (e : β) : Option (α × β) := o.map fun z => (z, e)
def kVar (o : Option (Option T)) (ε : Envt) : Option (T × Envt) := match o with | some (some t) => some (t, ε) | _ => none
def kMov (i : Nat) (o : Option (Option T)) (ε : Envt) : Option (T × Envt) := match o with | some (some t) => some (t, ε.set i none) | _ => none
def kB2 (g : T → T → Option T) (x : T) (o : Option (T × Envt)) : Option (T × Envt) := o.bind fun y => (g x y.1).map fun z => (z, y.2)
def kB1 (g : T → T → Option T) (mb : Mx) (o : Option (T × Envt)) : Option (T × Envt) := o.bind fun x => (mb x.2).bind fun y => (g x.1 y.1).map fun z => (z, y.2)
def kU (f : T → Option T) (o : Option (T × Envt)) : Option (T × Envt) := o.bind fun x => (f x.1).map fun z => (z, x.2)
def kTb (o : Option (T × Envt)) : Option (Bool × Envt) := o.bind fun r => match r.1 with | .bool k => some (k, r.2) | _ => none
def kTru (o : Option (T × Envt)) : Option (Bool × Envt) := o.bind fun r => (truT r.1).map fun k => (k, r.2)
def kNot (o : Option (Bool × Envt)) : Option (Bool × Envt) := o.map fun r => (!r.1, r.2)
def kAnd (m2 : Mb) (o : Option (Bool × Envt)) : Option (Bool × Envt) := o.bind fun r => if r.1 = true then m2 r.2 else some (false, r.2)
def kOr (m2 : Mb) (o : Option (Bool × Envt)) : Option (Bool × Envt) := o.bind fun r => if r.1 = true then some (true, r.2) else m2 r.2
def kAndV (m2 : Mx) (o : Option (T × Envt)) : Option (T × Envt) := o.bind fun r => match r.1 with | .bool true => m2 r.2 | .bool false => some (.bool false, r.2) | _ => none
def kOrV (m2 : Mx) (o : Option (T × Envt)) : Option (T × Envt) := o.bind fun r => match r.1 with | .bool true => some (.bool true, r.2) | .bool false => m2 r.2 | _ => none
def kNotV (o : Option (T × Envt)) : Option (T × Envt) := o.bind fun r => match r.1 with | .bool k => some (.bool (!k), r.2) | _ => none
def kNB (o : Option Bool) (ε : Envt) : Option (T × Envt) := o.map fun k => (.bool (!k), ε)
def kNotB (o : Option (T × Envt)) : Option (T × Envt) := o.bind fun r => (truT r.1).map fun k => (.bool (!k), r.2)
def kIf {β : Type} (a b : Envt → Option β) (o : Option (Bool × Envt)) : Option β := o.bind fun r => if r.1 = true then a r.2 else b r.2
def kC2 (x : T) (o : Option (List T × Envt)) : Option (List T × Envt) := o.map fun r => (x :: r.1, r.2)
def kC1 (ml : Ml) (o : Option (T × Envt)) : Option (List T × Envt) := o.bind fun x => (ml x.2).map fun r => (x.1 :: r.1, r.2)
def kTup (o : Option (List T × Envt)) : Option (T × Envt) := o.map fun r => (.tuple r.1, r.2)
def kLst (o : Option (List T × Envt)) : Option (T × Envt) := o.map fun r => (.list r.1, r.2)
def kCall {β : Type} (g : List T → Option β) (o : Option (List T × Envt)) : Option (β × Envt) := o.bind fun r => (g r.1).map fun z => (z, r.2)
def kPI (o : Option (T × Envt)) : Option (Option Int × Envt) := o.bind fun r => match r.1 with | .int i => some (some i, r.2) | _ => none
def kS3 (g : T → Option Int → Option Int → Option T) (x : T) (l : Option Int) (o : Option (Option Int × Envt)) : Option (T × Envt) := o.bind fun u => (g x l u.1).map fun z => (z, u.2)
def kS2 (g : T → Option Int → Option Int → Option T) (x : T) (mh : Mo) (o : Option (Option Int × Envt)) : Option (T × Envt) := o.bind fun l => (mh l.2).bind fun u => (g x l.1 u.1).map fun z => (z, u.2)
def kS1 (g : T → Option Int → Option Int → Option T) (ml mh : Mo) (o : Option (T × Envt)) : Option (T × Envt) := o.bind fun x => (ml x.2).bind fun l => (mh l.2).bind fun u => (g x.1 l.1 u.1).map fun z => (z, u.2)
def kCh3 (g2 : T → T → Option T) (mc : Mx) (y : T) (o : Option T) (ε : Envt) : Option (T × Envt) := o.bind fun z => match z with | .bool true => (mc ε).bind fun w => (g2 y w.1).map fun u => (u, w.2) | .bool false => some (.bool false, ε) | _ => none
def kCh2 (g g2 : T → T → Option T) (mc : Mx) (x : T) (o : Option (T × Envt)) : Option (T × Envt) := o.bind fun y => (g x y.1).bind fun z => match z with | .bool true => (mc y.2).bind fun w => (g2 y.1 w.1).map fun u => (u, w.2) | .bool false => some (.bool false, y.2) | _ => none
def kCh1 (g g2 : T → T → Option T) (mb mc : Mx) (o : Option (T × Envt)) : Option (T × Envt) := o.bind fun x => (mb x.2).bind fun y => (g x.1 y.1).bind fun z => match z with | .bool true => (mc y.2).bind fun w => (g2 y.1 w.1).map fun u => (u, w.2) | .bool false => some (.bool false, y.2) | _ => none
def kIt (o : Option (T × Envt)) : Option (List T × Envt) := o.bind fun r => match r.1 with | .list ds => some (ds, r.2) | .tuple ds => some (ds, r.2) | _ => none
def kIsi (f : T → Bool) (o : Option (T × Envt)) : Option (T × Envt) := o.map fun r => (.bool (f r.1), r.2)
def kNol (o : Option (T × Envt)) : Option (T × Envt) := o.bind fun r => match r.1 with | .list _ => none | _ => some r
def kLS (o : Option (T × Envt)) : Option (T × Envt) := o.bind fun r => match r.1 with | .list ds => some (.list ds, r.2) | _ => none
def kG (ms : Mgs) (ts : List T) (o : Option Envt) : Option Envt := o.bind fun ε1 => ms ts ε1
def kA2 (x : T) (o : Option (List (Option T) × Envt)) : Option (List (Option T) × Envt) := o.map fun r => (some x :: r.1, r.2)
def kA1 (al : Ma) (o : Option (T × Envt)) : Option (List (Option T) × Envt) := o.bind fun x => (al x.2).map fun r => (some x.1 :: r.1, r.2)
def kL2 (o : Option (List (Option T) × Envt)) : Option (List (Option T) × Envt) := o.map fun r => (none :: r.1, r.2)
def kL1 (al : Ma) (ε : Envt) (o : Option (T × Envt)) : Option (List (Option T) × Envt) := o.bind fun _ => (al ε).map fun r => (none :: r.1, r.2)
def kU3 (bs : List (Option Nat)) (o : Option (T × List T)) (ε : Envt) : Option (T × Envt) := o.map fun o => (o.1, mBack bs o.2 ε)
def kU2 (fm : Mf) (bs : List (Option Nat)) (o : Option (List T × Envt)) : Option (T × Envt) := o.bind fun f => (fm f.1).map fun o => (o.1, mBack bs o.2 f.2)
def kU1 (fm : Mf) (bs : List (Option Nat)) (o : Option (List (Option T) × Envt)) : Option (T × Envt) := o.bind fun a => (mFill bs a.1 a.2).bind fun f => (fm f.1).map fun o => (o.1, mBack bs o.2 f.2)
def kF (t : T) (o : Option (List T × Envt)) : Option (List T × Envt) := o.map fun r => (t :: r.1, r.2)
def kFl (i : Nat) (b : List (Option Nat)) (ts : List (Option T)) (o : Option (Option T)) (ε : Envt) : Option (List T × Envt) := match o with | some (some t) => (mFill b ts (ε.set i none)).map fun r => (t :: r.1, r.2) | _ => none
def kSeq (s2 : Ms) (o : Option (Out × Envt)) : Option (Out × Envt) := o.bind fun r => match r.1 with | .nx => s2 r.2 | _ => some r
def kRet (o : Option (T × Envt)) : Option (Out × Envt) := o.map fun r => (.rt r.1, r.2)
def kDrop (o : Option (T × Envt)) : Option (Out × Envt) := o.map fun r => (.nx, r.2)
def kSet (i : Nat) (o : Option (T × Envt)) : Option (Out × Envt) := o.map fun r => (.nx, r.2.set i (some r.1))
def kT2 (o : Option Envt) : Option (Out × Envt) := o.map fun ε1 => (.nx, ε1)
def kTgt (mt : Mg) (o : Option (T × Envt)) : Option (Out × Envt) := o.bind fun r => (mt r.1 r.2).map fun ε1 => (.nx, ε1)
def kP2 (i j : Nat) (x : T) (o : Option (T × Envt)) : Option (Out × Envt) := o.map fun y => (.nx, (y.2.set i (some x)).set j (some y.1))
def kP1 (i j : Nat) (mb : Mx) (o : Option (T × Envt)) : Option (Out × Envt) := o.bind fun x => (mb x.2).map fun y => (.nx, (y.2.set i (some x.1)).set j (some y.1))
def kAp2 (i : Nat) (r : T) (o : Option (Option T)) (ε : Envt) : Option (Out × Envt) := match o with | some (some (.list ds)) => if ds.length < sizeLine then some (.nx, ε.set i (some (.list (ds ++ [r])))) else none | _ => none
def kAp1 (i : Nat) (o : Option (T × Envt)) : Option (Out × Envt) := o.bind fun r => match r.2[i]? with | some (some (.list ds)) => if ds.length < sizeLine then some (.nx, r.2.set i (some (.list (ds ++ [r.1])))) else none | _ => none
def kAp0 (i : Nat) (m : Mx) (o : Option (Option T)) (ε : Envt) : Option (Out × Envt) := match o with | some (some (.list _)) => kAp1 i (m ε) | _ => none
def kPu5 (i : Nat) (v : T) (ds : List T) (o : Option Nat) (ε : Envt) : Option (Out × Envt) := o.map fun j => (.nx, ε.set i (some (.list (ds.set j v))))
def kPu4 (i : Nat) (v : T) (n : Int) (o : Option (Option T)) (ε : Envt) : Option (Out × Envt) := match PyData.int n, o with
  | .int n, some (some (.list ds)) => (ixN ds.length n).map fun j => (.nx, ε.set i (some (.list (ds.set j v))))
  | _, _ => none
def kPu3 (i : Nat) (v : T) (o : Option (T × Envt)) : Option (Out × Envt) := o.bind fun k => match k.1, k.2[i]? with
  | .int n, some (some (.list ds)) => (ixN ds.length n).map fun j => (.nx, k.2.set i (some (.list (ds.set j v))))
  | _, _ => none
def kPu2 (i : Nat) (mi : Mx) (v : T) (ε : Envt) (o : Option (T × Envt)) : Option (Out × Envt) := o.bind fun _ => (mi ε).bind fun k => match k.1, k.2[i]? with
  | .int n, some (some (.list ds)) => (ixN ds.length n).map fun j => (.nx, k.2.set i (some (.list (ds.set j v))))
  | _, _ => none
def kPu1 (i : Nat) (mi : Mx) (o : Option (T × Envt)) : Option (Out × Envt) := o.bind fun v => (mVar i v.2).bind fun _ => (mi v.2).bind fun k => match k.1, k.2[i]? with
  | .int n, some (some (.list ds)) => (ixN ds.length n).map fun j => (.nx, k.2.set i (some (.list (ds.set j v.1))))
  | _, _ => none
def kFor (mt : Mg) (mb : Ms) (o : Option (List T × Envt)) : Option (Out × Envt) := o.bind fun d => sFor mt mb d.1 d.2
def kF2 (mt : Mg) (mb : Ms) (ts : List T) (o : Option (Out × Envt)) : Option (Out × Envt) := o.bind fun r => match r.1 with | .nx => sFor mt mb ts r.2 | .ct => sFor mt mb ts r.2 | .bk => some (.nx, r.2) | .rt v => some (.rt v, r.2)
def kF1 (mt : Mg) (mb : Ms) (ts : List T) (o : Option Envt) : Option (Out × Envt) := o.bind fun ε1 => (mb ε1).bind fun r => match r.1 with | .nx => sFor mt mb ts r.2 | .ct => sFor mt mb ts r.2 | .bk => some (.nx, r.2) | .rt v => some (.rt v, r.2)
def kW2 (mk : Mb) (mb : Ms) (n : Nat) (o : Option (Out × Envt)) : Option (Out × Envt) := o.bind fun r => match r.1 with | .nx => sWhile mk mb n r.2 | .ct => sWhile mk mb n r.2 | .bk => some (.nx, r.2) | .rt v => some (.rt v, r.2)
def kW1 (mk : Mb) (mb : Ms) (n : Nat) (o : Option (Bool × Envt)) : Option (Out × Envt) := o.bind fun c => if c.1 = true then (mb c.2).bind fun r => match r.1 with | .nx => sWhile mk mb n r.2 | .ct => sWhile mk mb n r.2 | .bk => some (.nx, r.2) | .rt v => some (.rt v, r.2)
    else some (.nx, c.2)
def kLc2 (vs : List Nat) (ε1 : Envt) (o : Option (List T × Envt)) : Option (T × Envt) := o.map fun r => (.list r.1, resE vs ε1 r.2)
def kLc (mt : Mg) (mk : Mb) (me : Mx) (vs : List Nat) (o : Option (List T × Envt)) : Option (T × Envt) := o.bind fun d => if d.1.length < sizeLine then (mLoopC mt mk me vs d.1 (wipeE vs d.2)).map fun r => (.list r.1, resE vs d.2 r.2) else none
def kM4 (y : T) (o : Option (List T × Envt)) : Option (List T × Envt) := o.map fun r => (y :: r.1, r.2)
def kM3 (mt : Mg) (mk : Mb) (me : Mx) (vs : List Nat) (ts : List T) (o : Option (T × Envt)) : Option (List T × Envt) := o.bind fun y => (mLoopC mt mk me vs ts (wipeE vs y.2)).map fun r => (y.1 :: r.1, r.2)
def kM2 (mt : Mg) (mk : Mb) (me : Mx) (vs : List Nat) (ts : List T) (o : Option (Bool × Envt)) : Option (List T × Envt) := o.bind fun b => if b.1 = true then (me b.2).bind fun y => (mLoopC mt mk me vs ts (wipeE vs y.2)).map fun r => (y.1 :: r.1, r.2) else mLoopC mt mk me vs ts (wipeE vs b.2)
def kM1 (mt : Mg) (mk : Mb) (me : Mx) (vs : List Nat) (ts : List T) (o : Option Envt) : Option (List T × Envt) := o.bind fun ε1 => (mk ε1).bind fun b => if b.1 = true then (me b.2).bind fun y => (mLoopC mt mk me vs ts (wipeE vs y.2)).map fun r => (y.1 :: r.1, r.2) else mLoopC mt mk me vs ts (wipeE vs b.2)
def kDO (r : T) (o : Option (List T)) : Option (T × List T) := o.map fun o => (r, o)
def kDef (shs : List Sh) (ts : List T) (o : Option (Out × Envt)) : Option (T × List T) := match o with | some (.rt r, ε) => (mOuts shs ts ε).map fun o => (r, o) | some (.nx, ε) => (mOuts shs ts ε).map fun o => (.none, o) | _ => none
def kOu (t : T) (o : Option (List T)) : Option (List T) := o.map fun r => t :: r
theorem e_mVar {i : Nat} {ε : Envt} : mVar i ε = kVar (ε[i]?) ε := of_eq_true (eq_self _)
theorem e_kVar {t : T} {ε : Envt} : kVar (some (some t)) ε = some (t, ε) := of_eq_true (eq_self _)
theorem e_mMov {i : Nat} {ε : Envt} : mMov i ε = kMov i (ε[i]?) ε := of_eq_true (eq_self _)
theorem e_kMov {i : Nat} {t : T} {ε : Envt} : kMov i (some (some t)) ε = some (t, ε.set i none) := of_eq_true (eq_self _)
theorem e_mCst {t : T} {ε : Envt} : mCst t ε = some (t, ε) := of_eq_true (eq_self _)
theorem e_kO {t : T} {ε : Envt} : kO (some t) ε = some (t, ε) := of_eq_true (eq_self _)
theorem e_kOb {bb : Bool} {ε : Envt} : kO (some bb) ε = some (bb, ε) := of_eq_true (eq_self _)
theorem e_kOl {ts : List T} {ε : Envt} : kO (some ts) ε = some (ts, ε) := of_eq_true (eq_self _)
theorem e_mBin {g : T → T → Option T} {ma : Mx} {mb : Mx} {ε : Envt} : mBin g ma mb ε = kB1 g mb (ma ε) := of_eq_true (eq_self _)
theorem e_kB1 {g : T → T → Option T} {mb : Mx} {t : T} {ε : Envt} : kB1 g mb (some (t, ε)) = kB2 g t (mb ε) := of_eq_true (eq_self _)
theorem e_kB2 {g : T → T → Option T} {t : T} {t2 : T} {ε : Envt} : kB2 g t (some (t2, ε)) = kO (g t t2) ε := of_eq_true (eq_self _)
theorem e_mUn {f : T → Option T} {ma : Mx} {ε : Envt} : mUn f ma ε = kU f (ma ε) := of_eq_true (eq_self _)
theorem e_kU {f : T → Option T} {t : T} {ε : Envt} : kU f (some (t, ε)) = kO (f t) ε := of_eq_true (eq_self _)
theorem e_mTb {ma : Mx} {ε : Envt} : mTb ma ε = kTb (ma ε) := of_eq_true (eq_self _)
theorem e_kTb {bb : Bool} {ε : Envt} : kTb (some (.bool bb, ε)) = some (bb, ε) := of_eq_true (eq_self _)
theorem e_mTru {ma : Mx} {ε : Envt} : mTru ma ε = kTru (ma ε) := of_eq_true (eq_self _)
theorem e_kTru {t : T} {ε : Envt} : kTru (some (t, ε)) = kO (truT t) ε := of_eq_true (eq_self _)
theorem e_mNot {c : Mb} {ε : Envt} : mNot c ε = kNot (c ε) := of_eq_true (eq_self _)
theorem e_kNot {bb : Bool} {ε : Envt} : kNot (some (bb, ε)) = some (!bb, ε) := of_eq_true (eq_self _)
theorem e_mAnd {c : Mb} {c2 : Mb} {ε : Envt} : mAnd c c2 ε = kAnd c2 (c ε) := of_eq_true (eq_self _)
theorem e_kAnd {c2 : Mb} {bb : Bool} {ε : Envt} : kAnd c2 (some (bb, ε)) = if bb = true then c2 ε else some (false, ε) := of_eq_true (eq_self _)
theorem e_mOr {c : Mb} {c2 : Mb} {ε : Envt} : mOr c c2 ε = kOr c2 (c ε) := of_eq_true (eq_self _)
theorem e_kOr {c2 : Mb} {bb : Bool} {ε : Envt} : kOr c2 (some (bb, ε)) = if bb = true then some (true, ε) else c2 ε := of_eq_true (eq_self _)
theorem e_mAndV {ma : Mx} {mb : Mx} {ε : Envt} : mAndV ma mb ε = kAndV mb (ma ε) := of_eq_true (eq_self _)
theorem e_kAndVt {mb : Mx} {ε : Envt} : kAndV mb (some (.bool true, ε)) = mb ε := of_eq_true (eq_self _)
theorem e_kAndVf {mb : Mx} {ε : Envt} : kAndV mb (some (.bool false, ε)) = some (.bool false, ε) := of_eq_true (eq_self _)
theorem e_mOrV {ma : Mx} {mb : Mx} {ε : Envt} : mOrV ma mb ε = kOrV mb (ma ε) := of_eq_true (eq_self _)
theorem e_kOrVt {mb : Mx} {ε : Envt} : kOrV mb (some (.bool true, ε)) = some (.bool true, ε) := of_eq_true (eq_self _)
theorem e_kOrVf {mb : Mx} {ε : Envt} : kOrV mb (some (.bool false, ε)) = mb ε := of_eq_true (eq_self _)
theorem e_mNotV {ma : Mx} {ε : Envt} : mNotV ma ε = kNotV (ma ε) := of_eq_true (eq_self _)
theorem e_kNotV {bb : Bool} {ε : Envt} : kNotV (some (.bool bb, ε)) = some (.bool (!bb), ε) := of_eq_true (eq_self _)
theorem e_mNotB {ma : Mx} {ε : Envt} : mNotB ma ε = kNotB (ma ε) := of_eq_true (eq_self _)
theorem e_kNotB {t : T} {ε : Envt} : kNotB (some (t, ε)) = kNB (truT t) ε := of_eq_true (eq_self _)
theorem e_kNB {bb : Bool} {ε : Envt} : kNB (some bb) ε = some (.bool (!bb), ε) := of_eq_true (eq_self _)
theorem e_mIf {c : Mb} {ma : Mx} {mb : Mx} {ε : Envt} : mIf c ma mb ε = kIf ma mb (c ε) := of_eq_true (eq_self _)
theorem e_kIf {ma : Mx} {mb : Mx} {bb : Bool} {ε : Envt} : kIf ma mb (some (bb, ε)) = if bb = true then ma ε else mb ε := of_eq_true (eq_self _)
theorem e_kIfS {s1 : Ms} {s2 : Ms} {bb : Bool} {ε : Envt} : kIf s1 s2 (some (bb, ε)) = if bb = true then s1 ε else s2 ε := of_eq_true (eq_self _)
theorem e_mNil {ε : Envt} : mNil ε = some ([], ε) := of_eq_true (eq_self _)
theorem e_mCons {ma : Mx} {ml : Ml} {ε : Envt} : mCons ma ml ε = kC1 ml (ma ε) := of_eq_true (eq_self _)
theorem e_kC1 {ml : Ml} {t : T} {ε : Envt} : kC1 ml (some (t, ε)) = kC2 t (ml ε) := of_eq_true (eq_self _)
theorem e_kC2 {t : T} {ts : List T} {ε : Envt} : kC2 t (some (ts, ε)) = some (t :: ts, ε) := of_eq_true (eq_self _)
theorem e_mTup {ml : Ml} {ε : Envt} : mTup ml ε = kTup (ml ε) := of_eq_true (eq_self _)
theorem e_kTup {ts : List T} {ε : Envt} : kTup (some (ts, ε)) = some (.tuple ts, ε) := of_eq_true (eq_self _)
theorem e_mLst {ml : Ml} {ε : Envt} : mLst ml ε = kLst (ml ε) := of_eq_true (eq_self _)
theorem e_kLst {ts : List T} {ε : Envt} : kLst (some (ts, ε)) = some (.list ts, ε) := of_eq_true (eq_self _)
theorem e_mCall {gl : List T → Option T} {ml : Ml} {ε : Envt} : mCall gl ml ε = kCall gl (ml ε) := of_eq_true (eq_self _)
theorem e_mRng {gr : List T → Option (List T)} {ml : Ml} {ε : Envt} : mRng gr ml ε = kCall gr (ml ε) := of_eq_true (eq_self _)
theorem e_kCall {gl : List T → Option T} {ts : List T} {ε : Envt} : kCall gl (some (ts, ε)) = kO (gl ts) ε := of_eq_true (eq_self _)
theorem e_kCallR {gr : List T → Option (List T)} {ts : List T} {ε : Envt} : kCall gr (some (ts, ε)) = kO (gr ts) ε := of_eq_true (eq_self _)
theorem e_mNoP {ε : Envt} : mNoP ε = some (none, ε) := of_eq_true (eq_self _)
theorem e_mP {ma : Mx} {ε : Envt} : mP ma ε = kPI (ma ε) := of_eq_true (eq_self _)
theorem e_kPI {z : Int} {ε : Envt} : kPI (some (.int z, ε)) = some (some z, ε) := of_eq_true (eq_self _)
theorem e_mSl {gs : T → Option Int → Option Int → Option T} {ma : Mx} {ol : Mo} {oh : Mo} {ε : Envt} : mSl gs ma ol oh ε = kS1 gs ol oh (ma ε) := of_eq_true (eq_self _)
theorem e_kS1 {gs : T → Option Int → Option Int → Option T} {ol : Mo} {oh : Mo} {t : T} {ε : Envt} : kS1 gs ol oh (some (t, ε)) = kS2 gs t oh (ol ε) := of_eq_true (eq_self _)
theorem e_kS2 {gs : T → Option Int → Option Int → Option T} {t : T} {oh : Mo} {oi : Option Int} {ε : Envt} : kS2 gs t oh (some (oi, ε)) = kS3 gs t oi (oh ε) := of_eq_true (eq_self _)
theorem e_kS3 {gs : T → Option Int → Option Int → Option T} {t : T} {oi : Option Int} {oi2 : Option Int} {ε : Envt} : kS3 gs t oi (some (oi2, ε)) = kO (gs t oi oi2) ε := of_eq_true (eq_self _)
theorem e_kCh1 {g : T → T → Option T} {g2 : T → T → Option T} {mb : Mx} {mc : Mx} {t : T} {ε : Envt} : kCh1 g g2 mb mc (some (t, ε)) = kCh2 g g2 mc t (mb ε) := of_eq_true (eq_self _)
theorem e_kCh2 {g : T → T → Option T} {g2 : T → T → Option T} {mc : Mx} {t : T} {t2 : T} {ε : Envt} : kCh2 g g2 mc t (some (t2, ε)) = kCh3 g2 mc t2 (g t t2) ε := of_eq_true (eq_self _)
theorem e_kCh3t {g : T → T → Option T} {mc : Mx} {t : T} {ε : Envt} : kCh3 g mc t (some (.bool true)) ε = kB2 g t (mc ε) := of_eq_true (eq_self _)
theorem e_kCh3f {g : T → T → Option T} {mc : Mx} {t : T} {ε : Envt} : kCh3 g mc t (some (.bool false)) ε = some (.bool false, ε) := of_eq_true (eq_self _)
theorem e_mYes {ε : Envt} : mYes ε = some (true, ε) := of_eq_true (eq_self _)
theorem e_mItems {ma : Mx} {ε : Envt} : mItems ma ε = kIt (ma ε) := of_eq_true (eq_self _)
theorem e_kItL {ts : List T} {ε : Envt} : kIt (some (.list ts, ε)) = some (ts, ε) := of_eq_true (eq_self _)
theorem e_kItT {ts : List T} {ε : Envt} : kIt (some (.tuple ts, ε)) = some (ts, ε) := of_eq_true (eq_self _)
theorem e_mIsi {fb : T → Bool} {ma : Mx} {ε : Envt} : mIsi fb ma ε = kIsi fb (ma ε) := of_eq_true (eq_self _)
theorem e_kIsi {fb : T → Bool} {t : T} {ε : Envt} : kIsi fb (some (t, ε)) = some (.bool (fb t), ε) := of_eq_true (eq_self _)
theorem e_mNol {ma : Mx} {ε : Envt} : mNol ma ε = kNol (ma ε) := of_eq_true (eq_self _)
theorem e_kNolN {ε : Envt} : kNol (some (.none, ε)) = some (.none, ε) := of_eq_true (eq_self _)
theorem e_kNolI {z : Int} {ε : Envt} : kNol (some (.int z, ε)) = some (.int z, ε) := of_eq_true (eq_self _)
theorem e_kNolB {bb : Bool} {ε : Envt} : kNol (some (.bool bb, ε)) = some (.bool bb, ε) := of_eq_true (eq_self _)
theorem e_kNolS {st : Str} {ε : Envt} : kNol (some (.str st, ε)) = some (.str st, ε) := of_eq_true (eq_self _)
theorem e_kNolT {ts : List T} {ε : Envt} : kNol (some (.tuple ts, ε)) = some (.tuple ts, ε) := of_eq_true (eq_self _)
theorem e_kNolD {dd : List (T × T)} {ε : Envt} : kNol (some (.dict dd, ε)) = some (.dict dd, ε) := of_eq_true (eq_self _)
theorem e_mListS {ma : Mx} {ε : Envt} : mListS ma ε = kLS (ma ε) := of_eq_true (eq_self _)
theorem e_kLS {ts : List T} {ε : Envt} : kLS (some (.list ts, ε)) = some (.list ts, ε) := of_eq_true (eq_self _)
theorem e_gSet {i : Nat} {t : T} {ε : Envt} : gSet i t ε = some (ε.set i (some t)) := of_eq_true (eq_self _)
theorem e_gsNil {ε : Envt} : gsNil [] ε = some ε := of_eq_true (eq_self _)
theorem e_gsCons {mt : Mg} {ms : Mgs} {t : T} {ts : List T} {ε : Envt} : gsCons mt ms (t :: ts) ε = kG ms ts (mt t ε) := of_eq_true (eq_self _)
theorem e_kG {ms : Mgs} {ts : List T} {ε : Envt} : kG ms ts (some ε) = ms ts ε := of_eq_true (eq_self _)
theorem e_gTupM {n : Nat} {ms : Mgs} {ts : List T} {ε : Envt} : gTupM n ms (.tuple ts) ε = if ts.length = n then ms ts ε else none := of_eq_true (eq_self _)
theorem e_aNil {ε : Envt} : aNil ε = some ([], ε) := of_eq_true (eq_self _)
theorem e_aVal {ma : Mx} {al : Ma} {ε : Envt} : aVal ma al ε = kA1 al (ma ε) := of_eq_true (eq_self _)
theorem e_kA1 {al : Ma} {t : T} {ε : Envt} : kA1 al (some (t, ε)) = kA2 t (al ε) := of_eq_true (eq_self _)
theorem e_kA2 {t : T} {as : List (Option T)} {ε : Envt} : kA2 t (some (as, ε)) = some (some t :: as, ε) := of_eq_true (eq_self _)
theorem e_aLent {i : Nat} {al : Ma} {ε : Envt} : aLent i al ε = kL1 al ε (mVar i ε) := of_eq_true (eq_self _)
theorem e_kL1 {al : Ma} {ε : Envt} {p : T × Envt} : kL1 al ε (some p) = kL2 (al ε) := of_eq_true (eq_self _)
theorem e_kL2 {as : List (Option T)} {ε : Envt} : kL2 (some (as, ε)) = some (none :: as, ε) := of_eq_true (eq_self _)
theorem e_mCallU {fm : Mf} {bs : List (Option Nat)} {al : Ma} {ε : Envt} : mCallU fm bs al ε = kU1 fm bs (al ε) := of_eq_true (eq_self _)
theorem e_kU1 {fm : Mf} {bs : List (Option Nat)} {as : List (Option T)} {ε : Envt} : kU1 fm bs (some (as, ε)) = kU2 fm bs (mFill bs as ε) := of_eq_true (eq_self _)
theorem e_kU2 {fm : Mf} {bs : List (Option Nat)} {ts : List T} {ε : Envt} : kU2 fm bs (some (ts, ε)) = kU3 bs (fm ts) ε := of_eq_true (eq_self _)
theorem e_kU3 {bs : List (Option Nat)} {t : T} {ts : List T} {ε : Envt} : kU3 bs (some (t, ts)) ε = some (t, mBack bs ts ε) := of_eq_true (eq_self _)
theorem e_mFill0 {ε : Envt} : mFill [] [] ε = some ([], ε) := of_eq_true (eq_self _)
theorem e_mFill1 {bs : List (Option Nat)} {t : T} {as : List (Option T)} {ε : Envt} : mFill (none :: bs) (some t :: as) ε = kF t (mFill bs as ε) := of_eq_true (eq_self _)
theorem e_mFill2 {i : Nat} {bs : List (Option Nat)} {as : List (Option T)} {ε : Envt} : mFill (some i :: bs) (none :: as) ε = kFl i bs as (ε[i]?) ε := of_eq_true (eq_self _)
theorem e_kF {t : T} {ts : List T} {ε : Envt} : kF t (some (ts, ε)) = some (t :: ts, ε) := of_eq_true (eq_self _)
theorem e_kFl {i : Nat} {bs : List (Option Nat)} {as : List (Option T)} {t : T} {ε : Envt} : kFl i bs as (some (some t)) ε = kF t (mFill bs as (ε.set i none)) := of_eq_true (eq_self _)
theorem e_mBack0 {ts : List T} {ε : Envt} : mBack [] ts ε = ε := of_eq_true (eq_self _)
theorem e_mBack1 {bs : List (Option Nat)} {t : T} {ts : List T} {ε : Envt} : mBack (none :: bs) (t :: ts) ε = mBack bs ts ε := of_eq_true (eq_self _)
theorem e_mBack2 {i : Nat} {bs : List (Option Nat)} {t : T} {ts : List T} {ε : Envt} : mBack (some i :: bs) (t :: ts) ε = mBack bs ts (ε.set i (some t)) := of_eq_true (eq_self _)
theorem e_sNil {ε : Envt} : sNil ε = some (.nx, ε) := of_eq_true (eq_self _)
theorem e_sCons {s1 : Ms} {s2 : Ms} {ε : Envt} : sCons s1 s2 ε = kSeq s2 (s1 ε) := of_eq_true (eq_self _)
theorem e_kSeqN {s2 : Ms} {ε : Envt} : kSeq s2 (some (.nx, ε)) = s2 ε := of_eq_true (eq_self _)
theorem e_kSeqB {s2 : Ms} {ε : Envt} : kSeq s2 (some (.bk, ε)) = some (.bk, ε) := of_eq_true (eq_self _)
theorem e_kSeqC {s2 : Ms} {ε : Envt} : kSeq s2 (some (.ct, ε)) = some (.ct, ε) := of_eq_true (eq_self _)
theorem e_kSeqR {s2 : Ms} {t : T} {ε : Envt} : kSeq s2 (some (.rt t, ε)) = some (.rt t, ε) := of_eq_true (eq_self _)
theorem e_sIf {c : Mb} {s1 : Ms} {s2 : Ms} {ε : Envt} : sIf c s1 s2 ε = kIf s1 s2 (c ε) := of_eq_true (eq_self _)
theorem e_sBk {ε : Envt} : sBk ε = some (.bk, ε) := of_eq_true (eq_self _)
theorem e_sCt {ε : Envt} : sCt ε = some (.ct, ε) := of_eq_true (eq_self _)
theorem e_sRet {ma : Mx} {ε : Envt} : sRet ma ε = kRet (ma ε) := of_eq_true (eq_self _)
theorem e_kRet {t : T} {ε : Envt} : kRet (some (t, ε)) = some (.rt t, ε) := of_eq_true (eq_self _)
theorem e_sDrop {ma : Mx} {ε : Envt} : sDrop ma ε = kDrop (ma ε) := of_eq_true (eq_self _)
theorem e_kDrop {t : T} {ε : Envt} : kDrop (some (t, ε)) = some (.nx, ε) := of_eq_true (eq_self _)
theorem e_sSet {i : Nat} {ma : Mx} {ε : Envt} : sSet i ma ε = kSet i (ma ε) := of_eq_true (eq_self _)
theorem e_kSet {i : Nat} {t : T} {ε : Envt} : kSet i (some (t, ε)) = some (.nx, ε.set i (some t)) := of_eq_true (eq_self _)
theorem e_sTgt {mt : Mg} {ma : Mx} {ε : Envt} : sTgt mt ma ε = kTgt mt (ma ε) := of_eq_true (eq_self _)
theorem e_kTgt {mt : Mg} {t : T} {ε : Envt} : kTgt mt (some (t, ε)) = kT2 (mt t ε) := of_eq_true (eq_self _)
theorem e_kT2 {ε : Envt} : kT2 (some ε) = some (.nx, ε) := of_eq_true (eq_self _)
theorem e_sPar {i : Nat} {j : Nat} {ma : Mx} {mb : Mx} {ε : Envt} : sPar i j ma mb ε = kP1 i j mb (ma ε) := of_eq_true (eq_self _)
theorem e_kP1 {i : Nat} {j : Nat} {mb : Mx} {t : T} {ε : Envt} : kP1 i j mb (some (t, ε)) = kP2 i j t (mb ε) := of_eq_true (eq_self _)
theorem e_kP2 {i : Nat} {j : Nat} {t : T} {t2 : T} {ε : Envt} : kP2 i j t (some (t2, ε)) = some (.nx, (ε.set i (some t)).set j (some t2)) := of_eq_true (eq_self _)
theorem e_kAp0 {i : Nat} {ma : Mx} {ts : List T} {ε : Envt} : kAp0 i ma (some (some (.list ts))) ε = kAp1 i (ma ε) := of_eq_true (eq_self _)
theorem e_kAp1 {i : Nat} {t : T} {ε : Envt} : kAp1 i (some (t, ε)) = kAp2 i t (ε[i]?) ε := of_eq_true (eq_self _)
theorem e_kAp2 {i : Nat} {t : T} {ts : List T} {ε : Envt} : kAp2 i t (some (some (.list ts))) ε = if ts.length < sizeLine then some (.nx, ε.set i (some (.list (ts ++ [t])))) else none := of_eq_true (eq_self _)
theorem e_kPu1 {i : Nat} {ma : Mx} {t : T} {ε : Envt} : kPu1 i ma (some (t, ε)) = kPu2 i ma t ε (mVar i ε) := of_eq_true (eq_self _)
theorem e_kPu2 {i : Nat} {ma : Mx} {t : T} {ε : Envt} {p : T × Envt} : kPu2 i ma t ε (some p) = kPu3 i t (ma ε) := of_eq_true (eq_self _)
theorem e_kPu3 {i : Nat} {t : T} {z : Int} {ε : Envt} : kPu3 i t (some (.int z, ε)) = kPu4 i t z (ε[i]?) ε := of_eq_true (eq_self _)
theorem e_kPu4 {i : Nat} {t : T} {z : Int} {ts : List T} {ε : Envt} : kPu4 i t z (some (some (.list ts))) ε = kPu5 i t ts (ixN ts.length z) ε := of_eq_true (eq_self _)
theorem e_kPu5 {i : Nat} {t : T} {ts : List T} {j : Nat} {ε : Envt} : kPu5 i t ts (some j) ε = some (.nx, ε.set i (some (.list (ts.set j t)))) := of_eq_true (eq_self _)
theorem e_mFor {ml : Ml} {mt : Mg} {s1 : Ms} {ε : Envt} : mFor ml mt s1 ε = kFor mt s1 (ml ε) := of_eq_true (eq_self _)
theorem e_kFor {mt : Mg} {s1 : Ms} {ts : List T} {ε : Envt} : kFor mt s1 (some (ts, ε)) = sFor mt s1 ts ε := of_eq_true (eq_self _)
theorem e_sFor0 {mt : Mg} {s1 : Ms} {ε : Envt} : sFor mt s1 [] ε = some (.nx, ε) := of_eq_true (eq_self _)
theorem e_sFor1 {mt : Mg} {s1 : Ms} {t : T} {ts : List T} {ε : Envt} : sFor mt s1 (t :: ts) ε = kF1 mt s1 ts (mt t ε) := of_eq_true (eq_self _)
theorem e_kF1 {mt : Mg} {s1 : Ms} {ts : List T} {ε : Envt} : kF1 mt s1 ts (some ε) = kF2 mt s1 ts (s1 ε) := of_eq_true (eq_self _)
theorem e_kF2N {mt : Mg} {s1 : Ms} {ts : List T} {ε : Envt} : kF2 mt s1 ts (some (.nx, ε)) = sFor mt s1 ts ε := of_eq_true (eq_self _)
theorem e_kF2C {mt : Mg} {s1 : Ms} {ts : List T} {ε : Envt} : kF2 mt s1 ts (some (.ct, ε)) = sFor mt s1 ts ε := of_eq_true (eq_self _)
theorem e_kF2B {mt : Mg} {s1 : Ms} {ts : List T} {ε : Envt} : kF2 mt s1 ts (some (.bk, ε)) = some (.nx, ε) := of_eq_true (eq_self _)
theorem e_kF2R {mt : Mg} {s1 : Ms} {ts : List T} {t : T} {ε : Envt} : kF2 mt s1 ts (some (.rt t, ε)) = some (.rt t, ε) := of_eq_true (eq_self _)
theorem e_sWh {c : Mb} {s1 : Ms} {n : Nat} {ε : Envt} : sWhile c s1 (n + 1) ε = kW1 c s1 n (c ε) := of_eq_true (eq_self _)
theorem e_kW1 {c : Mb} {s1 : Ms} {n : Nat} {bb : Bool} {ε : Envt} : kW1 c s1 n (some (bb, ε)) = if bb = true then kW2 c s1 n (s1 ε) else some (.nx, ε) := of_eq_true (eq_self _)
theorem e_kW2N {c : Mb} {s1 : Ms} {n : Nat} {ε : Envt} : kW2 c s1 n (some (.nx, ε)) = sWhile c s1 n ε := of_eq_true (eq_self _)
theorem e_kW2C {c : Mb} {s1 : Ms} {n : Nat} {ε : Envt} : kW2 c s1 n (some (.ct, ε)) = sWhile c s1 n ε := of_eq_true (eq_self _)
theorem e_kW2B {c : Mb} {s1 : Ms} {n : Nat} {ε : Envt} : kW2 c s1 n (some (.bk, ε)) = some (.nx, ε) := of_eq_true (eq_self _)
theorem e_kW2R {c : Mb} {s1 : Ms} {n : Nat} {t : T} {ε : Envt} : kW2 c s1 n (some (.rt t, ε)) = some (.rt t, ε) := of_eq_true (eq_self _)
theorem e_mLc {ml : Ml} {mt : Mg} {c : Mb} {ma : Mx} {vs : List Nat} {ε : Envt} : mLc ml mt c ma vs ε = kLc mt c ma vs (ml ε) := of_eq_true (eq_self _)
theorem e_kLc {mt : Mg} {c : Mb} {ma : Mx} {vs : List Nat} {ts : List T} {ε : Envt} : kLc mt c ma vs (some (ts, ε)) = if ts.length < sizeLine then kLc2 vs ε (mLoopC mt c ma vs ts (wipeE vs ε)) else none := of_eq_true (eq_self _)
theorem e_kLc2 {vs : List Nat} {ε2 : Envt} {ts : List T} {ε : Envt} : kLc2 vs ε2 (some (ts, ε)) = some (.list ts, resE vs ε2 ε) := of_eq_true (eq_self _)
theorem e_mL0 {mt : Mg} {c : Mb} {ma : Mx} {vs : List Nat} {ε : Envt} : mLoopC mt c ma vs [] ε = some ([], ε) := of_eq_true (eq_self _)
theorem e_mL1 {mt : Mg} {c : Mb} {ma : Mx} {vs : List Nat} {t : T} {ts : List T} {ε : Envt} : mLoopC mt c ma vs (t :: ts) ε = kM1 mt c ma vs ts (mt t ε) := of_eq_true (eq_self _)
theorem e_kM1 {mt : Mg} {c : Mb} {ma : Mx} {vs : List Nat} {ts : List T} {ε : Envt} : kM1 mt c ma vs ts (some ε) = kM2 mt c ma vs ts (c ε) := of_eq_true (eq_self _)
theorem e_kM2 {mt : Mg} {c : Mb} {ma : Mx} {vs : List Nat} {ts : List T} {bb : Bool} {ε : Envt} : kM2 mt c ma vs ts (some (bb, ε)) = if bb = true then kM3 mt c ma vs ts (ma ε) else mLoopC mt c ma vs ts (wipeE vs ε) := of_eq_true (eq_self _)
theorem e_kM3 {mt : Mg} {c : Mb} {ma : Mx} {vs : List Nat} {ts : List T} {t : T} {ε : Envt} : kM3 mt c ma vs ts (some (t, ε)) = kM4 t (mLoopC mt c ma vs ts (wipeE vs ε)) := of_eq_true (eq_self _)
theorem e_kM4 {t : T} {ts : List T} {ε : Envt} : kM4 t (some (ts, ε)) = some (t :: ts, ε) := of_eq_true (eq_self _)
theorem e_wipe0 {ε : Envt} : wipeE [] ε = ε := of_eq_true (eq_self _)
theorem e_wipe1 {i : Nat} {vs : List Nat} {ε : Envt} : wipeE (i :: vs) ε = (wipeE vs ε).set i none := of_eq_true (eq_self _)
theorem e_res0 {ε2 : Envt} {ε : Envt} : resE [] ε2 ε = ε := of_eq_true (eq_self _)
theorem e_res1 {i : Nat} {vs : List Nat} {ε2 : Envt} {ε : Envt} : resE (i :: vs) ε2 ε = (resE vs ε2 ε).set i ((ε2[i]?).getD none) := of_eq_true (eq_self _)
theorem e_mDef {shs : List Sh} {n : Nat} {s1 : Ms} {ts : List T} : mDef shs n s1 ts = kDef shs ts (s1 (ts.map some ++ List.replicate (n - ts.length) none)) := of_eq_true (eq_self _)
theorem e_kDefR {shs : List Sh} {ts : List T} {t : T} {ε : Envt} : kDef shs ts (some (.rt t, ε)) = kDO t (mOuts shs ts ε) := of_eq_true (eq_self _)
theorem e_kDefN {shs : List Sh} {ts : List T} {ε : Envt} : kDef shs ts (some (.nx, ε)) = kDO .none (mOuts shs ts ε) := of_eq_true (eq_self _)
theorem e_kDO {t : T} {ts : List T} : kDO t (some ts) = some (t, ts) := of_eq_true (eq_self _)
theorem e_mOu0 {ts : List T} {ε : Envt} : mOuts [] ts ε = some [] := of_eq_true (eq_self _)
theorem e_mOuF {shs : List Sh} {t : T} {ts : List T} {x : Option T} {ε : Envt} : mOuts (.fro :: shs) (t :: ts) (x :: ε) = kOu t (mOuts shs ts ε) := of_eq_true (eq_self _)
theorem e_mOuS {shs : List Sh} {t : T} {ts : List T} {x : Option T} {ε : Envt} : mOuts (.scr :: shs) (t :: ts) (x :: ε) = kOu t (mOuts shs ts ε) := of_eq_true (eq_self _)
theorem e_mOuL {sh : Sh} {shs : List Sh} {t : T} {ts : List T} {t2 : T} {ε : Envt} : mOuts (.lst sh :: shs) (t :: ts) (some t2 :: ε) = kOu t2 (mOuts shs ts ε) := of_eq_true (eq_self _)
theorem e_kOu {t : T} {ts : List T} : kOu t (some ts) = some (t :: ts) := of_eq_true (eq_self _)
theorem e_mChain {g g2 : T → T → Option T} {ma mb mc : Mx} {ε : Envt} : mChain g g2 ma mb mc ε = kCh1 g g2 mb mc (ma ε) := of_eq_true (eq_self _)
theorem e_sApp {i : Nat} {ma : Mx} {ε : Envt} : sApp i ma ε = kAp0 i ma (ε[i]?) ε := of_eq_true (eq_self _)
theorem e_sPut {i : Nat} {mv mi : Mx} {ε : Envt} : sPut i mv mi ε = kPu1 i mi (mv ε) := of_eq_true (eq_self _)
theorem e_kAndV {mb : Mx} {b : Bool} {ε : Envt} : kAndV mb (some (.bool b, ε)) = if b = true then mb ε else some (.bool false, ε) := by cases b <;> rfl
theorem e_kOrV {mb : Mx} {b : Bool} {ε : Envt} : kOrV mb (some (.bool b, ε)) = if b = true then some (.bool true, ε) else mb ε := by cases b <;> rfl
theorem e_kCh3 {g : T → T → Option T} {mc : Mx} {t : T} {b : Bool} {ε : Envt} : kCh3 g mc t (some (.bool b)) ε = if b = true then kB2 g t (mc ε) else some (.bool false, ε) := by cases b <;> rfl
end Dg

set_option Elab.async false
set_option linter.all false
set_option maxRecDepth 100000
/-! operations on known things; loops -/
namespace Dg
open PySem L2
section
variable {i j : Int} {a b c : T} {xs ys : List T} {p q : Bool}
theorem o_add : opAdd (.int i) (.int j) = some (.int (i + j)) := rfl
theorem o_addT (h : xs.length + ys.length ≤ sizeLine) : opAdd (.tuple xs) (.tuple ys) = some (.tuple (xs ++ ys)) := if_pos h
theorem o_addL (h : xs.length + ys.length ≤ sizeLine) : opAdd (.list xs) (.list ys) = some (.list (xs ++ ys)) := if_pos h
theorem o_sub : opSub (.int i) (.int j) = some (.int (i - j)) := rfl
theorem o_mul (h : mulOk i j = true) : opMulI (.int i) (.int j) = some (.int (i * j)) := if_pos h
theorem o_mul? : opMulI (.int i) (.int j) = if mulOk i j = true then some (.int (i * j)) else none := rfl
theorem mulOk_l (h1 : -(2 ^ 63) ≤ i) (h2 : i ≤ 2 ^ 63) : mulOk i j = true := by
  unfold mulOk
  have : decide (-(2 ^ 64) < i) = true ∧ decide (i < 2 ^ 64) = true := ⟨decide_eq_true (by omega), decide_eq_true (by omega)⟩
  rw [this.1, this.2]; rfl
theorem mulOk_r (h1 : -(2 ^ 63) ≤ j) (h2 : j ≤ 2 ^ 63) : mulOk i j = true := by
  unfold mulOk
  have : decide (-(2 ^ 64) < j) = true ∧ decide (j < 2 ^ 64) = true := ⟨decide_eq_true (by omega), decide_eq_true (by omega)⟩
  rw [this.1, this.2, Bool.or_comm]; rfl
theorem o_fdiv (h : j ≠ 0 ∧ j.natAbs < 1073741824) : opFdiv (.int i) (.int j) = some (.int (i.fdiv j)) := if_pos h
theorem o_mod (h : j ≠ 0) : opMod (.int i) (.int j) = some (.int (i.fmod j)) := if_pos h
theorem o_pow (h : 0 ≤ j ∧ j ≤ 1000000 ∧ i.natAbs < 2 ^ 64) : opPow (.int i) (.int j) = some (.int (i ^ j.toNat)) := if_pos h
theorem o_neg : opNeg (.int i) = some (.int (-i)) := rfl
theorem o_lt : opLt (.int i) (.int j) = some (.bool (decide (i < j))) := rfl
theorem o_le : opLe (.int i) (.int j) = some (.bool (decide (i ≤ j))) := rfl
theorem o_gt : opGt (.int i) (.int j) = some (.bool (decide (j < i))) := rfl
theorem o_ge : opGe (.int i) (.int j) = some (.bool (decide (j ≤ i))) := rfl
theorem o_eqI : opEq (.int i) (.int j) = some (.bool (decide (i = j))) := by
  show some (PyData.bool (PyData.eqv (.int i) (.int j))) = _
  rw [PyData.eqv]
  rfl
theorem o_neI : opNe (.int i) (.int j) = some (.bool (!decide (i = j))) := by
  show some (PyData.bool (!PyData.eqv (.int i) (.int j))) = _
  rw [PyData.eqv]
  rfl
theorem o_eqB : opEq (.bool p) (.bool q) = some (.bool (decide (p = q))) := by cases p <;> cases q <;> rfl
theorem o_neB : opNe (.bool p) (.bool q) = some (.bool (!decide (p = q))) := by cases p <;> cases q <;> rfl
theorem o_isN : opIs a .none = some (.bool (isNon a)) := by cases a <;> rfl
theorem o_isNotN : opIsNot a .none = some (.bool (!isNon a)) := by cases a <;> rfl
theorem o_isB : opIs (.bool p) (.bool q) = some (.bool (decide (p = q))) := rfl
theorem n_non : isNon .none = true := rfl
theorem n_bool : isNon (.bool p) = false := rfl
theorem n_int : isNon (.int i) = false := rfl
theorem n_str {x : Str} : isNon (.str x) = false := rfl
theorem n_list : isNon (.list xs) = false := rfl
theorem n_tuple : isNon (.tuple xs) = false := rfl
theorem t_non : truT .none = some false := rfl
theorem t_bool : truT (.bool p) = some p := rfl
theorem t_int : truT (.int i) = some (i != 0) := rfl
theorem t_list : truT (.list xs) = some (!xs.isEmpty) := rfl
theorem t_tuple : truT (.tuple xs) = some (!xs.isEmpty) := rfl
theorem ixN_pos {n : Nat} {k : Nat} (h : k < n) : ixN n (k : Int) = some k := by
  unfold ixN
  rw [if_pos (by omega), if_pos (by omega)]; simp
theorem o_ixT {k : Nat} (h : xs[k]? = some a) : opIx (.tuple xs) (.int (k : Int)) = some a := by
  have hk : k < xs.length := (List.getElem?_eq_some_iff.mp h).1
  show atI xs (k : Int) = _
  unfold atI
  rw [ixN_pos hk]; exact h
theorem o_ixL {k : Nat} (h : xs[k]? = some a) : opIx (.list xs) (.int (k : Int)) = some a := by
  have hk : k < xs.length := (List.getElem?_eq_some_iff.mp h).1
  show atI xs (k : Int) = _
  unfold atI
  rw [ixN_pos hk]; exact h
theorem o_ixTi (h0 : 0 ≤ i) (h : xs[i.toNat]? = some a) : opIx (.tuple xs) (.int i) = some a := by
  have := o_ixT (xs := xs) (k := i.toNat) h
  rwa [Int.toNat_of_nonneg h0] at this
theorem o_ixLi (h0 : 0 ≤ i) (h : xs[i.toNat]? = some a) : opIx (.list xs) (.int i) = some a := by
  have := o_ixL (xs := xs) (k := i.toNat) h
  rwa [Int.toNat_of_nonneg h0] at this
theorem at_last : atI (a :: xs) (-1) = (a :: xs).getLast? := by
  unfold atI ixN
  rw [if_neg (by omega), if_pos (by simp only [List.length_cons]; omega)]
  show (a :: xs)[((-1 : Int) + ((a :: xs).length : Nat)).toNat]? = _
  rw [List.getLast?_eq_getElem?]
  congr 1
  simp only [List.length_cons]
  omega
theorem o_ixT0 : opIx (.tuple (a :: xs)) (.int 0) = some a := o_ixT (k := 0) rfl
theorem o_ixT1 : opIx (.tuple (a :: b :: xs)) (.int 1) = some b := o_ixT (k := 1) rfl
theorem o_ixT2 : opIx (.tuple (a :: b :: c :: xs)) (.int 2) = some c := o_ixT (k := 2) rfl
theorem o_ixT3 {d : T} : opIx (.tuple (a :: b :: c :: d :: xs)) (.int 3) = some d := o_ixT (k := 3) rfl
theorem o_ixT4 {d e : T} : opIx (.tuple (a :: b :: c :: d :: e :: xs)) (.int 4) = some e := o_ixT (k := 4) rfl
theorem o_ixL0 : opIx (.list (a :: xs)) (.int 0) = some a := o_ixL (k := 0) rfl
theorem o_ixL1 : opIx (.list (a :: b :: xs)) (.int 1) = some b := o_ixL (k := 1) rfl
theorem o_ixL2 : opIx (.list (a :: b :: c :: xs)) (.int 2) = some c := o_ixL (k := 2) rfl
theorem o_ixL3 {d : T} : opIx (.list (a :: b :: c :: d :: xs)) (.int 3) = some d := o_ixL (k := 3) rfl
theorem ix0 {n : Nat} : ixN (n + 1) 0 = some 0 := by unfold ixN; rw [if_pos (by omega), if_pos (by omega)]; rfl
theorem ix1 {n : Nat} : ixN (n + 2) 1 = some 1 := by unfold ixN; rw [if_pos (by omega), if_pos (by omega)]; rfl
theorem ix2 {n : Nat} : ixN (n + 3) 2 = some 2 := by unfold ixN; rw [if_pos (by omega), if_pos (by omega)]; rfl
theorem ix3 {n : Nat} : ixN (n + 4) 3 = some 3 := by unfold ixN; rw [if_pos (by omega), if_pos (by omega)]; rfl
theorem b_lenL : bLen [.list xs] = some (.int xs.length) := rfl
theorem b_lenT : bLen [.tuple xs] = some (.int xs.length) := rfl
theorem b_abs : bAbs [.int i] = some (.int (if i < 0 then -i else i)) := rfl
theorem b_int : bInt [.int i] = some (.int i) := rfl
theorem b_tupL : bTuple [.list xs] = some (.tuple xs) := rfl
theorem b_tupT : bTuple [.tuple xs] = some (.tuple xs) := rfl
theorem b_lstL : bList [.list xs] = some (.list xs) := rfl
theorem b_lstT : bList [.tuple xs] = some (.list xs) := rfl
theorem b_gcd : bGcd [.int i, .int j] = some (.int ((Nat.gcd i.natAbs j.natAbs : Nat) : Int)) := rfl
theorem b_max2 : bMax [.int i, .int j] = some (.int (if j > i then j else i)) := rfl
theorem b_min2 : bMin [.int i, .int j] = some (.int (if j < i then j else i)) := rfl
theorem toInts_map (ns : List Int) : toInts (ns.map .int) = some ns := by
  induction ns with
  | nil => rfl
  | cons n r ih => show (toInts (r.map .int)).map _ = _; rw [ih]; rfl
theorem toBools_map (ns : List Bool) : toBools (ns.map .bool) = some ns := by
  induction ns with
  | nil => rfl
  | cons n r ih => show (toBools (r.map .bool)).map _ = _; rw [ih]; rfl
theorem b_sum {ns : List Int} : bSum [.list (ns.map .int)] = some (.int ns.sum) := by
  show (toInts (ns.map .int)).bind _ = _
  rw [toInts_map]; rfl
theorem b_max {ns : List Int} {m : Int} (h : maxI ns = some m) : bMax [.list (ns.map .int)] = some (.int m) := by
  show (toInts (ns.map .int)).bind _ = _
  rw [toInts_map]; show (maxI ns).map _ = _; rw [h]; rfl
theorem b_min {ns : List Int} {m : Int} (h : minI ns = some m) : bMin [.list (ns.map .int)] = some (.int m) := by
  show (toInts (ns.map .int)).bind _ = _
  rw [toInts_map]; show (minI ns).map _ = _; rw [h]; rfl
theorem b_any {ns : List Bool} : bAny [.list (ns.map .bool)] = some (.bool (ns.any id)) := by
  show (toBools (ns.map .bool)).map _ = _
  rw [toBools_map]; rfl
theorem b_all {ns : List Bool} : bAll [.list (ns.map .bool)] = some (.bool (ns.all id)) := by
  show (toBools (ns.map .bool)).map _ = _
  rw [toBools_map]; rfl
theorem b_anyM {α : Type} {l : List α} {f : α → Bool} : bAny [.list (l.map fun x => .bool (f x))] = some (.bool (l.any f)) := by
  have := b_any (ns := l.map f)
  rw [List.map_map] at this
  rw [show (fun x => PyData.bool (f x)) = PyData.bool ∘ f from rfl, this, List.any_map]; rfl
theorem b_allM {α : Type} {l : List α} {f : α → Bool} : bAll [.list (l.map fun x => .bool (f x))] = some (.bool (l.all f)) := by
  have := b_all (ns := l.map f)
  rw [List.map_map] at this
  rw [show (fun x => PyData.bool (f x)) = PyData.bool ∘ f from rfl, this, List.all_map]; rfl
/-- range -/
def rI (lo c : Int) (n : Nat) : List Int := (List.range n).map fun k : Nat => lo + (k : Int) * c
theorem rngT_map (lo c : Int) (n : Nat) : rngT lo c n = (rI lo c n).map .int := by
  unfold rngT rI
  rw [List.map_map]; rfl
theorem rngOk_i (h1 : -(2 ^ 62) ≤ j) (h2 : j < 2 ^ 62) : rngOk j = true := by
  unfold rngOk
  rw [decide_eq_true h1, decide_eq_true h2]; rfl
theorem rng1_i (h : rngOk j = true) : rng1 [.int j] = some ((rI 0 1 j.toNat).map .int) := by
  show (if rngOk j = true then some (rngT 0 1 j.toNat) else none) = _
  rw [if_pos h, rngT_map]
theorem rng2_i (h : rngOk i = true) (h' : rngOk j = true) : rng2 [.int i, .int j] = some ((rI i 1 (j - i).toNat).map .int) := by
  show (if rngOk i = true ∧ rngOk j = true then some (rngT i 1 (j - i).toNat) else none) = _
  rw [if_pos ⟨h, h'⟩, rngT_map]
theorem rI_mem {lo : Int} {n : Nat} {x : Int} : x ∈ rI lo 1 n ↔ lo ≤ x ∧ x < lo + n := by
  unfold rI
  rw [List.mem_map]
  constructor
  · rintro ⟨k, hk, rfl⟩
    have := List.mem_range.mp hk
    omega
  · rintro ⟨h1, h2⟩
    exact ⟨(x - lo).toNat, List.mem_range.mpr (by omega), by omega⟩
theorem rI_length {lo c : Int} {n : Nat} : (rI lo c n).length = n := by simp [rI]
theorem rI_get {lo c : Int} {n k : Nat} (h : k < n) : (rI lo c n)[k]? = some (lo + k * c) := by simp [rI, h]
end
/-! ### typed things as trees -/
class Enc (α : Type) where
  enc : α → T
  dep : Nat
  lay : ∀ a, (enc a).canLay0 = true
  dpt : ∀ a, (enc a).depth ≤ dep
  eqv : ∀ a b, PyData.eqv (enc a) (enc b) = true ↔ a = b
  nn : ∀ a, isNon (enc a) = false
section
open PyData
variable {α β γ : Type}
instance : Enc Int := ⟨.int, 0, fun _ => by rw [canLay0], fun _ => by rw [depth]; exact Nat.le_refl _, fun a b => by rw [PyData.eqv]; exact beq_iff_eq, fun _ => rfl⟩
instance : Enc Bool := ⟨.bool, 0, fun _ => by rw [canLay0], fun _ => by rw [depth]; exact Nat.le_refl _, fun a b => by rw [PyData.eqv]; exact beq_iff_eq, fun _ => rfl⟩
theorem eqvAll_iff [Enc α] : ∀ (as bs : List α), PyData.eqvAll (as.map Enc.enc) (bs.map Enc.enc) = true ↔ as = bs
  | [], [] => by rw [List.map_nil, PyData.eqvAll]; simp
  | [], b :: bs => by rw [List.map_nil, List.map_cons, PyData.eqvAll]; simp
  | a :: as, [] => by rw [List.map_nil, List.map_cons, PyData.eqvAll]; simp
  | a :: as, b :: bs => by rw [List.map_cons, List.map_cons, PyData.eqvAll, Bool.and_eq_true, Enc.eqv, eqvAll_iff as bs, List.cons.injEq]
theorem layAll [Enc α] : ∀ (as : List α), PyData.canLayAll0 (as.map Enc.enc) = true
  | [] => by rw [List.map_nil, canLayAll0]
  | a :: as => by rw [List.map_cons, canLayAll0, Enc.lay, layAll as]; rfl
theorem dptAll [Enc α] : ∀ (as : List α), PyData.depthAll (as.map Enc.enc) ≤ Enc.dep α
  | [] => by rw [List.map_nil, depthAll]; exact Nat.zero_le _
  | a :: as => by rw [List.map_cons, depthAll]; exact Nat.max_le.mpr ⟨Enc.dpt a, dptAll as⟩
instance [Enc α] : Enc (List α) := ⟨fun l => .list (l.map Enc.enc), Enc.dep α + 1, fun l => by rw [canLay0]; exact layAll l, fun l => by rw [depth]; exact Nat.succ_le_succ (dptAll l), fun a b => by rw [PyData.eqv]; exact eqvAll_iff a b, fun _ => rfl⟩
/-- a row as a tuple -/
structure Tup (α : Type) where
  l : List α
  deriving DecidableEq
theorem Tup.ext_iff' {a b : Tup α} : a = b ↔ a.l = b.l := ⟨fun h => h ▸ rfl, fun h => by cases a; cases b; cases h; rfl⟩
instance [Enc α] : Enc (Tup α) := ⟨fun l => .tuple (l.l.map Enc.enc), Enc.dep α + 1, fun l => by rw [canLay0]; exact layAll l.l, fun l => by rw [depth]; exact Nat.succ_le_succ (dptAll l.l), fun a b => by rw [PyData.eqv, Tup.ext_iff']; exact eqvAll_iff a.l b.l, fun _ => rfl⟩
instance [Enc α] [Enc β] : Enc (α × β) := ⟨fun p => .tuple [Enc.enc p.1, Enc.enc p.2], max (Enc.dep α) (Enc.dep β) + 1,
  fun p => by rw [canLay0, canLayAll0, canLayAll0, canLayAll0, Enc.lay, Enc.lay]; rfl,
  fun p => by
    rw [depth, depthAll, depthAll, depthAll]
    have := Enc.dpt p.1
    have := Enc.dpt p.2
    omega,
  fun a b => by
    rw [PyData.eqv, PyData.eqvAll, PyData.eqvAll, PyData.eqvAll, Bool.and_true, Bool.and_eq_true, Enc.eqv, Enc.eqv]
    exact Prod.ext_iff.symm, fun _ => rfl⟩
def optT [Enc α] : Option α → T
  | Option.none => .none
  | Option.some a => Enc.enc a
theorem shaped_enc [Enc α] (h : Enc.dep α ≤ 64 := by decide) (a : α) : SeqAt.shaped (Enc.enc a) = true := by
  unfold SeqAt.shaped
  rw [Enc.lay, decide_eq_true (Nat.le_trans (Enc.dpt a) h)]; rfl
theorem o_eqE [Enc α] [DecidableEq α] {a b : α} (h : Enc.dep α ≤ 64 := by decide) : opEq (Enc.enc a) (Enc.enc b) = some (.bool (decide (a = b))) := by
  unfold opEq
  rw [if_pos ⟨shaped_enc h a, shaped_enc h b⟩]
  congr 2
  by_cases e : a = b
  · rw [decide_eq_true e]; exact (Enc.eqv a b).mpr e
  · rw [decide_eq_false e, Bool.eq_false_iff]; exact fun z => e ((Enc.eqv a b).mp z)
theorem o_neE [Enc α] [DecidableEq α] {a b : α} (h : Enc.dep α ≤ 64 := by decide) : opNe (Enc.enc a) (Enc.enc b) = some (.bool (!decide (a = b))) := by
  unfold opNe
  rw [if_pos ⟨shaped_enc h a, shaped_enc h b⟩]
  congr 2
  by_cases e : a = b
  · rw [decide_eq_true e, (Enc.eqv a b).mpr e]
  · rw [decide_eq_false e, Bool.eq_false_iff.mpr fun z => e ((Enc.eqv a b).mp z)]
theorem alikeAll_self : ∀ (n : Nat), True := fun _ => trivial
end

/-! ### loops -/
section
variable {α : Type} {mt : Mg} {mb : Ms} {mk : Mb} {me : Mx}
/-- a for: I after a part of the items; where it ends early, B or R -/
theorem for_any (enc : α → T) (I : List α → Envt → Prop) (B : Envt → Prop) (R : T → Envt → Prop) (xs : List α)
    (h : ∀ pre x post ε, xs = pre ++ x :: post → I pre ε → ∃ ε1 o ε2, mt (enc x) ε = some ε1 ∧ mb ε1 = some (o, ε2) ∧ match o with
      | .nx => I (pre ++ [x]) ε2
      | .ct => I (pre ++ [x]) ε2
      | .bk => B ε2
      | .rt v => R v ε2) (ε : Envt) (h0 : I [] ε) :
    ∃ o ε', sFor mt mb (xs.map enc) ε = some (o, ε') ∧ match o with
      | .nx => I xs ε' ∨ B ε'
      | .rt v => R v ε'
      | _ => False := by
  have key : ∀ (post pre : List α) (ε : Envt), xs = pre ++ post → I pre ε → ∃ o ε', sFor mt mb (post.map enc) ε = some (o, ε') ∧ match o with
      | .nx => I xs ε' ∨ B ε'
      | .rt v => R v ε'
      | _ => False := by
    intro post
    induction post with
    | nil =>
      intro pre ε e hi
      rw [List.append_nil] at e
      exact ⟨.nx, ε, rfl, .inl (e ▸ hi)⟩
    | cons x post ih =>
      intro pre ε e hi
      obtain ⟨ε1, o, ε2, h1, h2, h3⟩ := h pre x post ε e hi
      rw [List.map_cons, e_sFor1, h1, e_kF1, h2]
      cases o with
      | nx => exact ih (pre ++ [x]) ε2 (by rw [e, List.append_assoc]; rfl) h3
      | ct => exact ih (pre ++ [x]) ε2 (by rw [e, List.append_assoc]; rfl) h3
      | bk => exact ⟨.nx, ε2, rfl, .inr h3⟩
      | rt v => exact ⟨.rt v, ε2, rfl, h3⟩
  exact key xs [] ε rfl h0
/-- a for that runs to its end -/
theorem for_all (enc : α → T) (I : List α → Envt → Prop) (xs : List α)
    (h : ∀ pre x post ε, xs = pre ++ x :: post → I pre ε → ∃ ε1 ε2, mt (enc x) ε = some ε1 ∧ mb ε1 = some (.nx, ε2) ∧ I (pre ++ [x]) ε2) (ε : Envt) (h0 : I [] ε) :
    ∃ ε', sFor mt mb (xs.map enc) ε = some (.nx, ε') ∧ I xs ε' := by
  obtain ⟨o, ε', h1, h2⟩ := for_any (mt := mt) (mb := mb) enc I (fun _ => False) (fun _ _ => False) xs (fun pre x post ε e hi => by
    obtain ⟨ε1, ε2, a, b, c⟩ := h pre x post ε e hi
    exact ⟨ε1, .nx, ε2, a, b, c⟩) ε h0
  cases o with
  | nx => exact ⟨ε', h1, h2.resolve_right id⟩
  | rt v => exact absurd h2 id
  | bk => exact absurd h2 id
  | ct => exact absurd h2 id
/-- a for that folds -/
theorem for_fold {σ : Type} (enc : α → T) (I : σ → Envt → Prop) (step : σ → α → σ) (xs : List α)
    (h : ∀ s x ε, x ∈ xs → I s ε → ∃ ε1 ε2, mt (enc x) ε = some ε1 ∧ mb ε1 = some (.nx, ε2) ∧ I (step s x) ε2) (s : σ) (ε : Envt) (h0 : I s ε) :
    ∃ ε', sFor mt mb (xs.map enc) ε = some (.nx, ε') ∧ I (xs.foldl step s) ε' := by
  refine for_all (mt := mt) (mb := mb) enc (fun pre => I (pre.foldl step s)) xs (fun pre x post ε e hi => ?_) ε h0
  obtain ⟨ε1, ε2, a, b, c⟩ := h _ x ε (by rw [e]; simp) hi
  exact ⟨ε1, ε2, a, b, by rw [List.foldl_append]; exact c⟩
/-- a while: V is made less by each turn -/
theorem while_any (I : Envt → Prop) (B : Envt → Prop) (R : T → Envt → Prop) (V : Envt → Nat)
    (h : ∀ ε, I ε → ∃ b ε1, mk ε = some (b, ε1) ∧ (b = false → B ε1) ∧ (b = true → ∃ o ε2, mb ε1 = some (o, ε2) ∧ match o with
      | .nx => I ε2 ∧ V ε2 < V ε
      | .ct => I ε2 ∧ V ε2 < V ε
      | .bk => B ε2
      | .rt v => R v ε2)) : ∀ (n : Nat) (ε : Envt), I ε → V ε < n → ∃ o ε', sWhile mk mb n ε = some (o, ε') ∧ match o with
      | .nx => B ε'
      | .rt v => R v ε'
      | _ => False := by
  intro n
  induction n with
  | zero => intro ε _ h; omega
  | succ n ih =>
    intro ε hi hv
    obtain ⟨b, ε1, e1, hf, ht⟩ := h ε hi
    rw [e_sWh, e1, e_kW1]
    cases b with
    | false => exact ⟨.nx, ε1, rfl, hf rfl⟩
    | true =>
      obtain ⟨o, ε2, e2, h2⟩ := ht rfl
      rw [if_pos rfl, e2]
      cases o with
      | nx => exact ih ε2 h2.1 (by have := h2.2; omega)
      | ct => exact ih ε2 h2.1 (by have := h2.2; omega)
      | bk => exact ⟨.nx, ε2, rfl, h2⟩
      | rt v => exact ⟨.rt v, ε2, rfl, h2⟩
theorem wipe_idem : ∀ {vs : List Nat} {ε : Envt} {ε2 : Envt}, ε2.length = ε.length → (∀ i, i ∉ vs → ε2[i]? = ε[i]?) → wipeE vs ε2 = wipeE vs ε := by
  intro vs ε ε2 hl h
  have ll : ∀ (vs : List Nat) (ε : Envt), (wipeE vs ε).length = ε.length := fun vs ε => by
    induction vs with
    | nil => rfl
    | cons a r ih => unfold wipeE; rw [List.length_set, ih]
  have at_ : ∀ (vs : List Nat) (ε : Envt) (i : Nat), (wipeE vs ε)[i]? = if i ∈ vs then (ε[i]?).map fun _ => none else ε[i]? := fun vs ε i => by
    induction vs with
    | nil => simp [wipeE]
    | cons a r ih =>
      unfold wipeE
      rw [List.getElem?_set, ll]
      by_cases q : a = i
      · subst q
        by_cases hl : a < ε.length
        · simp [hl, List.getElem?_eq_getElem]
        · simp [hl, List.getElem?_eq_none (Nat.le_of_not_lt hl)]
      · rw [if_neg q, ih]
        by_cases m : i ∈ r
        · simp [m]
        · rw [if_neg m, if_neg (by rw [List.mem_cons]; exact fun z => z.elim (fun z => q z.symm) m)]
  refine List.ext_getElem? fun i => ?_
  rw [at_, at_]
  by_cases m : i ∈ vs
  · rw [if_pos m, if_pos m]
    by_cases hi : i < ε.length
    · rw [List.getElem?_eq_getElem hi, List.getElem?_eq_getElem (hl ▸ hi)]; rfl
    · rw [List.getElem?_eq_none (by omega), List.getElem?_eq_none (by omega)]
  · rw [if_neg m, if_neg m, h i m]
/-- a list comprehension whose parts change nothing but their own names -/
theorem lc_all (enc : α → T) (f : α → T) (p : α → Bool) (vs : List Nat) (xs : List α) (ε : Envt)
    (h : ∀ x, x ∈ xs → ∃ ε1 ε2 ε3, mt (enc x) (wipeE vs ε) = some ε1 ∧ mk ε1 = some (p x, ε2) ∧ wipeE vs ε2 = wipeE vs ε ∧ (p x = true → me ε2 = some (f x, ε3) ∧ wipeE vs ε3 = wipeE vs ε)) :
    mLoopC mt mk me vs (xs.map enc) (wipeE vs ε) = some ((xs.filter p).map f, wipeE vs ε) := by
  induction xs with
  | nil => rfl
  | cons x xs ih =>
    obtain ⟨ε1, ε2, ε3, h1, h2, h3, h4⟩ := h x List.mem_cons_self
    have ih := ih fun y hy => h y (List.mem_cons_of_mem _ hy)
    rw [List.map_cons, e_mL1, h1, e_kM1, h2, e_kM2]
    cases hp : p x with
    | false => rw [if_neg Bool.false_ne_true, h3, ih, List.filter_cons, hp, if_neg Bool.false_ne_true]
    | true =>
      obtain ⟨h5, h6⟩ := h4 hp
      rw [if_pos rfl, h5, e_kM3, h6, ih, List.filter_cons, hp, if_pos rfl]; rfl
end
end Dg

set_option Elab.async false
set_option linter.all false
set_option maxRecDepth 100000
/-! the law's own helpers: draws, sameness -/
namespace Dg
open PySem L2
def m_draw : Ms :=
  (sRet (mLst (mCons (mListS (mVar 0)) (mCons (mCst (.int 0)) (mCons (mCst (.int 0)) (mCons (mCst (.int 17)) mNil))))))
def fm_draw : Mf := mDef [.scr] 1 m_draw
def m_next : Ms :=
  (sCons (sIf (mTb (mBin opGt (mBin opIx (mVar 0) (mCst (.int 2))) (mCst (.int 0)))) (sCons (sSet 2 (mBin opMod (mCall bInt (mCons (mBin opIx (mVar 0) (mCst (.int 2))) mNil)) (mVar 1))) (sCons (sPut 0 (mBin opFdiv (mBin opIx (mVar 0) (mCst (.int 2))) (mVar 1)) (mCst (.int 2))) (sRet (mVar 2)))) sNil) (sCons (sIf (mTb (mBin opLt (mBin opIx (mVar 0) (mCst (.int 1))) (mCall bLen (mCons (mBin opIx (mVar 0) (mCst (.int 0))) mNil)))) (sCons (sSet 3 (mCall bAbs (mCons (mBin opIx (mBin opIx (mVar 0) (mCst (.int 0))) (mBin opIx (mVar 0) (mCst (.int 1)))) mNil))) (sCons (sPut 0 (mBin opAdd (mBin opIx (mVar 0) (mCst (.int 1))) (mCst (.int 1))) (mCst (.int 1))) (sCons (sIf (mTb (mBin opGe (mVar 3) (mBin opPow (mCst (.int 10)) (mCst (.int 18))))) (sCons (sPut 0 (mBin opFdiv (mVar 3) (mVar 1)) (mCst (.int 2))) (sRet (mBin opMod (mCall bInt (mCons (mVar 3) mNil)) (mVar 1)))) sNil) (sPut 0 (mBin opMod (mCall bInt (mCons (mBin opAdd (mBin opAdd (mBin opMulI (mBin opIx (mVar 0) (mCst (.int 3))) (mCst (.int 48271))) (mVar 3)) (mCst (.int 11))) mNil)) (mCst (.int 2147483647))) (mCst (.int 3)))))) (sPut 0 (mBin opMod (mCall bInt (mCons (mBin opAdd (mBin opMulI (mBin opIx (mVar 0) (mCst (.int 3))) (mCst (.int 48271))) (mCst (.int 12345))) mNil)) (mCst (.int 2147483647))) (mCst (.int 3)))) (sRet (mBin opMod (mBin opFdiv (mCall bInt (mCons (mBin opMod (mBin opMulI (mBin opIx (mVar 0) (mCst (.int 3))) (mCst (.int 69621))) (mCst (.int 2147483629))) mNil)) (mCst (.int 7))) (mVar 1)))))
def fm_next : Mf := mDef [(.lst .fro), .fro] 4 m_next
def m_same (rec : Mf) : Ms :=
  (sCons (sIf (mTru (mIsi (fun t => isiList t || isiTuple t) (mVar 1))) (sCons (sIf (mOr (mTb (mBin opNe (mIsi isiList (mVar 1)) (mIsi isiList (mVar 0)))) (mTb (mBin opNe (mIsi isiTuple (mVar 1)) (mIsi isiTuple (mVar 0))))) (sRet (mCst (.bool false))) sNil) (sCons (sIf (mTb (mBin opNe (mCall bLen (mCons (mVar 0) mNil)) (mCall bLen (mCons (mVar 1) mNil)))) (sRet (mCst (.bool false))) sNil) (sRet (mCall bAll (mCons (mLc (mRng rng1 (mCons (mCall bLen (mCons (mVar 1) mNil)) mNil)) (gSet 2) mYes (mCallU rec [none, none] (aVal (mBin opIx (mVar 0) (mVar 2)) (aVal (mBin opIx (mVar 1) (mVar 2)) aNil))) [2]) mNil))))) sNil) (sCons (sIf (mTb (mBin opIs (mVar 1) (mCst .none))) (sRet (mBin opIs (mVar 0) (mCst .none))) sNil) (sCons (sIf (mTb (mBin opNe (mIsi isiBool (mVar 1)) (mIsi isiBool (mVar 0)))) (sRet (mCst (.bool false))) sNil) (sCons (sIf (mTru (mIsi isiStr (mVar 1))) (sRet (mAndV (mIsi isiStr (mVar 0)) (mBin opEq (mVar 0) (mVar 1)))) sNil) (sRet (mAndV (mIsi isiInt (mVar 0)) (mBin opEq (mVar 0) (mVar 1))))))))
def fm_same : Nat → Mf
  | 0 => fun _ => none
  | k + 1 => mDef [.fro, .fro] 3 (m_same (fm_same k))

/-- a draw's state -/
def Dr (d : T) : Prop := ∃ (ns : List Int) (p q s : Int), d = .list [.list (ns.map .int), .int p, .int q, .int s] ∧ 0 ≤ p ∧ ns.length < sizeLine
theorem draw_ok {ns : List Int} (h : ns.length < sizeLine) : ∃ d, fm_draw [.list (ns.map .int)] = some (d, [.list (ns.map .int)]) ∧ Dr d := by
  refine ⟨.list [.list (ns.map .int), .int 0, .int 0, .int 17], ?_, ns, 0, 0, 17, rfl, by omega, h⟩
  simp only [e_mVar, e_kVar, e_mMov, e_kMov, e_mCst, e_kO, e_kOb, e_kOl, e_mBin, e_kB1, e_kB2, e_mUn, e_kU, e_mTb, e_kTb, e_mTru, e_kTru, e_mNot, e_kNot, e_mAnd, e_kAnd, e_mOr, e_kOr, e_mAndV, e_kAndVt, e_kAndVf, e_mOrV, e_kOrVt, e_kOrVf, e_mNotV, e_kNotV, e_mNotB, e_kNotB, e_kNB, e_mIf, e_kIf, e_kIfS, e_mNil, e_mCons, e_kC1, e_kC2, e_mTup, e_kTup, e_mLst, e_kLst, e_mCall, e_mRng, e_kCall, e_kCallR, e_mNoP, e_mP, e_kPI, e_mSl, e_kS1, e_kS2, e_kS3, e_kCh1, e_kCh2, e_kCh3t, e_kCh3f, e_mYes, e_mItems, e_kItL, e_kItT, e_mIsi, e_kIsi, e_mNol, e_kNolN, e_kNolI, e_kNolB, e_kNolS, e_kNolT, e_kNolD, e_mListS, e_kLS, e_gSet, e_gsNil, e_gsCons, e_kG, e_gTupM, e_aNil, e_aVal, e_kA1, e_kA2, e_aLent, e_kL1, e_kL2, e_mCallU, e_kU1, e_kU2, e_kU3, e_mFill0, e_mFill1, e_mFill2, e_kF, e_kFl, e_mBack0, e_mBack1, e_mBack2, e_sNil, e_sCons, e_kSeqN, e_kSeqB, e_kSeqC, e_kSeqR, e_sIf, e_sBk, e_sCt, e_sRet, e_kRet, e_sDrop, e_kDrop, e_sSet, e_kSet, e_sTgt, e_kTgt, e_kT2, e_sPar, e_kP1, e_kP2, e_kAp0, e_kAp1, e_kAp2, e_kPu1, e_kPu2, e_kPu3, e_kPu4, e_kPu5, e_mFor, e_kFor, e_sFor0, e_kF1, e_kF2N, e_kF2C, e_kF2B, e_kF2R, e_kW1, e_kW2N, e_kW2C, e_kW2B, e_kW2R, e_mLc, e_kLc, e_kLc2, e_mL0, e_kM1, e_kM2, e_kM3, e_kM4, e_wipe0, e_wipe1, e_res0, e_res1, e_mDef, e_kDefR, e_kDefN, e_kDO, e_mOu0, e_mOuF, e_mOuS, e_mOuL, e_kOu, e_mChain, e_sApp, e_sPut, e_kAndV, e_kOrV, e_kCh3, List.getElem?_cons_zero, List.getElem?_cons_succ, List.set_cons_zero, List.set_cons_succ, List.map_cons, List.map_nil, List.length_cons, List.length_nil, List.cons_append, List.nil_append, List.replicate_succ, List.replicate_zero, Option.getD_some, Option.getD_none, decide_eq_true_eq, Bool.false_eq_true, Bool.true_eq_false, Bool.not_true, Bool.not_false, Bool.not_eq_true', decide_eq_false_iff_not, if_true, if_false, Nat.zero_add, Nat.reduceAdd, Nat.reduceSub, Nat.sub_self, Nat.sub_zero, Nat.add_zero, Nat.reduceEqDiff, List.isEmpty_nil, List.isEmpty_cons, o_add, o_sub, o_neg, o_lt, o_le, o_gt, o_ge, o_eqI, o_neI, o_eqB, o_neB, o_isN, o_isNotN, o_isB, n_non, n_bool, n_int, n_str, n_list, n_tuple, t_non, t_bool, t_int, t_list, t_tuple, o_ixT0, o_ixT1, o_ixT2, o_ixT3, o_ixT4, o_ixL0, o_ixL1, o_ixL2, o_ixL3, ix0, ix1, ix2, ix3, b_lenL, b_lenT, b_abs, b_int, b_tupL, b_tupT, b_lstL, b_lstT, b_gcd, b_max2, b_min2, fm_draw, m_draw]
theorem fmod_rng {a b : Int} (h : 0 < b) : 0 ≤ a.fmod b ∧ a.fmod b < b := ⟨Int.fmod_nonneg_of_pos _ h, Int.fmod_lt_of_pos _ h⟩
theorem getD_map (ns : List Int) (k : Nat) (h : k < ns.length) : (ns.map PyData.int)[k]? = some (.int (ns.getD k 0)) := by
  rw [List.getElem?_map, List.getD_eq_getElem?_getD, List.getElem?_eq_getElem h]; rfl
theorem next_ok {d : T} {m : Int} (hd : Dr d) (h0 : 0 < m) (h1 : m < 1000000000) : ∃ r d', fm_next [d, .int m] = some (.int r, [d', .int m]) ∧ Dr d' ∧ 0 ≤ r ∧ r < m := by
  obtain ⟨ns, p, q, s, rfl, hp, hl⟩ := hd
  have hm : m ≠ 0 := by omega
  have hf : m ≠ 0 ∧ m.natAbs < 1073741824 := ⟨hm, by omega⟩
  by_cases hq : 0 < q
  · refine ⟨q.fmod m, .list [.list (ns.map .int), .int p, .int (q.fdiv m), .int s], ?_, ⟨ns, p, _, s, rfl, hp, hl⟩, fmod_rng h0⟩
    simp only [e_mVar, e_kVar, e_mMov, e_kMov, e_mCst, e_kO, e_kOb, e_kOl, e_mBin, e_kB1, e_kB2, e_mUn, e_kU, e_mTb, e_kTb, e_mTru, e_kTru, e_mNot, e_kNot, e_mAnd, e_kAnd, e_mOr, e_kOr, e_mAndV, e_kAndVt, e_kAndVf, e_mOrV, e_kOrVt, e_kOrVf, e_mNotV, e_kNotV, e_mNotB, e_kNotB, e_kNB, e_mIf, e_kIf, e_kIfS, e_mNil, e_mCons, e_kC1, e_kC2, e_mTup, e_kTup, e_mLst, e_kLst, e_mCall, e_mRng, e_kCall, e_kCallR, e_mNoP, e_mP, e_kPI, e_mSl, e_kS1, e_kS2, e_kS3, e_kCh1, e_kCh2, e_kCh3t, e_kCh3f, e_mYes, e_mItems, e_kItL, e_kItT, e_mIsi, e_kIsi, e_mNol, e_kNolN, e_kNolI, e_kNolB, e_kNolS, e_kNolT, e_kNolD, e_mListS, e_kLS, e_gSet, e_gsNil, e_gsCons, e_kG, e_gTupM, e_aNil, e_aVal, e_kA1, e_kA2, e_aLent, e_kL1, e_kL2, e_mCallU, e_kU1, e_kU2, e_kU3, e_mFill0, e_mFill1, e_mFill2, e_kF, e_kFl, e_mBack0, e_mBack1, e_mBack2, e_sNil, e_sCons, e_kSeqN, e_kSeqB, e_kSeqC, e_kSeqR, e_sIf, e_sBk, e_sCt, e_sRet, e_kRet, e_sDrop, e_kDrop, e_sSet, e_kSet, e_sTgt, e_kTgt, e_kT2, e_sPar, e_kP1, e_kP2, e_kAp0, e_kAp1, e_kAp2, e_kPu1, e_kPu2, e_kPu3, e_kPu4, e_kPu5, e_mFor, e_kFor, e_sFor0, e_kF1, e_kF2N, e_kF2C, e_kF2B, e_kF2R, e_kW1, e_kW2N, e_kW2C, e_kW2B, e_kW2R, e_mLc, e_kLc, e_kLc2, e_mL0, e_kM1, e_kM2, e_kM3, e_kM4, e_wipe0, e_wipe1, e_res0, e_res1, e_mDef, e_kDefR, e_kDefN, e_kDO, e_mOu0, e_mOuF, e_mOuS, e_mOuL, e_kOu, e_mChain, e_sApp, e_sPut, e_kAndV, e_kOrV, e_kCh3, List.getElem?_cons_zero, List.getElem?_cons_succ, List.set_cons_zero, List.set_cons_succ, List.map_cons, List.map_nil, List.length_cons, List.length_nil, List.cons_append, List.nil_append, List.replicate_succ, List.replicate_zero, Option.getD_some, Option.getD_none, decide_eq_true_eq, Bool.false_eq_true, Bool.true_eq_false, Bool.not_true, Bool.not_false, Bool.not_eq_true', decide_eq_false_iff_not, if_true, if_false, Nat.zero_add, Nat.reduceAdd, Nat.reduceSub, Nat.sub_self, Nat.sub_zero, Nat.add_zero, Nat.reduceEqDiff, List.isEmpty_nil, List.isEmpty_cons, o_add, o_sub, o_neg, o_lt, o_le, o_gt, o_ge, o_eqI, o_neI, o_eqB, o_neB, o_isN, o_isNotN, o_isB, n_non, n_bool, n_int, n_str, n_list, n_tuple, t_non, t_bool, t_int, t_list, t_tuple, o_ixT0, o_ixT1, o_ixT2, o_ixT3, o_ixT4, o_ixL0, o_ixL1, o_ixL2, o_ixL3, ix0, ix1, ix2, ix3, b_lenL, b_lenT, b_abs, b_int, b_tupL, b_tupT, b_lstL, b_lstT, b_gcd, b_max2, b_min2, fm_next, m_next, hq, o_mod hm, o_fdiv hf]
  · have c7 : (7 : Int) ≠ 0 ∧ (7 : Int).natAbs < 1073741824 := by decide
    have k1 : (2147483647 : Int) ≠ 0 := by decide
    have k2 : (2147483629 : Int) ≠ 0 := by decide
    have kp : (0 : Int) ≤ 18 ∧ (18 : Int) ≤ 1000000 ∧ (10 : Int).natAbs < 2 ^ 64 := by decide
    have mr : ∀ x : Int, mulOk x 48271 = true := fun x => mulOk_r (by decide) (by decide)
    have mr2 : ∀ x : Int, mulOk x 69621 = true := fun x => mulOk_r (by decide) (by decide)
    by_cases hpl : p < ((ns.map PyData.int).length : Int)
    · have hk : p.toNat < ns.length := by rw [List.length_map] at hpl; omega
      have gi := o_ixLi (xs := ns.map .int) hp (getD_map ns p.toNat hk)
      by_cases hc : (10 : Int) ^ (18 : Int).toNat ≤ (if ns.getD p.toNat 0 < 0 then -ns.getD p.toNat 0 else ns.getD p.toNat 0)
      · refine ⟨_, .list [.list (ns.map .int), .int (p + 1), .int ((if ns.getD p.toNat 0 < 0 then -ns.getD p.toNat 0 else ns.getD p.toNat 0).fdiv m), .int s], ?_, ⟨ns, p + 1, _, s, rfl, by omega, hl⟩, fmod_rng (a := if ns.getD p.toNat 0 < 0 then -ns.getD p.toNat 0 else ns.getD p.toNat 0) h0⟩
        simp only [e_mVar, e_kVar, e_mMov, e_kMov, e_mCst, e_kO, e_kOb, e_kOl, e_mBin, e_kB1, e_kB2, e_mUn, e_kU, e_mTb, e_kTb, e_mTru, e_kTru, e_mNot, e_kNot, e_mAnd, e_kAnd, e_mOr, e_kOr, e_mAndV, e_kAndVt, e_kAndVf, e_mOrV, e_kOrVt, e_kOrVf, e_mNotV, e_kNotV, e_mNotB, e_kNotB, e_kNB, e_mIf, e_kIf, e_kIfS, e_mNil, e_mCons, e_kC1, e_kC2, e_mTup, e_kTup, e_mLst, e_kLst, e_mCall, e_mRng, e_kCall, e_kCallR, e_mNoP, e_mP, e_kPI, e_mSl, e_kS1, e_kS2, e_kS3, e_kCh1, e_kCh2, e_kCh3t, e_kCh3f, e_mYes, e_mItems, e_kItL, e_kItT, e_mIsi, e_kIsi, e_mNol, e_kNolN, e_kNolI, e_kNolB, e_kNolS, e_kNolT, e_kNolD, e_mListS, e_kLS, e_gSet, e_gsNil, e_gsCons, e_kG, e_gTupM, e_aNil, e_aVal, e_kA1, e_kA2, e_aLent, e_kL1, e_kL2, e_mCallU, e_kU1, e_kU2, e_kU3, e_mFill0, e_mFill1, e_mFill2, e_kF, e_kFl, e_mBack0, e_mBack1, e_mBack2, e_sNil, e_sCons, e_kSeqN, e_kSeqB, e_kSeqC, e_kSeqR, e_sIf, e_sBk, e_sCt, e_sRet, e_kRet, e_sDrop, e_kDrop, e_sSet, e_kSet, e_sTgt, e_kTgt, e_kT2, e_sPar, e_kP1, e_kP2, e_kAp0, e_kAp1, e_kAp2, e_kPu1, e_kPu2, e_kPu3, e_kPu4, e_kPu5, e_mFor, e_kFor, e_sFor0, e_kF1, e_kF2N, e_kF2C, e_kF2B, e_kF2R, e_kW1, e_kW2N, e_kW2C, e_kW2B, e_kW2R, e_mLc, e_kLc, e_kLc2, e_mL0, e_kM1, e_kM2, e_kM3, e_kM4, e_wipe0, e_wipe1, e_res0, e_res1, e_mDef, e_kDefR, e_kDefN, e_kDO, e_mOu0, e_mOuF, e_mOuS, e_mOuL, e_kOu, e_mChain, e_sApp, e_sPut, e_kAndV, e_kOrV, e_kCh3, List.getElem?_cons_zero, List.getElem?_cons_succ, List.set_cons_zero, List.set_cons_succ, List.map_cons, List.map_nil, List.length_cons, List.length_nil, List.cons_append, List.nil_append, List.replicate_succ, List.replicate_zero, Option.getD_some, Option.getD_none, decide_eq_true_eq, Bool.false_eq_true, Bool.true_eq_false, Bool.not_true, Bool.not_false, Bool.not_eq_true', decide_eq_false_iff_not, if_true, if_false, Nat.zero_add, Nat.reduceAdd, Nat.reduceSub, Nat.sub_self, Nat.sub_zero, Nat.add_zero, Nat.reduceEqDiff, List.isEmpty_nil, List.isEmpty_cons, o_add, o_sub, o_neg, o_lt, o_le, o_gt, o_ge, o_eqI, o_neI, o_eqB, o_neB, o_isN, o_isNotN, o_isB, n_non, n_bool, n_int, n_str, n_list, n_tuple, t_non, t_bool, t_int, t_list, t_tuple, o_ixT0, o_ixT1, o_ixT2, o_ixT3, o_ixT4, o_ixL0, o_ixL1, o_ixL2, o_ixL3, ix0, ix1, ix2, ix3, b_lenL, b_lenT, b_abs, b_int, b_tupL, b_tupT, b_lstL, b_lstT, b_gcd, b_max2, b_min2, fm_next, m_next, hq, o_mod hm, o_fdiv hf, hpl, gi, o_pow kp, hc]
      · refine ⟨_, .list [.list (ns.map .int), .int (p + 1), .int q, .int ((s * 48271 + (if ns.getD p.toNat 0 < 0 then -ns.getD p.toNat 0 else ns.getD p.toNat 0) + 11).fmod 2147483647)], ?_, ⟨ns, p + 1, q, _, rfl, by omega, hl⟩, fmod_rng (a := (((s * 48271 + (if ns.getD p.toNat 0 < 0 then -ns.getD p.toNat 0 else ns.getD p.toNat 0) + 11).fmod 2147483647 * 69621).fmod 2147483629).fdiv 7) h0⟩
        simp only [e_mVar, e_kVar, e_mMov, e_kMov, e_mCst, e_kO, e_kOb, e_kOl, e_mBin, e_kB1, e_kB2, e_mUn, e_kU, e_mTb, e_kTb, e_mTru, e_kTru, e_mNot, e_kNot, e_mAnd, e_kAnd, e_mOr, e_kOr, e_mAndV, e_kAndVt, e_kAndVf, e_mOrV, e_kOrVt, e_kOrVf, e_mNotV, e_kNotV, e_mNotB, e_kNotB, e_kNB, e_mIf, e_kIf, e_kIfS, e_mNil, e_mCons, e_kC1, e_kC2, e_mTup, e_kTup, e_mLst, e_kLst, e_mCall, e_mRng, e_kCall, e_kCallR, e_mNoP, e_mP, e_kPI, e_mSl, e_kS1, e_kS2, e_kS3, e_kCh1, e_kCh2, e_kCh3t, e_kCh3f, e_mYes, e_mItems, e_kItL, e_kItT, e_mIsi, e_kIsi, e_mNol, e_kNolN, e_kNolI, e_kNolB, e_kNolS, e_kNolT, e_kNolD, e_mListS, e_kLS, e_gSet, e_gsNil, e_gsCons, e_kG, e_gTupM, e_aNil, e_aVal, e_kA1, e_kA2, e_aLent, e_kL1, e_kL2, e_mCallU, e_kU1, e_kU2, e_kU3, e_mFill0, e_mFill1, e_mFill2, e_kF, e_kFl, e_mBack0, e_mBack1, e_mBack2, e_sNil, e_sCons, e_kSeqN, e_kSeqB, e_kSeqC, e_kSeqR, e_sIf, e_sBk, e_sCt, e_sRet, e_kRet, e_sDrop, e_kDrop, e_sSet, e_kSet, e_sTgt, e_kTgt, e_kT2, e_sPar, e_kP1, e_kP2, e_kAp0, e_kAp1, e_kAp2, e_kPu1, e_kPu2, e_kPu3, e_kPu4, e_kPu5, e_mFor, e_kFor, e_sFor0, e_kF1, e_kF2N, e_kF2C, e_kF2B, e_kF2R, e_kW1, e_kW2N, e_kW2C, e_kW2B, e_kW2R, e_mLc, e_kLc, e_kLc2, e_mL0, e_kM1, e_kM2, e_kM3, e_kM4, e_wipe0, e_wipe1, e_res0, e_res1, e_mDef, e_kDefR, e_kDefN, e_kDO, e_mOu0, e_mOuF, e_mOuS, e_mOuL, e_kOu, e_mChain, e_sApp, e_sPut, e_kAndV, e_kOrV, e_kCh3, List.getElem?_cons_zero, List.getElem?_cons_succ, List.set_cons_zero, List.set_cons_succ, List.map_cons, List.map_nil, List.length_cons, List.length_nil, List.cons_append, List.nil_append, List.replicate_succ, List.replicate_zero, Option.getD_some, Option.getD_none, decide_eq_true_eq, Bool.false_eq_true, Bool.true_eq_false, Bool.not_true, Bool.not_false, Bool.not_eq_true', decide_eq_false_iff_not, if_true, if_false, Nat.zero_add, Nat.reduceAdd, Nat.reduceSub, Nat.sub_self, Nat.sub_zero, Nat.add_zero, Nat.reduceEqDiff, List.isEmpty_nil, List.isEmpty_cons, o_add, o_sub, o_neg, o_lt, o_le, o_gt, o_ge, o_eqI, o_neI, o_eqB, o_neB, o_isN, o_isNotN, o_isB, n_non, n_bool, n_int, n_str, n_list, n_tuple, t_non, t_bool, t_int, t_list, t_tuple, o_ixT0, o_ixT1, o_ixT2, o_ixT3, o_ixT4, o_ixL0, o_ixL1, o_ixL2, o_ixL3, ix0, ix1, ix2, ix3, b_lenL, b_lenT, b_abs, b_int, b_tupL, b_tupT, b_lstL, b_lstT, b_gcd, b_max2, b_min2, fm_next, m_next, hq, o_mod hm, o_fdiv hf, hpl, gi, o_pow kp, hc, o_mul (mr _), o_mul (mr2 _), o_mod k1, o_mod k2, o_fdiv c7]
    · refine ⟨_, .list [.list (ns.map .int), .int p, .int q, .int ((s * 48271 + 12345).fmod 2147483647)], ?_, ⟨ns, p, q, _, rfl, hp, hl⟩, fmod_rng (a := (((s * 48271 + 12345).fmod 2147483647 * 69621).fmod 2147483629).fdiv 7) h0⟩
      simp only [e_mVar, e_kVar, e_mMov, e_kMov, e_mCst, e_kO, e_kOb, e_kOl, e_mBin, e_kB1, e_kB2, e_mUn, e_kU, e_mTb, e_kTb, e_mTru, e_kTru, e_mNot, e_kNot, e_mAnd, e_kAnd, e_mOr, e_kOr, e_mAndV, e_kAndVt, e_kAndVf, e_mOrV, e_kOrVt, e_kOrVf, e_mNotV, e_kNotV, e_mNotB, e_kNotB, e_kNB, e_mIf, e_kIf, e_kIfS, e_mNil, e_mCons, e_kC1, e_kC2, e_mTup, e_kTup, e_mLst, e_kLst, e_mCall, e_mRng, e_kCall, e_kCallR, e_mNoP, e_mP, e_kPI, e_mSl, e_kS1, e_kS2, e_kS3, e_kCh1, e_kCh2, e_kCh3t, e_kCh3f, e_mYes, e_mItems, e_kItL, e_kItT, e_mIsi, e_kIsi, e_mNol, e_kNolN, e_kNolI, e_kNolB, e_kNolS, e_kNolT, e_kNolD, e_mListS, e_kLS, e_gSet, e_gsNil, e_gsCons, e_kG, e_gTupM, e_aNil, e_aVal, e_kA1, e_kA2, e_aLent, e_kL1, e_kL2, e_mCallU, e_kU1, e_kU2, e_kU3, e_mFill0, e_mFill1, e_mFill2, e_kF, e_kFl, e_mBack0, e_mBack1, e_mBack2, e_sNil, e_sCons, e_kSeqN, e_kSeqB, e_kSeqC, e_kSeqR, e_sIf, e_sBk, e_sCt, e_sRet, e_kRet, e_sDrop, e_kDrop, e_sSet, e_kSet, e_sTgt, e_kTgt, e_kT2, e_sPar, e_kP1, e_kP2, e_kAp0, e_kAp1, e_kAp2, e_kPu1, e_kPu2, e_kPu3, e_kPu4, e_kPu5, e_mFor, e_kFor, e_sFor0, e_kF1, e_kF2N, e_kF2C, e_kF2B, e_kF2R, e_kW1, e_kW2N, e_kW2C, e_kW2B, e_kW2R, e_mLc, e_kLc, e_kLc2, e_mL0, e_kM1, e_kM2, e_kM3, e_kM4, e_wipe0, e_wipe1, e_res0, e_res1, e_mDef, e_kDefR, e_kDefN, e_kDO, e_mOu0, e_mOuF, e_mOuS, e_mOuL, e_kOu, e_mChain, e_sApp, e_sPut, e_kAndV, e_kOrV, e_kCh3, List.getElem?_cons_zero, List.getElem?_cons_succ, List.set_cons_zero, List.set_cons_succ, List.map_cons, List.map_nil, List.length_cons, List.length_nil, List.cons_append, List.nil_append, List.replicate_succ, List.replicate_zero, Option.getD_some, Option.getD_none, decide_eq_true_eq, Bool.false_eq_true, Bool.true_eq_false, Bool.not_true, Bool.not_false, Bool.not_eq_true', decide_eq_false_iff_not, if_true, if_false, Nat.zero_add, Nat.reduceAdd, Nat.reduceSub, Nat.sub_self, Nat.sub_zero, Nat.add_zero, Nat.reduceEqDiff, List.isEmpty_nil, List.isEmpty_cons, o_add, o_sub, o_neg, o_lt, o_le, o_gt, o_ge, o_eqI, o_neI, o_eqB, o_neB, o_isN, o_isNotN, o_isB, n_non, n_bool, n_int, n_str, n_list, n_tuple, t_non, t_bool, t_int, t_list, t_tuple, o_ixT0, o_ixT1, o_ixT2, o_ixT3, o_ixT4, o_ixL0, o_ixL1, o_ixL2, o_ixL3, ix0, ix1, ix2, ix3, b_lenL, b_lenT, b_abs, b_int, b_tupL, b_tupT, b_lstL, b_lstT, b_gcd, b_max2, b_min2, fm_next, m_next, hq, o_mod hm, o_fdiv hf, hpl, o_mul (mr _), o_mul (mr2 _), o_mod k1, o_mod k2, o_fdiv c7]
end Dg

set_option Elab.async false
set_option linter.all false
set_option maxRecDepth 100000
/-! typed runs that may stop -/
namespace Dg
open PySem
def pr (p : Int × Int) : T := .tuple [.int p.1, .int p.2]
def mu (i j : Int) : Option Int := if mulOk i j = true then some (i * j) else none
def fd (i j : Int) : Option Int := if j ≠ 0 ∧ j.natAbs < 1073741824 then some (i.fdiv j) else none
def fmo (i j : Int) : Option Int := if j ≠ 0 then some (i.fmod j) else none
theorem o_mu {i j k : Int} (h : mu i j = some k) : opMulI (.int i) (.int j) = some (.int k) := by
  unfold mu at h
  split at h
  · rename_i z; cases h; exact if_pos z
  · cases h
theorem o_fd {i j k : Int} (h : fd i j = some k) : opFdiv (.int i) (.int j) = some (.int k) := by
  unfold fd at h
  split at h
  · rename_i z; cases h; exact if_pos z
  · cases h
theorem o_fmo {i j k : Int} (h : fmo i j = some k) : opMod (.int i) (.int j) = some (.int k) := by
  unfold fmo at h
  split at h
  · rename_i z; cases h; exact if_pos z
  · cases h
theorem bd {α β : Type} {o : Option α} {f : α → Option β} {r : β} (h : o.bind f = some r) : ∃ x, o = some x ∧ f x = some r := by
  cases o with
  | none => cases h
  | some x => exact ⟨x, rfl, h⟩
/-- a fold that may stop -/
def foldO {σ α : Type} (step : σ → α → Option σ) : σ → List α → Option σ
  | s, [] => some s
  | s, x :: xs => (step s x).bind fun s => foldO step s xs
theorem for_foldO {σ α : Type} {mt : Mg} {mb : Ms} (enc : α → T) (I : σ → Envt → Prop) (step : σ → α → Option σ) :
    ∀ (xs : List α) (s s' : σ) (ε : Envt), (∀ s x s' ε, x ∈ xs → I s ε → step s x = some s' → ∃ ε1 ε2, mt (enc x) ε = some ε1 ∧ mb ε1 = some (.nx, ε2) ∧ I s' ε2) → I s ε → foldO step s xs = some s' →
    ∃ ε', sFor mt mb (xs.map enc) ε = some (.nx, ε') ∧ I s' ε'
  | [], s, s', ε, h, h0, e => by cases e; exact ⟨ε, rfl, h0⟩
  | x :: xs, s, s', ε, h, h0, e => by
    obtain ⟨s1, e1, e2⟩ := bd e
    obtain ⟨ε1, ε2, a, b, c⟩ := h s x s1 ε List.mem_cons_self h0 e1
    obtain ⟨ε', d, f⟩ := for_foldO (mt := mt) (mb := mb) enc I step xs s1 s' ε2 (fun s x s' ε m => h s x s' ε (List.mem_cons_of_mem _ m)) c e2
    refine ⟨ε', ?_, f⟩
    rw [List.map_cons, e_sFor1, a, e_kF1, b]
    exact d
def mapO {α β : Type} (f : α → Option β) : List α → Option (List β)
  | [] => some []
  | x :: xs => (f x).bind fun y => (mapO f xs).map (y :: ·)
theorem mapO_mem {α β : Type} {f : α → Option β} : ∀ {xs : List α} {ys : List β}, mapO f xs = some ys → (∀ x ∈ xs, ∃ y, f x = some y) ∧ ys.length = xs.length
  | [], ys, h => by cases h; exact ⟨(fun _ m => by cases m), rfl⟩
  | x :: xs, ys, h => by
    obtain ⟨y, h1, h2⟩ := bd h
    cases h3 : mapO f xs with
    | none => rw [h3] at h2; cases h2
    | some zs =>
      rw [h3] at h2; cases h2
      obtain ⟨a, b⟩ := mapO_mem h3
      refine ⟨fun z m => ?_, by rw [List.length_cons, List.length_cons, b]⟩
      rcases List.mem_cons.mp m with rfl | m
      · exact ⟨y, h1⟩
      · exact a z m
/-- [f(x) for x in xs] -/
theorem lc_mapO {α β : Type} {mt : Mg} {mk : Mb} {me : Mx} (enc : α → T) (dec : β → T) (f : α → Option β) (vs : List Nat) (ε : Envt) :
    ∀ (xs : List α) (ys : List β), (∀ x y, x ∈ xs → f x = some y → ∃ ε1 ε3, mt (enc x) (wipeE vs ε) = some ε1 ∧ mk ε1 = some (true, ε1) ∧ me ε1 = some (dec y, ε3) ∧ wipeE vs ε3 = wipeE vs ε) → mapO f xs = some ys →
    mLoopC mt mk me vs (xs.map enc) (wipeE vs ε) = some (ys.map dec, wipeE vs ε)
  | [], ys, _, h => by cases h; rfl
  | x :: xs, ys, k, h => by
    obtain ⟨y, h1, h2⟩ := bd h
    cases h3 : mapO f xs with
    | none => rw [h3] at h2; cases h2
    | some zs =>
      rw [h3] at h2; cases h2
      obtain ⟨ε1, ε3, a, b, c, d⟩ := k x y List.mem_cons_self h1
      have ih := lc_mapO (mk := mk) enc dec f vs ε xs zs (fun x y m => k x y (List.mem_cons_of_mem _ m)) h3
      rw [List.map_cons, e_mL1, a, e_kM1, b, e_kM2, if_pos rfl, c, e_kM3, d, ih]; rfl
def filO {α : Type} (f : α → Option Bool) : List α → Option (List α)
  | [] => some []
  | x :: xs => (f x).bind fun b => (filO f xs).map fun r => if b = true then x :: r else r
/-- [x for x in xs if p(x)] -/
theorem lc_filO {α : Type} {mt : Mg} {mk : Mb} {me : Mx} (enc : α → T) (f : α → Option Bool) (vs : List Nat) (ε : Envt) :
    ∀ (xs : List α) (ys : List α), (∀ x b, x ∈ xs → f x = some b → ∃ ε1 ε2, mt (enc x) (wipeE vs ε) = some ε1 ∧ mk ε1 = some (b, ε2) ∧ me ε2 = some (enc x, ε2) ∧ wipeE vs ε2 = wipeE vs ε) → filO f xs = some ys →
    mLoopC mt mk me vs (xs.map enc) (wipeE vs ε) = some (ys.map enc, wipeE vs ε)
  | [], ys, _, h => by cases h; rfl
  | x :: xs, ys, k, h => by
    obtain ⟨b, h1, h2⟩ := bd h
    cases h3 : filO f xs with
    | none => rw [h3] at h2; cases h2
    | some zs =>
      rw [h3] at h2; cases h2
      obtain ⟨ε1, ε2, a, b', c, d⟩ := k x b List.mem_cons_self h1
      have ih := lc_filO (mk := mk) (me := me) enc f vs ε xs zs (fun x y m => k x y (List.mem_cons_of_mem _ m)) h3
      rw [List.map_cons, e_mL1, a, e_kM1, b', e_kM2]
      cases b with
      | true => rw [if_pos rfl, c, e_kM3, d, ih]; rfl
      | false => rw [if_neg Bool.false_ne_true, d, ih]; rfl

theorem o_eqP {a b c d : Int} : opEq (.tuple [.int a, .int b]) (.tuple [.int c, .int d]) = some (.bool (decide (a = c ∧ b = d))) := by
  have := o_eqE (α := Int × Int) (a := (a, b)) (b := (c, d))
  rw [show decide ((a, b) = (c, d)) = decide (a = c ∧ b = d) from by simp only [Prod.mk.injEq]] at this
  exact this
theorem o_neP {a b c d : Int} : opNe (.tuple [.int a, .int b]) (.tuple [.int c, .int d]) = some (.bool (!decide (a = c ∧ b = d))) := by
  have := o_neE (α := Int × Int) (a := (a, b)) (b := (c, d))
  rw [show decide ((a, b) = (c, d)) = decide (a = c ∧ b = d) from by simp only [Prod.mk.injEq]] at this
  exact this
theorem seq_nx {s1 s2 : Ms} {ε ε1 : Envt} {r : Option (Out × Envt)} (h : s1 ε = some (.nx, ε1)) (h2 : s2 ε1 = r) : sCons s1 s2 ε = r := by rw [e_sCons, h]; exact h2
theorem seq_nxE {s1 s2 : Ms} {ε ε1 : Envt} {P : Option (Out × Envt) → Prop} (h : s1 ε = some (.nx, ε1)) (h2 : P (s2 ε1)) : P (sCons s1 s2 ε) := by rw [e_sCons, h]; exact h2
/-- a while whose turns are told by W -/
theorem while_O {σ : Type} {mk : Mb} {mb : Ms} (St : σ → Envt → Prop) (W : Nat → σ → Option σ) (c : σ → Option Bool) (step : σ → Option σ) (hW0 : ∀ s, W 0 s = none) (hW : ∀ n s, W (n + 1) s = (c s).bind fun b => if b = true then (step s).bind (W n) else some s)
    (h : ∀ s b ε, St s ε → c s = some b → ∃ ε1, mk ε = some (b, ε1) ∧ (b = false → St s ε1) ∧ (b = true → ∀ s', step s = some s' → ∃ ε2, mb ε1 = some (.nx, ε2) ∧ St s' ε2)) :
    ∀ (n m : Nat) (s s' : σ) (ε : Envt), n ≤ m → St s ε → W n s = some s' → ∃ ε', sWhile mk mb m ε = some (.nx, ε') ∧ St s' ε'
  | 0, m, s, s', ε, _, _, e => by rw [hW0] at e; cases e
  | n + 1, 0, s, s', ε, h', _, e => by omega
  | n + 1, m + 1, s, s', ε, h', hs, e => by
    rw [hW] at e
    obtain ⟨b, e1, e2⟩ := bd e
    obtain ⟨ε1, h1, h2, h3⟩ := h s b ε hs e1
    rw [e_sWh, h1, e_kW1]
    cases b with
    | false =>
      rw [if_neg Bool.false_ne_true] at e2 ⊢
      cases e2
      exact ⟨ε1, rfl, h2 rfl⟩
    | true =>
      rw [if_pos rfl] at e2 ⊢
      obtain ⟨s1, e3, e4⟩ := bd e2
      obtain ⟨ε2, h4, h5⟩ := h3 rfl s1 e3
      rw [h4]
      exact while_O St W c step hW0 hW h n m s1 s' ε2 (by omega) h5 e4
def oP : Option (Int × Int) → T
  | Option.none => .none
  | Option.some p => pr p
theorem n_oP {o : Option (Int × Int)} : isNon (oP o) = o.isNone := by cases o <;> rfl
/-- a list comprehension whose parts change nothing -/
theorem lc_al {α : Type} {mt : Mg} {mk : Mb} {me : Mx} (en : α → T) (f : α → T) (p : α → Bool) (vs : List Nat) (xs : List α) (ε : Envt)
    (h : ∀ x, x ∈ xs → ∃ ε1, mt (en x) (wipeE vs ε) = some ε1 ∧ mk ε1 = some (p x, ε1) ∧ (p x = true → me ε1 = some (f x, ε1)) ∧ wipeE vs ε1 = wipeE vs ε) :
    mLoopC mt mk me vs (xs.map en) (wipeE vs ε) = some ((xs.filter p).map f, wipeE vs ε) :=
  lc_all en f p vs xs ε fun x hx => by
    obtain ⟨ε1, h1, h2, h3, h4⟩ := h x hx
    exact ⟨ε1, ε1, ε1, h1, h2, h4, fun hp => ⟨h3 hp, h4⟩⟩
theorem lc_map {α : Type} {mt : Mg} {me : Mx} (en : α → T) (f : α → T) (vs : List Nat) (xs : List α) (ε : Envt)
    (h : ∀ x, x ∈ xs → ∃ ε1, mt (en x) (wipeE vs ε) = some ε1 ∧ me ε1 = some (f x, ε1) ∧ wipeE vs ε1 = wipeE vs ε) :
    mLoopC mt mYes me vs (xs.map en) (wipeE vs ε) = some (xs.map f, wipeE vs ε) := by
  have := lc_al (mk := mYes) (me := me) (mt := mt) en f (fun _ => true) vs xs ε fun x hx => by
    obtain ⟨ε1, h1, h2, h3⟩ := h x hx
    exact ⟨ε1, h1, rfl, fun _ => h2, h3⟩
  rwa [List.filter_eq_self.mpr (fun _ _ => rfl)] at this
end Dg

set_option Elab.async false
set_option linter.all false
set_option maxRecDepth 100000
/-! sorted, told for typed things -/
namespace Dg
open PySem
theorem sortT_map {α : Type} (en : α → T) (l : List α) : sortT (l.map en) = (l.mergeSort (PySem.W.dataLe false en)).map en := by
  unfold sortT
  exact (List.map_mergeSort (r := PySem.W.dataLe false en) (s := PySem.W.dataLe false id) (f := en) fun a _ b _ => rfl).symm
def insB {α : Type} (le : α → α → Bool) (x : α) : List α → List α
  | [] => [x]
  | y :: ys => if le x y = true then x :: y :: ys else y :: insB le x ys
def insS {α : Type} (le : α → α → Bool) : List α → List α
  | [] => []
  | x :: xs => insB le x (insS le xs)
section
variable {α : Type} {le : α → α → Bool}
theorem insB_perm (x : α) : ∀ l, (insB le x l).Perm (x :: l)
  | [] => .refl _
  | y :: ys => by
    unfold insB
    by_cases h : le x y = true
    · rw [if_pos h]
    · rw [if_neg h]
      exact ((insB_perm x ys).cons y).trans (List.Perm.swap x y ys)
theorem insS_perm : ∀ l : List α, (insS le l).Perm l
  | [] => .refl _
  | x :: xs => (insB_perm x _).trans ((insS_perm xs).cons x)
theorem insB_pair (tr : ∀ a b c, le a b = true → le b c = true → le a c = true) (tot : ∀ a b, (le a b || le b a) = true) (x : α) : ∀ l, l.Pairwise (fun a b => le a b = true) → (insB le x l).Pairwise (fun a b => le a b = true)
  | [], _ => by unfold insB; simp
  | y :: ys, h => by
    unfold insB
    by_cases e : le x y = true
    · rw [if_pos e, List.pairwise_cons]
      refine ⟨fun z hz => ?_, h⟩
      rcases List.mem_cons.mp hz with rfl | hz
      · exact e
      · exact tr _ _ _ e ((List.pairwise_cons.mp h).1 z hz)
    · rw [if_neg e, List.pairwise_cons]
      have h' := List.pairwise_cons.mp h
      refine ⟨fun z hz => ?_, insB_pair tr tot x ys h'.2⟩
      rcases List.mem_cons.mp ((insB_perm x ys).mem_iff.mp hz) with rfl | hz
      · have := tot z y
        rw [Bool.or_eq_true] at this
        exact this.resolve_left e
      · exact h'.1 z hz
theorem insS_pair (tr : ∀ a b c, le a b = true → le b c = true → le a c = true) (tot : ∀ a b, (le a b || le b a) = true) : ∀ l : List α, (insS le l).Pairwise (fun a b => le a b = true)
  | [] => .nil
  | x :: xs => insB_pair tr tot x _ (insS_pair tr tot xs)
theorem merge_ins (tr : ∀ a b c, le a b = true → le b c = true → le a c = true) (tot : ∀ a b, (le a b || le b a) = true) (anti : ∀ a b, le a b = true → le b a = true → a = b) (l : List α) : l.mergeSort le = insS le l := by
  refine List.Perm.eq_of_pairwise (le := fun a b => le a b = true) (fun a b _ _ h1 h2 => anti a b h1 h2) (List.pairwise_mergeSort tr tot l) (insS_pair tr tot l) ?_
  exact (List.mergeSort_perm l le).trans (insS_perm l).symm
end
def leP (p q : Int × Int) : Bool := decide (p.1 < q.1 ∨ (p.1 = q.1 ∧ p.2 ≤ q.2))
theorem leP_tr (a b c : Int × Int) (h : leP a b = true) (h' : leP b c = true) : leP a c = true := by
  unfold leP at *
  rw [decide_eq_true_eq] at *
  omega
theorem leP_tot (a b : Int × Int) : (leP a b || leP b a) = true := by
  unfold leP
  rw [Bool.or_eq_true, decide_eq_true_eq, decide_eq_true_eq]
  omega
theorem leP_anti (a b : Int × Int) (h : leP a b = true) (h' : leP b a = true) : a = b := by
  unfold leP at *
  rw [decide_eq_true_eq] at *
  exact Prod.ext (by omega) (by omega)
theorem sort_pr (l : List (Int × Int)) : sortT (l.map pr) = (insS leP l).map pr := by
  rw [sortT_map]
  have : PySem.W.dataLe false pr = leP := PySem.W.dataLe_ii (fun p : Int × Int => p.1) (fun p => p.2)
  rw [this, merge_ins leP_tr leP_tot leP_anti]
def leI (p q : Int) : Bool := decide (p ≤ q)
theorem leI_tr (a b c : Int) (h : leI a b = true) (h' : leI b c = true) : leI a c = true := by
  unfold leI at *
  rw [decide_eq_true_eq] at *
  omega
theorem leI_tot (a b : Int) : (leI a b || leI b a) = true := by
  unfold leI
  rw [Bool.or_eq_true, decide_eq_true_eq, decide_eq_true_eq]
  omega
theorem leI_anti (a b : Int) (h : leI a b = true) (h' : leI b a = true) : a = b := by
  unfold leI at *
  rw [decide_eq_true_eq] at *
  omega
theorem sort_int (l : List Int) : sortT (l.map .int) = (insS leI l).map .int := by
  rw [sortT_map]
  have : PySem.W.dataLe false PyData.int = leI := PySem.W.dataLe_int (fun p : Int => p)
  rw [this, merge_ins leI_tr leI_tot leI_anti]
theorem ok_sort {α : Type} {en : α → T} (l : List α) (h1 : ∀ a b, PySem.W.alike (en a) (en b) = true) (h2 : (∀ a, headTup (en a) = true) ∨ ∀ a, plainT (en a) = true) (h3 : ∀ a, (en a).canLay0 = true) (h4 : ∀ a, (en a).depth ≤ 64) : sortOk (l.map en) = true := by
  unfold sortOk
  simp only [Bool.and_eq_true, Bool.or_eq_true, decide_eq_true_eq]
  refine ⟨⟨⟨?_, ?_⟩, ?_⟩, ?_⟩
  · simp only [List.all_map, List.all_eq_true]
    intro a _
    simp only [Function.comp_apply, List.all_map, List.all_eq_true]
    exact fun b _ => h1 a b
  · rcases h2 with h2 | h2
    · left; simp only [List.all_map, List.all_eq_true]; exact fun a _ => h2 a
    · right; simp only [List.all_map, List.all_eq_true]; exact fun a _ => h2 a
  · induction l with
    | nil => rw [List.map_nil, PyData.canLayAll0]
    | cons a l ih => rw [List.map_cons, PyData.canLayAll0, h3, ih]; rfl
  · induction l with
    | nil => rw [List.map_nil, PyData.depthAll]; exact Nat.zero_le _
    | cons a l ih => rw [List.map_cons, PyData.depthAll]; exact Nat.max_le.mpr ⟨h4 a, ih⟩
theorem ok_pr (l : List (Int × Int)) : sortOk (l.map pr) = true := by
  refine ok_sort l (fun a b => ?_) (.inl fun a => rfl) (fun a => ?_) (fun a => ?_)
  · unfold pr
    rw [PySem.W.alike, PySem.W.alikeAll, PySem.W.alikeAll, PySem.W.alike, PySem.W.alike, PySem.W.alikeAll]; rfl
  · exact Enc.lay (α := Int × Int) a
  · exact Nat.le_trans (Enc.dpt (α := Int × Int) a) (by decide)
theorem ok_int (l : List Int) : sortOk (l.map .int) = true := by
  refine ok_sort l (fun a b => ?_) (.inr fun a => rfl) (fun a => ?_) (fun a => ?_)
  · rw [PySem.W.alike]
  · rw [PyData.canLay0]
  · rw [PyData.depth]; exact Nat.zero_le _
theorem b_sortP {l : List (Int × Int)} : bSorted [.list (l.map pr)] = some (.list ((insS leP l).map pr)) := by
  rw [← sort_pr]; exact if_pos (ok_pr l)
theorem b_sortPT {l : List (Int × Int)} : bSorted [.tuple (l.map pr)] = some (.list ((insS leP l).map pr)) := by
  rw [← sort_pr]; exact if_pos (ok_pr l)
theorem b_sortI {l : List Int} : bSorted [.list (l.map .int)] = some (.list ((insS leI l).map .int)) := by
  rw [← sort_int]; exact if_pos (ok_int l)
theorem b_sortIT {l : List Int} : bSorted [.tuple (l.map .int)] = some (.list ((insS leI l).map .int)) := by
  rw [← sort_int]; exact if_pos (ok_int l)
/-- the first item that p takes -/
def findO {α : Type} (p : α → Option Bool) : List α → Option (Option α)
  | [] => some none
  | x :: xs => (p x).bind fun b => if b = true then some (some x) else findO p xs
def fOut {α : Type} (rv : α → T) : Option α → Out
  | none => .nx
  | some x => .rt (rv x)
theorem for_findO {α : Type} {mt : Mg} {mb : Ms} (en : α → T) (rv : α → T) (I : Envt → Prop) (p : α → Option Bool) :
    ∀ (xs : List α) (r : Option α) (ε : Envt), (∀ x b ε, x ∈ xs → I ε → p x = some b → ∃ ε1 ε2, mt (en x) ε = some ε1 ∧ mb ε1 = some (if b = true then .rt (rv x) else .nx, ε2) ∧ I ε2) → I ε → findO p xs = some r →
    ∃ ε', sFor mt mb (xs.map en) ε = some (fOut rv r, ε') ∧ I ε'
  | [], r, ε, h, h0, e => by cases e; exact ⟨ε, rfl, h0⟩
  | x :: xs, r, ε, h, h0, e => by
    obtain ⟨b, e1, e2⟩ := bd e
    obtain ⟨ε1, ε2, h1, h2, h3⟩ := h x b ε List.mem_cons_self h0 e1
    rw [List.map_cons, e_sFor1, h1, e_kF1, h2]
    cases b with
    | true => rw [if_pos rfl] at e2; cases e2; exact ⟨ε2, rfl, h3⟩
    | false =>
      rw [if_neg Bool.false_ne_true] at e2
      exact for_findO en rv I p xs r ε2 (fun x b ε m => h x b ε (List.mem_cons_of_mem _ m)) h3 e2
end Dg

set_option Elab.async false
set_option linter.all false
set_option maxRecDepth 100000
/-! _law_same says yes of a thing and itself -/
namespace Dg
open PySem L2
inductive SOk : Nat → T → Prop
  | non {k : Nat} : SOk (k + 1) .none
  | bool {k : Nat} {b : Bool} : SOk (k + 1) (.bool b)
  | int {k : Nat} {i : Int} : SOk (k + 1) (.int i)
  | str {k : Nat} {x : Str} : (PyData.str x).canLay0 = true → SOk (k + 1) (.str x)
  | list {k : Nat} {ds : List T} : ds.length < sizeLine → (∀ d ∈ ds, SOk k d) → SOk (k + 1) (.list ds)
  | tup {k : Nat} {ds : List T} : ds.length < sizeLine → (∀ d ∈ ds, SOk k d) → SOk (k + 1) (.tuple ds)
theorem opEq_str {x : Str} (h : (PyData.str x).canLay0 = true) : opEq (.str x) (.str x) = some (.bool true) := by
  unfold opEq
  have hs : SeqAt.shaped (.str x) = true := by
    unfold SeqAt.shaped
    rw [h, PyData.depth]; rfl
  rw [if_pos ⟨hs, hs⟩, PyData.eqv]
  rw [show (x == x) = true from beq_self_eq_true x]
theorem sz_rng {n : Nat} (h : n < sizeLine) : rngOk (n : Int) = true := by
  have : sizeLine = 16777216 := by decide
  exact rngOk_i (by omega) (by omega)
theorem same_row {k : Nat} {ds : List T} (mk : List T → T) (hmk : mk = .list ∨ mk = .tuple) (hl : ds.length < sizeLine) (ih : ∀ d ∈ ds, fm_same k [d, d] = some (.bool true, [d, d])) (j : Option T) :
    mLoopC (gSet 2) mYes (mCallU (fm_same k) [none, none] (aVal (mBin opIx (mVar 0) (mVar 2)) (aVal (mBin opIx (mVar 1) (mVar 2)) aNil))) [2] ((rI 0 1 ds.length).map .int) [some (mk ds), some (mk ds), none] = some ((rI 0 1 ds.length).map fun _ => .bool true, [some (mk ds), some (mk ds), none]) := by
  have L := lc_map (mt := gSet 2) (me := (mCallU (fm_same k) [none, none] (aVal (mBin opIx (mVar 0) (mVar 2)) (aVal (mBin opIx (mVar 1) (mVar 2)) aNil)))) PyData.int (fun _ => PyData.bool true) [2] (rI 0 1 ds.length) [some (mk ds), some (mk ds), none] (fun i hi => by
    have hi := rI_mem.mp hi
    have hk : i.toNat < ds.length := by omega
    have g := List.getElem?_eq_getElem hk
    have e := ih _ (List.getElem_mem hk)
    have q : opIx (mk ds) (.int i) = some ds[i.toNat] := by
      rcases hmk with rfl | rfl
      · exact o_ixLi hi.1 g
      · exact o_ixTi hi.1 g
    refine ⟨_, rfl, ?_, ?_⟩ <;> simp only [e_mVar, e_kVar, e_mMov, e_kMov, e_mCst, e_kO, e_kOb, e_kOl, e_mBin, e_kB1, e_kB2, e_mUn, e_kU, e_mTb, e_kTb, e_mTru, e_kTru, e_mNot, e_kNot, e_mAnd, e_kAnd, e_mOr, e_kOr, e_mAndV, e_kAndVt, e_kAndVf, e_mOrV, e_kOrVt, e_kOrVf, e_mNotV, e_kNotV, e_mNotB, e_kNotB, e_kNB, e_mIf, e_kIf, e_kIfS, e_mNil, e_mCons, e_kC1, e_kC2, e_mTup, e_kTup, e_mLst, e_kLst, e_mCall, e_mRng, e_kCall, e_kCallR, e_mNoP, e_mP, e_kPI, e_mSl, e_kS1, e_kS2, e_kS3, e_kCh1, e_kCh2, e_kCh3t, e_kCh3f, e_mYes, e_mItems, e_kItL, e_kItT, e_mIsi, e_kIsi, e_mNol, e_kNolN, e_kNolI, e_kNolB, e_kNolS, e_kNolT, e_kNolD, e_mListS, e_kLS, e_gSet, e_gsNil, e_gsCons, e_kG, e_gTupM, e_aNil, e_aVal, e_kA1, e_kA2, e_aLent, e_kL1, e_kL2, e_mCallU, e_kU1, e_kU2, e_kU3, e_mFill0, e_mFill1, e_mFill2, e_kF, e_kFl, e_mBack0, e_mBack1, e_mBack2, e_sNil, e_sCons, e_kSeqN, e_kSeqB, e_kSeqC, e_kSeqR, e_sIf, e_sBk, e_sCt, e_sRet, e_kRet, e_sDrop, e_kDrop, e_sSet, e_kSet, e_sTgt, e_kTgt, e_kT2, e_sPar, e_kP1, e_kP2, e_kAp0, e_kAp1, e_kAp2, e_kPu1, e_kPu2, e_kPu3, e_kPu4, e_kPu5, e_mFor, e_kFor, e_sFor0, e_kF1, e_kF2N, e_kF2C, e_kF2B, e_kF2R, e_kW1, e_kW2N, e_kW2C, e_kW2B, e_kW2R, e_mLc, e_kLc, e_kLc2, e_mL0, e_kM1, e_kM2, e_kM3, e_kM4, e_wipe0, e_wipe1, e_res0, e_res1, e_mDef, e_kDefR, e_kDefN, e_kDO, e_mOu0, e_mOuF, e_mOuS, e_mOuL, e_kOu, e_mChain, e_sApp, e_sPut, e_kAndV, e_kOrV, e_kCh3, List.getElem?_cons_zero, List.getElem?_cons_succ, List.set_cons_zero, List.set_cons_succ, List.map_cons, List.map_nil, List.length_cons, List.length_nil, List.cons_append, List.nil_append, List.replicate_succ, List.replicate_zero, Option.getD_some, Option.getD_none, decide_eq_true_eq, Bool.false_eq_true, Bool.true_eq_false, Bool.not_true, Bool.not_false, Bool.not_eq_true', decide_eq_false_iff_not, if_true, if_false, Nat.zero_add, Nat.reduceAdd, Nat.reduceSub, Nat.sub_self, Nat.sub_zero, Nat.add_zero, Nat.reduceEqDiff, List.isEmpty_nil, List.isEmpty_cons, o_add, o_sub, o_neg, o_lt, o_le, o_gt, o_ge, o_eqI, o_neI, o_eqB, o_neB, o_isN, o_isNotN, o_isB, n_non, n_bool, n_int, n_str, n_list, n_tuple, t_non, t_bool, t_int, t_list, t_tuple, o_ixT0, o_ixT1, o_ixT2, o_ixT3, o_ixT4, o_ixL0, o_ixL1, o_ixL2, o_ixL3, ix0, ix1, ix2, ix3, b_lenL, b_lenT, b_abs, b_int, b_tupL, b_tupT, b_lstL, b_lstT, b_gcd, b_max2, b_min2, q, e])
  simp only [e_mVar, e_kVar, e_mMov, e_kMov, e_mCst, e_kO, e_kOb, e_kOl, e_mBin, e_kB1, e_kB2, e_mUn, e_kU, e_mTb, e_kTb, e_mTru, e_kTru, e_mNot, e_kNot, e_mAnd, e_kAnd, e_mOr, e_kOr, e_mAndV, e_kAndVt, e_kAndVf, e_mOrV, e_kOrVt, e_kOrVf, e_mNotV, e_kNotV, e_mNotB, e_kNotB, e_kNB, e_mIf, e_kIf, e_kIfS, e_mNil, e_mCons, e_kC1, e_kC2, e_mTup, e_kTup, e_mLst, e_kLst, e_mCall, e_mRng, e_kCall, e_kCallR, e_mNoP, e_mP, e_kPI, e_mSl, e_kS1, e_kS2, e_kS3, e_kCh1, e_kCh2, e_kCh3t, e_kCh3f, e_mYes, e_mItems, e_kItL, e_kItT, e_mIsi, e_kIsi, e_mNol, e_kNolN, e_kNolI, e_kNolB, e_kNolS, e_kNolT, e_kNolD, e_mListS, e_kLS, e_gSet, e_gsNil, e_gsCons, e_kG, e_gTupM, e_aNil, e_aVal, e_kA1, e_kA2, e_aLent, e_kL1, e_kL2, e_mCallU, e_kU1, e_kU2, e_kU3, e_mFill0, e_mFill1, e_mFill2, e_kF, e_kFl, e_mBack0, e_mBack1, e_mBack2, e_sNil, e_sCons, e_kSeqN, e_kSeqB, e_kSeqC, e_kSeqR, e_sIf, e_sBk, e_sCt, e_sRet, e_kRet, e_sDrop, e_kDrop, e_sSet, e_kSet, e_sTgt, e_kTgt, e_kT2, e_sPar, e_kP1, e_kP2, e_kAp0, e_kAp1, e_kAp2, e_kPu1, e_kPu2, e_kPu3, e_kPu4, e_kPu5, e_mFor, e_kFor, e_sFor0, e_kF1, e_kF2N, e_kF2C, e_kF2B, e_kF2R, e_kW1, e_kW2N, e_kW2C, e_kW2B, e_kW2R, e_mLc, e_kLc, e_kLc2, e_mL0, e_kM1, e_kM2, e_kM3, e_kM4, e_wipe0, e_wipe1, e_res0, e_res1, e_mDef, e_kDefR, e_kDefN, e_kDO, e_mOu0, e_mOuF, e_mOuS, e_mOuL, e_kOu, e_mChain, e_sApp, e_sPut, e_kAndV, e_kOrV, e_kCh3, List.getElem?_cons_zero, List.getElem?_cons_succ, List.set_cons_zero, List.set_cons_succ, List.map_cons, List.map_nil, List.length_cons, List.length_nil, List.cons_append, List.nil_append, List.replicate_succ, List.replicate_zero, Option.getD_some, Option.getD_none, decide_eq_true_eq, Bool.false_eq_true, Bool.true_eq_false, Bool.not_true, Bool.not_false, Bool.not_eq_true', decide_eq_false_iff_not, if_true, if_false, Nat.zero_add, Nat.reduceAdd, Nat.reduceSub, Nat.sub_self, Nat.sub_zero, Nat.add_zero, Nat.reduceEqDiff, List.isEmpty_nil, List.isEmpty_cons, o_add, o_sub, o_neg, o_lt, o_le, o_gt, o_ge, o_eqI, o_neI, o_eqB, o_neB, o_isN, o_isNotN, o_isB, n_non, n_bool, n_int, n_str, n_list, n_tuple, t_non, t_bool, t_int, t_list, t_tuple, o_ixT0, o_ixT1, o_ixT2, o_ixT3, o_ixT4, o_ixL0, o_ixL1, o_ixL2, o_ixL3, ix0, ix1, ix2, ix3, b_lenL, b_lenT, b_abs, b_int, b_tupL, b_tupT, b_lstL, b_lstT, b_gcd, b_max2, b_min2] at L
  exact L
theorem same_non {k : Nat} : fm_same (k + 1) [.none, .none] = some (.bool true, [.none, .none]) := by
  simp only [e_mVar, e_kVar, e_mMov, e_kMov, e_mCst, e_kO, e_kOb, e_kOl, e_mBin, e_kB1, e_kB2, e_mUn, e_kU, e_mTb, e_kTb, e_mTru, e_kTru, e_mNot, e_kNot, e_mAnd, e_kAnd, e_mOr, e_kOr, e_mAndV, e_kAndVt, e_kAndVf, e_mOrV, e_kOrVt, e_kOrVf, e_mNotV, e_kNotV, e_mNotB, e_kNotB, e_kNB, e_mIf, e_kIf, e_kIfS, e_mNil, e_mCons, e_kC1, e_kC2, e_mTup, e_kTup, e_mLst, e_kLst, e_mCall, e_mRng, e_kCall, e_kCallR, e_mNoP, e_mP, e_kPI, e_mSl, e_kS1, e_kS2, e_kS3, e_kCh1, e_kCh2, e_kCh3t, e_kCh3f, e_mYes, e_mItems, e_kItL, e_kItT, e_mIsi, e_kIsi, e_mNol, e_kNolN, e_kNolI, e_kNolB, e_kNolS, e_kNolT, e_kNolD, e_mListS, e_kLS, e_gSet, e_gsNil, e_gsCons, e_kG, e_gTupM, e_aNil, e_aVal, e_kA1, e_kA2, e_aLent, e_kL1, e_kL2, e_mCallU, e_kU1, e_kU2, e_kU3, e_mFill0, e_mFill1, e_mFill2, e_kF, e_kFl, e_mBack0, e_mBack1, e_mBack2, e_sNil, e_sCons, e_kSeqN, e_kSeqB, e_kSeqC, e_kSeqR, e_sIf, e_sBk, e_sCt, e_sRet, e_kRet, e_sDrop, e_kDrop, e_sSet, e_kSet, e_sTgt, e_kTgt, e_kT2, e_sPar, e_kP1, e_kP2, e_kAp0, e_kAp1, e_kAp2, e_kPu1, e_kPu2, e_kPu3, e_kPu4, e_kPu5, e_mFor, e_kFor, e_sFor0, e_kF1, e_kF2N, e_kF2C, e_kF2B, e_kF2R, e_kW1, e_kW2N, e_kW2C, e_kW2B, e_kW2R, e_mLc, e_kLc, e_kLc2, e_mL0, e_kM1, e_kM2, e_kM3, e_kM4, e_wipe0, e_wipe1, e_res0, e_res1, e_mDef, e_kDefR, e_kDefN, e_kDO, e_mOu0, e_mOuF, e_mOuS, e_mOuL, e_kOu, e_mChain, e_sApp, e_sPut, e_kAndV, e_kOrV, e_kCh3, List.getElem?_cons_zero, List.getElem?_cons_succ, List.set_cons_zero, List.set_cons_succ, List.map_cons, List.map_nil, List.length_cons, List.length_nil, List.cons_append, List.nil_append, List.replicate_succ, List.replicate_zero, Option.getD_some, Option.getD_none, decide_eq_true_eq, Bool.false_eq_true, Bool.true_eq_false, Bool.not_true, Bool.not_false, Bool.not_eq_true', decide_eq_false_iff_not, if_true, if_false, Nat.zero_add, Nat.reduceAdd, Nat.reduceSub, Nat.sub_self, Nat.sub_zero, Nat.add_zero, Nat.reduceEqDiff, List.isEmpty_nil, List.isEmpty_cons, o_add, o_sub, o_neg, o_lt, o_le, o_gt, o_ge, o_eqI, o_neI, o_eqB, o_neB, o_isN, o_isNotN, o_isB, n_non, n_bool, n_int, n_str, n_list, n_tuple, t_non, t_bool, t_int, t_list, t_tuple, o_ixT0, o_ixT1, o_ixT2, o_ixT3, o_ixT4, o_ixL0, o_ixL1, o_ixL2, o_ixL3, ix0, ix1, ix2, ix3, b_lenL, b_lenT, b_abs, b_int, b_tupL, b_tupT, b_lstL, b_lstT, b_gcd, b_max2, b_min2, fm_same, m_same, isiList, isiTuple, isiInt, isiBool, isiStr, Bool.or_false]
theorem same_bool {k : Nat} {b : Bool} : fm_same (k + 1) [.bool b, .bool b] = some (.bool true, [.bool b, .bool b]) := by
  simp only [e_mVar, e_kVar, e_mMov, e_kMov, e_mCst, e_kO, e_kOb, e_kOl, e_mBin, e_kB1, e_kB2, e_mUn, e_kU, e_mTb, e_kTb, e_mTru, e_kTru, e_mNot, e_kNot, e_mAnd, e_kAnd, e_mOr, e_kOr, e_mAndV, e_kAndVt, e_kAndVf, e_mOrV, e_kOrVt, e_kOrVf, e_mNotV, e_kNotV, e_mNotB, e_kNotB, e_kNB, e_mIf, e_kIf, e_kIfS, e_mNil, e_mCons, e_kC1, e_kC2, e_mTup, e_kTup, e_mLst, e_kLst, e_mCall, e_mRng, e_kCall, e_kCallR, e_mNoP, e_mP, e_kPI, e_mSl, e_kS1, e_kS2, e_kS3, e_kCh1, e_kCh2, e_kCh3t, e_kCh3f, e_mYes, e_mItems, e_kItL, e_kItT, e_mIsi, e_kIsi, e_mNol, e_kNolN, e_kNolI, e_kNolB, e_kNolS, e_kNolT, e_kNolD, e_mListS, e_kLS, e_gSet, e_gsNil, e_gsCons, e_kG, e_gTupM, e_aNil, e_aVal, e_kA1, e_kA2, e_aLent, e_kL1, e_kL2, e_mCallU, e_kU1, e_kU2, e_kU3, e_mFill0, e_mFill1, e_mFill2, e_kF, e_kFl, e_mBack0, e_mBack1, e_mBack2, e_sNil, e_sCons, e_kSeqN, e_kSeqB, e_kSeqC, e_kSeqR, e_sIf, e_sBk, e_sCt, e_sRet, e_kRet, e_sDrop, e_kDrop, e_sSet, e_kSet, e_sTgt, e_kTgt, e_kT2, e_sPar, e_kP1, e_kP2, e_kAp0, e_kAp1, e_kAp2, e_kPu1, e_kPu2, e_kPu3, e_kPu4, e_kPu5, e_mFor, e_kFor, e_sFor0, e_kF1, e_kF2N, e_kF2C, e_kF2B, e_kF2R, e_kW1, e_kW2N, e_kW2C, e_kW2B, e_kW2R, e_mLc, e_kLc, e_kLc2, e_mL0, e_kM1, e_kM2, e_kM3, e_kM4, e_wipe0, e_wipe1, e_res0, e_res1, e_mDef, e_kDefR, e_kDefN, e_kDO, e_mOu0, e_mOuF, e_mOuS, e_mOuL, e_kOu, e_mChain, e_sApp, e_sPut, e_kAndV, e_kOrV, e_kCh3, List.getElem?_cons_zero, List.getElem?_cons_succ, List.set_cons_zero, List.set_cons_succ, List.map_cons, List.map_nil, List.length_cons, List.length_nil, List.cons_append, List.nil_append, List.replicate_succ, List.replicate_zero, Option.getD_some, Option.getD_none, decide_eq_true_eq, Bool.false_eq_true, Bool.true_eq_false, Bool.not_true, Bool.not_false, Bool.not_eq_true', decide_eq_false_iff_not, if_true, if_false, Nat.zero_add, Nat.reduceAdd, Nat.reduceSub, Nat.sub_self, Nat.sub_zero, Nat.add_zero, Nat.reduceEqDiff, List.isEmpty_nil, List.isEmpty_cons, o_add, o_sub, o_neg, o_lt, o_le, o_gt, o_ge, o_eqI, o_neI, o_eqB, o_neB, o_isN, o_isNotN, o_isB, n_non, n_bool, n_int, n_str, n_list, n_tuple, t_non, t_bool, t_int, t_list, t_tuple, o_ixT0, o_ixT1, o_ixT2, o_ixT3, o_ixT4, o_ixL0, o_ixL1, o_ixL2, o_ixL3, ix0, ix1, ix2, ix3, b_lenL, b_lenT, b_abs, b_int, b_tupL, b_tupT, b_lstL, b_lstT, b_gcd, b_max2, b_min2, fm_same, m_same, isiList, isiTuple, isiInt, isiBool, isiStr, Bool.or_false, decide_true]
theorem same_int {k : Nat} {b : Int} : fm_same (k + 1) [.int b, .int b] = some (.bool true, [.int b, .int b]) := by
  simp only [e_mVar, e_kVar, e_mMov, e_kMov, e_mCst, e_kO, e_kOb, e_kOl, e_mBin, e_kB1, e_kB2, e_mUn, e_kU, e_mTb, e_kTb, e_mTru, e_kTru, e_mNot, e_kNot, e_mAnd, e_kAnd, e_mOr, e_kOr, e_mAndV, e_kAndVt, e_kAndVf, e_mOrV, e_kOrVt, e_kOrVf, e_mNotV, e_kNotV, e_mNotB, e_kNotB, e_kNB, e_mIf, e_kIf, e_kIfS, e_mNil, e_mCons, e_kC1, e_kC2, e_mTup, e_kTup, e_mLst, e_kLst, e_mCall, e_mRng, e_kCall, e_kCallR, e_mNoP, e_mP, e_kPI, e_mSl, e_kS1, e_kS2, e_kS3, e_kCh1, e_kCh2, e_kCh3t, e_kCh3f, e_mYes, e_mItems, e_kItL, e_kItT, e_mIsi, e_kIsi, e_mNol, e_kNolN, e_kNolI, e_kNolB, e_kNolS, e_kNolT, e_kNolD, e_mListS, e_kLS, e_gSet, e_gsNil, e_gsCons, e_kG, e_gTupM, e_aNil, e_aVal, e_kA1, e_kA2, e_aLent, e_kL1, e_kL2, e_mCallU, e_kU1, e_kU2, e_kU3, e_mFill0, e_mFill1, e_mFill2, e_kF, e_kFl, e_mBack0, e_mBack1, e_mBack2, e_sNil, e_sCons, e_kSeqN, e_kSeqB, e_kSeqC, e_kSeqR, e_sIf, e_sBk, e_sCt, e_sRet, e_kRet, e_sDrop, e_kDrop, e_sSet, e_kSet, e_sTgt, e_kTgt, e_kT2, e_sPar, e_kP1, e_kP2, e_kAp0, e_kAp1, e_kAp2, e_kPu1, e_kPu2, e_kPu3, e_kPu4, e_kPu5, e_mFor, e_kFor, e_sFor0, e_kF1, e_kF2N, e_kF2C, e_kF2B, e_kF2R, e_kW1, e_kW2N, e_kW2C, e_kW2B, e_kW2R, e_mLc, e_kLc, e_kLc2, e_mL0, e_kM1, e_kM2, e_kM3, e_kM4, e_wipe0, e_wipe1, e_res0, e_res1, e_mDef, e_kDefR, e_kDefN, e_kDO, e_mOu0, e_mOuF, e_mOuS, e_mOuL, e_kOu, e_mChain, e_sApp, e_sPut, e_kAndV, e_kOrV, e_kCh3, List.getElem?_cons_zero, List.getElem?_cons_succ, List.set_cons_zero, List.set_cons_succ, List.map_cons, List.map_nil, List.length_cons, List.length_nil, List.cons_append, List.nil_append, List.replicate_succ, List.replicate_zero, Option.getD_some, Option.getD_none, decide_eq_true_eq, Bool.false_eq_true, Bool.true_eq_false, Bool.not_true, Bool.not_false, Bool.not_eq_true', decide_eq_false_iff_not, if_true, if_false, Nat.zero_add, Nat.reduceAdd, Nat.reduceSub, Nat.sub_self, Nat.sub_zero, Nat.add_zero, Nat.reduceEqDiff, List.isEmpty_nil, List.isEmpty_cons, o_add, o_sub, o_neg, o_lt, o_le, o_gt, o_ge, o_eqI, o_neI, o_eqB, o_neB, o_isN, o_isNotN, o_isB, n_non, n_bool, n_int, n_str, n_list, n_tuple, t_non, t_bool, t_int, t_list, t_tuple, o_ixT0, o_ixT1, o_ixT2, o_ixT3, o_ixT4, o_ixL0, o_ixL1, o_ixL2, o_ixL3, ix0, ix1, ix2, ix3, b_lenL, b_lenT, b_abs, b_int, b_tupL, b_tupT, b_lstL, b_lstT, b_gcd, b_max2, b_min2, fm_same, m_same, isiList, isiTuple, isiInt, isiBool, isiStr, Bool.or_false, decide_true]
theorem same_str {k : Nat} {x : Str} (h : (PyData.str x).canLay0 = true) : fm_same (k + 1) [.str x, .str x] = some (.bool true, [.str x, .str x]) := by
  simp only [e_mVar, e_kVar, e_mMov, e_kMov, e_mCst, e_kO, e_kOb, e_kOl, e_mBin, e_kB1, e_kB2, e_mUn, e_kU, e_mTb, e_kTb, e_mTru, e_kTru, e_mNot, e_kNot, e_mAnd, e_kAnd, e_mOr, e_kOr, e_mAndV, e_kAndVt, e_kAndVf, e_mOrV, e_kOrVt, e_kOrVf, e_mNotV, e_kNotV, e_mNotB, e_kNotB, e_kNB, e_mIf, e_kIf, e_kIfS, e_mNil, e_mCons, e_kC1, e_kC2, e_mTup, e_kTup, e_mLst, e_kLst, e_mCall, e_mRng, e_kCall, e_kCallR, e_mNoP, e_mP, e_kPI, e_mSl, e_kS1, e_kS2, e_kS3, e_kCh1, e_kCh2, e_kCh3t, e_kCh3f, e_mYes, e_mItems, e_kItL, e_kItT, e_mIsi, e_kIsi, e_mNol, e_kNolN, e_kNolI, e_kNolB, e_kNolS, e_kNolT, e_kNolD, e_mListS, e_kLS, e_gSet, e_gsNil, e_gsCons, e_kG, e_gTupM, e_aNil, e_aVal, e_kA1, e_kA2, e_aLent, e_kL1, e_kL2, e_mCallU, e_kU1, e_kU2, e_kU3, e_mFill0, e_mFill1, e_mFill2, e_kF, e_kFl, e_mBack0, e_mBack1, e_mBack2, e_sNil, e_sCons, e_kSeqN, e_kSeqB, e_kSeqC, e_kSeqR, e_sIf, e_sBk, e_sCt, e_sRet, e_kRet, e_sDrop, e_kDrop, e_sSet, e_kSet, e_sTgt, e_kTgt, e_kT2, e_sPar, e_kP1, e_kP2, e_kAp0, e_kAp1, e_kAp2, e_kPu1, e_kPu2, e_kPu3, e_kPu4, e_kPu5, e_mFor, e_kFor, e_sFor0, e_kF1, e_kF2N, e_kF2C, e_kF2B, e_kF2R, e_kW1, e_kW2N, e_kW2C, e_kW2B, e_kW2R, e_mLc, e_kLc, e_kLc2, e_mL0, e_kM1, e_kM2, e_kM3, e_kM4, e_wipe0, e_wipe1, e_res0, e_res1, e_mDef, e_kDefR, e_kDefN, e_kDO, e_mOu0, e_mOuF, e_mOuS, e_mOuL, e_kOu, e_mChain, e_sApp, e_sPut, e_kAndV, e_kOrV, e_kCh3, List.getElem?_cons_zero, List.getElem?_cons_succ, List.set_cons_zero, List.set_cons_succ, List.map_cons, List.map_nil, List.length_cons, List.length_nil, List.cons_append, List.nil_append, List.replicate_succ, List.replicate_zero, Option.getD_some, Option.getD_none, decide_eq_true_eq, Bool.false_eq_true, Bool.true_eq_false, Bool.not_true, Bool.not_false, Bool.not_eq_true', decide_eq_false_iff_not, if_true, if_false, Nat.zero_add, Nat.reduceAdd, Nat.reduceSub, Nat.sub_self, Nat.sub_zero, Nat.add_zero, Nat.reduceEqDiff, List.isEmpty_nil, List.isEmpty_cons, o_add, o_sub, o_neg, o_lt, o_le, o_gt, o_ge, o_eqI, o_neI, o_eqB, o_neB, o_isN, o_isNotN, o_isB, n_non, n_bool, n_int, n_str, n_list, n_tuple, t_non, t_bool, t_int, t_list, t_tuple, o_ixT0, o_ixT1, o_ixT2, o_ixT3, o_ixT4, o_ixL0, o_ixL1, o_ixL2, o_ixL3, ix0, ix1, ix2, ix3, b_lenL, b_lenT, b_abs, b_int, b_tupL, b_tupT, b_lstL, b_lstT, b_gcd, b_max2, b_min2, fm_same, m_same, isiList, isiTuple, isiInt, isiBool, isiStr, Bool.or_false, decide_true, opEq_str h]
theorem same_list {k : Nat} {ds : List T} (hl : ds.length < sizeLine) (hd : ∀ d ∈ ds, fm_same k [d, d] = some (.bool true, [d, d])) : fm_same (k + 1) [.list ds, .list ds] = some (.bool true, [.list ds, .list ds]) := by
  have L := same_row (k := k) .list (.inl rfl) hl hd none
  have e := rng1_i (sz_rng hl)
  have hl2 : ((rI 0 1 ds.length).map PyData.int).length < sizeLine := by rw [List.length_map, rI_length]; exact hl
  have e2 : (rI 0 1 ds.length).all (fun _ => true) = true := List.all_eq_true.mpr fun _ _ => rfl
  simp only [e_mVar, e_kVar, e_mMov, e_kMov, e_mCst, e_kO, e_kOb, e_kOl, e_mBin, e_kB1, e_kB2, e_mUn, e_kU, e_mTb, e_kTb, e_mTru, e_kTru, e_mNot, e_kNot, e_mAnd, e_kAnd, e_mOr, e_kOr, e_mAndV, e_kAndVt, e_kAndVf, e_mOrV, e_kOrVt, e_kOrVf, e_mNotV, e_kNotV, e_mNotB, e_kNotB, e_kNB, e_mIf, e_kIf, e_kIfS, e_mNil, e_mCons, e_kC1, e_kC2, e_mTup, e_kTup, e_mLst, e_kLst, e_mCall, e_mRng, e_kCall, e_kCallR, e_mNoP, e_mP, e_kPI, e_mSl, e_kS1, e_kS2, e_kS3, e_kCh1, e_kCh2, e_kCh3t, e_kCh3f, e_mYes, e_mItems, e_kItL, e_kItT, e_mIsi, e_kIsi, e_mNol, e_kNolN, e_kNolI, e_kNolB, e_kNolS, e_kNolT, e_kNolD, e_mListS, e_kLS, e_gSet, e_gsNil, e_gsCons, e_kG, e_gTupM, e_aNil, e_aVal, e_kA1, e_kA2, e_aLent, e_kL1, e_kL2, e_mCallU, e_kU1, e_kU2, e_kU3, e_mFill0, e_mFill1, e_mFill2, e_kF, e_kFl, e_mBack0, e_mBack1, e_mBack2, e_sNil, e_sCons, e_kSeqN, e_kSeqB, e_kSeqC, e_kSeqR, e_sIf, e_sBk, e_sCt, e_sRet, e_kRet, e_sDrop, e_kDrop, e_sSet, e_kSet, e_sTgt, e_kTgt, e_kT2, e_sPar, e_kP1, e_kP2, e_kAp0, e_kAp1, e_kAp2, e_kPu1, e_kPu2, e_kPu3, e_kPu4, e_kPu5, e_mFor, e_kFor, e_sFor0, e_kF1, e_kF2N, e_kF2C, e_kF2B, e_kF2R, e_kW1, e_kW2N, e_kW2C, e_kW2B, e_kW2R, e_mLc, e_kLc, e_kLc2, e_mL0, e_kM1, e_kM2, e_kM3, e_kM4, e_wipe0, e_wipe1, e_res0, e_res1, e_mDef, e_kDefR, e_kDefN, e_kDO, e_mOu0, e_mOuF, e_mOuS, e_mOuL, e_kOu, e_mChain, e_sApp, e_sPut, e_kAndV, e_kOrV, e_kCh3, List.getElem?_cons_zero, List.getElem?_cons_succ, List.set_cons_zero, List.set_cons_succ, List.map_cons, List.map_nil, List.length_cons, List.length_nil, List.cons_append, List.nil_append, List.replicate_succ, List.replicate_zero, Option.getD_some, Option.getD_none, decide_eq_true_eq, Bool.false_eq_true, Bool.true_eq_false, Bool.not_true, Bool.not_false, Bool.not_eq_true', decide_eq_false_iff_not, if_true, if_false, Nat.zero_add, Nat.reduceAdd, Nat.reduceSub, Nat.sub_self, Nat.sub_zero, Nat.add_zero, Nat.reduceEqDiff, List.isEmpty_nil, List.isEmpty_cons, o_add, o_sub, o_neg, o_lt, o_le, o_gt, o_ge, o_eqI, o_neI, o_eqB, o_neB, o_isN, o_isNotN, o_isB, n_non, n_bool, n_int, n_str, n_list, n_tuple, t_non, t_bool, t_int, t_list, t_tuple, o_ixT0, o_ixT1, o_ixT2, o_ixT3, o_ixT4, o_ixL0, o_ixL1, o_ixL2, o_ixL3, ix0, ix1, ix2, ix3, b_lenL, b_lenT, b_abs, b_int, b_tupL, b_tupT, b_lstL, b_lstT, b_gcd, b_max2, b_min2, fm_same, m_same, isiList, isiTuple, isiInt, isiBool, isiStr, Bool.or_false, Bool.false_or, decide_true, Int.toNat_natCast, e, hl2, L, b_allM, e2]
theorem same_tup {k : Nat} {ds : List T} (hl : ds.length < sizeLine) (hd : ∀ d ∈ ds, fm_same k [d, d] = some (.bool true, [d, d])) : fm_same (k + 1) [.tuple ds, .tuple ds] = some (.bool true, [.tuple ds, .tuple ds]) := by
  have L := same_row (k := k) .tuple (.inr rfl) hl hd none
  have e := rng1_i (sz_rng hl)
  have hl2 : ((rI 0 1 ds.length).map PyData.int).length < sizeLine := by rw [List.length_map, rI_length]; exact hl
  have e2 : (rI 0 1 ds.length).all (fun _ => true) = true := List.all_eq_true.mpr fun _ _ => rfl
  simp only [e_mVar, e_kVar, e_mMov, e_kMov, e_mCst, e_kO, e_kOb, e_kOl, e_mBin, e_kB1, e_kB2, e_mUn, e_kU, e_mTb, e_kTb, e_mTru, e_kTru, e_mNot, e_kNot, e_mAnd, e_kAnd, e_mOr, e_kOr, e_mAndV, e_kAndVt, e_kAndVf, e_mOrV, e_kOrVt, e_kOrVf, e_mNotV, e_kNotV, e_mNotB, e_kNotB, e_kNB, e_mIf, e_kIf, e_kIfS, e_mNil, e_mCons, e_kC1, e_kC2, e_mTup, e_kTup, e_mLst, e_kLst, e_mCall, e_mRng, e_kCall, e_kCallR, e_mNoP, e_mP, e_kPI, e_mSl, e_kS1, e_kS2, e_kS3, e_kCh1, e_kCh2, e_kCh3t, e_kCh3f, e_mYes, e_mItems, e_kItL, e_kItT, e_mIsi, e_kIsi, e_mNol, e_kNolN, e_kNolI, e_kNolB, e_kNolS, e_kNolT, e_kNolD, e_mListS, e_kLS, e_gSet, e_gsNil, e_gsCons, e_kG, e_gTupM, e_aNil, e_aVal, e_kA1, e_kA2, e_aLent, e_kL1, e_kL2, e_mCallU, e_kU1, e_kU2, e_kU3, e_mFill0, e_mFill1, e_mFill2, e_kF, e_kFl, e_mBack0, e_mBack1, e_mBack2, e_sNil, e_sCons, e_kSeqN, e_kSeqB, e_kSeqC, e_kSeqR, e_sIf, e_sBk, e_sCt, e_sRet, e_kRet, e_sDrop, e_kDrop, e_sSet, e_kSet, e_sTgt, e_kTgt, e_kT2, e_sPar, e_kP1, e_kP2, e_kAp0, e_kAp1, e_kAp2, e_kPu1, e_kPu2, e_kPu3, e_kPu4, e_kPu5, e_mFor, e_kFor, e_sFor0, e_kF1, e_kF2N, e_kF2C, e_kF2B, e_kF2R, e_kW1, e_kW2N, e_kW2C, e_kW2B, e_kW2R, e_mLc, e_kLc, e_kLc2, e_mL0, e_kM1, e_kM2, e_kM3, e_kM4, e_wipe0, e_wipe1, e_res0, e_res1, e_mDef, e_kDefR, e_kDefN, e_kDO, e_mOu0, e_mOuF, e_mOuS, e_mOuL, e_kOu, e_mChain, e_sApp, e_sPut, e_kAndV, e_kOrV, e_kCh3, List.getElem?_cons_zero, List.getElem?_cons_succ, List.set_cons_zero, List.set_cons_succ, List.map_cons, List.map_nil, List.length_cons, List.length_nil, List.cons_append, List.nil_append, List.replicate_succ, List.replicate_zero, Option.getD_some, Option.getD_none, decide_eq_true_eq, Bool.false_eq_true, Bool.true_eq_false, Bool.not_true, Bool.not_false, Bool.not_eq_true', decide_eq_false_iff_not, if_true, if_false, Nat.zero_add, Nat.reduceAdd, Nat.reduceSub, Nat.sub_self, Nat.sub_zero, Nat.add_zero, Nat.reduceEqDiff, List.isEmpty_nil, List.isEmpty_cons, o_add, o_sub, o_neg, o_lt, o_le, o_gt, o_ge, o_eqI, o_neI, o_eqB, o_neB, o_isN, o_isNotN, o_isB, n_non, n_bool, n_int, n_str, n_list, n_tuple, t_non, t_bool, t_int, t_list, t_tuple, o_ixT0, o_ixT1, o_ixT2, o_ixT3, o_ixT4, o_ixL0, o_ixL1, o_ixL2, o_ixL3, ix0, ix1, ix2, ix3, b_lenL, b_lenT, b_abs, b_int, b_tupL, b_tupT, b_lstL, b_lstT, b_gcd, b_max2, b_min2, fm_same, m_same, isiList, isiTuple, isiInt, isiBool, isiStr, Bool.or_false, Bool.false_or, Bool.or_true, decide_true, Int.toNat_natCast, e, hl2, L, b_allM, e2]
theorem same_refl : ∀ {k : Nat} {d : T}, SOk k d → fm_same k [d, d] = some (.bool true, [d, d]) := by
  intro k
  induction k with
  | zero => intro d h; cases h
  | succ k ih =>
    intro d h
    cases h with
    | non => exact same_non
    | bool => exact same_bool
    | int => exact same_int
    | str h => exact same_str h
    | list hl hd => exact same_list hl fun d m => ih (hd d m)
    | tup hl hd => exact same_tup hl fun d m => ih (hd d m)
theorem SOk.mono : ∀ {k j : Nat} {d : T}, SOk k d → k ≤ j → SOk j d := by
  intro k
  induction k with
  | zero => intro j d h; cases h
  | succ k ih =>
    intro j d h hj
    obtain ⟨j, rfl⟩ : ∃ i, j = i + 1 := ⟨j - 1, by omega⟩
    cases h with
    | non => exact .non
    | bool => exact .bool
    | int => exact .int
    | str h => exact .str h
    | list hl hd => exact .list hl fun d m => ih (hd d m) (by omega)
    | tup hl hd => exact .tup hl fun d m => ih (hd d m) (by omega)
theorem SOk.pr {k : Nat} (p : Int × Int) : SOk (k + 2) (pr p) := .tup (by show 2 < sizeLine; decide) fun d m => by
  rcases List.mem_cons.mp m with rfl | m
  · exact .int
  · rcases List.mem_cons.mp m with rfl | m
    · exact .int
    · cases m
end Dg

set_option Elab.async false
set_option linter.all false
set_option maxRecDepth 100000
namespace K86
open PySem Dg
def m_ratio : Ms :=
  (sCons (sIf (mTb (mBin opLt (mVar 1) (mCst (.int 0)))) (sPar 0 1 (mUn opNeg (mVar 0)) (mUn opNeg (mVar 1))) sNil) (sCons (sSet 2 (mCall bGcd (mCons (mVar 0) (mCons (mVar 1) mNil)))) (sRet (mTup (mCons (mBin opFdiv (mVar 0) (mVar 2)) (mCons (mBin opFdiv (mVar 1) (mVar 2)) mNil))))))
def fm_ratio : Mf := mDef [.fro, .fro] 3 m_ratio
def m_add : Ms :=
  (sRet (mCallU fm_ratio [none, none] (aVal (mBin opAdd (mBin opMulI (mBin opIx (mVar 0) (mCst (.int 0))) (mBin opIx (mVar 1) (mCst (.int 1)))) (mBin opMulI (mBin opIx (mVar 1) (mCst (.int 0))) (mBin opIx (mVar 0) (mCst (.int 1))))) (aVal (mBin opMulI (mBin opIx (mVar 0) (mCst (.int 1))) (mBin opIx (mVar 1) (mCst (.int 1)))) aNil))))
def fm_add : Mf := mDef [.fro, .fro] 2 m_add
def m_less : Ms :=
  (sRet (mBin opLt (mBin opMulI (mBin opIx (mVar 0) (mCst (.int 0))) (mBin opIx (mVar 1) (mCst (.int 1)))) (mBin opMulI (mBin opIx (mVar 1) (mCst (.int 0))) (mBin opIx (mVar 0) (mCst (.int 1))))))
def fm_less : Mf := mDef [.fro, .fro] 2 m_less
def m_choose : Ms :=
  (sCons (sIf (mTb (mBin opGt (mVar 1) (mVar 0))) (sRet (mCst (.int 0))) sNil) (sCons (sSet 2 (mCst (.int 1))) (sCons (mFor (mRng rng1 (mCons (mVar 1) mNil)) (gSet 3) (sSet 2 (mBin opFdiv (mBin opMulI (mVar 2) (mBin opSub (mVar 0) (mVar 3))) (mBin opAdd (mVar 3) (mCst (.int 1)))))) (sRet (mVar 2)))))
def fm_choose : Mf := mDef [.fro, .fro] 4 m_choose
def m_chance : Ms :=
  (sCons (sIf (mTb (mBin opGt (mVar 3) (mVar 2))) (sRet (mTup (mCons (mCst (.int 0)) (mCons (mCst (.int 1)) mNil)))) sNil) (sRet (mCallU fm_ratio [none, none] (aVal (mBin opMulI (mCallU fm_choose [none, none] (aVal (mVar 1) (aVal (mVar 3) aNil))) (mCallU fm_choose [none, none] (aVal (mBin opSub (mVar 0) (mVar 1)) (aVal (mBin opSub (mVar 2) (mVar 3)) aNil)))) (aVal (mCallU fm_choose [none, none] (aVal (mVar 0) (aVal (mVar 2) aNil))) aNil)))))
def fm_chance : Mf := mDef [.fro, .fro, .fro, .fro] 4 m_chance
def m_chance_from : Ms :=
  (sCons (sSet 5 (mTup (mCons (mCst (.int 0)) (mCons (mCst (.int 1)) mNil)))) (sCons (mFor (mRng rng2 (mCons (mVar 3) (mCons (mBin opAdd (mVar 4) (mCst (.int 1))) mNil))) (gSet 6) (sSet 5 (mCallU fm_add [none, none] (aVal (mVar 5) (aVal (mCallU fm_chance [none, none, none, none] (aVal (mVar 0) (aVal (mVar 1) (aVal (mVar 2) (aVal (mVar 6) aNil))))) aNil))))) (sRet (mVar 5))))
def fm_chance_from : Mf := mDef [.fro, .fro, .fro, .fro, .fro] 7 m_chance_from
def m_enough : Ms :=
  (sCons (sSet 3 (mCst (.int 0))) (sCons (sWhile (mTru (mCallU fm_less [none, none] (aVal (mCallU fm_chance_from [none, none, none, none, none] (aVal (mVar 0) (aVal (mVar 1) (aVal (mVar 3) (aVal (mCst (.int 1)) (aVal (mVar 3) aNil)))))) (aVal (mVar 2) aNil)))) (sSet 3 (mBin opAdd (mVar 3) (mCst (.int 1)))) 100000) (sRet (mVar 3))))
def fm_enough : Mf := mDef [.fro, .fro, .fro] 4 m_enough
def m_fits : Ms :=
  (sCons (sIf (mNot (mTru (mCallU fm_less [none, none] (aVal (mVar 4) (aVal (mCallU fm_chance_from [none, none, none, none, none] (aVal (mVar 0) (aVal (mVar 1) (aVal (mVar 2) (aVal (mVar 3) (aVal (mVar 2) aNil)))))) aNil))))) (sRet (mCst (.bool false))) sNil) (sRet (mCallU fm_less [none, none] (aVal (mVar 4) (aVal (mCallU fm_chance_from [none, none, none, none, none] (aVal (mVar 0) (aVal (mVar 1) (aVal (mVar 2) (aVal (mCst (.int 0)) (aVal (mVar 3) aNil)))))) aNil)))))
def fm_fits : Mf := mDef [.fro, .fro, .fro, .fro, .fro] 5 m_fits
def m_fitting : Ms :=
  (sCons (sSet 4 (mLc (mRng rng1 (mCons (mBin opAdd (mVar 0) (mCst (.int 1))) mNil)) (gSet 5) (mTru (mCallU fm_fits [none, none, none, none, none] (aVal (mVar 0) (aVal (mVar 5) (aVal (mVar 1) (aVal (mVar 2) (aVal (mVar 3) aNil))))))) (mVar 5) [5])) (sRet (mIf (mTru (mVar 4)) (mTup (mCons (mBin opIx (mVar 4) (mCst (.int 0))) (mCons (mBin opIx (mVar 4) (mUn opNeg (mCst (.int 1)))) mNil))) (mCst .none))))
def fm_fitting : Mf := mDef [.fro, .fro, .fro, .fro] 6 m_fitting
def m_sites : Ms :=
  (sCons (sSet 2 (mLst mNil)) (sCons (mFor (mRng rng1 (mCons (mBin opAdd (mBin opSub (mBin opIx (mVar 0) (mCst (.int 0))) (mBin opIx (mVar 1) (mCst (.int 0)))) (mCst (.int 1))) mNil)) (gSet 3) (mFor (mRng rng1 (mCons (mBin opAdd (mBin opSub (mBin opIx (mVar 0) (mCst (.int 1))) (mBin opIx (mVar 1) (mCst (.int 1)))) (mCst (.int 1))) mNil)) (gSet 4) (sApp 2 (mTup (mCons (mVar 3) (mCons (mVar 4) mNil)))))) (sRet (mMov 2))))
def fm_sites : Mf := mDef [.fro, .fro] 5 m_sites
def m_is_hit : Ms :=
  (sCons (sTgt (gTupM 2 (gsCons (gSet 3) (gsCons (gSet 4) gsNil))) (mVar 1)) (sRet (mCall bAny (mCons (mLc (mItems (mVar 0)) (gTupM 2 (gsCons (gSet 5) (gsCons (gSet 6) gsNil))) mYes (mAndV (mChain opLe opLt (mVar 3) (mVar 5) (mBin opAdd (mVar 3) (mBin opIx (mVar 2) (mCst (.int 0))))) (mChain opLe opLt (mVar 4) (mVar 6) (mBin opAdd (mVar 4) (mBin opIx (mVar 2) (mCst (.int 1)))))) [5, 6]) mNil))))
def fm_is_hit : Mf := mDef [.fro, .fro, .fro] 7 m_is_hit
def m_missed : Ms :=
  (sCons (mFor (mItems (mCallU fm_sites [none, none] (aVal (mVar 0) (aVal (mVar 2) aNil)))) (gSet 3) (sIf (mNot (mTru (mCallU fm_is_hit [none, none, none] (aVal (mVar 1) (aVal (mVar 3) (aVal (mVar 2) aNil)))))) (sRet (mVar 3)) sNil)) (sRet (mCst .none)))
def fm_missed : Mf := mDef [.fro, .fro, .fro] 4 m_missed
def m_fewest_pits : Ms :=
  (sCons (sTgt (gTupM 2 (gsCons (gSet 2) (gsCons (gSet 3) gsNil))) (mVar 1)) (sCons (sSet 4 (mLst mNil)) (sCons (mFor (mRng rng3 (mCons (mCst (.int 0)) (mCons (mBin opAdd (mBin opSub (mBin opIx (mVar 0) (mCst (.int 0))) (mVar 2)) (mCst (.int 1))) (mCons (mVar 2) mNil)))) (gSet 5) (mFor (mRng rng3 (mCons (mCst (.int 0)) (mCons (mBin opAdd (mBin opSub (mBin opIx (mVar 0) (mCst (.int 1))) (mVar 3)) (mCst (.int 1))) (mCons (mVar 3) mNil)))) (gSet 6) (sApp 4 (mTup (mCons (mVar 5) (mCons (mVar 6) mNil)))))) (sRet (mTup (mCons (mCall bTuple (mCons (mLc (mItems (mVar 4)) (gTupM 2 (gsCons (gSet 5) (gsCons (gSet 6) gsNil))) mYes (mTup (mCons (mBin opSub (mBin opAdd (mVar 5) (mVar 2)) (mCst (.int 1))) (mCons (mBin opSub (mBin opAdd (mVar 6) (mVar 3)) (mCst (.int 1))) mNil))) [5, 6]) mNil)) (mCons (mCall bTuple (mCons (mVar 4) mNil)) mNil)))))))
def fm_fewest_pits : Mf := mDef [.fro, .fro] 7 m_fewest_pits
def m_share : Ms :=
  (sCons (sSet 3 (mCallU fm_sites [none, none] (aVal (mVar 0) (aVal (mVar 2) aNil)))) (sCons (sIf (mNot (mTru (mVar 3))) (sRet (mTup (mCons (mCst (.int 1)) (mCons (mCst (.int 1)) mNil)))) sNil) (sRet (mCallU fm_ratio [none, none] (aVal (mCall bLen (mCons (mLc (mItems (mVar 3)) (gSet 4) (mTru (mCallU fm_is_hit [none, none, none] (aVal (mVar 1) (aVal (mVar 4) (aVal (mVar 2) aNil))))) (mVar 4) [4]) mNil)) (aVal (mCall bLen (mCons (mVar 3) mNil)) aNil))))))
def fm_share : Mf := mDef [.fro, .fro, .fro] 5 m_share
def m_next_pit : Ms :=
  (sCons (sSet 3 (mLc (mItems (mCallU fm_sites [none, none] (aVal (mVar 0) (aVal (mVar 2) aNil)))) (gSet 8) (mNot (mTru (mCallU fm_is_hit [none, none, none] (aVal (mVar 1) (aVal (mVar 8) (aVal (mVar 2) aNil)))))) (mVar 8) [8])) (sCons (sSet 4 (mCst .none)) (sCons (mFor (mRng rng1 (mCons (mBin opIx (mVar 0) (mCst (.int 0))) mNil)) (gSet 5) (mFor (mRng rng1 (mCons (mBin opIx (mVar 0) (mCst (.int 1))) mNil)) (gSet 6) (sCons (sSet 7 (mCall bLen (mCons (mLc (mItems (mVar 3)) (gSet 8) (mTru (mCallU fm_is_hit [none, none, none] (aVal (mLst (mCons (mTup (mCons (mVar 5) (mCons (mVar 6) mNil))) mNil)) (aVal (mVar 8) (aVal (mVar 2) aNil))))) (mVar 8) [8]) mNil))) (sIf (mAnd (mTb (mBin opGt (mVar 7) (mCst (.int 0)))) (mOr (mTb (mBin opIs (mVar 4) (mCst .none))) (mTb (mBin opGt (mVar 7) (mBin opIx (mVar 4) (mCst (.int 0))))))) (sSet 4 (mTup (mCons (mVar 7) (mCons (mTup (mCons (mVar 5) (mCons (mVar 6) mNil))) mNil)))) sNil)))) (sRet (mIf (mTb (mBin opIs (mVar 4) (mCst .none))) (mCst .none) (mBin opIx (mVar 4) (mCst (.int 1))))))))
def fm_next_pit : Mf := mDef [.fro, .fro, .fro] 9 m_next_pit
def m_plan : Ms :=
  (sCons (sSet 3 (mTup mNil)) (sCons (sWhile (mTb (mBin opLt (mCall bLen (mCons (mVar 3) mNil)) (mVar 2))) (sCons (sSet 4 (mCallU fm_next_pit [none, none, none] (aVal (mVar 0) (aVal (mVar 3) (aVal (mVar 1) aNil))))) (sCons (sIf (mTb (mBin opIs (mVar 4) (mCst .none))) sBk sNil) (sSet 3 (mBin opAdd (mVar 3) (mTup (mCons (mVar 4) mNil)))))) 100000) (sRet (mVar 3))))
def fm_plan : Mf := mDef [.fro, .fro, .fro] 5 m_plan
def m_round_sites : Ms :=
  (sCons (sSet 2 (mLst mNil)) (sCons (mFor (mRng rng2 (mCons (mVar 1) (mCons (mBin opSub (mBin opIx (mVar 0) (mCst (.int 0))) (mVar 1)) mNil))) (gSet 3) (mFor (mRng rng2 (mCons (mVar 1) (mCons (mBin opSub (mBin opIx (mVar 0) (mCst (.int 1))) (mVar 1)) mNil))) (gSet 4) (sApp 2 (mTup (mCons (mVar 3) (mCons (mVar 4) mNil)))))) (sRet (mMov 2))))
def fm_round_sites : Mf := mDef [.fro, .fro] 5 m_round_sites
def m_is_in_round : Ms :=
  (sCons (sPar 3 4 (mBin opSub (mBin opIx (mVar 0) (mCst (.int 0))) (mBin opIx (mVar 1) (mCst (.int 0)))) (mBin opSub (mBin opIx (mVar 0) (mCst (.int 1))) (mBin opIx (mVar 1) (mCst (.int 1))))) (sRet (mBin opLe (mBin opAdd (mBin opMulI (mVar 3) (mVar 3)) (mBin opMulI (mVar 4) (mVar 4))) (mBin opMulI (mVar 2) (mVar 2)))))
def fm_is_in_round : Mf := mDef [.fro, .fro, .fro] 5 m_is_in_round
def m_missed_round : Ms :=
  (sCons (mFor (mItems (mCallU fm_round_sites [none, none] (aVal (mVar 0) (aVal (mVar 2) aNil)))) (gSet 3) (sIf (mNot (mTru (mCall bAny (mCons (mLc (mItems (mVar 1)) (gSet 4) mYes (mCallU fm_is_in_round [none, none, none] (aVal (mVar 4) (aVal (mVar 3) (aVal (mVar 2) aNil)))) [4]) mNil)))) (sRet (mVar 3)) sNil)) (sRet (mCst .none)))
def fm_missed_round : Mf := mDef [.fro, .fro, .fro] 5 m_missed_round
def m_widest_missed : Ms :=
  (sCons (mFor (mRng rng3 (mCons (mCst (.int 5)) (mCons (mUn opNeg (mCst (.int 1))) (mCons (mUn opNeg (mCst (.int 1))) mNil)))) (gSet 2) (sIf (mTb (mBin opIsNot (mCallU fm_missed_round [none, none, none] (aVal (mVar 0) (aVal (mVar 1) (aVal (mVar 2) aNil)))) (mCst .none))) (sRet (mVar 2)) sNil)) (sRet (mCst .none)))
def fm_widest_missed : Mf := mDef [.fro, .fro] 3 m_widest_missed
def m__law_draw : Ms :=
  (sRet (mLst (mCons (mListS (mVar 0)) (mCons (mCst (.int 0)) (mCons (mCst (.int 0)) (mCons (mCst (.int 17)) mNil))))))
def fm__law_draw : Mf := mDef [.scr] 1 m__law_draw
def m__law_next : Ms :=
  (sCons (sIf (mTb (mBin opGt (mBin opIx (mVar 0) (mCst (.int 2))) (mCst (.int 0)))) (sCons (sSet 2 (mBin opMod (mCall bInt (mCons (mBin opIx (mVar 0) (mCst (.int 2))) mNil)) (mVar 1))) (sCons (sPut 0 (mBin opFdiv (mBin opIx (mVar 0) (mCst (.int 2))) (mVar 1)) (mCst (.int 2))) (sRet (mVar 2)))) sNil) (sCons (sIf (mTb (mBin opLt (mBin opIx (mVar 0) (mCst (.int 1))) (mCall bLen (mCons (mBin opIx (mVar 0) (mCst (.int 0))) mNil)))) (sCons (sSet 3 (mCall bAbs (mCons (mBin opIx (mBin opIx (mVar 0) (mCst (.int 0))) (mBin opIx (mVar 0) (mCst (.int 1)))) mNil))) (sCons (sPut 0 (mBin opAdd (mBin opIx (mVar 0) (mCst (.int 1))) (mCst (.int 1))) (mCst (.int 1))) (sCons (sIf (mTb (mBin opGe (mVar 3) (mBin opPow (mCst (.int 10)) (mCst (.int 18))))) (sCons (sPut 0 (mBin opFdiv (mVar 3) (mVar 1)) (mCst (.int 2))) (sRet (mBin opMod (mCall bInt (mCons (mVar 3) mNil)) (mVar 1)))) sNil) (sPut 0 (mBin opMod (mCall bInt (mCons (mBin opAdd (mBin opAdd (mBin opMulI (mBin opIx (mVar 0) (mCst (.int 3))) (mCst (.int 48271))) (mVar 3)) (mCst (.int 11))) mNil)) (mCst (.int 2147483647))) (mCst (.int 3)))))) (sPut 0 (mBin opMod (mCall bInt (mCons (mBin opAdd (mBin opMulI (mBin opIx (mVar 0) (mCst (.int 3))) (mCst (.int 48271))) (mCst (.int 12345))) mNil)) (mCst (.int 2147483647))) (mCst (.int 3)))) (sRet (mBin opMod (mBin opFdiv (mCall bInt (mCons (mBin opMod (mBin opMulI (mBin opIx (mVar 0) (mCst (.int 3))) (mCst (.int 69621))) (mCst (.int 2147483629))) mNil)) (mCst (.int 7))) (mVar 1)))))
def fm__law_next : Mf := mDef [(.lst .fro), .fro] 4 m__law_next
def m__law_same (rec : Mf) : Ms :=
  (sCons (sIf (mTru (mIsi (fun t => isiList t || isiTuple t) (mVar 1))) (sCons (sIf (mOr (mTb (mBin opNe (mIsi isiList (mVar 1)) (mIsi isiList (mVar 0)))) (mTb (mBin opNe (mIsi isiTuple (mVar 1)) (mIsi isiTuple (mVar 0))))) (sRet (mCst (.bool false))) sNil) (sCons (sIf (mTb (mBin opNe (mCall bLen (mCons (mVar 0) mNil)) (mCall bLen (mCons (mVar 1) mNil)))) (sRet (mCst (.bool false))) sNil) (sRet (mCall bAll (mCons (mLc (mRng rng1 (mCons (mCall bLen (mCons (mVar 1) mNil)) mNil)) (gSet 2) mYes (mCallU rec [none, none] (aVal (mBin opIx (mVar 0) (mVar 2)) (aVal (mBin opIx (mVar 1) (mVar 2)) aNil))) [2]) mNil))))) sNil) (sCons (sIf (mTb (mBin opIs (mVar 1) (mCst .none))) (sRet (mBin opIs (mVar 0) (mCst .none))) sNil) (sCons (sIf (mTb (mBin opNe (mIsi isiBool (mVar 1)) (mIsi isiBool (mVar 0)))) (sRet (mCst (.bool false))) sNil) (sCons (sIf (mTru (mIsi isiStr (mVar 1))) (sRet (mAndV (mIsi isiStr (mVar 0)) (mBin opEq (mVar 0) (mVar 1)))) sNil) (sRet (mAndV (mIsi isiInt (mVar 0)) (mBin opEq (mVar 0) (mVar 1))))))))
def fm__law_same : Nat → Mf
  | 0 => fun _ => none
  | k + 1 => mDef [.fro, .fro] 3 (m__law_same (fm__law_same k))
def m__law_low : Ms :=
  (sCons (sIf (mTb (mBin opLt (mVar 1) (mCst (.int 0)))) (sPar 0 1 (mBin opSub (mCst (.int 0)) (mVar 0)) (mBin opSub (mCst (.int 0)) (mVar 1))) sNil) (sCons (sPar 2 3 (mCall bAbs (mCons (mVar 0) mNil)) (mVar 1)) (sCons (sWhile (mTb (mBin opGt (mVar 3) (mCst (.int 0)))) (sPar 2 3 (mVar 3) (mBin opMod (mVar 2) (mVar 3))) 100000) (sRet (mTup (mCons (mBin opFdiv (mVar 0) (mVar 2)) (mCons (mBin opFdiv (mVar 1) (mVar 2)) mNil)))))))
def fm__law_low : Mf := mDef [.fro, .fro] 4 m__law_low
def m__law_add : Ms :=
  (sRet (mCallU fm__law_low [none, none] (aVal (mBin opAdd (mBin opMulI (mBin opIx (mVar 0) (mCst (.int 0))) (mBin opIx (mVar 1) (mCst (.int 1)))) (mBin opMulI (mBin opIx (mVar 1) (mCst (.int 0))) (mBin opIx (mVar 0) (mCst (.int 1))))) (aVal (mBin opMulI (mBin opIx (mVar 0) (mCst (.int 1))) (mBin opIx (mVar 1) (mCst (.int 1)))) aNil))))
def fm__law_add : Mf := mDef [.fro, .fro] 2 m__law_add
def m__law_less_by : Ms :=
  (sRet (mCallU fm__law_low [none, none] (aVal (mBin opSub (mBin opMulI (mBin opIx (mVar 0) (mCst (.int 0))) (mBin opIx (mVar 1) (mCst (.int 1)))) (mBin opMulI (mBin opIx (mVar 1) (mCst (.int 0))) (mBin opIx (mVar 0) (mCst (.int 1))))) (aVal (mBin opMulI (mBin opIx (mVar 0) (mCst (.int 1))) (mBin opIx (mVar 1) (mCst (.int 1)))) aNil))))
def fm__law_less_by : Mf := mDef [.fro, .fro] 2 m__law_less_by
def m__law_times : Ms :=
  (sRet (mCallU fm__law_low [none, none] (aVal (mBin opMulI (mBin opIx (mVar 0) (mCst (.int 0))) (mBin opIx (mVar 1) (mCst (.int 0)))) (aVal (mBin opMulI (mBin opIx (mVar 0) (mCst (.int 1))) (mBin opIx (mVar 1) (mCst (.int 1)))) aNil))))
def fm__law_times : Mf := mDef [.fro, .fro] 2 m__law_times
def m__law_below : Ms :=
  (sRet (mBin opLt (mBin opMulI (mBin opIx (mVar 0) (mCst (.int 0))) (mBin opIx (mVar 1) (mCst (.int 1)))) (mBin opMulI (mBin opIx (mVar 1) (mCst (.int 0))) (mBin opIx (mVar 0) (mCst (.int 1))))))
def fm__law_below : Mf := mDef [.fro, .fro] 2 m__law_below
def m__law_sum : Ms :=
  (sCons (sSet 1 (mTup (mCons (mCst (.int 0)) (mCons (mCst (.int 1)) mNil)))) (sCons (mFor (mItems (mVar 0)) (gSet 2) (sSet 1 (mCallU fm__law_add [none, none] (aVal (mVar 1) (aVal (mVar 2) aNil))))) (sRet (mVar 1))))
def fm__law_sum : Mf := mDef [.fro] 3 m__law_sum
def m_law : Ms :=
  (sCons (sSet 1 (mCallU fm__law_draw [none] (aVal (mVar 0) aNil))) (sCons (sSet 2 (mBin opAdd (mCst (.int 1)) (mCallU fm__law_next [some 1, none] (aLent 1 (aVal (mCst (.int 9)) aNil))))) (sCons (sTgt (gTupM 2 (gsCons (gSet 3) (gsCons (gSet 4) gsNil))) (mTup (mCons (mCallU fm__law_next [some 1, none] (aLent 1 (aVal (mBin opAdd (mVar 2) (mCst (.int 1))) aNil))) (mCons (mCallU fm__law_next [some 1, none] (aLent 1 (aVal (mBin opAdd (mVar 2) (mCst (.int 1))) aNil))) mNil)))) (sCons (sSet 5 (mLc (mRng rng1 (mCons (mBin opAdd (mVar 4) (mCst (.int 1))) mNil)) (gSet 6) mYes (mCallU fm_chance [none, none, none, none] (aVal (mVar 2) (aVal (mVar 3) (aVal (mVar 4) (aVal (mVar 6) aNil))))) [6])) (sCons (sIf (mTb (mBin opNe (mCallU fm__law_sum [none] (aVal (mVar 5) aNil)) (mTup (mCons (mCst (.int 1)) (mCons (mCst (.int 1)) mNil))))) (sRet (mCst (.bool false))) sNil) (sCons (mFor (mRng rng1 (mCons (mBin opAdd (mCall bMin (mCons (mVar 3) (mCons (mVar 4) mNil))) (mCst (.int 1))) mNil)) (gSet 6) (sIf (mOr (mNot (mTru (mCallU (fm__law_same 6) [none, none] (aVal (mCallU fm_chance [none, none, none, none] (aVal (mVar 2) (aVal (mVar 4) (aVal (mVar 3) (aVal (mVar 6) aNil))))) (aVal (mBin opIx (mVar 5) (mVar 6)) aNil))))) (mNot (mTru (mCallU (fm__law_same 6) [none, none] (aVal (mCallU fm_chance [none, none, none, none] (aVal (mVar 2) (aVal (mBin opSub (mVar 2) (mVar 3)) (aVal (mVar 4) (aVal (mBin opSub (mVar 4) (mVar 6)) aNil))))) (aVal (mBin opIx (mVar 5) (mVar 6)) aNil)))))) (sRet (mCst (.bool false))) sNil)) (sCons (sSet 7 (mCallU fm__law_sum [none] (aVal (mLc (mRng rng1 (mCons (mBin opAdd (mVar 4) (mCst (.int 1))) mNil)) (gSet 6) mYes (mCallU fm__law_times [none, none] (aVal (mTup (mCons (mVar 6) (mCons (mCst (.int 1)) mNil))) (aVal (mBin opIx (mVar 5) (mVar 6)) aNil))) [6]) aNil))) (sCons (sIf (mTb (mBin opNe (mVar 7) (mCallU fm__law_low [none, none] (aVal (mBin opMulI (mVar 3) (mVar 4)) (aVal (mVar 2) aNil))))) (sRet (mCst (.bool false))) sNil) (sCons (sSet 8 (mCallU fm__law_low [none, none] (aVal (mBin opAdd (mCst (.int 1)) (mCallU fm__law_next [some 1, none] (aLent 1 (aVal (mCst (.int 9)) aNil)))) (aVal (mCst (.int 9)) aNil)))) (sCons (sIf (mTb (mBin opGt (mVar 3) (mCst (.int 0)))) (sCons (sSet 9 (mCallU fm_enough [none, none, none] (aVal (mVar 2) (aVal (mVar 3) (aVal (mVar 8) aNil))))) (sCons (sIf (mOr (mTru (mCallU fm__law_below [none, none] (aVal (mCallU fm__law_less_by [none, none] (aVal (mTup (mCons (mCst (.int 1)) (mCons (mCst (.int 1)) mNil))) (aVal (mCallU fm_chance [none, none, none, none] (aVal (mVar 2) (aVal (mVar 3) (aVal (mVar 9) (aVal (mCst (.int 0)) aNil))))) aNil))) (aVal (mVar 8) aNil)))) (mAnd (mTb (mBin opGt (mVar 9) (mCst (.int 0)))) (mNot (mTru (mCallU fm__law_below [none, none] (aVal (mCallU fm__law_less_by [none, none] (aVal (mTup (mCons (mCst (.int 1)) (mCons (mCst (.int 1)) mNil))) (aVal (mCallU fm_chance [none, none, none, none] (aVal (mVar 2) (aVal (mVar 3) (aVal (mBin opSub (mVar 9) (mCst (.int 1))) (aVal (mCst (.int 0)) aNil))))) aNil))) (aVal (mVar 8) aNil))))))) (sRet (mCst (.bool false))) sNil) (sIf (mAnd (mTb (mBin opLt (mVar 3) (mVar 2))) (mTb (mBin opGt (mCallU fm_enough [none, none, none] (aVal (mVar 2) (aVal (mBin opAdd (mVar 3) (mCst (.int 1))) (aVal (mVar 8) aNil)))) (mVar 9)))) (sRet (mCst (.bool false))) sNil))) sNil) (sCons (sSet 6 (mCallU fm__law_next [some 1, none] (aLent 1 (aVal (mBin opAdd (mVar 4) (mCst (.int 1))) aNil)))) (sCons (sSet 10 (mCallU fm_fitting [none, none, none, none] (aVal (mVar 2) (aVal (mVar 4) (aVal (mVar 6) (aVal (mTup (mCons (mCst (.int 0)) (mCons (mCst (.int 1)) mNil))) aNil)))))) (sCons (sIf (mTb (mBin opNe (mVar 10) (mTup (mCons (mVar 6) (mCons (mBin opAdd (mBin opSub (mVar 2) (mVar 4)) (mVar 6)) mNil))))) (sRet (mCst (.bool false))) sNil) (sCons (sTgt (gTupM 2 (gsCons (gSet 11) (gsCons (gSet 12) gsNil))) (mTup (mCons (mTup (mCons (mBin opAdd (mCst (.int 1)) (mCallU fm__law_next [some 1, none] (aLent 1 (aVal (mCst (.int 6)) aNil)))) (mCons (mBin opAdd (mCst (.int 1)) (mCallU fm__law_next [some 1, none] (aLent 1 (aVal (mCst (.int 5)) aNil)))) mNil))) (mCons (mTup (mCons (mBin opAdd (mCst (.int 1)) (mCallU fm__law_next [some 1, none] (aLent 1 (aVal (mCst (.int 3)) aNil)))) (mCons (mBin opAdd (mCst (.int 1)) (mCallU fm__law_next [some 1, none] (aLent 1 (aVal (mCst (.int 3)) aNil)))) mNil))) mNil)))) (sCons (sSet 13 (mTup mNil)) (sCons (mFor (mRng rng1 (mCons (mCst (.int 3)) mNil)) (gSet 14) (sCons (sPar 15 16 (mCallU fm_next_pit [none, none, none] (aVal (mVar 11) (aVal (mVar 13) (aVal (mVar 12) aNil)))) (mCallU fm_share [none, none, none] (aVal (mVar 11) (aVal (mVar 13) (aVal (mVar 12) aNil))))) (sCons (sIf (mOr (mTb (mBin opNe (mBin opIs (mVar 15) (mCst .none)) (mBin opIs (mCallU fm_missed [none, none, none] (aVal (mVar 11) (aVal (mVar 13) (aVal (mVar 12) aNil)))) (mCst .none)))) (mTb (mBin opNe (mBin opIs (mVar 15) (mCst .none)) (mBin opEq (mVar 16) (mTup (mCons (mCst (.int 1)) (mCons (mCst (.int 1)) mNil))))))) (sRet (mCst (.bool false))) sNil) (sIf (mTb (mBin opIsNot (mVar 15) (mCst .none))) (sCons (sSet 13 (mCall bTuple (mCons (mCall bSorted (mCons (mBin opAdd (mVar 13) (mTup (mCons (mVar 15) mNil))) mNil)) mNil))) (sIf (mNot (mTru (mCallU fm__law_below [none, none] (aVal (mVar 16) (aVal (mCallU fm_share [none, none, none] (aVal (mVar 11) (aVal (mVar 13) (aVal (mVar 12) aNil)))) aNil))))) (sRet (mCst (.bool false))) sNil)) sNil)))) (sCons (sTgt (gTupM 2 (gsCons (gSet 9) (gsCons (gSet 17) gsNil))) (mCallU fm_fewest_pits [none, none] (aVal (mVar 11) (aVal (mVar 12) aNil)))) (sCons (sSet 18 (mCallU fm_plan [none, none, none] (aVal (mVar 11) (aVal (mVar 12) (aVal (mBin opAdd (mCall bLen (mCons (mVar 9) mNil)) (mCst (.int 20))) aNil))))) (sCons (sIf (mOr (mTb (mBin opIsNot (mCallU fm_missed [none, none, none] (aVal (mVar 11) (aVal (mCall bTuple (mCons (mCall bSorted (mCons (mVar 18) mNil)) mNil)) (aVal (mVar 12) aNil)))) (mCst .none))) (mOr (mTb (mBin opLt (mCall bLen (mCons (mVar 18) mNil)) (mCall bLen (mCons (mVar 17) mNil)))) (mTb (mBin opNe (mBin opEq (mVar 17) (mTup mNil)) (mBin opEq (mCallU fm_sites [none, none] (aVal (mVar 11) (aVal (mVar 12) aNil))) (mLst mNil)))))) (sRet (mCst (.bool false))) sNil) (sCons (sSet 19 (mTup (mCons (mUn opRev (mVar 11)) (mCons (mUn opRev (mVar 12)) mNil)))) (sCons (sIf (mOr (mTb (mBin opNe (mCall bLen (mCons (mBin opIx (mCallU fm_fewest_pits [none, none] (aVal (mBin opIx (mVar 19) (mCst (.int 0))) (aVal (mBin opIx (mVar 19) (mCst (.int 1))) aNil))) (mCst (.int 0))) mNil)) (mCall bLen (mCons (mVar 9) mNil)))) (mTb (mBin opNe (mCall bLen (mCons (mCallU fm_sites [none, none] (aVal (mBin opIx (mVar 19) (mCst (.int 0))) (aVal (mBin opIx (mVar 19) (mCst (.int 1))) aNil))) mNil)) (mCall bLen (mCons (mCallU fm_sites [none, none] (aVal (mVar 11) (aVal (mVar 12) aNil))) mNil))))) (sRet (mCst (.bool false))) sNil) (sCons (sSet 20 (mCallU fm_widest_missed [none, none] (aVal (mVar 11) (aVal (mVar 13) aNil)))) (sRet (mCall bAll (mCons (mLc (mRng rng1 (mCons (mCst (.int 6)) mNil)) (gSet 21) mYes (mOrV (mBin opIs (mCallU fm_missed_round [none, none, none] (aVal (mVar 11) (aVal (mVar 13) (aVal (mVar 21) aNil)))) (mCst .none)) (mAndV (mBin opIsNot (mVar 20) (mCst .none)) (mBin opLe (mVar 21) (mVar 20)))) [21]) mNil)))))))))))))))))))))))))
def fm_law : Mf := mDef [.scr] 22 m_law
end K86

set_option Elab.async false
set_option linter.all false
set_option maxRecDepth 100000
set_option maxHeartbeats 0
namespace K86
open PySem PySem.Spec PyProof.Rows L2 Dg
def topS (i : Nat) : Stmt := PySem.Challenge.pw_digworks_k86_chances_and_pits.main.body.getD i (.Pass ⟨0, 0, 0, 0⟩)
abbrev s_ratio : Stmt := topS 2
theorem sc_ratio : FnScope ["number", "by", "common"] ["number", "by"] (defScope s_ratio) := ⟨rfl, rfl, rfl, by decide +kernel, rfl, by decide +kernel, by decide +kernel⟩
abbrev s_add : Stmt := topS 3
theorem sc_add : FnScope ["one", "other"] ["one", "other"] (defScope s_add) := ⟨rfl, rfl, rfl, by decide +kernel, rfl, by decide +kernel, by decide +kernel⟩
abbrev s_less : Stmt := topS 4
theorem sc_less : FnScope ["one", "other"] ["one", "other"] (defScope s_less) := ⟨rfl, rfl, rfl, by decide +kernel, rfl, by decide +kernel, by decide +kernel⟩
abbrev s_choose : Stmt := topS 6
theorem sc_choose : FnScope ["n", "k", "found", "place"] ["n", "k"] (defScope s_choose) := ⟨rfl, rfl, rfl, by decide +kernel, rfl, by decide +kernel, by decide +kernel⟩
abbrev s_chance : Stmt := topS 7
theorem sc_chance : FnScope ["buckets", "held", "sieved", "found"] ["buckets", "held", "sieved", "found"] (defScope s_chance) := ⟨rfl, rfl, rfl, by decide +kernel, rfl, by decide +kernel, by decide +kernel⟩
abbrev s_chance_from : Stmt := topS 8
theorem sc_chance_from : FnScope ["buckets", "held", "sieved", "low", "high", "whole", "found"] ["buckets", "held", "sieved", "low", "high"] (defScope s_chance_from) := ⟨rfl, rfl, rfl, by decide +kernel, rfl, by decide +kernel, by decide +kernel⟩
abbrev s_enough : Stmt := topS 9
theorem sc_enough : FnScope ["buckets", "held", "share", "sieved"] ["buckets", "held", "share"] (defScope s_enough) := ⟨rfl, rfl, rfl, by decide +kernel, rfl, by decide +kernel, by decide +kernel⟩
abbrev s_fits : Stmt := topS 10
theorem sc_fits : FnScope ["buckets", "held", "sieved", "found", "share"] ["buckets", "held", "sieved", "found", "share"] (defScope s_fits) := ⟨rfl, rfl, rfl, by decide +kernel, rfl, by decide +kernel, by decide +kernel⟩
abbrev s_fitting : Stmt := topS 11
theorem sc_fitting : FnScope ["buckets", "sieved", "found", "share", "told", "held"] ["buckets", "sieved", "found", "share"] (defScope s_fitting) := ⟨rfl, rfl, rfl, by decide +kernel, rfl, by decide +kernel, by decide +kernel⟩
abbrev s_sites : Stmt := topS 13
theorem sc_sites : FnScope ["ground", "shape", "found", "x", "y"] ["ground", "shape"] (defScope s_sites) := ⟨rfl, rfl, rfl, by decide +kernel, rfl, by decide +kernel, by decide +kernel⟩
abbrev s_is_hit : Stmt := topS 14
theorem sc_is_hit : FnScope ["pits", "site", "shape", "x", "y", "u", "v"] ["pits", "site", "shape"] (defScope s_is_hit) := ⟨rfl, rfl, rfl, by decide +kernel, rfl, by decide +kernel, by decide +kernel⟩
abbrev s_missed : Stmt := topS 15
theorem sc_missed : FnScope ["ground", "pits", "shape", "site"] ["ground", "pits", "shape"] (defScope s_missed) := ⟨rfl, rfl, rfl, by decide +kernel, rfl, by decide +kernel, by decide +kernel⟩
abbrev s_fewest_pits : Stmt := topS 16
theorem sc_fewest_pits : FnScope ["ground", "shape", "a", "b", "apart", "x", "y"] ["ground", "shape"] (defScope s_fewest_pits) := ⟨rfl, rfl, rfl, by decide +kernel, rfl, by decide +kernel, by decide +kernel⟩
abbrev s_share : Stmt := topS 17
theorem sc_share : FnScope ["ground", "pits", "shape", "told", "site"] ["ground", "pits", "shape"] (defScope s_share) := ⟨rfl, rfl, rfl, by decide +kernel, rfl, by decide +kernel, by decide +kernel⟩
abbrev s_next_pit : Stmt := topS 18
theorem sc_next_pit : FnScope ["ground", "pits", "shape", "left", "best", "x", "y", "many", "site"] ["ground", "pits", "shape"] (defScope s_next_pit) := ⟨rfl, rfl, rfl, by decide +kernel, rfl, by decide +kernel, by decide +kernel⟩
abbrev s_plan : Stmt := topS 19
theorem sc_plan : FnScope ["ground", "shape", "many", "found", "cell"] ["ground", "shape", "many"] (defScope s_plan) := ⟨rfl, rfl, rfl, by decide +kernel, rfl, by decide +kernel, by decide +kernel⟩
abbrev s_round_sites : Stmt := topS 21
theorem sc_round_sites : FnScope ["ground", "r", "found", "u", "v"] ["ground", "r"] (defScope s_round_sites) := ⟨rfl, rfl, rfl, by decide +kernel, rfl, by decide +kernel, by decide +kernel⟩
abbrev s_is_in_round : Stmt := topS 22
theorem sc_is_in_round : FnScope ["cell", "middle", "r", "x", "y"] ["cell", "middle", "r"] (defScope s_is_in_round) := ⟨rfl, rfl, rfl, by decide +kernel, rfl, by decide +kernel, by decide +kernel⟩
abbrev s_missed_round : Stmt := topS 23
theorem sc_missed_round : FnScope ["ground", "pits", "r", "middle", "pit"] ["ground", "pits", "r"] (defScope s_missed_round) := ⟨rfl, rfl, rfl, by decide +kernel, rfl, by decide +kernel, by decide +kernel⟩
abbrev s_widest_missed : Stmt := topS 24
theorem sc_widest_missed : FnScope ["ground", "pits", "r"] ["ground", "pits"] (defScope s_widest_missed) := ⟨rfl, rfl, rfl, by decide +kernel, rfl, by decide +kernel, by decide +kernel⟩
abbrev s__law_draw : Stmt := topS 26
theorem sc__law_draw : FnScope ["script"] ["script"] (defScope s__law_draw) := ⟨rfl, rfl, rfl, by decide +kernel, rfl, by decide +kernel, by decide +kernel⟩
abbrev s__law_next : Stmt := topS 27
theorem sc__law_next : FnScope ["draw", "many", "found", "cell"] ["draw", "many"] (defScope s__law_next) := ⟨rfl, rfl, rfl, by decide +kernel, rfl, by decide +kernel, by decide +kernel⟩
abbrev s__law_same : Stmt := topS 28
theorem sc__law_same : FnScope ["actual", "due", "k"] ["actual", "due"] (defScope s__law_same) := ⟨rfl, rfl, rfl, by decide +kernel, rfl, by decide +kernel, by decide +kernel⟩
abbrev s__law_low : Stmt := topS 29
theorem sc__law_low : FnScope ["number", "by", "one", "two"] ["number", "by"] (defScope s__law_low) := ⟨rfl, rfl, rfl, by decide +kernel, rfl, by decide +kernel, by decide +kernel⟩
abbrev s__law_add : Stmt := topS 30
theorem sc__law_add : FnScope ["one", "two"] ["one", "two"] (defScope s__law_add) := ⟨rfl, rfl, rfl, by decide +kernel, rfl, by decide +kernel, by decide +kernel⟩
abbrev s__law_less_by : Stmt := topS 31
theorem sc__law_less_by : FnScope ["one", "two"] ["one", "two"] (defScope s__law_less_by) := ⟨rfl, rfl, rfl, by decide +kernel, rfl, by decide +kernel, by decide +kernel⟩
abbrev s__law_times : Stmt := topS 32
theorem sc__law_times : FnScope ["one", "two"] ["one", "two"] (defScope s__law_times) := ⟨rfl, rfl, rfl, by decide +kernel, rfl, by decide +kernel, by decide +kernel⟩
abbrev s__law_below : Stmt := topS 33
theorem sc__law_below : FnScope ["one", "two"] ["one", "two"] (defScope s__law_below) := ⟨rfl, rfl, rfl, by decide +kernel, rfl, by decide +kernel, by decide +kernel⟩
abbrev s__law_sum : Stmt := topS 34
theorem sc__law_sum : FnScope ["values", "found", "one"] ["values"] (defScope s__law_sum) := ⟨rfl, rfl, rfl, by decide +kernel, rfl, by decide +kernel, by decide +kernel⟩
abbrev s_law : Stmt := topS 35
theorem sc_law : FnScope ["script", "draw", "buckets", "held", "sieved", "told", "found", "mean", "part", "few", "span", "ground", "shape", "pits", "turn", "cell", "before", "apart", "row", "turned", "wide", "r"] ["script"] (defScope s_law) := ⟨rfl, rfl, rfl, by decide +kernel, rfl, by decide +kernel, by decide +kernel⟩
/-- what the top has left -/
structure PR (K : PySem.W.Frag) (mg : Str → Option Value) where
  f_ratio : Addr
  fd_ratio : FuncData
  F_ratio : Fun K "ratio" "ratio" s_ratio f_ratio fd_ratio
  g_ratio : mg "ratio" = some (.ref f_ratio)
  bd_ratio : L2.Binds K fd_ratio ["number", "by"] []
  f_add : Addr
  fd_add : FuncData
  F_add : Fun K "add" "add" s_add f_add fd_add
  g_add : mg "add" = some (.ref f_add)
  bd_add : L2.Binds K fd_add ["one", "other"] []
  f_less : Addr
  fd_less : FuncData
  F_less : Fun K "less" "less" s_less f_less fd_less
  g_less : mg "less" = some (.ref f_less)
  bd_less : L2.Binds K fd_less ["one", "other"] []
  f_choose : Addr
  fd_choose : FuncData
  F_choose : Fun K "choose" "choose" s_choose f_choose fd_choose
  g_choose : mg "choose" = some (.ref f_choose)
  bd_choose : L2.Binds K fd_choose ["n", "k"] []
  f_chance : Addr
  fd_chance : FuncData
  F_chance : Fun K "chance" "chance" s_chance f_chance fd_chance
  g_chance : mg "chance" = some (.ref f_chance)
  bd_chance : L2.Binds K fd_chance ["buckets", "held", "sieved", "found"] []
  f_chance_from : Addr
  fd_chance_from : FuncData
  F_chance_from : Fun K "chance_from" "chance_from" s_chance_from f_chance_from fd_chance_from
  g_chance_from : mg "chance_from" = some (.ref f_chance_from)
  bd_chance_from : L2.Binds K fd_chance_from ["buckets", "held", "sieved", "low", "high"] []
  f_enough : Addr
  fd_enough : FuncData
  F_enough : Fun K "enough" "enough" s_enough f_enough fd_enough
  g_enough : mg "enough" = some (.ref f_enough)
  bd_enough : L2.Binds K fd_enough ["buckets", "held", "share"] []
  f_fits : Addr
  fd_fits : FuncData
  F_fits : Fun K "fits" "fits" s_fits f_fits fd_fits
  g_fits : mg "fits" = some (.ref f_fits)
  bd_fits : L2.Binds K fd_fits ["buckets", "held", "sieved", "found", "share"] []
  f_fitting : Addr
  fd_fitting : FuncData
  F_fitting : Fun K "fitting" "fitting" s_fitting f_fitting fd_fitting
  g_fitting : mg "fitting" = some (.ref f_fitting)
  bd_fitting : L2.Binds K fd_fitting ["buckets", "sieved", "found", "share"] []
  f_sites : Addr
  fd_sites : FuncData
  F_sites : Fun K "sites" "sites" s_sites f_sites fd_sites
  g_sites : mg "sites" = some (.ref f_sites)
  bd_sites : L2.Binds K fd_sites ["ground", "shape"] []
  f_is_hit : Addr
  fd_is_hit : FuncData
  F_is_hit : Fun K "is_hit" "is_hit" s_is_hit f_is_hit fd_is_hit
  g_is_hit : mg "is_hit" = some (.ref f_is_hit)
  bd_is_hit : L2.Binds K fd_is_hit ["pits", "site", "shape"] []
  f_missed : Addr
  fd_missed : FuncData
  F_missed : Fun K "missed" "missed" s_missed f_missed fd_missed
  g_missed : mg "missed" = some (.ref f_missed)
  bd_missed : L2.Binds K fd_missed ["ground", "pits", "shape"] []
  f_fewest_pits : Addr
  fd_fewest_pits : FuncData
  F_fewest_pits : Fun K "fewest_pits" "fewest_pits" s_fewest_pits f_fewest_pits fd_fewest_pits
  g_fewest_pits : mg "fewest_pits" = some (.ref f_fewest_pits)
  bd_fewest_pits : L2.Binds K fd_fewest_pits ["ground", "shape"] []
  f_share : Addr
  fd_share : FuncData
  F_share : Fun K "share" "share" s_share f_share fd_share
  g_share : mg "share" = some (.ref f_share)
  bd_share : L2.Binds K fd_share ["ground", "pits", "shape"] []
  f_next_pit : Addr
  fd_next_pit : FuncData
  F_next_pit : Fun K "next_pit" "next_pit" s_next_pit f_next_pit fd_next_pit
  g_next_pit : mg "next_pit" = some (.ref f_next_pit)
  bd_next_pit : L2.Binds K fd_next_pit ["ground", "pits", "shape"] []
  f_plan : Addr
  fd_plan : FuncData
  F_plan : Fun K "plan" "plan" s_plan f_plan fd_plan
  g_plan : mg "plan" = some (.ref f_plan)
  bd_plan : L2.Binds K fd_plan ["ground", "shape", "many"] []
  f_round_sites : Addr
  fd_round_sites : FuncData
  F_round_sites : Fun K "round_sites" "round_sites" s_round_sites f_round_sites fd_round_sites
  g_round_sites : mg "round_sites" = some (.ref f_round_sites)
  bd_round_sites : L2.Binds K fd_round_sites ["ground", "r"] []
  f_is_in_round : Addr
  fd_is_in_round : FuncData
  F_is_in_round : Fun K "is_in_round" "is_in_round" s_is_in_round f_is_in_round fd_is_in_round
  g_is_in_round : mg "is_in_round" = some (.ref f_is_in_round)
  bd_is_in_round : L2.Binds K fd_is_in_round ["cell", "middle", "r"] []
  f_missed_round : Addr
  fd_missed_round : FuncData
  F_missed_round : Fun K "missed_round" "missed_round" s_missed_round f_missed_round fd_missed_round
  g_missed_round : mg "missed_round" = some (.ref f_missed_round)
  bd_missed_round : L2.Binds K fd_missed_round ["ground", "pits", "r"] []
  f_widest_missed : Addr
  fd_widest_missed : FuncData
  F_widest_missed : Fun K "widest_missed" "widest_missed" s_widest_missed f_widest_missed fd_widest_missed
  g_widest_missed : mg "widest_missed" = some (.ref f_widest_missed)
  bd_widest_missed : L2.Binds K fd_widest_missed ["ground", "pits"] []
  f__law_draw : Addr
  fd__law_draw : FuncData
  F__law_draw : Fun K "_law_draw" "_law_draw" s__law_draw f__law_draw fd__law_draw
  g__law_draw : mg "_law_draw" = some (.ref f__law_draw)
  bd__law_draw : L2.Binds K fd__law_draw ["script"] []
  f__law_next : Addr
  fd__law_next : FuncData
  F__law_next : Fun K "_law_next" "_law_next" s__law_next f__law_next fd__law_next
  g__law_next : mg "_law_next" = some (.ref f__law_next)
  bd__law_next : L2.Binds K fd__law_next ["draw", "many"] []
  f__law_same : Addr
  fd__law_same : FuncData
  F__law_same : Fun K "_law_same" "_law_same" s__law_same f__law_same fd__law_same
  g__law_same : mg "_law_same" = some (.ref f__law_same)
  bd__law_same : L2.Binds K fd__law_same ["actual", "due"] []
  f__law_low : Addr
  fd__law_low : FuncData
  F__law_low : Fun K "_law_low" "_law_low" s__law_low f__law_low fd__law_low
  g__law_low : mg "_law_low" = some (.ref f__law_low)
  bd__law_low : L2.Binds K fd__law_low ["number", "by"] []
  f__law_add : Addr
  fd__law_add : FuncData
  F__law_add : Fun K "_law_add" "_law_add" s__law_add f__law_add fd__law_add
  g__law_add : mg "_law_add" = some (.ref f__law_add)
  bd__law_add : L2.Binds K fd__law_add ["one", "two"] []
  f__law_less_by : Addr
  fd__law_less_by : FuncData
  F__law_less_by : Fun K "_law_less_by" "_law_less_by" s__law_less_by f__law_less_by fd__law_less_by
  g__law_less_by : mg "_law_less_by" = some (.ref f__law_less_by)
  bd__law_less_by : L2.Binds K fd__law_less_by ["one", "two"] []
  f__law_times : Addr
  fd__law_times : FuncData
  F__law_times : Fun K "_law_times" "_law_times" s__law_times f__law_times fd__law_times
  g__law_times : mg "_law_times" = some (.ref f__law_times)
  bd__law_times : L2.Binds K fd__law_times ["one", "two"] []
  f__law_below : Addr
  fd__law_below : FuncData
  F__law_below : Fun K "_law_below" "_law_below" s__law_below f__law_below fd__law_below
  g__law_below : mg "_law_below" = some (.ref f__law_below)
  bd__law_below : L2.Binds K fd__law_below ["one", "two"] []
  f__law_sum : Addr
  fd__law_sum : FuncData
  F__law_sum : Fun K "_law_sum" "_law_sum" s__law_sum f__law_sum fd__law_sum
  g__law_sum : mg "_law_sum" = some (.ref f__law_sum)
  bd__law_sum : L2.Binds K fd__law_sum ["values"] []
  f_law : Addr
  fd_law : FuncData
  F_law : Fun K "law" "law" s_law f_law fd_law
  g_law : mg "law" = some (.ref f_law)
  bd_law : L2.Binds K fd_law ["script"] []
  b_abs : mg "abs" = none
  b_all : mg "all" = none
  b_any : mg "any" = none
  b_bool : mg "bool" = none
  b_gcd : mg "gcd" = some (.builtin "math.gcd")
  b_int : mg "int" = none
  b_isinstance : mg "isinstance" = none
  b_len : mg "len" = none
  b_list : mg "list" = none
  b_min : mg "min" = none
  b_range : mg "range" = none
  b_sorted : mg "sorted" = none
  b_str : mg "str" = none
  b_tuple : mg "tuple" = none
section
variable {P : Program} {w : World} {K : PySem.W.Frag} {mg : Str → Option Value} {base : Heap}
theorem ok_ratio (R : PR K mg) : FnOk P w K mg base CX0 1 R.f_ratio R.fd_ratio ["number", "by"] (spM K mg [.fro, .fro] .fro fm_ratio) := by
  refine def_ok (k := 0) (Γr := [.fro]) (pin := []) R.F_ratio sc_ratio rfl rfl (pin_ok rfl) rfl fun cdv A outer s H E hr => ?_
  have h64 := hr.h64
  have h65 := hr.h65
  have hu := hr.h66
  exact (sxs_cons (sx_if (tx_cmp (os_lt h64) (ex_var 1) (EX.rx (ex_cst pe_int fun _ _ => .int _))) (sxs_one (sx_par 0 1 rfl sc_ratio.nd (ex_neg (EX.rx (ex_var 0))) (ex_neg (EX.rx (ex_var 1))))) sxs_nil) (sxs_cons (sx_set 2 sc_ratio.nd (ex_callF cs_gcd R.b_gcd (rxs_cons (ex_var 0) (rxs_one (EX.rx (ex_var 1)))))) (sxs_one (sx_ret (ex_tup (fx_cons (ex_bin os_fdiv (ex_var 0) (EX.rx (ex_var 2))) (fx_cons (ex_bin os_fdiv (ex_var 1) (EX.rx (ex_var 2))) fx_nil)) (by decide) (len_cons (len_cons len_nil)))))))
theorem ok_add (R : PR K mg) : FnOk P w K mg base CX0 2 R.f_add R.fd_add ["one", "other"] (spM K mg [.fro, .fro] .fro fm_add) := by
  refine def_ok (k := 1) (Γr := []) (pin := []) R.F_add sc_add rfl rfl (pin_ok rfl) rfl fun cdv A outer s H E hr => ?_
  have h64 := hr.h64
  have h65 := hr.h65
  have hu := hr.h66
  exact (sxs_one (sx_ret (ex_call (ok_ratio R) (hr.mono (by omega)) R.g_ratio R.F_ratio.kp R.bd_ratio (ax_val (EX.frz (ex_bin os_add (ex_bin os_mulI (ex_ix is_ix (ex_var 0) (EX.rx (ex_cst pe_int fun _ _ => .int _))) (EX.rx (ex_ix is_ix (ex_var 1) (EX.rx (ex_cst pe_int fun _ _ => .int _))))) (EX.rx (ex_bin os_mulI (ex_ix is_ix (ex_var 1) (EX.rx (ex_cst pe_int fun _ _ => .int _))) (EX.rx (ex_ix is_ix (ex_var 0) (EX.rx (ex_cst pe_int fun _ _ => .int _)))))))) (ax_val (ex_bin os_mulI (ex_ix is_ix (ex_var 0) (EX.rx (ex_cst pe_int fun _ _ => .int _))) (EX.rx (ex_ix is_ix (ex_var 1) (EX.rx (ex_cst pe_int fun _ _ => .int _))))) ax_nil)))))
theorem ok_less (R : PR K mg) : FnOk P w K mg base CX0 1 R.f_less R.fd_less ["one", "other"] (spM K mg [.fro, .fro] .fro fm_less) := by
  refine def_ok (k := 0) (Γr := []) (pin := []) R.F_less sc_less rfl rfl (pin_ok rfl) rfl fun cdv A outer s H E hr => ?_
  have h64 := hr.h64
  have h65 := hr.h65
  have hu := hr.h66
  exact (sxs_one (sx_ret (ex_cmp (os_lt h64) (ex_bin os_mulI (ex_ix is_ix (ex_var 0) (EX.rx (ex_cst pe_int fun _ _ => .int _))) (EX.rx (ex_ix is_ix (ex_var 1) (EX.rx (ex_cst pe_int fun _ _ => .int _))))) (EX.rx (ex_bin os_mulI (ex_ix is_ix (ex_var 1) (EX.rx (ex_cst pe_int fun _ _ => .int _))) (EX.rx (ex_ix is_ix (ex_var 0) (EX.rx (ex_cst pe_int fun _ _ => .int _)))))))))
theorem ok_choose (R : PR K mg) : FnOk P w K mg base CX0 1 R.f_choose R.fd_choose ["n", "k"] (spM K mg [.fro, .fro] .fro fm_choose) := by
  refine def_ok (k := 0) (Γr := [.fro, .fro]) (pin := []) R.F_choose sc_choose rfl rfl (pin_ok rfl) rfl fun cdv A outer s H E hr => ?_
  have h64 := hr.h64
  have h65 := hr.h65
  have hu := hr.h66
  exact (sxs_cons (sx_if (tx_cmp os_gt (ex_var 1) (EX.rx (ex_var 0))) (sxs_one (sx_ret (ex_cst pe_int fun _ _ => .int _))) sxs_nil) (sxs_cons (sx_set 2 sc_choose.nd (ex_cst pe_int fun _ _ => .int _)) (sxs_cons (sx_for PassesOwn.never rfl (ix_rng1 R.b_range (fx_cons (ex_var 1) fx_nil)) (gx_name 3 sc_choose.nd) (sxs_one (sx_set 2 sc_choose.nd (ex_bin os_fdiv (ex_bin os_mulI (ex_var 2) (EX.rx (ex_bin os_sub (ex_var 0) (EX.rx (ex_var 3))))) (EX.rx (ex_bin os_add (ex_var 3) (EX.rx (ex_cst pe_int fun _ _ => .int _)))))))) (sxs_one (sx_ret (ex_var 2))))))
theorem ok_chance (R : PR K mg) : FnOk P w K mg base CX0 2 R.f_chance R.fd_chance ["buckets", "held", "sieved", "found"] (spM K mg [.fro, .fro, .fro, .fro] .fro fm_chance) := by
  refine def_ok (k := 1) (Γr := []) (pin := []) R.F_chance sc_chance rfl rfl (pin_ok rfl) rfl fun cdv A outer s H E hr => ?_
  have h64 := hr.h64
  have h65 := hr.h65
  have hu := hr.h66
  exact (sxs_cons (sx_if (tx_cmp os_gt (ex_var 3) (EX.rx (ex_var 2))) (sxs_one (sx_ret (ex_tup (fx_cons (ex_cst pe_int fun _ _ => .int _) (fx_cons (ex_cst pe_int fun _ _ => .int _) fx_nil)) (by decide) (len_cons (len_cons len_nil))))) sxs_nil) (sxs_one (sx_ret (ex_call (ok_ratio R) (hr.mono (by omega)) R.g_ratio R.F_ratio.kp R.bd_ratio (ax_val (ex_bin os_mulI (ex_call (ok_choose R) (hr.mono (by omega)) R.g_choose R.F_choose.kp R.bd_choose (ax_val (ex_var 1) (ax_val (ex_var 3) ax_nil))) (EX.rx (ex_call (ok_choose R) (hr.mono (by omega)) R.g_choose R.F_choose.kp R.bd_choose (ax_val (ex_bin os_sub (ex_var 0) (EX.rx (ex_var 1))) (ax_val (ex_bin os_sub (ex_var 2) (EX.rx (ex_var 3))) ax_nil))))) (ax_val (ex_call (ok_choose R) (hr.mono (by omega)) R.g_choose R.F_choose.kp R.bd_choose (ax_val (ex_var 0) (ax_val (ex_var 2) ax_nil))) ax_nil))))))
theorem ok_chance_from (R : PR K mg) : FnOk P w K mg base CX0 3 R.f_chance_from R.fd_chance_from ["buckets", "held", "sieved", "low", "high"] (spM K mg [.fro, .fro, .fro, .fro, .fro] .fro fm_chance_from) := by
  refine def_ok (k := 2) (Γr := [.fro, .fro]) (pin := []) R.F_chance_from sc_chance_from rfl rfl (pin_ok rfl) rfl fun cdv A outer s H E hr => ?_
  have h64 := hr.h64
  have h65 := hr.h65
  have hu := hr.h66
  exact (sxs_cons (sx_set 5 sc_chance_from.nd (ex_tup (fx_cons (ex_cst pe_int fun _ _ => .int _) (fx_cons (ex_cst pe_int fun _ _ => .int _) fx_nil)) (by decide) (len_cons (len_cons len_nil)))) (sxs_cons (sx_for PassesOwn.never rfl (ix_rng2 R.b_range (fx_cons (ex_var 3) (fx_cons (EX.frz (ex_bin os_add (ex_var 4) (EX.rx (ex_cst pe_int fun _ _ => .int _)))) fx_nil))) (gx_name 6 sc_chance_from.nd) (sxs_one (sx_set 5 sc_chance_from.nd (ex_call (ok_add R) (hr.mono (by omega)) R.g_add R.F_add.kp R.bd_add (ax_val (ex_var 5) (ax_val (ex_call (ok_chance R) (hr.mono (by omega)) R.g_chance R.F_chance.kp R.bd_chance (ax_val (ex_var 0) (ax_val (ex_var 1) (ax_val (ex_var 2) (ax_val (ex_var 6) ax_nil))))) ax_nil)))))) (sxs_one (sx_ret (ex_var 5)))))
theorem ok_enough (R : PR K mg) : FnOk P w K mg base CX0 4 R.f_enough R.fd_enough ["buckets", "held", "share"] (spM K mg [.fro, .fro, .fro] .fro fm_enough) := by
  refine def_ok (k := 3) (Γr := [.fro]) (pin := []) R.F_enough sc_enough rfl rfl (pin_ok rfl) rfl fun cdv A outer s H E hr => ?_
  have h64 := hr.h64
  have h65 := hr.h65
  have hu := hr.h66
  exact (sxs_cons (sx_set 3 sc_enough.nd (ex_cst pe_int fun _ _ => .int _)) (sxs_cons (sx_while 100000 PassesOwn.never (tx_tru (EX.rx (ex_call (ok_less R) (hr.mono (by omega)) R.g_less R.F_less.kp R.bd_less (ax_val (ex_call (ok_chance_from R) (hr.mono (by omega)) R.g_chance_from R.F_chance_from.kp R.bd_chance_from (ax_val (ex_var 0) (ax_val (ex_var 1) (ax_val (ex_var 3) (ax_val (ex_cst pe_int fun _ _ => .int _) (ax_val (ex_var 3) ax_nil)))))) (ax_val (ex_var 2) ax_nil))))) (sxs_one (sx_set 3 sc_enough.nd (EX.frz (ex_bin os_add (ex_var 3) (EX.rx (ex_cst pe_int fun _ _ => .int _))))))) (sxs_one (sx_ret (ex_var 3)))))
theorem ok_fits (R : PR K mg) : FnOk P w K mg base CX0 4 R.f_fits R.fd_fits ["buckets", "held", "sieved", "found", "share"] (spM K mg [.fro, .fro, .fro, .fro, .fro] .fro fm_fits) := by
  refine def_ok (k := 3) (Γr := []) (pin := []) R.F_fits sc_fits rfl rfl (pin_ok rfl) rfl fun cdv A outer s H E hr => ?_
  have h64 := hr.h64
  have h65 := hr.h65
  have hu := hr.h66
  exact (sxs_cons (sx_if (tx_not (tx_tru (EX.rx (ex_call (ok_less R) (hr.mono (by omega)) R.g_less R.F_less.kp R.bd_less (ax_val (ex_var 4) (ax_val (ex_call (ok_chance_from R) (hr.mono (by omega)) R.g_chance_from R.F_chance_from.kp R.bd_chance_from (ax_val (ex_var 0) (ax_val (ex_var 1) (ax_val (ex_var 2) (ax_val (ex_var 3) (ax_val (ex_var 2) ax_nil)))))) ax_nil)))))) (sxs_one (sx_ret (ex_cst pe_bl fun _ _ => .bl _))) sxs_nil) (sxs_one (sx_ret (ex_call (ok_less R) (hr.mono (by omega)) R.g_less R.F_less.kp R.bd_less (ax_val (ex_var 4) (ax_val (ex_call (ok_chance_from R) (hr.mono (by omega)) R.g_chance_from R.F_chance_from.kp R.bd_chance_from (ax_val (ex_var 0) (ax_val (ex_var 1) (ax_val (ex_var 2) (ax_val (ex_cst pe_int fun _ _ => .int _) (ax_val (ex_var 3) ax_nil)))))) ax_nil))))))
theorem ok_fitting (R : PR K mg) : FnOk P w K mg base CX0 5 R.f_fitting R.fd_fitting ["buckets", "sieved", "found", "share"] (spM K mg [.fro, .fro, .fro, .fro] .fro fm_fitting) := by
  refine def_ok (k := 4) (Γr := [.fro, .fro]) (pin := []) R.F_fitting sc_fitting rfl rfl (pin_ok rfl) rfl fun cdv A outer s H E hr => ?_
  have h64 := hr.h64
  have h65 := hr.h65
  have hu := hr.h66
  exact (sxs_cons (sx_setLc 4 rfl sc_fitting.nd (lx_of (own := [("held", 5)]) (ix_rng1 R.b_range (fx_cons (EX.frz (ex_bin os_add (ex_var 0) (EX.rx (ex_cst pe_int fun _ _ => .int _)))) fx_nil)) (fun _ _ _ _ _ => (gx_name 5 sc_fitting.nd)) (fun _ _ _ _ _ => (kx_one (tx_tru (EX.rx (ex_call (ok_fits R) (hr.mono (by omega)) R.g_fits R.F_fits.kp R.bd_fits (ax_val (ex_var 0) (ax_val (ex_var 5) (ax_val (ex_var 1) (ax_val (ex_var 2) (ax_val (ex_var 3) ax_nil)))))))))) (fun _ _ _ _ _ => (ex_var 5)) (by decide) (fro_ok (vs := [5]) rfl)) (blkOk_by (by rfl)) (hsw := sw_true rfl rfl rfl (by decide +kernel))) (sxs_one (sx_ret (ex_if (tx_tru (EX.rx (ex_var 4))) (ex_tup (fx_cons (ex_ix is_ix (ex_var 4) (EX.rx (ex_cst pe_int fun _ _ => .int _))) (fx_cons (ex_ix is_ix (ex_var 4) (EX.rx (ex_neg (EX.rx (ex_cst pe_int fun _ _ => .int _))))) fx_nil)) (by decide) (len_cons (len_cons len_nil))) (ex_cst pe_non fun _ _ => .non)))))
theorem ok_sites (R : PR K mg) : FnOk P w K mg base CX0 1 R.f_sites R.fd_sites ["ground", "shape"] (spM K mg [.fro, .fro] (.lst .fro) fm_sites) := by
  refine def_ok (k := 0) (Γr := [(.lst .fro), .fro, .fro]) (pin := []) R.F_sites sc_sites rfl rfl (pin_ok rfl) rfl fun cdv A outer s H E hr => ?_
  have h64 := hr.h64
  have h65 := hr.h65
  have hu := hr.h66
  exact (sxs_cons (sx_set 2 sc_sites.nd (ex_lst fx_nil (by decide) len_nil)) (sxs_cons (sx_for PassesOwn.never rfl (ix_rng1 R.b_range (fx_cons (EX.frz (ex_bin os_add (ex_bin os_sub (ex_ix is_ix (ex_var 0) (EX.rx (ex_cst pe_int fun _ _ => .int _))) (EX.rx (ex_ix is_ix (ex_var 1) (EX.rx (ex_cst pe_int fun _ _ => .int _))))) (EX.rx (ex_cst pe_int fun _ _ => .int _)))) fx_nil)) (gx_name 3 sc_sites.nd) (sxs_one (sx_for PassesOwn.never rfl (ix_rng1 R.b_range (fx_cons (EX.frz (ex_bin os_add (ex_bin os_sub (ex_ix is_ix (ex_var 0) (EX.rx (ex_cst pe_int fun _ _ => .int _))) (EX.rx (ex_ix is_ix (ex_var 1) (EX.rx (ex_cst pe_int fun _ _ => .int _))))) (EX.rx (ex_cst pe_int fun _ _ => .int _)))) fx_nil)) (gx_name 4 sc_sites.nd) (sxs_one (sx_app 2 (ex_tup (fx_cons (ex_var 3) (fx_cons (ex_var 4) fx_nil)) (by decide) (len_cons (len_cons len_nil)))))))) (sxs_one (sx_ret (ex_mov (sh := (.lst .fro)) 2)))))
theorem ok_is_hit (R : PR K mg) : FnOk P w K mg base CX0 1 R.f_is_hit R.fd_is_hit ["pits", "site", "shape"] (spM K mg [.fro, .fro, .fro] .fro fm_is_hit) := by
  refine def_ok (k := 0) (Γr := [.fro, .fro, .fro, .fro]) (pin := []) R.F_is_hit sc_is_hit rfl rfl (pin_ok rfl) rfl fun cdv A outer s H E hr => ?_
  have h64 := hr.h64
  have h65 := hr.h65
  have hu := hr.h66
  exact (sxs_cons (sx_tgt (ex_var 1) (gx_tup (n := 2) rfl (gxs_cons (gx_name 3 sc_is_hit.nd) (gxs_cons (gx_name 4 sc_is_hit.nd) gxs_nil)) (by intro t h; exact pg_tup rfl h))) (sxs_one (sx_ret (ex_callB (cs_any rfl) R.b_any (rxs_one (EX.rx (ex_lc rfl sc_is_hit.nd (lx_of (own := [("u", 5), ("v", 6)]) (ix_seq (ex_var 0)) (fun _ _ _ _ _ => (gx_tup (n := 2) rfl (gxs_cons (gx_name 5 sc_is_hit.nd) (gxs_cons (gx_name 6 sc_is_hit.nd) gxs_nil)) (by intro t h; exact pg_tup rfl h))) (fun _ _ _ _ _ => kx_nil) (fun _ _ _ _ _ => (ex_and (ex_chain os_le (os_lt h64) (ex_var 3) (ex_var 5) (EX.rx (ex_bin os_add (ex_var 3) (EX.rx (ex_ix is_ix (ex_var 2) (EX.rx (ex_cst pe_int fun _ _ => .int _))))))) (ex_one (ex_chain os_le (os_lt h64) (ex_var 4) (ex_var 6) (EX.rx (ex_bin os_add (ex_var 4) (EX.rx (ex_ix is_ix (ex_var 2) (EX.rx (ex_cst pe_int fun _ _ => .int _)))))))))) (by decide) (fro_ok (vs := [5, 6]) rfl)) (blkOk_by (by rfl)))))))))
theorem ok_missed (R : PR K mg) : FnOk P w K mg base CX0 2 R.f_missed R.fd_missed ["ground", "pits", "shape"] (spM K mg [.fro, .fro, .fro] .fro fm_missed) := by
  refine def_ok (k := 1) (Γr := [.fro]) (pin := []) R.F_missed sc_missed rfl rfl (pin_ok rfl) rfl fun cdv A outer s H E hr => ?_
  have h64 := hr.h64
  have h65 := hr.h65
  have hu := hr.h66
  exact (sxs_cons (sx_for PassesOwn.never rfl (ix_seq (ex_call (ok_sites R) (hr.mono (by omega)) R.g_sites R.F_sites.kp R.bd_sites (ax_val (ex_var 0) (ax_val (ex_var 2) ax_nil)))) (gx_name 3 sc_missed.nd) (sxs_one (sx_if (tx_not (tx_tru (EX.rx (ex_call (ok_is_hit R) (hr.mono (by omega)) R.g_is_hit R.F_is_hit.kp R.bd_is_hit (ax_val (ex_var 1) (ax_val (ex_var 3) (ax_val (ex_var 2) ax_nil))))))) (sxs_one (sx_ret (ex_var 3))) sxs_nil))) (sxs_one (sx_ret (ex_cst pe_non fun _ _ => .non))))
theorem ok_fewest_pits (R : PR K mg) : FnOk P w K mg base CX0 1 R.f_fewest_pits R.fd_fewest_pits ["ground", "shape"] (spM K mg [.fro, .fro] .fro fm_fewest_pits) := by
  refine def_ok (k := 0) (Γr := [.fro, .fro, (.lst .fro), .fro, .fro]) (pin := []) R.F_fewest_pits sc_fewest_pits rfl rfl (pin_ok rfl) rfl fun cdv A outer s H E hr => ?_
  have h64 := hr.h64
  have h65 := hr.h65
  have hu := hr.h66
  exact (sxs_cons (sx_tgt (ex_var 1) (gx_tup (n := 2) rfl (gxs_cons (gx_name 2 sc_fewest_pits.nd) (gxs_cons (gx_name 3 sc_fewest_pits.nd) gxs_nil)) (by intro t h; exact pg_tup rfl h))) (sxs_cons (sx_set 4 sc_fewest_pits.nd (ex_lst fx_nil (by decide) len_nil)) (sxs_cons (sx_for PassesOwn.never rfl (ix_rng3 R.b_range (fx_cons (ex_cst pe_int fun _ _ => .int _) (fx_cons (EX.frz (ex_bin os_add (ex_bin os_sub (ex_ix is_ix (ex_var 0) (EX.rx (ex_cst pe_int fun _ _ => .int _))) (EX.rx (ex_var 2))) (EX.rx (ex_cst pe_int fun _ _ => .int _)))) (fx_cons (ex_var 2) fx_nil)))) (gx_name 5 sc_fewest_pits.nd) (sxs_one (sx_for PassesOwn.never rfl (ix_rng3 R.b_range (fx_cons (ex_cst pe_int fun _ _ => .int _) (fx_cons (EX.frz (ex_bin os_add (ex_bin os_sub (ex_ix is_ix (ex_var 0) (EX.rx (ex_cst pe_int fun _ _ => .int _))) (EX.rx (ex_var 3))) (EX.rx (ex_cst pe_int fun _ _ => .int _)))) (fx_cons (ex_var 3) fx_nil)))) (gx_name 6 sc_fewest_pits.nd) (sxs_one (sx_app 4 (ex_tup (fx_cons (ex_var 5) (fx_cons (ex_var 6) fx_nil)) (by decide) (len_cons (len_cons len_nil)))))))) (sxs_one (sx_ret (ex_tup (fx_cons (ex_callTy cs_tuple R.b_tuple (rxs_one (EX.rx (ex_lc rfl sc_fewest_pits.nd (lx_ofQ (own := [("x", 5), ("y", 6)]) (iq_seq (rx_var (sh := (.lst .fro)) 4)) (fun _ _ _ _ _ => (gx_tup (n := 2) rfl (gxs_cons (gx_name 5 sc_fewest_pits.nd) (gxs_cons (gx_name 6 sc_fewest_pits.nd) gxs_nil)) (by intro t h; exact pg_tup rfl h))) (fun _ _ _ _ _ => kx_nil) (fun _ _ _ _ _ => (ex_tup (fx_cons (ex_bin os_sub (EX.frz (ex_bin os_add (ex_var 5) (EX.rx (ex_var 2)))) (EX.rx (ex_cst pe_int fun _ _ => .int _))) (fx_cons (ex_bin os_sub (EX.frz (ex_bin os_add (ex_var 6) (EX.rx (ex_var 3)))) (EX.rx (ex_cst pe_int fun _ _ => .int _))) fx_nil)) (by decide) (len_cons (len_cons len_nil)))) (by decide) (fro_ok (vs := [5, 6]) rfl)) (blkOk_by (by rfl)))))) (fx_cons (ex_callTy cs_tuple R.b_tuple (rxs_one (rx_var (sh := (.lst .fro)) 4))) fx_nil)) (by decide) (len_cons (len_cons len_nil))))))))
theorem ok_share (R : PR K mg) : FnOk P w K mg base CX0 2 R.f_share R.fd_share ["ground", "pits", "shape"] (spM K mg [.fro, .fro, .fro] .fro fm_share) := by
  refine def_ok (k := 1) (Γr := [.fro, .fro]) (pin := []) R.F_share sc_share rfl rfl (pin_ok rfl) rfl fun cdv A outer s H E hr => ?_
  have h64 := hr.h64
  have h65 := hr.h65
  have hu := hr.h66
  exact (sxs_cons (sx_set 3 sc_share.nd (EX.frz (ex_call (ok_sites R) (hr.mono (by omega)) R.g_sites R.F_sites.kp R.bd_sites (ax_val (ex_var 0) (ax_val (ex_var 2) ax_nil))))) (sxs_cons (sx_if (tx_not (tx_tru (EX.rx (ex_var 3)))) (sxs_one (sx_ret (ex_tup (fx_cons (ex_cst pe_int fun _ _ => .int _) (fx_cons (ex_cst pe_int fun _ _ => .int _) fx_nil)) (by decide) (len_cons (len_cons len_nil))))) sxs_nil) (sxs_one (sx_ret (ex_call (ok_ratio R) (hr.mono (by omega)) R.g_ratio R.F_ratio.kp R.bd_ratio (ax_val (ex_callB cs_len R.b_len (rxs_one (EX.rx (ex_lc rfl sc_share.nd (lx_of (own := [("site", 4)]) (ix_seq (ex_var 3)) (fun _ _ _ _ _ => (gx_name 4 sc_share.nd)) (fun _ _ _ _ _ => (kx_one (tx_tru (EX.rx (ex_call (ok_is_hit R) (hr.mono (by omega)) R.g_is_hit R.F_is_hit.kp R.bd_is_hit (ax_val (ex_var 1) (ax_val (ex_var 4) (ax_val (ex_var 2) ax_nil)))))))) (fun _ _ _ _ _ => (ex_var 4)) (by decide) (fro_ok (vs := [4]) rfl)) (blkOk_by (by rfl)))))) (ax_val (ex_callB cs_len R.b_len (rxs_one (EX.rx (ex_var 3)))) ax_nil)))))))
theorem ok_next_pit (R : PR K mg) : FnOk P w K mg base CX0 2 R.f_next_pit R.fd_next_pit ["ground", "pits", "shape"] (spM K mg [.fro, .fro, .fro] .fro fm_next_pit) := by
  refine def_ok (k := 1) (Γr := [.fro, .fro, .fro, .fro, .fro, .fro]) (pin := []) R.F_next_pit sc_next_pit rfl rfl (pin_ok rfl) rfl fun cdv A outer s H E hr => ?_
  have h64 := hr.h64
  have h65 := hr.h65
  have hu := hr.h66
  exact (sxs_cons (sx_setLc 3 rfl sc_next_pit.nd (lx_of (own := [("site", 8)]) (ix_seq (ex_call (ok_sites R) (hr.mono (by omega)) R.g_sites R.F_sites.kp R.bd_sites (ax_val (ex_var 0) (ax_val (ex_var 2) ax_nil)))) (fun _ _ _ _ _ => (gx_name 8 sc_next_pit.nd)) (fun _ _ _ _ _ => (kx_one (tx_not (tx_tru (EX.rx (ex_call (ok_is_hit R) (hr.mono (by omega)) R.g_is_hit R.F_is_hit.kp R.bd_is_hit (ax_val (ex_var 1) (ax_val (ex_var 8) (ax_val (ex_var 2) ax_nil))))))))) (fun _ _ _ _ _ => (ex_var 8)) (by decide) (fro_ok (vs := [8]) rfl)) (blkOk_by (by rfl)) (hsw := sw_true rfl rfl rfl (by decide +kernel))) (sxs_cons (sx_set 4 sc_next_pit.nd (ex_cst pe_non fun _ _ => .non)) (sxs_cons (sx_for PassesOwn.never rfl (ix_rng1 R.b_range (fx_cons (ex_ix is_ix (ex_var 0) (EX.rx (ex_cst pe_int fun _ _ => .int _))) fx_nil)) (gx_name 5 sc_next_pit.nd) (sxs_one (sx_for PassesOwn.never rfl (ix_rng1 R.b_range (fx_cons (ex_ix is_ix (ex_var 0) (EX.rx (ex_cst pe_int fun _ _ => .int _))) fx_nil)) (gx_name 6 sc_next_pit.nd) (sxs_cons (sx_set 7 sc_next_pit.nd (ex_callB cs_len R.b_len (rxs_one (EX.rx (ex_lc rfl sc_next_pit.nd (lx_of (own := [("site", 8)]) (ix_seq (ex_var 3)) (fun _ _ _ _ _ => (gx_name 8 sc_next_pit.nd)) (fun _ _ _ _ _ => (kx_one (tx_tru (EX.rx (ex_call (ok_is_hit R) (hr.mono (by omega)) R.g_is_hit R.F_is_hit.kp R.bd_is_hit (ax_val (EX.frz (ex_lst (fx_cons (ex_tup (fx_cons (ex_var 5) (fx_cons (ex_var 6) fx_nil)) (by decide) (len_cons (len_cons len_nil))) fx_nil) (by decide) (len_cons len_nil))) (ax_val (ex_var 8) (ax_val (ex_var 2) ax_nil)))))))) (fun _ _ _ _ _ => (ex_var 8)) (by decide) (fro_ok (vs := [8]) rfl)) (blkOk_by (by rfl))))))) (sxs_one (sx_if (WX.tx (wx_and (tx_cmp os_gt (ex_var 7) (EX.rx (ex_cst pe_int fun _ _ => .int _))) (wx_and1 (WX.tx (wx_or (tx_cmp os_is (ex_var 4) (EX.rx (ex_cst pe_non fun _ _ => .non))) (wx_or1 (tx_cmp os_gt (ex_var 7) (EX.rx (ex_ix is_ix (ex_var 4) (EX.rx (ex_cst pe_int fun _ _ => .int _))))))))))) (sxs_one (sx_set 4 sc_next_pit.nd (ex_tup (fx_cons (ex_var 7) (fx_cons (ex_tup (fx_cons (ex_var 5) (fx_cons (ex_var 6) fx_nil)) (by decide) (len_cons (len_cons len_nil))) fx_nil)) (by decide) (len_cons (len_cons len_nil))))) sxs_nil)))))) (sxs_one (sx_ret (ex_if (tx_cmp os_is (ex_var 4) (EX.rx (ex_cst pe_non fun _ _ => .non))) (ex_cst pe_non fun _ _ => .non) (ex_ix is_ix (ex_var 4) (EX.rx (ex_cst pe_int fun _ _ => .int _)))))))))
theorem ok_plan (R : PR K mg) : FnOk P w K mg base CX0 3 R.f_plan R.fd_plan ["ground", "shape", "many"] (spM K mg [.fro, .fro, .fro] .fro fm_plan) := by
  refine def_ok (k := 2) (Γr := [.fro, .fro]) (pin := []) R.F_plan sc_plan rfl rfl (pin_ok rfl) rfl fun cdv A outer s H E hr => ?_
  have h64 := hr.h64
  have h65 := hr.h65
  have hu := hr.h66
  exact (sxs_cons (sx_set 3 sc_plan.nd (ex_tup fx_nil (by decide) len_nil)) (sxs_cons (sx_while 100000 PassesOwn.never (tx_cmp (os_lt h64) (ex_callB cs_len R.b_len (rxs_one (EX.rx (ex_var 3)))) (EX.rx (ex_var 2))) (sxs_cons (sx_set 4 sc_plan.nd (ex_call (ok_next_pit R) (hr.mono (by omega)) R.g_next_pit R.F_next_pit.kp R.bd_next_pit (ax_val (ex_var 0) (ax_val (ex_var 3) (ax_val (ex_var 1) ax_nil))))) (sxs_cons (sx_if (tx_cmp os_is (ex_var 4) (EX.rx (ex_cst pe_non fun _ _ => .non))) (sxs_one sx_break) sxs_nil) (sxs_one (sx_set 3 sc_plan.nd (EX.frz (ex_bin os_add (ex_var 3) (EX.rx (ex_tup (fx_cons (ex_var 4) fx_nil) (by decide) (len_cons len_nil)))))))))) (sxs_one (sx_ret (ex_var 3)))))
theorem ok_round_sites (R : PR K mg) : FnOk P w K mg base CX0 1 R.f_round_sites R.fd_round_sites ["ground", "r"] (spM K mg [.fro, .fro] (.lst .fro) fm_round_sites) := by
  refine def_ok (k := 0) (Γr := [(.lst .fro), .fro, .fro]) (pin := []) R.F_round_sites sc_round_sites rfl rfl (pin_ok rfl) rfl fun cdv A outer s H E hr => ?_
  have h64 := hr.h64
  have h65 := hr.h65
  have hu := hr.h66
  exact (sxs_cons (sx_set 2 sc_round_sites.nd (ex_lst fx_nil (by decide) len_nil)) (sxs_cons (sx_for PassesOwn.never rfl (ix_rng2 R.b_range (fx_cons (ex_var 1) (fx_cons (ex_bin os_sub (ex_ix is_ix (ex_var 0) (EX.rx (ex_cst pe_int fun _ _ => .int _))) (EX.rx (ex_var 1))) fx_nil))) (gx_name 3 sc_round_sites.nd) (sxs_one (sx_for PassesOwn.never rfl (ix_rng2 R.b_range (fx_cons (ex_var 1) (fx_cons (ex_bin os_sub (ex_ix is_ix (ex_var 0) (EX.rx (ex_cst pe_int fun _ _ => .int _))) (EX.rx (ex_var 1))) fx_nil))) (gx_name 4 sc_round_sites.nd) (sxs_one (sx_app 2 (ex_tup (fx_cons (ex_var 3) (fx_cons (ex_var 4) fx_nil)) (by decide) (len_cons (len_cons len_nil)))))))) (sxs_one (sx_ret (ex_mov (sh := (.lst .fro)) 2)))))
theorem ok_is_in_round (R : PR K mg) : FnOk P w K mg base CX0 1 R.f_is_in_round R.fd_is_in_round ["cell", "middle", "r"] (spM K mg [.fro, .fro, .fro] .fro fm_is_in_round) := by
  refine def_ok (k := 0) (Γr := [.fro, .fro]) (pin := []) R.F_is_in_round sc_is_in_round rfl rfl (pin_ok rfl) rfl fun cdv A outer s H E hr => ?_
  have h64 := hr.h64
  have h65 := hr.h65
  have hu := hr.h66
  exact (sxs_cons (sx_par 3 4 rfl sc_is_in_round.nd (ex_bin os_sub (ex_ix is_ix (ex_var 0) (EX.rx (ex_cst pe_int fun _ _ => .int _))) (EX.rx (ex_ix is_ix (ex_var 1) (EX.rx (ex_cst pe_int fun _ _ => .int _))))) (ex_bin os_sub (ex_ix is_ix (ex_var 0) (EX.rx (ex_cst pe_int fun _ _ => .int _))) (EX.rx (ex_ix is_ix (ex_var 1) (EX.rx (ex_cst pe_int fun _ _ => .int _)))))) (sxs_one (sx_ret (ex_cmp os_le (EX.frz (ex_bin os_add (ex_bin os_mulI (ex_var 3) (EX.rx (ex_var 3))) (EX.rx (ex_bin os_mulI (ex_var 4) (EX.rx (ex_var 4)))))) (EX.rx (ex_bin os_mulI (ex_var 2) (EX.rx (ex_var 2))))))))
theorem ok_missed_round (R : PR K mg) : FnOk P w K mg base CX0 2 R.f_missed_round R.fd_missed_round ["ground", "pits", "r"] (spM K mg [.fro, .fro, .fro] .fro fm_missed_round) := by
  refine def_ok (k := 1) (Γr := [.fro, .fro]) (pin := []) R.F_missed_round sc_missed_round rfl rfl (pin_ok rfl) rfl fun cdv A outer s H E hr => ?_
  have h64 := hr.h64
  have h65 := hr.h65
  have hu := hr.h66
  exact (sxs_cons (sx_for PassesOwn.never rfl (ix_seq (ex_call (ok_round_sites R) (hr.mono (by omega)) R.g_round_sites R.F_round_sites.kp R.bd_round_sites (ax_val (ex_var 0) (ax_val (ex_var 2) ax_nil)))) (gx_name 3 sc_missed_round.nd) (sxs_one (sx_if (tx_not (tx_tru (EX.rx (ex_callB (cs_any rfl) R.b_any (rxs_one (EX.rx (ex_lc rfl sc_missed_round.nd (lx_of (own := [("pit", 4)]) (ix_seq (ex_var 1)) (fun _ _ _ _ _ => (gx_name 4 sc_missed_round.nd)) (fun _ _ _ _ _ => kx_nil) (fun _ _ _ _ _ => (ex_call (ok_is_in_round R) (hr.mono (by omega)) R.g_is_in_round R.F_is_in_round.kp R.bd_is_in_round (ax_val (ex_var 4) (ax_val (ex_var 3) (ax_val (ex_var 2) ax_nil))))) (by decide) (fro_ok (vs := [4]) rfl)) (blkOk_by (by rfl))))))))) (sxs_one (sx_ret (ex_var 3))) sxs_nil))) (sxs_one (sx_ret (ex_cst pe_non fun _ _ => .non))))
theorem ok_widest_missed (R : PR K mg) : FnOk P w K mg base CX0 3 R.f_widest_missed R.fd_widest_missed ["ground", "pits"] (spM K mg [.fro, .fro] .fro fm_widest_missed) := by
  refine def_ok (k := 2) (Γr := [.fro]) (pin := []) R.F_widest_missed sc_widest_missed rfl rfl (pin_ok rfl) rfl fun cdv A outer s H E hr => ?_
  have h64 := hr.h64
  have h65 := hr.h65
  have hu := hr.h66
  exact (sxs_cons (sx_for PassesOwn.never rfl (ix_rng3 R.b_range (fx_cons (ex_cst pe_int fun _ _ => .int _) (fx_cons (ex_neg (EX.rx (ex_cst pe_int fun _ _ => .int _))) (fx_cons (ex_neg (EX.rx (ex_cst pe_int fun _ _ => .int _))) fx_nil)))) (gx_name 2 sc_widest_missed.nd) (sxs_one (sx_if (tx_cmp os_isnot (ex_call (ok_missed_round R) (hr.mono (by omega)) R.g_missed_round R.F_missed_round.kp R.bd_missed_round (ax_val (ex_var 0) (ax_val (ex_var 1) (ax_val (ex_var 2) ax_nil)))) (EX.rx (ex_cst pe_non fun _ _ => .non))) (sxs_one (sx_ret (ex_var 2))) sxs_nil))) (sxs_one (sx_ret (ex_cst pe_non fun _ _ => .non))))
theorem ok__law_draw (R : PR K mg) : FnOk P w K mg base CX0 1 R.f__law_draw R.fd__law_draw ["script"] (spM K mg [.scr] (.lst .fro) fm__law_draw) := by
  refine def_ok (k := 0) (Γr := []) (pin := []) R.F__law_draw sc__law_draw rfl rfl (pin_ok rfl) rfl fun cdv A outer s H E hr => ?_
  have h64 := hr.h64
  have h65 := hr.h65
  have hu := hr.h66
  exact (sxs_one (sx_ret (ex_lst (fx_cons (EX.frz (ex_listS (ex_scr 0) R.b_list)) (fx_cons (ex_cst pe_int fun _ _ => .int _) (fx_cons (ex_cst pe_int fun _ _ => .int _) (fx_cons (ex_cst pe_int fun _ _ => .int _) fx_nil)))) (by decide) (len_cons (len_cons (len_cons (len_cons len_nil)))))))
theorem ok__law_next (R : PR K mg) : FnOk P w K mg base CX0 1 R.f__law_next R.fd__law_next ["draw", "many"] (spM K mg [(.lst .fro), .fro] .fro fm__law_next) := by
  refine def_ok (k := 0) (Γr := [.fro, .fro]) (pin := [0]) R.F__law_next sc__law_next rfl rfl (pin_ok rfl) rfl fun cdv A outer s H E hr => ?_
  have h64 := hr.h64
  have h65 := hr.h65
  have hu := hr.h66
  exact (sxs_cons (sx_if (tx_cmp os_gt (ex_ixQ is_ix (rx_var (sh := (.lst .fro)) 0) (EX.rx (ex_cst pe_int fun _ _ => .int _))) (EX.rx (ex_cst pe_int fun _ _ => .int _))) (sxs_cons (sx_set 2 sc__law_next.nd (ex_bin os_mod (ex_callTy cs_int R.b_int (rxs_one (EX.rx (ex_ixQ is_ix (rx_var (sh := (.lst .fro)) 0) (EX.rx (ex_cst pe_int fun _ _ => .int _)))))) (EX.rx (ex_var 1)))) (sxs_cons (sx_put 0 (ex_bin os_fdiv (ex_ixQ is_ix (rx_var (sh := (.lst .fro)) 0) (EX.rx (ex_cst pe_int fun _ _ => .int _))) (EX.rx (ex_var 1))) (ex_cst pe_int fun _ _ => .int _)) (sxs_one (sx_ret (ex_var 2))))) sxs_nil) (sxs_cons (sx_if (tx_cmp (os_lt h64) (ex_ixQ is_ix (rx_var (sh := (.lst .fro)) 0) (EX.rx (ex_cst pe_int fun _ _ => .int _))) (EX.rx (ex_callB cs_len R.b_len (rxs_one (EX.rx (ex_ixQ is_ix (rx_var (sh := (.lst .fro)) 0) (EX.rx (ex_cst pe_int fun _ _ => .int _)))))))) (sxs_cons (sx_set 3 sc__law_next.nd (ex_callB cs_abs R.b_abs (rxs_one (EX.rx (ex_ix is_ix (ex_ixQ is_ix (rx_var (sh := (.lst .fro)) 0) (EX.rx (ex_cst pe_int fun _ _ => .int _))) (EX.rx (ex_ixQ is_ix (rx_var (sh := (.lst .fro)) 0) (EX.rx (ex_cst pe_int fun _ _ => .int _))))))))) (sxs_cons (sx_put 0 (EX.frz (ex_bin os_add (ex_ixQ is_ix (rx_var (sh := (.lst .fro)) 0) (EX.rx (ex_cst pe_int fun _ _ => .int _))) (EX.rx (ex_cst pe_int fun _ _ => .int _)))) (ex_cst pe_int fun _ _ => .int _)) (sxs_cons (sx_if (tx_cmp os_ge (ex_var 3) (EX.rx (ex_bin os_pow (ex_cst pe_int fun _ _ => .int _) (EX.rx (ex_cst pe_int fun _ _ => .int _))))) (sxs_cons (sx_put 0 (ex_bin os_fdiv (ex_var 3) (EX.rx (ex_var 1))) (ex_cst pe_int fun _ _ => .int _)) (sxs_one (sx_ret (ex_bin os_mod (ex_callTy cs_int R.b_int (rxs_one (EX.rx (ex_var 3)))) (EX.rx (ex_var 1)))))) sxs_nil) (sxs_one (sx_put 0 (ex_bin os_mod (ex_callTy cs_int R.b_int (rxs_one (EX.rx (ex_bin os_add (EX.frz (ex_bin os_add (ex_bin os_mulI (ex_ixQ is_ix (rx_var (sh := (.lst .fro)) 0) (EX.rx (ex_cst pe_int fun _ _ => .int _))) (EX.rx (ex_cst pe_int fun _ _ => .int _))) (EX.rx (ex_var 3)))) (EX.rx (ex_cst pe_int fun _ _ => .int _)))))) (EX.rx (ex_cst pe_int fun _ _ => .int _))) (ex_cst pe_int fun _ _ => .int _)))))) (sxs_one (sx_put 0 (ex_bin os_mod (ex_callTy cs_int R.b_int (rxs_one (EX.rx (ex_bin os_add (ex_bin os_mulI (ex_ixQ is_ix (rx_var (sh := (.lst .fro)) 0) (EX.rx (ex_cst pe_int fun _ _ => .int _))) (EX.rx (ex_cst pe_int fun _ _ => .int _))) (EX.rx (ex_cst pe_int fun _ _ => .int _)))))) (EX.rx (ex_cst pe_int fun _ _ => .int _))) (ex_cst pe_int fun _ _ => .int _)))) (sxs_one (sx_ret (ex_bin os_mod (ex_bin os_fdiv (ex_callTy cs_int R.b_int (rxs_one (EX.rx (ex_bin os_mod (ex_bin os_mulI (ex_ixQ is_ix (rx_var (sh := (.lst .fro)) 0) (EX.rx (ex_cst pe_int fun _ _ => .int _))) (EX.rx (ex_cst pe_int fun _ _ => .int _))) (EX.rx (ex_cst pe_int fun _ _ => .int _)))))) (EX.rx (ex_cst pe_int fun _ _ => .int _))) (EX.rx (ex_var 1)))))))
theorem ok__law_same (R : PR K mg) : ∀ k : Nat, FnOk P w K mg base CX0 (1 + k) R.f__law_same R.fd__law_same ["actual", "due"] (spM K mg [.fro, .fro] .fro (fm__law_same k))
  | 0 => fn_none rfl
  | k + 1 => by
    have FR := ok__law_same R k
    refine def_ok (k := 1 + k) (Γr := [.fro]) (pin := []) R.F__law_same sc__law_same rfl rfl (pin_ok rfl) rfl fun cdv A outer s H E hr => ?_
    have h64 := hr.h64
    have h65 := hr.h65
    have hu := hr.h66
    exact (sxs_cons (sx_if (tx_tru (EX.rx (ex_isi2 (EX.rx (ex_var 1)) isi_list isi_tuple R.b_isinstance R.b_list R.b_tuple))) (sxs_cons (sx_if (WX.tx (wx_or (tx_cmp (os_ne h64) (ex_isi1 (EX.rx (ex_var 1)) isi_list R.b_isinstance R.b_list) (EX.rx (ex_isi1 (EX.rx (ex_var 0)) isi_list R.b_isinstance R.b_list))) (wx_or1 (tx_cmp (os_ne h64) (ex_isi1 (EX.rx (ex_var 1)) isi_tuple R.b_isinstance R.b_tuple) (EX.rx (ex_isi1 (EX.rx (ex_var 0)) isi_tuple R.b_isinstance R.b_tuple)))))) (sxs_one (sx_ret (ex_cst pe_bl fun _ _ => .bl _))) sxs_nil) (sxs_cons (sx_if (tx_cmp (os_ne h64) (ex_callB cs_len R.b_len (rxs_one (EX.rx (ex_var 0)))) (EX.rx (ex_callB cs_len R.b_len (rxs_one (EX.rx (ex_var 1)))))) (sxs_one (sx_ret (ex_cst pe_bl fun _ _ => .bl _))) sxs_nil) (sxs_one (sx_ret (ex_callB (cs_all rfl) R.b_all (rxs_one (EX.rx (ex_lc rfl sc__law_same.nd (lx_of (own := [("k", 2)]) (ix_rng1 R.b_range (fx_cons (ex_callB cs_len R.b_len (rxs_one (EX.rx (ex_var 1)))) fx_nil)) (fun _ _ _ _ _ => (gx_name 2 sc__law_same.nd)) (fun _ _ _ _ _ => kx_nil) (fun _ _ _ _ _ => (ex_call FR (hr.mono (by omega)) R.g__law_same R.F__law_same.kp R.bd__law_same (ax_val (ex_ix is_ix (ex_var 0) (EX.rx (ex_var 2))) (ax_val (ex_ix is_ix (ex_var 1) (EX.rx (ex_var 2))) ax_nil)))) (by decide) (fro_ok (vs := [2]) rfl)) (blkOk_by (by rfl)))))))))) sxs_nil) (sxs_cons (sx_if (tx_cmp os_is (ex_var 1) (EX.rx (ex_cst pe_non fun _ _ => .non))) (sxs_one (sx_ret (ex_cmp os_is (ex_var 0) (EX.rx (ex_cst pe_non fun _ _ => .non))))) sxs_nil) (sxs_cons (sx_if (tx_cmp (os_ne h64) (ex_isi1 (EX.rx (ex_var 1)) isi_bool R.b_isinstance R.b_bool) (EX.rx (ex_isi1 (EX.rx (ex_var 0)) isi_bool R.b_isinstance R.b_bool))) (sxs_one (sx_ret (ex_cst pe_bl fun _ _ => .bl _))) sxs_nil) (sxs_cons (sx_if (tx_tru (EX.rx (ex_isi1 (EX.rx (ex_var 1)) isi_str R.b_isinstance R.b_str))) (sxs_one (sx_ret (ex_and (ex_isi1 (EX.rx (ex_var 0)) isi_str R.b_isinstance R.b_str) (ex_one (ex_cmp (os_eq h64) (ex_var 0) (EX.rx (ex_var 1))))))) sxs_nil) (sxs_one (sx_ret (ex_and (ex_isi1 (EX.rx (ex_var 0)) isi_int R.b_isinstance R.b_int) (ex_one (ex_cmp (os_eq h64) (ex_var 0) (EX.rx (ex_var 1)))))))))))
theorem ok__law_low (R : PR K mg) : FnOk P w K mg base CX0 1 R.f__law_low R.fd__law_low ["number", "by"] (spM K mg [.fro, .fro] .fro fm__law_low) := by
  refine def_ok (k := 0) (Γr := [.fro, .fro]) (pin := []) R.F__law_low sc__law_low rfl rfl (pin_ok rfl) rfl fun cdv A outer s H E hr => ?_
  have h64 := hr.h64
  have h65 := hr.h65
  have hu := hr.h66
  exact (sxs_cons (sx_if (tx_cmp (os_lt h64) (ex_var 1) (EX.rx (ex_cst pe_int fun _ _ => .int _))) (sxs_one (sx_par 0 1 rfl sc__law_low.nd (ex_bin os_sub (ex_cst pe_int fun _ _ => .int _) (EX.rx (ex_var 0))) (ex_bin os_sub (ex_cst pe_int fun _ _ => .int _) (EX.rx (ex_var 1))))) sxs_nil) (sxs_cons (sx_par 2 3 rfl sc__law_low.nd (ex_callB cs_abs R.b_abs (rxs_one (EX.rx (ex_var 0)))) (ex_var 1)) (sxs_cons (sx_while 100000 PassesOwn.never (tx_cmp os_gt (ex_var 3) (EX.rx (ex_cst pe_int fun _ _ => .int _))) (sxs_one (sx_par 2 3 rfl sc__law_low.nd (ex_var 3) (ex_bin os_mod (ex_var 2) (EX.rx (ex_var 3)))))) (sxs_one (sx_ret (ex_tup (fx_cons (ex_bin os_fdiv (ex_var 0) (EX.rx (ex_var 2))) (fx_cons (ex_bin os_fdiv (ex_var 1) (EX.rx (ex_var 2))) fx_nil)) (by decide) (len_cons (len_cons len_nil))))))))
theorem ok__law_add (R : PR K mg) : FnOk P w K mg base CX0 2 R.f__law_add R.fd__law_add ["one", "two"] (spM K mg [.fro, .fro] .fro fm__law_add) := by
  refine def_ok (k := 1) (Γr := []) (pin := []) R.F__law_add sc__law_add rfl rfl (pin_ok rfl) rfl fun cdv A outer s H E hr => ?_
  have h64 := hr.h64
  have h65 := hr.h65
  have hu := hr.h66
  exact (sxs_one (sx_ret (ex_call (ok__law_low R) (hr.mono (by omega)) R.g__law_low R.F__law_low.kp R.bd__law_low (ax_val (EX.frz (ex_bin os_add (ex_bin os_mulI (ex_ix is_ix (ex_var 0) (EX.rx (ex_cst pe_int fun _ _ => .int _))) (EX.rx (ex_ix is_ix (ex_var 1) (EX.rx (ex_cst pe_int fun _ _ => .int _))))) (EX.rx (ex_bin os_mulI (ex_ix is_ix (ex_var 1) (EX.rx (ex_cst pe_int fun _ _ => .int _))) (EX.rx (ex_ix is_ix (ex_var 0) (EX.rx (ex_cst pe_int fun _ _ => .int _)))))))) (ax_val (ex_bin os_mulI (ex_ix is_ix (ex_var 0) (EX.rx (ex_cst pe_int fun _ _ => .int _))) (EX.rx (ex_ix is_ix (ex_var 1) (EX.rx (ex_cst pe_int fun _ _ => .int _))))) ax_nil)))))
theorem ok__law_less_by (R : PR K mg) : FnOk P w K mg base CX0 2 R.f__law_less_by R.fd__law_less_by ["one", "two"] (spM K mg [.fro, .fro] .fro fm__law_less_by) := by
  refine def_ok (k := 1) (Γr := []) (pin := []) R.F__law_less_by sc__law_less_by rfl rfl (pin_ok rfl) rfl fun cdv A outer s H E hr => ?_
  have h64 := hr.h64
  have h65 := hr.h65
  have hu := hr.h66
  exact (sxs_one (sx_ret (ex_call (ok__law_low R) (hr.mono (by omega)) R.g__law_low R.F__law_low.kp R.bd__law_low (ax_val (ex_bin os_sub (ex_bin os_mulI (ex_ix is_ix (ex_var 0) (EX.rx (ex_cst pe_int fun _ _ => .int _))) (EX.rx (ex_ix is_ix (ex_var 1) (EX.rx (ex_cst pe_int fun _ _ => .int _))))) (EX.rx (ex_bin os_mulI (ex_ix is_ix (ex_var 1) (EX.rx (ex_cst pe_int fun _ _ => .int _))) (EX.rx (ex_ix is_ix (ex_var 0) (EX.rx (ex_cst pe_int fun _ _ => .int _))))))) (ax_val (ex_bin os_mulI (ex_ix is_ix (ex_var 0) (EX.rx (ex_cst pe_int fun _ _ => .int _))) (EX.rx (ex_ix is_ix (ex_var 1) (EX.rx (ex_cst pe_int fun _ _ => .int _))))) ax_nil)))))
theorem ok__law_times (R : PR K mg) : FnOk P w K mg base CX0 2 R.f__law_times R.fd__law_times ["one", "two"] (spM K mg [.fro, .fro] .fro fm__law_times) := by
  refine def_ok (k := 1) (Γr := []) (pin := []) R.F__law_times sc__law_times rfl rfl (pin_ok rfl) rfl fun cdv A outer s H E hr => ?_
  have h64 := hr.h64
  have h65 := hr.h65
  have hu := hr.h66
  exact (sxs_one (sx_ret (ex_call (ok__law_low R) (hr.mono (by omega)) R.g__law_low R.F__law_low.kp R.bd__law_low (ax_val (ex_bin os_mulI (ex_ix is_ix (ex_var 0) (EX.rx (ex_cst pe_int fun _ _ => .int _))) (EX.rx (ex_ix is_ix (ex_var 1) (EX.rx (ex_cst pe_int fun _ _ => .int _))))) (ax_val (ex_bin os_mulI (ex_ix is_ix (ex_var 0) (EX.rx (ex_cst pe_int fun _ _ => .int _))) (EX.rx (ex_ix is_ix (ex_var 1) (EX.rx (ex_cst pe_int fun _ _ => .int _))))) ax_nil)))))
theorem ok__law_below (R : PR K mg) : FnOk P w K mg base CX0 1 R.f__law_below R.fd__law_below ["one", "two"] (spM K mg [.fro, .fro] .fro fm__law_below) := by
  refine def_ok (k := 0) (Γr := []) (pin := []) R.F__law_below sc__law_below rfl rfl (pin_ok rfl) rfl fun cdv A outer s H E hr => ?_
  have h64 := hr.h64
  have h65 := hr.h65
  have hu := hr.h66
  exact (sxs_one (sx_ret (ex_cmp (os_lt h64) (ex_bin os_mulI (ex_ix is_ix (ex_var 0) (EX.rx (ex_cst pe_int fun _ _ => .int _))) (EX.rx (ex_ix is_ix (ex_var 1) (EX.rx (ex_cst pe_int fun _ _ => .int _))))) (EX.rx (ex_bin os_mulI (ex_ix is_ix (ex_var 1) (EX.rx (ex_cst pe_int fun _ _ => .int _))) (EX.rx (ex_ix is_ix (ex_var 0) (EX.rx (ex_cst pe_int fun _ _ => .int _)))))))))
theorem ok__law_sum (R : PR K mg) : FnOk P w K mg base CX0 3 R.f__law_sum R.fd__law_sum ["values"] (spM K mg [.fro] .fro fm__law_sum) := by
  refine def_ok (k := 2) (Γr := [.fro, .fro]) (pin := []) R.F__law_sum sc__law_sum rfl rfl (pin_ok rfl) rfl fun cdv A outer s H E hr => ?_
  have h64 := hr.h64
  have h65 := hr.h65
  have hu := hr.h66
  exact (sxs_cons (sx_set 1 sc__law_sum.nd (ex_tup (fx_cons (ex_cst pe_int fun _ _ => .int _) (fx_cons (ex_cst pe_int fun _ _ => .int _) fx_nil)) (by decide) (len_cons (len_cons len_nil)))) (sxs_cons (sx_for PassesOwn.never rfl (ix_seq (ex_var 0)) (gx_name 2 sc__law_sum.nd) (sxs_one (sx_set 1 sc__law_sum.nd (ex_call (ok__law_add R) (hr.mono (by omega)) R.g__law_add R.F__law_add.kp R.bd__law_add (ax_val (ex_var 1) (ax_val (ex_var 2) ax_nil)))))) (sxs_one (sx_ret (ex_var 1)))))
theorem ok_law (R : PR K mg) : FnOk P w K mg base CX0 8 R.f_law R.fd_law ["script"] (spM K mg [.scr] .fro fm_law) := by
  refine def_ok (k := 7) (Γr := [(.lst .fro), .fro, .fro, .fro, .fro, .fro, .fro, .fro, .fro, .fro, .fro, .fro, .fro, .fro, .fro, .fro, .fro, .fro, .fro, .fro, .fro]) (pin := []) R.F_law sc_law rfl rfl (pin_ok rfl) rfl fun cdv A outer s H E hr => ?_
  have h64 := hr.h64
  have h65 := hr.h65
  have hu := hr.h66
  exact (sxs_cons (sx_set 1 sc_law.nd (ex_call (ok__law_draw R) (hr.mono (by omega)) R.g__law_draw R.F__law_draw.kp R.bd__law_draw (ax_val (ex_scr 0) ax_nil))) (sxs_cons (sx_set 2 sc_law.nd (EX.frz (ex_bin os_add (ex_cst pe_int fun _ _ => .int _) (EX.rx (ex_call (ok__law_next R) (hr.mono (by omega)) R.g__law_next R.F__law_next.kp R.bd__law_next (ax_lent (sh := (.lst .fro)) 1 (ax_val (ex_cst pe_int fun _ _ => .int _) ax_nil))))))) (sxs_cons (sx_tgt (ex_tup (fx_cons (ex_call (ok__law_next R) (hr.mono (by omega)) R.g__law_next R.F__law_next.kp R.bd__law_next (ax_lent (sh := (.lst .fro)) 1 (ax_val (EX.frz (ex_bin os_add (ex_var 2) (EX.rx (ex_cst pe_int fun _ _ => .int _)))) ax_nil))) (fx_cons (ex_call (ok__law_next R) (hr.mono (by omega)) R.g__law_next R.F__law_next.kp R.bd__law_next (ax_lent (sh := (.lst .fro)) 1 (ax_val (EX.frz (ex_bin os_add (ex_var 2) (EX.rx (ex_cst pe_int fun _ _ => .int _)))) ax_nil))) fx_nil)) (by decide) (len_cons (len_cons len_nil))) (gx_tup (n := 2) rfl (gxs_cons (gx_name 3 sc_law.nd) (gxs_cons (gx_name 4 sc_law.nd) gxs_nil)) (by intro t h; exact pg_tup rfl h))) (sxs_cons (sx_set 5 sc_law.nd (EX.frz (ex_lc rfl sc_law.nd (lx_of (own := [("found", 6)]) (ix_rng1 R.b_range (fx_cons (EX.frz (ex_bin os_add (ex_var 4) (EX.rx (ex_cst pe_int fun _ _ => .int _)))) fx_nil)) (fun _ _ _ _ _ => (gx_name 6 sc_law.nd)) (fun _ _ _ _ _ => kx_nil) (fun _ _ _ _ _ => (ex_call (ok_chance R) (hr.mono (by omega)) R.g_chance R.F_chance.kp R.bd_chance (ax_val (ex_var 2) (ax_val (ex_var 3) (ax_val (ex_var 4) (ax_val (ex_var 6) ax_nil)))))) (by decide) (fro_ok (vs := [6]) rfl)) (blkOk_by (by rfl))))) (sxs_cons (sx_if (tx_cmp (os_ne h64) (ex_call (ok__law_sum R) (hr.mono (by omega)) R.g__law_sum R.F__law_sum.kp R.bd__law_sum (ax_val (ex_var 5) ax_nil)) (EX.rx (ex_tup (fx_cons (ex_cst pe_int fun _ _ => .int _) (fx_cons (ex_cst pe_int fun _ _ => .int _) fx_nil)) (by decide) (len_cons (len_cons len_nil))))) (sxs_one (sx_ret (ex_cst pe_bl fun _ _ => .bl _))) sxs_nil) (sxs_cons (sx_for PassesOwn.never rfl (ix_rng1 R.b_range (fx_cons (EX.frz (ex_bin os_add (ex_callB (cs_min rfl) R.b_min (rxs_cons (ex_var 3) (rxs_one (EX.rx (ex_var 4))))) (EX.rx (ex_cst pe_int fun _ _ => .int _)))) fx_nil)) (gx_name 6 sc_law.nd) (sxs_one (sx_if (WX.tx (wx_or (tx_not (tx_tru (EX.rx (ex_call (ok__law_same R 6) (hr.mono (by omega)) R.g__law_same R.F__law_same.kp R.bd__law_same (ax_val (ex_call (ok_chance R) (hr.mono (by omega)) R.g_chance R.F_chance.kp R.bd_chance (ax_val (ex_var 2) (ax_val (ex_var 4) (ax_val (ex_var 3) (ax_val (ex_var 6) ax_nil))))) (ax_val (ex_ix is_ix (ex_var 5) (EX.rx (ex_var 6))) ax_nil)))))) (wx_or1 (tx_not (tx_tru (EX.rx (ex_call (ok__law_same R 6) (hr.mono (by omega)) R.g__law_same R.F__law_same.kp R.bd__law_same (ax_val (ex_call (ok_chance R) (hr.mono (by omega)) R.g_chance R.F_chance.kp R.bd_chance (ax_val (ex_var 2) (ax_val (ex_bin os_sub (ex_var 2) (EX.rx (ex_var 3))) (ax_val (ex_var 4) (ax_val (ex_bin os_sub (ex_var 4) (EX.rx (ex_var 6))) ax_nil))))) (ax_val (ex_ix is_ix (ex_var 5) (EX.rx (ex_var 6))) ax_nil))))))))) (sxs_one (sx_ret (ex_cst pe_bl fun _ _ => .bl _))) sxs_nil))) (sxs_cons (sx_set 7 sc_law.nd (ex_call (ok__law_sum R) (hr.mono (by omega)) R.g__law_sum R.F__law_sum.kp R.bd__law_sum (ax_val (EX.frz (ex_lc rfl sc_law.nd (lx_of (own := [("found", 6)]) (ix_rng1 R.b_range (fx_cons (EX.frz (ex_bin os_add (ex_var 4) (EX.rx (ex_cst pe_int fun _ _ => .int _)))) fx_nil)) (fun _ _ _ _ _ => (gx_name 6 sc_law.nd)) (fun _ _ _ _ _ => kx_nil) (fun _ _ _ _ _ => (ex_call (ok__law_times R) (hr.mono (by omega)) R.g__law_times R.F__law_times.kp R.bd__law_times (ax_val (ex_tup (fx_cons (ex_var 6) (fx_cons (ex_cst pe_int fun _ _ => .int _) fx_nil)) (by decide) (len_cons (len_cons len_nil))) (ax_val (ex_ix is_ix (ex_var 5) (EX.rx (ex_var 6))) ax_nil)))) (by decide) (fro_ok (vs := [6]) rfl)) (blkOk_by (by rfl)))) ax_nil))) (sxs_cons (sx_if (tx_cmp (os_ne h64) (ex_var 7) (EX.rx (ex_call (ok__law_low R) (hr.mono (by omega)) R.g__law_low R.F__law_low.kp R.bd__law_low (ax_val (ex_bin os_mulI (ex_var 3) (EX.rx (ex_var 4))) (ax_val (ex_var 2) ax_nil))))) (sxs_one (sx_ret (ex_cst pe_bl fun _ _ => .bl _))) sxs_nil) (sxs_cons (sx_set 8 sc_law.nd (ex_call (ok__law_low R) (hr.mono (by omega)) R.g__law_low R.F__law_low.kp R.bd__law_low (ax_val (EX.frz (ex_bin os_add (ex_cst pe_int fun _ _ => .int _) (EX.rx (ex_call (ok__law_next R) (hr.mono (by omega)) R.g__law_next R.F__law_next.kp R.bd__law_next (ax_lent (sh := (.lst .fro)) 1 (ax_val (ex_cst pe_int fun _ _ => .int _) ax_nil)))))) (ax_val (ex_cst pe_int fun _ _ => .int _) ax_nil)))) (sxs_cons (sx_if (tx_cmp os_gt (ex_var 3) (EX.rx (ex_cst pe_int fun _ _ => .int _))) (sxs_cons (sx_set 9 sc_law.nd (ex_call (ok_enough R) (hr.mono (by omega)) R.g_enough R.F_enough.kp R.bd_enough (ax_val (ex_var 2) (ax_val (ex_var 3) (ax_val (ex_var 8) ax_nil))))) (sxs_cons (sx_if (WX.tx (wx_or (tx_tru (EX.rx (ex_call (ok__law_below R) (hr.mono (by omega)) R.g__law_below R.F__law_below.kp R.bd__law_below (ax_val (ex_call (ok__law_less_by R) (hr.mono (by omega)) R.g__law_less_by R.F__law_less_by.kp R.bd__law_less_by (ax_val (ex_tup (fx_cons (ex_cst pe_int fun _ _ => .int _) (fx_cons (ex_cst pe_int fun _ _ => .int _) fx_nil)) (by decide) (len_cons (len_cons len_nil))) (ax_val (ex_call (ok_chance R) (hr.mono (by omega)) R.g_chance R.F_chance.kp R.bd_chance (ax_val (ex_var 2) (ax_val (ex_var 3) (ax_val (ex_var 9) (ax_val (ex_cst pe_int fun _ _ => .int _) ax_nil))))) ax_nil))) (ax_val (ex_var 8) ax_nil))))) (wx_or1 (WX.tx (wx_and (tx_cmp os_gt (ex_var 9) (EX.rx (ex_cst pe_int fun _ _ => .int _))) (wx_and1 (tx_not (tx_tru (EX.rx (ex_call (ok__law_below R) (hr.mono (by omega)) R.g__law_below R.F__law_below.kp R.bd__law_below (ax_val (ex_call (ok__law_less_by R) (hr.mono (by omega)) R.g__law_less_by R.F__law_less_by.kp R.bd__law_less_by (ax_val (ex_tup (fx_cons (ex_cst pe_int fun _ _ => .int _) (fx_cons (ex_cst pe_int fun _ _ => .int _) fx_nil)) (by decide) (len_cons (len_cons len_nil))) (ax_val (ex_call (ok_chance R) (hr.mono (by omega)) R.g_chance R.F_chance.kp R.bd_chance (ax_val (ex_var 2) (ax_val (ex_var 3) (ax_val (ex_bin os_sub (ex_var 9) (EX.rx (ex_cst pe_int fun _ _ => .int _))) (ax_val (ex_cst pe_int fun _ _ => .int _) ax_nil))))) ax_nil))) (ax_val (ex_var 8) ax_nil)))))))))))) (sxs_one (sx_ret (ex_cst pe_bl fun _ _ => .bl _))) sxs_nil) (sxs_one (sx_if (WX.tx (wx_and (tx_cmp (os_lt h64) (ex_var 3) (EX.rx (ex_var 2))) (wx_and1 (tx_cmp os_gt (ex_call (ok_enough R) (hr.mono (by omega)) R.g_enough R.F_enough.kp R.bd_enough (ax_val (ex_var 2) (ax_val (EX.frz (ex_bin os_add (ex_var 3) (EX.rx (ex_cst pe_int fun _ _ => .int _)))) (ax_val (ex_var 8) ax_nil)))) (EX.rx (ex_var 9)))))) (sxs_one (sx_ret (ex_cst pe_bl fun _ _ => .bl _))) sxs_nil)))) sxs_nil) (sxs_cons (sx_set 6 sc_law.nd (ex_call (ok__law_next R) (hr.mono (by omega)) R.g__law_next R.F__law_next.kp R.bd__law_next (ax_lent (sh := (.lst .fro)) 1 (ax_val (EX.frz (ex_bin os_add (ex_var 4) (EX.rx (ex_cst pe_int fun _ _ => .int _)))) ax_nil)))) (sxs_cons (sx_set 10 sc_law.nd (ex_call (ok_fitting R) (hr.mono (by omega)) R.g_fitting R.F_fitting.kp R.bd_fitting (ax_val (ex_var 2) (ax_val (ex_var 4) (ax_val (ex_var 6) (ax_val (ex_tup (fx_cons (ex_cst pe_int fun _ _ => .int _) (fx_cons (ex_cst pe_int fun _ _ => .int _) fx_nil)) (by decide) (len_cons (len_cons len_nil))) ax_nil)))))) (sxs_cons (sx_if (tx_cmp (os_ne h64) (ex_var 10) (EX.rx (ex_tup (fx_cons (ex_var 6) (fx_cons (EX.frz (ex_bin os_add (ex_bin os_sub (ex_var 2) (EX.rx (ex_var 4))) (EX.rx (ex_var 6)))) fx_nil)) (by decide) (len_cons (len_cons len_nil))))) (sxs_one (sx_ret (ex_cst pe_bl fun _ _ => .bl _))) sxs_nil) (sxs_cons (sx_tgt (ex_tup (fx_cons (ex_tup (fx_cons (EX.frz (ex_bin os_add (ex_cst pe_int fun _ _ => .int _) (EX.rx (ex_call (ok__law_next R) (hr.mono (by omega)) R.g__law_next R.F__law_next.kp R.bd__law_next (ax_lent (sh := (.lst .fro)) 1 (ax_val (ex_cst pe_int fun _ _ => .int _) ax_nil)))))) (fx_cons (EX.frz (ex_bin os_add (ex_cst pe_int fun _ _ => .int _) (EX.rx (ex_call (ok__law_next R) (hr.mono (by omega)) R.g__law_next R.F__law_next.kp R.bd__law_next (ax_lent (sh := (.lst .fro)) 1 (ax_val (ex_cst pe_int fun _ _ => .int _) ax_nil)))))) fx_nil)) (by decide) (len_cons (len_cons len_nil))) (fx_cons (ex_tup (fx_cons (EX.frz (ex_bin os_add (ex_cst pe_int fun _ _ => .int _) (EX.rx (ex_call (ok__law_next R) (hr.mono (by omega)) R.g__law_next R.F__law_next.kp R.bd__law_next (ax_lent (sh := (.lst .fro)) 1 (ax_val (ex_cst pe_int fun _ _ => .int _) ax_nil)))))) (fx_cons (EX.frz (ex_bin os_add (ex_cst pe_int fun _ _ => .int _) (EX.rx (ex_call (ok__law_next R) (hr.mono (by omega)) R.g__law_next R.F__law_next.kp R.bd__law_next (ax_lent (sh := (.lst .fro)) 1 (ax_val (ex_cst pe_int fun _ _ => .int _) ax_nil)))))) fx_nil)) (by decide) (len_cons (len_cons len_nil))) fx_nil)) (by decide) (len_cons (len_cons len_nil))) (gx_tup (n := 2) rfl (gxs_cons (gx_name 11 sc_law.nd) (gxs_cons (gx_name 12 sc_law.nd) gxs_nil)) (by intro t h; exact pg_tup rfl h))) (sxs_cons (sx_set 13 sc_law.nd (ex_tup fx_nil (by decide) len_nil)) (sxs_cons (sx_for PassesOwn.never rfl (ix_rng1 R.b_range (fx_cons (ex_cst pe_int fun _ _ => .int _) fx_nil)) (gx_name 14 sc_law.nd) (sxs_cons (sx_par 15 16 rfl sc_law.nd (ex_call (ok_next_pit R) (hr.mono (by omega)) R.g_next_pit R.F_next_pit.kp R.bd_next_pit (ax_val (ex_var 11) (ax_val (ex_var 13) (ax_val (ex_var 12) ax_nil)))) (ex_call (ok_share R) (hr.mono (by omega)) R.g_share R.F_share.kp R.bd_share (ax_val (ex_var 11) (ax_val (ex_var 13) (ax_val (ex_var 12) ax_nil))))) (sxs_cons (sx_if (WX.tx (wx_or (tx_cmp (os_ne h64) (ex_cmp os_is (ex_var 15) (EX.rx (ex_cst pe_non fun _ _ => .non))) (EX.rx (ex_cmp os_is (ex_call (ok_missed R) (hr.mono (by omega)) R.g_missed R.F_missed.kp R.bd_missed (ax_val (ex_var 11) (ax_val (ex_var 13) (ax_val (ex_var 12) ax_nil)))) (EX.rx (ex_cst pe_non fun _ _ => .non))))) (wx_or1 (tx_cmp (os_ne h64) (ex_cmp os_is (ex_var 15) (EX.rx (ex_cst pe_non fun _ _ => .non))) (EX.rx (ex_cmp (os_eq h64) (ex_var 16) (EX.rx (ex_tup (fx_cons (ex_cst pe_int fun _ _ => .int _) (fx_cons (ex_cst pe_int fun _ _ => .int _) fx_nil)) (by decide) (len_cons (len_cons len_nil)))))))))) (sxs_one (sx_ret (ex_cst pe_bl fun _ _ => .bl _))) sxs_nil) (sxs_one (sx_if (tx_cmp os_isnot (ex_var 15) (EX.rx (ex_cst pe_non fun _ _ => .non))) (sxs_cons (sx_set 13 sc_law.nd (ex_callTy cs_tuple R.b_tuple (rxs_one (EX.rx (ex_callB (cs_sorted hu) R.b_sorted (rxs_one (EX.rx (ex_bin os_add (ex_var 13) (EX.rx (ex_tup (fx_cons (ex_var 15) fx_nil) (by decide) (len_cons len_nil))))))))))) (sxs_one (sx_if (tx_not (tx_tru (EX.rx (ex_call (ok__law_below R) (hr.mono (by omega)) R.g__law_below R.F__law_below.kp R.bd__law_below (ax_val (ex_var 16) (ax_val (ex_call (ok_share R) (hr.mono (by omega)) R.g_share R.F_share.kp R.bd_share (ax_val (ex_var 11) (ax_val (ex_var 13) (ax_val (ex_var 12) ax_nil)))) ax_nil)))))) (sxs_one (sx_ret (ex_cst pe_bl fun _ _ => .bl _))) sxs_nil))) sxs_nil))))) (sxs_cons (sx_tgt (ex_call (ok_fewest_pits R) (hr.mono (by omega)) R.g_fewest_pits R.F_fewest_pits.kp R.bd_fewest_pits (ax_val (ex_var 11) (ax_val (ex_var 12) ax_nil))) (gx_tup (n := 2) rfl (gxs_cons (gx_name 9 sc_law.nd) (gxs_cons (gx_name 17 sc_law.nd) gxs_nil)) (by intro t h; exact pg_tup rfl h))) (sxs_cons (sx_set 18 sc_law.nd (ex_call (ok_plan R) (hr.mono (by omega)) R.g_plan R.F_plan.kp R.bd_plan (ax_val (ex_var 11) (ax_val (ex_var 12) (ax_val (EX.frz (ex_bin os_add (ex_callB cs_len R.b_len (rxs_one (EX.rx (ex_var 9)))) (EX.rx (ex_cst pe_int fun _ _ => .int _)))) ax_nil))))) (sxs_cons (sx_if (WX.tx (wx_or (tx_cmp os_isnot (ex_call (ok_missed R) (hr.mono (by omega)) R.g_missed R.F_missed.kp R.bd_missed (ax_val (ex_var 11) (ax_val (ex_callTy cs_tuple R.b_tuple (rxs_one (EX.rx (ex_callB (cs_sorted hu) R.b_sorted (rxs_one (EX.rx (ex_var 18))))))) (ax_val (ex_var 12) ax_nil)))) (EX.rx (ex_cst pe_non fun _ _ => .non))) (wx_or (tx_cmp (os_lt h64) (ex_callB cs_len R.b_len (rxs_one (EX.rx (ex_var 18)))) (EX.rx (ex_callB cs_len R.b_len (rxs_one (EX.rx (ex_var 17)))))) (wx_or1 (tx_cmp (os_ne h64) (ex_cmp (os_eq h64) (ex_var 17) (EX.rx (ex_tup fx_nil (by decide) len_nil))) (EX.rx (ex_cmp (os_eq h64) (EX.frz (ex_call (ok_sites R) (hr.mono (by omega)) R.g_sites R.F_sites.kp R.bd_sites (ax_val (ex_var 11) (ax_val (ex_var 12) ax_nil)))) (EX.rx (ex_lst fx_nil (by decide) len_nil))))))))) (sxs_one (sx_ret (ex_cst pe_bl fun _ _ => .bl _))) sxs_nil) (sxs_cons (sx_set 19 sc_law.nd (ex_tup (fx_cons (EX.frz (ex_rev (EX.rx (ex_var 11)))) (fx_cons (EX.frz (ex_rev (EX.rx (ex_var 12)))) fx_nil)) (by decide) (len_cons (len_cons len_nil)))) (sxs_cons (sx_if (WX.tx (wx_or (tx_cmp (os_ne h64) (ex_callB cs_len R.b_len (rxs_one (EX.rx (ex_ix is_ix (ex_call (ok_fewest_pits R) (hr.mono (by omega)) R.g_fewest_pits R.F_fewest_pits.kp R.bd_fewest_pits (ax_val (ex_ix is_ix (ex_var 19) (EX.rx (ex_cst pe_int fun _ _ => .int _))) (ax_val (ex_ix is_ix (ex_var 19) (EX.rx (ex_cst pe_int fun _ _ => .int _))) ax_nil))) (EX.rx (ex_cst pe_int fun _ _ => .int _)))))) (EX.rx (ex_callB cs_len R.b_len (rxs_one (EX.rx (ex_var 9)))))) (wx_or1 (tx_cmp (os_ne h64) (ex_callB cs_len R.b_len (rxs_one (EX.rx (ex_call (ok_sites R) (hr.mono (by omega)) R.g_sites R.F_sites.kp R.bd_sites (ax_val (ex_ix is_ix (ex_var 19) (EX.rx (ex_cst pe_int fun _ _ => .int _))) (ax_val (ex_ix is_ix (ex_var 19) (EX.rx (ex_cst pe_int fun _ _ => .int _))) ax_nil)))))) (EX.rx (ex_callB cs_len R.b_len (rxs_one (EX.rx (ex_call (ok_sites R) (hr.mono (by omega)) R.g_sites R.F_sites.kp R.bd_sites (ax_val (ex_var 11) (ax_val (ex_var 12) ax_nil))))))))))) (sxs_one (sx_ret (ex_cst pe_bl fun _ _ => .bl _))) sxs_nil) (sxs_cons (sx_set 20 sc_law.nd (ex_call (ok_widest_missed R) (hr.mono (by omega)) R.g_widest_missed R.F_widest_missed.kp R.bd_widest_missed (ax_val (ex_var 11) (ax_val (ex_var 13) ax_nil)))) (sxs_one (sx_ret (ex_callB (cs_all rfl) R.b_all (rxs_one (EX.rx (ex_lc rfl sc_law.nd (lx_of (own := [("r", 21)]) (ix_rng1 R.b_range (fx_cons (ex_cst pe_int fun _ _ => .int _) fx_nil)) (fun _ _ _ _ _ => (gx_name 21 sc_law.nd)) (fun _ _ _ _ _ => kx_nil) (fun _ _ _ _ _ => (ex_or (ex_cmp os_is (ex_call (ok_missed_round R) (hr.mono (by omega)) R.g_missed_round R.F_missed_round.kp R.bd_missed_round (ax_val (ex_var 11) (ax_val (ex_var 13) (ax_val (ex_var 21) ax_nil)))) (EX.rx (ex_cst pe_non fun _ _ => .non))) (ex_one (ex_and (ex_cmp os_isnot (ex_var 20) (EX.rx (ex_cst pe_non fun _ _ => .non))) (ex_one (ex_cmp os_le (ex_var 21) (EX.rx (ex_var 20)))))))) (by decide) (fro_ok (vs := [21]) rfl)) (blkOk_by (by rfl))))))))))))))))))))))))))))))
end
end K86

set_option maxRecDepth 100000
set_option linter.all false
set_option Elab.async false
namespace K86
open PySem Dg L2
def t_ratio (a b : Int) : Option (Int × Int) :=
  let p := if b < 0 then (-a, -b) else (a, b)
  let g : Int := (Nat.gcd p.1.natAbs p.2.natAbs : Nat)
  (fd p.1 g).bind fun x => (fd p.2 g).bind fun y => some (x, y)
theorem r_ratio {a b : Int} {r : Int × Int} (h : t_ratio a b = some r) : fm_ratio [.int a, .int b] = some (pr r, [.int a, .int b]) := by
  unfold t_ratio at h
  by_cases hb : b < 0
  · rw [if_pos hb] at h
    obtain ⟨x, h1, h⟩ := bd h
    obtain ⟨y, h2, h⟩ := bd h
    cases h
    simp only [e_mVar, e_kVar, e_mMov, e_kMov, e_mCst, e_kO, e_kOb, e_kOl, e_mBin, e_kB1, e_kB2, e_mUn, e_kU, e_mTb, e_kTb, e_mTru, e_kTru, e_mNot, e_kNot, e_mAnd, e_kAnd, e_mOr, e_kOr, e_mAndV, e_kAndVt, e_kAndVf, e_mOrV, e_kOrVt, e_kOrVf, e_mNotV, e_kNotV, e_mNotB, e_kNotB, e_kNB, e_mIf, e_kIf, e_kIfS, e_mNil, e_mCons, e_kC1, e_kC2, e_mTup, e_kTup, e_mLst, e_kLst, e_mCall, e_mRng, e_kCall, e_kCallR, e_mNoP, e_mP, e_kPI, e_mSl, e_kS1, e_kS2, e_kS3, e_kCh1, e_kCh2, e_kCh3t, e_kCh3f, e_mYes, e_mItems, e_kItL, e_kItT, e_mIsi, e_kIsi, e_mNol, e_kNolN, e_kNolI, e_kNolB, e_kNolS, e_kNolT, e_kNolD, e_mListS, e_kLS, e_gSet, e_gsNil, e_gsCons, e_kG, e_gTupM, e_aNil, e_aVal, e_kA1, e_kA2, e_aLent, e_kL1, e_kL2, e_mCallU, e_kU1, e_kU2, e_kU3, e_mFill0, e_mFill1, e_mFill2, e_kF, e_kFl, e_mBack0, e_mBack1, e_mBack2, e_sNil, e_sCons, e_kSeqN, e_kSeqB, e_kSeqC, e_kSeqR, e_sIf, e_sBk, e_sCt, e_sRet, e_kRet, e_sDrop, e_kDrop, e_sSet, e_kSet, e_sTgt, e_kTgt, e_kT2, e_sPar, e_kP1, e_kP2, e_kAp0, e_kAp1, e_kAp2, e_kPu1, e_kPu2, e_kPu3, e_kPu4, e_kPu5, e_mFor, e_kFor, e_sFor0, e_kF1, e_kF2N, e_kF2C, e_kF2B, e_kF2R, e_kW1, e_kW2N, e_kW2C, e_kW2B, e_kW2R, e_mLc, e_kLc, e_kLc2, e_mL0, e_kM1, e_kM2, e_kM3, e_kM4, e_wipe0, e_wipe1, e_res0, e_res1, e_mDef, e_kDefR, e_kDefN, e_kDO, e_mOu0, e_mOuF, e_mOuS, e_mOuL, e_kOu, e_mChain, e_sApp, e_sPut, e_kAndV, e_kOrV, e_kCh3, List.getElem?_cons_zero, List.getElem?_cons_succ, List.set_cons_zero, List.set_cons_succ, List.map_cons, List.map_nil, List.length_cons, List.length_nil, List.cons_append, List.nil_append, List.replicate_succ, List.replicate_zero, Option.getD_some, Option.getD_none, decide_eq_true_eq, Bool.false_eq_true, Bool.true_eq_false, Bool.not_true, Bool.not_false, Bool.not_eq_true', decide_eq_false_iff_not, if_true, if_false, Nat.zero_add, Nat.reduceAdd, Nat.reduceSub, Nat.sub_self, Nat.sub_zero, Nat.add_zero, Nat.reduceEqDiff, List.isEmpty_nil, List.isEmpty_cons, o_add, o_sub, o_neg, o_lt, o_le, o_gt, o_ge, o_eqI, o_neI, o_eqB, o_neB, o_isN, o_isNotN, o_isB, n_non, n_bool, n_int, n_str, n_list, n_tuple, t_non, t_bool, t_int, t_list, t_tuple, o_ixT0, o_ixT1, o_ixT2, o_ixT3, o_ixT4, o_ixL0, o_ixL1, o_ixL2, o_ixL3, ix0, ix1, ix2, ix3, b_lenL, b_lenT, b_abs, b_int, b_tupL, b_tupT, b_lstL, b_lstT, b_gcd, b_max2, b_min2, fm_ratio, m_ratio, hb, o_fd h1, o_fd h2, pr]
  · rw [if_neg hb] at h
    obtain ⟨x, h1, h⟩ := bd h
    obtain ⟨y, h2, h⟩ := bd h
    cases h
    simp only [e_mVar, e_kVar, e_mMov, e_kMov, e_mCst, e_kO, e_kOb, e_kOl, e_mBin, e_kB1, e_kB2, e_mUn, e_kU, e_mTb, e_kTb, e_mTru, e_kTru, e_mNot, e_kNot, e_mAnd, e_kAnd, e_mOr, e_kOr, e_mAndV, e_kAndVt, e_kAndVf, e_mOrV, e_kOrVt, e_kOrVf, e_mNotV, e_kNotV, e_mNotB, e_kNotB, e_kNB, e_mIf, e_kIf, e_kIfS, e_mNil, e_mCons, e_kC1, e_kC2, e_mTup, e_kTup, e_mLst, e_kLst, e_mCall, e_mRng, e_kCall, e_kCallR, e_mNoP, e_mP, e_kPI, e_mSl, e_kS1, e_kS2, e_kS3, e_kCh1, e_kCh2, e_kCh3t, e_kCh3f, e_mYes, e_mItems, e_kItL, e_kItT, e_mIsi, e_kIsi, e_mNol, e_kNolN, e_kNolI, e_kNolB, e_kNolS, e_kNolT, e_kNolD, e_mListS, e_kLS, e_gSet, e_gsNil, e_gsCons, e_kG, e_gTupM, e_aNil, e_aVal, e_kA1, e_kA2, e_aLent, e_kL1, e_kL2, e_mCallU, e_kU1, e_kU2, e_kU3, e_mFill0, e_mFill1, e_mFill2, e_kF, e_kFl, e_mBack0, e_mBack1, e_mBack2, e_sNil, e_sCons, e_kSeqN, e_kSeqB, e_kSeqC, e_kSeqR, e_sIf, e_sBk, e_sCt, e_sRet, e_kRet, e_sDrop, e_kDrop, e_sSet, e_kSet, e_sTgt, e_kTgt, e_kT2, e_sPar, e_kP1, e_kP2, e_kAp0, e_kAp1, e_kAp2, e_kPu1, e_kPu2, e_kPu3, e_kPu4, e_kPu5, e_mFor, e_kFor, e_sFor0, e_kF1, e_kF2N, e_kF2C, e_kF2B, e_kF2R, e_kW1, e_kW2N, e_kW2C, e_kW2B, e_kW2R, e_mLc, e_kLc, e_kLc2, e_mL0, e_kM1, e_kM2, e_kM3, e_kM4, e_wipe0, e_wipe1, e_res0, e_res1, e_mDef, e_kDefR, e_kDefN, e_kDO, e_mOu0, e_mOuF, e_mOuS, e_mOuL, e_kOu, e_mChain, e_sApp, e_sPut, e_kAndV, e_kOrV, e_kCh3, List.getElem?_cons_zero, List.getElem?_cons_succ, List.set_cons_zero, List.set_cons_succ, List.map_cons, List.map_nil, List.length_cons, List.length_nil, List.cons_append, List.nil_append, List.replicate_succ, List.replicate_zero, Option.getD_some, Option.getD_none, decide_eq_true_eq, Bool.false_eq_true, Bool.true_eq_false, Bool.not_true, Bool.not_false, Bool.not_eq_true', decide_eq_false_iff_not, if_true, if_false, Nat.zero_add, Nat.reduceAdd, Nat.reduceSub, Nat.sub_self, Nat.sub_zero, Nat.add_zero, Nat.reduceEqDiff, List.isEmpty_nil, List.isEmpty_cons, o_add, o_sub, o_neg, o_lt, o_le, o_gt, o_ge, o_eqI, o_neI, o_eqB, o_neB, o_isN, o_isNotN, o_isB, n_non, n_bool, n_int, n_str, n_list, n_tuple, t_non, t_bool, t_int, t_list, t_tuple, o_ixT0, o_ixT1, o_ixT2, o_ixT3, o_ixT4, o_ixL0, o_ixL1, o_ixL2, o_ixL3, ix0, ix1, ix2, ix3, b_lenL, b_lenT, b_abs, b_int, b_tupL, b_tupT, b_lstL, b_lstT, b_gcd, b_max2, b_min2, fm_ratio, m_ratio, hb, o_fd h1, o_fd h2, pr]
def t_add (o p : Int × Int) : Option (Int × Int) := (mu o.1 p.2).bind fun x => (mu p.1 o.2).bind fun y => (mu o.2 p.2).bind fun z => t_ratio (x + y) z
theorem r_add {o p r : Int × Int} (h : t_add o p = some r) : fm_add [pr o, pr p] = some (pr r, [pr o, pr p]) := by
  obtain ⟨x, h1, h⟩ := bd h
  obtain ⟨y, h2, h⟩ := bd h
  obtain ⟨z, h3, h⟩ := bd h
  simp only [e_mVar, e_kVar, e_mMov, e_kMov, e_mCst, e_kO, e_kOb, e_kOl, e_mBin, e_kB1, e_kB2, e_mUn, e_kU, e_mTb, e_kTb, e_mTru, e_kTru, e_mNot, e_kNot, e_mAnd, e_kAnd, e_mOr, e_kOr, e_mAndV, e_kAndVt, e_kAndVf, e_mOrV, e_kOrVt, e_kOrVf, e_mNotV, e_kNotV, e_mNotB, e_kNotB, e_kNB, e_mIf, e_kIf, e_kIfS, e_mNil, e_mCons, e_kC1, e_kC2, e_mTup, e_kTup, e_mLst, e_kLst, e_mCall, e_mRng, e_kCall, e_kCallR, e_mNoP, e_mP, e_kPI, e_mSl, e_kS1, e_kS2, e_kS3, e_kCh1, e_kCh2, e_kCh3t, e_kCh3f, e_mYes, e_mItems, e_kItL, e_kItT, e_mIsi, e_kIsi, e_mNol, e_kNolN, e_kNolI, e_kNolB, e_kNolS, e_kNolT, e_kNolD, e_mListS, e_kLS, e_gSet, e_gsNil, e_gsCons, e_kG, e_gTupM, e_aNil, e_aVal, e_kA1, e_kA2, e_aLent, e_kL1, e_kL2, e_mCallU, e_kU1, e_kU2, e_kU3, e_mFill0, e_mFill1, e_mFill2, e_kF, e_kFl, e_mBack0, e_mBack1, e_mBack2, e_sNil, e_sCons, e_kSeqN, e_kSeqB, e_kSeqC, e_kSeqR, e_sIf, e_sBk, e_sCt, e_sRet, e_kRet, e_sDrop, e_kDrop, e_sSet, e_kSet, e_sTgt, e_kTgt, e_kT2, e_sPar, e_kP1, e_kP2, e_kAp0, e_kAp1, e_kAp2, e_kPu1, e_kPu2, e_kPu3, e_kPu4, e_kPu5, e_mFor, e_kFor, e_sFor0, e_kF1, e_kF2N, e_kF2C, e_kF2B, e_kF2R, e_kW1, e_kW2N, e_kW2C, e_kW2B, e_kW2R, e_mLc, e_kLc, e_kLc2, e_mL0, e_kM1, e_kM2, e_kM3, e_kM4, e_wipe0, e_wipe1, e_res0, e_res1, e_mDef, e_kDefR, e_kDefN, e_kDO, e_mOu0, e_mOuF, e_mOuS, e_mOuL, e_kOu, e_mChain, e_sApp, e_sPut, e_kAndV, e_kOrV, e_kCh3, List.getElem?_cons_zero, List.getElem?_cons_succ, List.set_cons_zero, List.set_cons_succ, List.map_cons, List.map_nil, List.length_cons, List.length_nil, List.cons_append, List.nil_append, List.replicate_succ, List.replicate_zero, Option.getD_some, Option.getD_none, decide_eq_true_eq, Bool.false_eq_true, Bool.true_eq_false, Bool.not_true, Bool.not_false, Bool.not_eq_true', decide_eq_false_iff_not, if_true, if_false, Nat.zero_add, Nat.reduceAdd, Nat.reduceSub, Nat.sub_self, Nat.sub_zero, Nat.add_zero, Nat.reduceEqDiff, List.isEmpty_nil, List.isEmpty_cons, o_add, o_sub, o_neg, o_lt, o_le, o_gt, o_ge, o_eqI, o_neI, o_eqB, o_neB, o_isN, o_isNotN, o_isB, n_non, n_bool, n_int, n_str, n_list, n_tuple, t_non, t_bool, t_int, t_list, t_tuple, o_ixT0, o_ixT1, o_ixT2, o_ixT3, o_ixT4, o_ixL0, o_ixL1, o_ixL2, o_ixL3, ix0, ix1, ix2, ix3, b_lenL, b_lenT, b_abs, b_int, b_tupL, b_tupT, b_lstL, b_lstT, b_gcd, b_max2, b_min2, fm_add, m_add, o_mu h1, o_mu h2, o_mu h3, r_ratio h, pr]
def t_less (o p : Int × Int) : Option Bool := (mu o.1 p.2).bind fun x => (mu p.1 o.2).bind fun y => some (decide (x < y))
theorem r_less {o p : Int × Int} {r : Bool} (h : t_less o p = some r) : fm_less [pr o, pr p] = some (.bool r, [pr o, pr p]) := by
  obtain ⟨x, h1, h⟩ := bd h
  obtain ⟨y, h2, h⟩ := bd h
  cases h
  simp only [e_mVar, e_kVar, e_mMov, e_kMov, e_mCst, e_kO, e_kOb, e_kOl, e_mBin, e_kB1, e_kB2, e_mUn, e_kU, e_mTb, e_kTb, e_mTru, e_kTru, e_mNot, e_kNot, e_mAnd, e_kAnd, e_mOr, e_kOr, e_mAndV, e_kAndVt, e_kAndVf, e_mOrV, e_kOrVt, e_kOrVf, e_mNotV, e_kNotV, e_mNotB, e_kNotB, e_kNB, e_mIf, e_kIf, e_kIfS, e_mNil, e_mCons, e_kC1, e_kC2, e_mTup, e_kTup, e_mLst, e_kLst, e_mCall, e_mRng, e_kCall, e_kCallR, e_mNoP, e_mP, e_kPI, e_mSl, e_kS1, e_kS2, e_kS3, e_kCh1, e_kCh2, e_kCh3t, e_kCh3f, e_mYes, e_mItems, e_kItL, e_kItT, e_mIsi, e_kIsi, e_mNol, e_kNolN, e_kNolI, e_kNolB, e_kNolS, e_kNolT, e_kNolD, e_mListS, e_kLS, e_gSet, e_gsNil, e_gsCons, e_kG, e_gTupM, e_aNil, e_aVal, e_kA1, e_kA2, e_aLent, e_kL1, e_kL2, e_mCallU, e_kU1, e_kU2, e_kU3, e_mFill0, e_mFill1, e_mFill2, e_kF, e_kFl, e_mBack0, e_mBack1, e_mBack2, e_sNil, e_sCons, e_kSeqN, e_kSeqB, e_kSeqC, e_kSeqR, e_sIf, e_sBk, e_sCt, e_sRet, e_kRet, e_sDrop, e_kDrop, e_sSet, e_kSet, e_sTgt, e_kTgt, e_kT2, e_sPar, e_kP1, e_kP2, e_kAp0, e_kAp1, e_kAp2, e_kPu1, e_kPu2, e_kPu3, e_kPu4, e_kPu5, e_mFor, e_kFor, e_sFor0, e_kF1, e_kF2N, e_kF2C, e_kF2B, e_kF2R, e_kW1, e_kW2N, e_kW2C, e_kW2B, e_kW2R, e_mLc, e_kLc, e_kLc2, e_mL0, e_kM1, e_kM2, e_kM3, e_kM4, e_wipe0, e_wipe1, e_res0, e_res1, e_mDef, e_kDefR, e_kDefN, e_kDO, e_mOu0, e_mOuF, e_mOuS, e_mOuL, e_kOu, e_mChain, e_sApp, e_sPut, e_kAndV, e_kOrV, e_kCh3, List.getElem?_cons_zero, List.getElem?_cons_succ, List.set_cons_zero, List.set_cons_succ, List.map_cons, List.map_nil, List.length_cons, List.length_nil, List.cons_append, List.nil_append, List.replicate_succ, List.replicate_zero, Option.getD_some, Option.getD_none, decide_eq_true_eq, Bool.false_eq_true, Bool.true_eq_false, Bool.not_true, Bool.not_false, Bool.not_eq_true', decide_eq_false_iff_not, if_true, if_false, Nat.zero_add, Nat.reduceAdd, Nat.reduceSub, Nat.sub_self, Nat.sub_zero, Nat.add_zero, Nat.reduceEqDiff, List.isEmpty_nil, List.isEmpty_cons, o_add, o_sub, o_neg, o_lt, o_le, o_gt, o_ge, o_eqI, o_neI, o_eqB, o_neB, o_isN, o_isNotN, o_isB, n_non, n_bool, n_int, n_str, n_list, n_tuple, t_non, t_bool, t_int, t_list, t_tuple, o_ixT0, o_ixT1, o_ixT2, o_ixT3, o_ixT4, o_ixL0, o_ixL1, o_ixL2, o_ixL3, ix0, ix1, ix2, ix3, b_lenL, b_lenT, b_abs, b_int, b_tupL, b_tupT, b_lstL, b_lstT, b_gcd, b_max2, b_min2, fm_less, m_less, o_mu h1, o_mu h2, pr]
def t_choose (n k : Int) : Option Int := if n < k then some 0 else if rngOk k = true then foldO (fun f p => (mu f (n - p)).bind fun x => fd x (p + 1)) 1 (rI 0 1 k.toNat) else none
theorem r_choose {n k r : Int} (h : t_choose n k = some r) : fm_choose [.int n, .int k] = some (.int r, [.int n, .int k]) := by
  unfold t_choose at h
  by_cases hb : n < k
  · rw [if_pos hb] at h; cases h
    simp only [e_mVar, e_kVar, e_mMov, e_kMov, e_mCst, e_kO, e_kOb, e_kOl, e_mBin, e_kB1, e_kB2, e_mUn, e_kU, e_mTb, e_kTb, e_mTru, e_kTru, e_mNot, e_kNot, e_mAnd, e_kAnd, e_mOr, e_kOr, e_mAndV, e_kAndVt, e_kAndVf, e_mOrV, e_kOrVt, e_kOrVf, e_mNotV, e_kNotV, e_mNotB, e_kNotB, e_kNB, e_mIf, e_kIf, e_kIfS, e_mNil, e_mCons, e_kC1, e_kC2, e_mTup, e_kTup, e_mLst, e_kLst, e_mCall, e_mRng, e_kCall, e_kCallR, e_mNoP, e_mP, e_kPI, e_mSl, e_kS1, e_kS2, e_kS3, e_kCh1, e_kCh2, e_kCh3t, e_kCh3f, e_mYes, e_mItems, e_kItL, e_kItT, e_mIsi, e_kIsi, e_mNol, e_kNolN, e_kNolI, e_kNolB, e_kNolS, e_kNolT, e_kNolD, e_mListS, e_kLS, e_gSet, e_gsNil, e_gsCons, e_kG, e_gTupM, e_aNil, e_aVal, e_kA1, e_kA2, e_aLent, e_kL1, e_kL2, e_mCallU, e_kU1, e_kU2, e_kU3, e_mFill0, e_mFill1, e_mFill2, e_kF, e_kFl, e_mBack0, e_mBack1, e_mBack2, e_sNil, e_sCons, e_kSeqN, e_kSeqB, e_kSeqC, e_kSeqR, e_sIf, e_sBk, e_sCt, e_sRet, e_kRet, e_sDrop, e_kDrop, e_sSet, e_kSet, e_sTgt, e_kTgt, e_kT2, e_sPar, e_kP1, e_kP2, e_kAp0, e_kAp1, e_kAp2, e_kPu1, e_kPu2, e_kPu3, e_kPu4, e_kPu5, e_mFor, e_kFor, e_sFor0, e_kF1, e_kF2N, e_kF2C, e_kF2B, e_kF2R, e_kW1, e_kW2N, e_kW2C, e_kW2B, e_kW2R, e_mLc, e_kLc, e_kLc2, e_mL0, e_kM1, e_kM2, e_kM3, e_kM4, e_wipe0, e_wipe1, e_res0, e_res1, e_mDef, e_kDefR, e_kDefN, e_kDO, e_mOu0, e_mOuF, e_mOuS, e_mOuL, e_kOu, e_mChain, e_sApp, e_sPut, e_kAndV, e_kOrV, e_kCh3, List.getElem?_cons_zero, List.getElem?_cons_succ, List.set_cons_zero, List.set_cons_succ, List.map_cons, List.map_nil, List.length_cons, List.length_nil, List.cons_append, List.nil_append, List.replicate_succ, List.replicate_zero, Option.getD_some, Option.getD_none, decide_eq_true_eq, Bool.false_eq_true, Bool.true_eq_false, Bool.not_true, Bool.not_false, Bool.not_eq_true', decide_eq_false_iff_not, if_true, if_false, Nat.zero_add, Nat.reduceAdd, Nat.reduceSub, Nat.sub_self, Nat.sub_zero, Nat.add_zero, Nat.reduceEqDiff, List.isEmpty_nil, List.isEmpty_cons, o_add, o_sub, o_neg, o_lt, o_le, o_gt, o_ge, o_eqI, o_neI, o_eqB, o_neB, o_isN, o_isNotN, o_isB, n_non, n_bool, n_int, n_str, n_list, n_tuple, t_non, t_bool, t_int, t_list, t_tuple, o_ixT0, o_ixT1, o_ixT2, o_ixT3, o_ixT4, o_ixL0, o_ixL1, o_ixL2, o_ixL3, ix0, ix1, ix2, ix3, b_lenL, b_lenT, b_abs, b_int, b_tupL, b_tupT, b_lstL, b_lstT, b_gcd, b_max2, b_min2, fm_choose, m_choose, hb]
  · rw [if_neg hb] at h
    by_cases hk : rngOk k = true
    · rw [if_pos hk] at h
      have L := for_foldO (mt := gSet 3) (mb := sSet 2 (mBin opFdiv (mBin opMulI (mVar 2) (mBin opSub (mVar 0) (mVar 3))) (mBin opAdd (mVar 3) (mCst (.int 1))))) PyData.int (fun (s : Int) ε => ∃ j, ε = [some (.int n), some (.int k), some (.int s), j])
        (fun f p => (mu f (n - p)).bind fun x => fd x (p + 1)) (rI 0 1 k.toNat) 1 r [some (.int n), some (.int k), some (.int 1), none] (fun s x s' ε _ hi hs => by
          obtain ⟨j, rfl⟩ := hi
          obtain ⟨y, h1, h2⟩ := bd hs
          refine ⟨_, _, rfl, ?h, ?j, rfl⟩
          case h => simp only [e_mVar, e_kVar, e_mMov, e_kMov, e_mCst, e_kO, e_kOb, e_kOl, e_mBin, e_kB1, e_kB2, e_mUn, e_kU, e_mTb, e_kTb, e_mTru, e_kTru, e_mNot, e_kNot, e_mAnd, e_kAnd, e_mOr, e_kOr, e_mAndV, e_kAndVt, e_kAndVf, e_mOrV, e_kOrVt, e_kOrVf, e_mNotV, e_kNotV, e_mNotB, e_kNotB, e_kNB, e_mIf, e_kIf, e_kIfS, e_mNil, e_mCons, e_kC1, e_kC2, e_mTup, e_kTup, e_mLst, e_kLst, e_mCall, e_mRng, e_kCall, e_kCallR, e_mNoP, e_mP, e_kPI, e_mSl, e_kS1, e_kS2, e_kS3, e_kCh1, e_kCh2, e_kCh3t, e_kCh3f, e_mYes, e_mItems, e_kItL, e_kItT, e_mIsi, e_kIsi, e_mNol, e_kNolN, e_kNolI, e_kNolB, e_kNolS, e_kNolT, e_kNolD, e_mListS, e_kLS, e_gSet, e_gsNil, e_gsCons, e_kG, e_gTupM, e_aNil, e_aVal, e_kA1, e_kA2, e_aLent, e_kL1, e_kL2, e_mCallU, e_kU1, e_kU2, e_kU3, e_mFill0, e_mFill1, e_mFill2, e_kF, e_kFl, e_mBack0, e_mBack1, e_mBack2, e_sNil, e_sCons, e_kSeqN, e_kSeqB, e_kSeqC, e_kSeqR, e_sIf, e_sBk, e_sCt, e_sRet, e_kRet, e_sDrop, e_kDrop, e_sSet, e_kSet, e_sTgt, e_kTgt, e_kT2, e_sPar, e_kP1, e_kP2, e_kAp0, e_kAp1, e_kAp2, e_kPu1, e_kPu2, e_kPu3, e_kPu4, e_kPu5, e_mFor, e_kFor, e_sFor0, e_kF1, e_kF2N, e_kF2C, e_kF2B, e_kF2R, e_kW1, e_kW2N, e_kW2C, e_kW2B, e_kW2R, e_mLc, e_kLc, e_kLc2, e_mL0, e_kM1, e_kM2, e_kM3, e_kM4, e_wipe0, e_wipe1, e_res0, e_res1, e_mDef, e_kDefR, e_kDefN, e_kDO, e_mOu0, e_mOuF, e_mOuS, e_mOuL, e_kOu, e_mChain, e_sApp, e_sPut, e_kAndV, e_kOrV, e_kCh3, List.getElem?_cons_zero, List.getElem?_cons_succ, List.set_cons_zero, List.set_cons_succ, List.map_cons, List.map_nil, List.length_cons, List.length_nil, List.cons_append, List.nil_append, List.replicate_succ, List.replicate_zero, Option.getD_some, Option.getD_none, decide_eq_true_eq, Bool.false_eq_true, Bool.true_eq_false, Bool.not_true, Bool.not_false, Bool.not_eq_true', decide_eq_false_iff_not, if_true, if_false, Nat.zero_add, Nat.reduceAdd, Nat.reduceSub, Nat.sub_self, Nat.sub_zero, Nat.add_zero, Nat.reduceEqDiff, List.isEmpty_nil, List.isEmpty_cons, o_add, o_sub, o_neg, o_lt, o_le, o_gt, o_ge, o_eqI, o_neI, o_eqB, o_neB, o_isN, o_isNotN, o_isB, n_non, n_bool, n_int, n_str, n_list, n_tuple, t_non, t_bool, t_int, t_list, t_tuple, o_ixT0, o_ixT1, o_ixT2, o_ixT3, o_ixT4, o_ixL0, o_ixL1, o_ixL2, o_ixL3, ix0, ix1, ix2, ix3, b_lenL, b_lenT, b_abs, b_int, b_tupL, b_tupT, b_lstL, b_lstT, b_gcd, b_max2, b_min2, o_mu h1, o_fd h2] <;> rfl) ⟨_, rfl⟩ h
      obtain ⟨ε', L, j, rfl⟩ := L
      simp only [e_mVar, e_kVar, e_mMov, e_kMov, e_mCst, e_kO, e_kOb, e_kOl, e_mBin, e_kB1, e_kB2, e_mUn, e_kU, e_mTb, e_kTb, e_mTru, e_kTru, e_mNot, e_kNot, e_mAnd, e_kAnd, e_mOr, e_kOr, e_mAndV, e_kAndVt, e_kAndVf, e_mOrV, e_kOrVt, e_kOrVf, e_mNotV, e_kNotV, e_mNotB, e_kNotB, e_kNB, e_mIf, e_kIf, e_kIfS, e_mNil, e_mCons, e_kC1, e_kC2, e_mTup, e_kTup, e_mLst, e_kLst, e_mCall, e_mRng, e_kCall, e_kCallR, e_mNoP, e_mP, e_kPI, e_mSl, e_kS1, e_kS2, e_kS3, e_kCh1, e_kCh2, e_kCh3t, e_kCh3f, e_mYes, e_mItems, e_kItL, e_kItT, e_mIsi, e_kIsi, e_mNol, e_kNolN, e_kNolI, e_kNolB, e_kNolS, e_kNolT, e_kNolD, e_mListS, e_kLS, e_gSet, e_gsNil, e_gsCons, e_kG, e_gTupM, e_aNil, e_aVal, e_kA1, e_kA2, e_aLent, e_kL1, e_kL2, e_mCallU, e_kU1, e_kU2, e_kU3, e_mFill0, e_mFill1, e_mFill2, e_kF, e_kFl, e_mBack0, e_mBack1, e_mBack2, e_sNil, e_sCons, e_kSeqN, e_kSeqB, e_kSeqC, e_kSeqR, e_sIf, e_sBk, e_sCt, e_sRet, e_kRet, e_sDrop, e_kDrop, e_sSet, e_kSet, e_sTgt, e_kTgt, e_kT2, e_sPar, e_kP1, e_kP2, e_kAp0, e_kAp1, e_kAp2, e_kPu1, e_kPu2, e_kPu3, e_kPu4, e_kPu5, e_mFor, e_kFor, e_sFor0, e_kF1, e_kF2N, e_kF2C, e_kF2B, e_kF2R, e_kW1, e_kW2N, e_kW2C, e_kW2B, e_kW2R, e_mLc, e_kLc, e_kLc2, e_mL0, e_kM1, e_kM2, e_kM3, e_kM4, e_wipe0, e_wipe1, e_res0, e_res1, e_mDef, e_kDefR, e_kDefN, e_kDO, e_mOu0, e_mOuF, e_mOuS, e_mOuL, e_kOu, e_mChain, e_sApp, e_sPut, e_kAndV, e_kOrV, e_kCh3, List.getElem?_cons_zero, List.getElem?_cons_succ, List.set_cons_zero, List.set_cons_succ, List.map_cons, List.map_nil, List.length_cons, List.length_nil, List.cons_append, List.nil_append, List.replicate_succ, List.replicate_zero, Option.getD_some, Option.getD_none, decide_eq_true_eq, Bool.false_eq_true, Bool.true_eq_false, Bool.not_true, Bool.not_false, Bool.not_eq_true', decide_eq_false_iff_not, if_true, if_false, Nat.zero_add, Nat.reduceAdd, Nat.reduceSub, Nat.sub_self, Nat.sub_zero, Nat.add_zero, Nat.reduceEqDiff, List.isEmpty_nil, List.isEmpty_cons, o_add, o_sub, o_neg, o_lt, o_le, o_gt, o_ge, o_eqI, o_neI, o_eqB, o_neB, o_isN, o_isNotN, o_isB, n_non, n_bool, n_int, n_str, n_list, n_tuple, t_non, t_bool, t_int, t_list, t_tuple, o_ixT0, o_ixT1, o_ixT2, o_ixT3, o_ixT4, o_ixL0, o_ixL1, o_ixL2, o_ixL3, ix0, ix1, ix2, ix3, b_lenL, b_lenT, b_abs, b_int, b_tupL, b_tupT, b_lstL, b_lstT, b_gcd, b_max2, b_min2, fm_choose, m_choose, hb, rng1_i hk, L]
    · rw [if_neg hk] at h; cases h

def t_chance (b h s f : Int) : Option (Int × Int) := if s < f then some (0, 1) else (t_choose h f).bind fun x => (t_choose (b - h) (s - f)).bind fun y => (mu x y).bind fun z => (t_choose b s).bind fun w => t_ratio z w
theorem r_chance {b h s f : Int} {r : Int × Int} (e : t_chance b h s f = some r) : fm_chance [.int b, .int h, .int s, .int f] = some (pr r, [.int b, .int h, .int s, .int f]) := by
  unfold t_chance at e
  by_cases hb : s < f
  · rw [if_pos hb] at e; cases e
    simp only [e_mVar, e_kVar, e_mMov, e_kMov, e_mCst, e_kO, e_kOb, e_kOl, e_mBin, e_kB1, e_kB2, e_mUn, e_kU, e_mTb, e_kTb, e_mTru, e_kTru, e_mNot, e_kNot, e_mAnd, e_kAnd, e_mOr, e_kOr, e_mAndV, e_kAndVt, e_kAndVf, e_mOrV, e_kOrVt, e_kOrVf, e_mNotV, e_kNotV, e_mNotB, e_kNotB, e_kNB, e_mIf, e_kIf, e_kIfS, e_mNil, e_mCons, e_kC1, e_kC2, e_mTup, e_kTup, e_mLst, e_kLst, e_mCall, e_mRng, e_kCall, e_kCallR, e_mNoP, e_mP, e_kPI, e_mSl, e_kS1, e_kS2, e_kS3, e_kCh1, e_kCh2, e_kCh3t, e_kCh3f, e_mYes, e_mItems, e_kItL, e_kItT, e_mIsi, e_kIsi, e_mNol, e_kNolN, e_kNolI, e_kNolB, e_kNolS, e_kNolT, e_kNolD, e_mListS, e_kLS, e_gSet, e_gsNil, e_gsCons, e_kG, e_gTupM, e_aNil, e_aVal, e_kA1, e_kA2, e_aLent, e_kL1, e_kL2, e_mCallU, e_kU1, e_kU2, e_kU3, e_mFill0, e_mFill1, e_mFill2, e_kF, e_kFl, e_mBack0, e_mBack1, e_mBack2, e_sNil, e_sCons, e_kSeqN, e_kSeqB, e_kSeqC, e_kSeqR, e_sIf, e_sBk, e_sCt, e_sRet, e_kRet, e_sDrop, e_kDrop, e_sSet, e_kSet, e_sTgt, e_kTgt, e_kT2, e_sPar, e_kP1, e_kP2, e_kAp0, e_kAp1, e_kAp2, e_kPu1, e_kPu2, e_kPu3, e_kPu4, e_kPu5, e_mFor, e_kFor, e_sFor0, e_kF1, e_kF2N, e_kF2C, e_kF2B, e_kF2R, e_kW1, e_kW2N, e_kW2C, e_kW2B, e_kW2R, e_mLc, e_kLc, e_kLc2, e_mL0, e_kM1, e_kM2, e_kM3, e_kM4, e_wipe0, e_wipe1, e_res0, e_res1, e_mDef, e_kDefR, e_kDefN, e_kDO, e_mOu0, e_mOuF, e_mOuS, e_mOuL, e_kOu, e_mChain, e_sApp, e_sPut, e_kAndV, e_kOrV, e_kCh3, List.getElem?_cons_zero, List.getElem?_cons_succ, List.set_cons_zero, List.set_cons_succ, List.map_cons, List.map_nil, List.length_cons, List.length_nil, List.cons_append, List.nil_append, List.replicate_succ, List.replicate_zero, Option.getD_some, Option.getD_none, decide_eq_true_eq, Bool.false_eq_true, Bool.true_eq_false, Bool.not_true, Bool.not_false, Bool.not_eq_true', decide_eq_false_iff_not, if_true, if_false, Nat.zero_add, Nat.reduceAdd, Nat.reduceSub, Nat.sub_self, Nat.sub_zero, Nat.add_zero, Nat.reduceEqDiff, List.isEmpty_nil, List.isEmpty_cons, o_add, o_sub, o_neg, o_lt, o_le, o_gt, o_ge, o_eqI, o_neI, o_eqB, o_neB, o_isN, o_isNotN, o_isB, n_non, n_bool, n_int, n_str, n_list, n_tuple, t_non, t_bool, t_int, t_list, t_tuple, o_ixT0, o_ixT1, o_ixT2, o_ixT3, o_ixT4, o_ixL0, o_ixL1, o_ixL2, o_ixL3, ix0, ix1, ix2, ix3, b_lenL, b_lenT, b_abs, b_int, b_tupL, b_tupT, b_lstL, b_lstT, b_gcd, b_max2, b_min2, fm_chance, m_chance, hb, pr]
  · rw [if_neg hb] at e
    obtain ⟨x, h1, e⟩ := bd e
    obtain ⟨y, h2, e⟩ := bd e
    obtain ⟨z, h3, e⟩ := bd e
    obtain ⟨w, h4, e⟩ := bd e
    simp only [e_mVar, e_kVar, e_mMov, e_kMov, e_mCst, e_kO, e_kOb, e_kOl, e_mBin, e_kB1, e_kB2, e_mUn, e_kU, e_mTb, e_kTb, e_mTru, e_kTru, e_mNot, e_kNot, e_mAnd, e_kAnd, e_mOr, e_kOr, e_mAndV, e_kAndVt, e_kAndVf, e_mOrV, e_kOrVt, e_kOrVf, e_mNotV, e_kNotV, e_mNotB, e_kNotB, e_kNB, e_mIf, e_kIf, e_kIfS, e_mNil, e_mCons, e_kC1, e_kC2, e_mTup, e_kTup, e_mLst, e_kLst, e_mCall, e_mRng, e_kCall, e_kCallR, e_mNoP, e_mP, e_kPI, e_mSl, e_kS1, e_kS2, e_kS3, e_kCh1, e_kCh2, e_kCh3t, e_kCh3f, e_mYes, e_mItems, e_kItL, e_kItT, e_mIsi, e_kIsi, e_mNol, e_kNolN, e_kNolI, e_kNolB, e_kNolS, e_kNolT, e_kNolD, e_mListS, e_kLS, e_gSet, e_gsNil, e_gsCons, e_kG, e_gTupM, e_aNil, e_aVal, e_kA1, e_kA2, e_aLent, e_kL1, e_kL2, e_mCallU, e_kU1, e_kU2, e_kU3, e_mFill0, e_mFill1, e_mFill2, e_kF, e_kFl, e_mBack0, e_mBack1, e_mBack2, e_sNil, e_sCons, e_kSeqN, e_kSeqB, e_kSeqC, e_kSeqR, e_sIf, e_sBk, e_sCt, e_sRet, e_kRet, e_sDrop, e_kDrop, e_sSet, e_kSet, e_sTgt, e_kTgt, e_kT2, e_sPar, e_kP1, e_kP2, e_kAp0, e_kAp1, e_kAp2, e_kPu1, e_kPu2, e_kPu3, e_kPu4, e_kPu5, e_mFor, e_kFor, e_sFor0, e_kF1, e_kF2N, e_kF2C, e_kF2B, e_kF2R, e_kW1, e_kW2N, e_kW2C, e_kW2B, e_kW2R, e_mLc, e_kLc, e_kLc2, e_mL0, e_kM1, e_kM2, e_kM3, e_kM4, e_wipe0, e_wipe1, e_res0, e_res1, e_mDef, e_kDefR, e_kDefN, e_kDO, e_mOu0, e_mOuF, e_mOuS, e_mOuL, e_kOu, e_mChain, e_sApp, e_sPut, e_kAndV, e_kOrV, e_kCh3, List.getElem?_cons_zero, List.getElem?_cons_succ, List.set_cons_zero, List.set_cons_succ, List.map_cons, List.map_nil, List.length_cons, List.length_nil, List.cons_append, List.nil_append, List.replicate_succ, List.replicate_zero, Option.getD_some, Option.getD_none, decide_eq_true_eq, Bool.false_eq_true, Bool.true_eq_false, Bool.not_true, Bool.not_false, Bool.not_eq_true', decide_eq_false_iff_not, if_true, if_false, Nat.zero_add, Nat.reduceAdd, Nat.reduceSub, Nat.sub_self, Nat.sub_zero, Nat.add_zero, Nat.reduceEqDiff, List.isEmpty_nil, List.isEmpty_cons, o_add, o_sub, o_neg, o_lt, o_le, o_gt, o_ge, o_eqI, o_neI, o_eqB, o_neB, o_isN, o_isNotN, o_isB, n_non, n_bool, n_int, n_str, n_list, n_tuple, t_non, t_bool, t_int, t_list, t_tuple, o_ixT0, o_ixT1, o_ixT2, o_ixT3, o_ixT4, o_ixL0, o_ixL1, o_ixL2, o_ixL3, ix0, ix1, ix2, ix3, b_lenL, b_lenT, b_abs, b_int, b_tupL, b_tupT, b_lstL, b_lstT, b_gcd, b_max2, b_min2, fm_chance, m_chance, hb, r_choose h1, r_choose h2, o_mu h3, r_choose h4, r_ratio e]
def t_cf (b h s lo hi : Int) : Option (Int × Int) := if rngOk lo = true ∧ rngOk (hi + 1) = true then foldO (fun w f => (t_chance b h s f).bind fun c => t_add w c) (0, 1) (rI lo 1 (hi + 1 - lo).toNat) else none
theorem r_cf {b h s lo hi : Int} {r : Int × Int} (e : t_cf b h s lo hi = some r) : fm_chance_from [.int b, .int h, .int s, .int lo, .int hi] = some (pr r, [.int b, .int h, .int s, .int lo, .int hi]) := by
  unfold t_cf at e
  by_cases hk : rngOk lo = true ∧ rngOk (hi + 1) = true
  · rw [if_pos hk] at e
    obtain ⟨ε', L, j, rfl⟩ := for_foldO (mt := gSet 6) (mb := (sSet 5 (mCallU fm_add [none, none] (aVal (mVar 5) (aVal (mCallU fm_chance [none, none, none, none] (aVal (mVar 0) (aVal (mVar 1) (aVal (mVar 2) (aVal (mVar 6) aNil))))) aNil))))) PyData.int
      (fun (w : Int × Int) ε => ∃ j, ε = [some (.int b), some (.int h), some (.int s), some (.int lo), some (.int hi), some (pr w), j])
      (fun w f => (t_chance b h s f).bind fun c => t_add w c) (rI lo 1 (hi + 1 - lo).toNat) (0, 1) r [some (.int b), some (.int h), some (.int s), some (.int lo), some (.int hi), some (pr (0, 1)), none] (fun w f w' ε _ hi' hs => by
          obtain ⟨j, rfl⟩ := hi'
          obtain ⟨y, h1, h2⟩ := bd hs
          refine ⟨_, _, rfl, ?h, ?j, rfl⟩
          case h => simp only [e_mVar, e_kVar, e_mMov, e_kMov, e_mCst, e_kO, e_kOb, e_kOl, e_mBin, e_kB1, e_kB2, e_mUn, e_kU, e_mTb, e_kTb, e_mTru, e_kTru, e_mNot, e_kNot, e_mAnd, e_kAnd, e_mOr, e_kOr, e_mAndV, e_kAndVt, e_kAndVf, e_mOrV, e_kOrVt, e_kOrVf, e_mNotV, e_kNotV, e_mNotB, e_kNotB, e_kNB, e_mIf, e_kIf, e_kIfS, e_mNil, e_mCons, e_kC1, e_kC2, e_mTup, e_kTup, e_mLst, e_kLst, e_mCall, e_mRng, e_kCall, e_kCallR, e_mNoP, e_mP, e_kPI, e_mSl, e_kS1, e_kS2, e_kS3, e_kCh1, e_kCh2, e_kCh3t, e_kCh3f, e_mYes, e_mItems, e_kItL, e_kItT, e_mIsi, e_kIsi, e_mNol, e_kNolN, e_kNolI, e_kNolB, e_kNolS, e_kNolT, e_kNolD, e_mListS, e_kLS, e_gSet, e_gsNil, e_gsCons, e_kG, e_gTupM, e_aNil, e_aVal, e_kA1, e_kA2, e_aLent, e_kL1, e_kL2, e_mCallU, e_kU1, e_kU2, e_kU3, e_mFill0, e_mFill1, e_mFill2, e_kF, e_kFl, e_mBack0, e_mBack1, e_mBack2, e_sNil, e_sCons, e_kSeqN, e_kSeqB, e_kSeqC, e_kSeqR, e_sIf, e_sBk, e_sCt, e_sRet, e_kRet, e_sDrop, e_kDrop, e_sSet, e_kSet, e_sTgt, e_kTgt, e_kT2, e_sPar, e_kP1, e_kP2, e_kAp0, e_kAp1, e_kAp2, e_kPu1, e_kPu2, e_kPu3, e_kPu4, e_kPu5, e_mFor, e_kFor, e_sFor0, e_kF1, e_kF2N, e_kF2C, e_kF2B, e_kF2R, e_kW1, e_kW2N, e_kW2C, e_kW2B, e_kW2R, e_mLc, e_kLc, e_kLc2, e_mL0, e_kM1, e_kM2, e_kM3, e_kM4, e_wipe0, e_wipe1, e_res0, e_res1, e_mDef, e_kDefR, e_kDefN, e_kDO, e_mOu0, e_mOuF, e_mOuS, e_mOuL, e_kOu, e_mChain, e_sApp, e_sPut, e_kAndV, e_kOrV, e_kCh3, List.getElem?_cons_zero, List.getElem?_cons_succ, List.set_cons_zero, List.set_cons_succ, List.map_cons, List.map_nil, List.length_cons, List.length_nil, List.cons_append, List.nil_append, List.replicate_succ, List.replicate_zero, Option.getD_some, Option.getD_none, decide_eq_true_eq, Bool.false_eq_true, Bool.true_eq_false, Bool.not_true, Bool.not_false, Bool.not_eq_true', decide_eq_false_iff_not, if_true, if_false, Nat.zero_add, Nat.reduceAdd, Nat.reduceSub, Nat.sub_self, Nat.sub_zero, Nat.add_zero, Nat.reduceEqDiff, List.isEmpty_nil, List.isEmpty_cons, o_add, o_sub, o_neg, o_lt, o_le, o_gt, o_ge, o_eqI, o_neI, o_eqB, o_neB, o_isN, o_isNotN, o_isB, n_non, n_bool, n_int, n_str, n_list, n_tuple, t_non, t_bool, t_int, t_list, t_tuple, o_ixT0, o_ixT1, o_ixT2, o_ixT3, o_ixT4, o_ixL0, o_ixL1, o_ixL2, o_ixL3, ix0, ix1, ix2, ix3, b_lenL, b_lenT, b_abs, b_int, b_tupL, b_tupT, b_lstL, b_lstT, b_gcd, b_max2, b_min2, r_chance h1, r_add h2] <;> rfl) ⟨_, rfl⟩ e
    rw [pr] at L
    simp only [e_mVar, e_kVar, e_mMov, e_kMov, e_mCst, e_kO, e_kOb, e_kOl, e_mBin, e_kB1, e_kB2, e_mUn, e_kU, e_mTb, e_kTb, e_mTru, e_kTru, e_mNot, e_kNot, e_mAnd, e_kAnd, e_mOr, e_kOr, e_mAndV, e_kAndVt, e_kAndVf, e_mOrV, e_kOrVt, e_kOrVf, e_mNotV, e_kNotV, e_mNotB, e_kNotB, e_kNB, e_mIf, e_kIf, e_kIfS, e_mNil, e_mCons, e_kC1, e_kC2, e_mTup, e_kTup, e_mLst, e_kLst, e_mCall, e_mRng, e_kCall, e_kCallR, e_mNoP, e_mP, e_kPI, e_mSl, e_kS1, e_kS2, e_kS3, e_kCh1, e_kCh2, e_kCh3t, e_kCh3f, e_mYes, e_mItems, e_kItL, e_kItT, e_mIsi, e_kIsi, e_mNol, e_kNolN, e_kNolI, e_kNolB, e_kNolS, e_kNolT, e_kNolD, e_mListS, e_kLS, e_gSet, e_gsNil, e_gsCons, e_kG, e_gTupM, e_aNil, e_aVal, e_kA1, e_kA2, e_aLent, e_kL1, e_kL2, e_mCallU, e_kU1, e_kU2, e_kU3, e_mFill0, e_mFill1, e_mFill2, e_kF, e_kFl, e_mBack0, e_mBack1, e_mBack2, e_sNil, e_sCons, e_kSeqN, e_kSeqB, e_kSeqC, e_kSeqR, e_sIf, e_sBk, e_sCt, e_sRet, e_kRet, e_sDrop, e_kDrop, e_sSet, e_kSet, e_sTgt, e_kTgt, e_kT2, e_sPar, e_kP1, e_kP2, e_kAp0, e_kAp1, e_kAp2, e_kPu1, e_kPu2, e_kPu3, e_kPu4, e_kPu5, e_mFor, e_kFor, e_sFor0, e_kF1, e_kF2N, e_kF2C, e_kF2B, e_kF2R, e_kW1, e_kW2N, e_kW2C, e_kW2B, e_kW2R, e_mLc, e_kLc, e_kLc2, e_mL0, e_kM1, e_kM2, e_kM3, e_kM4, e_wipe0, e_wipe1, e_res0, e_res1, e_mDef, e_kDefR, e_kDefN, e_kDO, e_mOu0, e_mOuF, e_mOuS, e_mOuL, e_kOu, e_mChain, e_sApp, e_sPut, e_kAndV, e_kOrV, e_kCh3, List.getElem?_cons_zero, List.getElem?_cons_succ, List.set_cons_zero, List.set_cons_succ, List.map_cons, List.map_nil, List.length_cons, List.length_nil, List.cons_append, List.nil_append, List.replicate_succ, List.replicate_zero, Option.getD_some, Option.getD_none, decide_eq_true_eq, Bool.false_eq_true, Bool.true_eq_false, Bool.not_true, Bool.not_false, Bool.not_eq_true', decide_eq_false_iff_not, if_true, if_false, Nat.zero_add, Nat.reduceAdd, Nat.reduceSub, Nat.sub_self, Nat.sub_zero, Nat.add_zero, Nat.reduceEqDiff, List.isEmpty_nil, List.isEmpty_cons, o_add, o_sub, o_neg, o_lt, o_le, o_gt, o_ge, o_eqI, o_neI, o_eqB, o_neB, o_isN, o_isNotN, o_isB, n_non, n_bool, n_int, n_str, n_list, n_tuple, t_non, t_bool, t_int, t_list, t_tuple, o_ixT0, o_ixT1, o_ixT2, o_ixT3, o_ixT4, o_ixL0, o_ixL1, o_ixL2, o_ixL3, ix0, ix1, ix2, ix3, b_lenL, b_lenT, b_abs, b_int, b_tupL, b_tupT, b_lstL, b_lstT, b_gcd, b_max2, b_min2, fm_chance_from, m_chance_from, rng2_i hk.1 hk.2, L]
  · rw [if_neg hk] at e; cases e
def t_enW (b h : Int) (sh : Int × Int) : Nat → Int → Option Int
  | 0, _ => none
  | n + 1, s => ((t_cf b h s 1 s).bind fun c => t_less c sh).bind fun l => if l = true then (some (s + 1)).bind (t_enW b h sh n) else some s
theorem r_enough {b h : Int} {sh : Int × Int} {r : Int} (e : t_enW b h sh 30 0 = some r) : fm_enough [.int b, .int h, pr sh] = some (.int r, [.int b, .int h, pr sh]) := by
  obtain ⟨ε', L, hε⟩ := while_O (mk := (mTru (mCallU fm_less [none, none] (aVal (mCallU fm_chance_from [none, none, none, none, none] (aVal (mVar 0) (aVal (mVar 1) (aVal (mVar 3) (aVal (mCst (.int 1)) (aVal (mVar 3) aNil)))))) (aVal (mVar 2) aNil))))) (mb := (sSet 3 (mBin opAdd (mVar 3) (mCst (.int 1)))))
    (fun (s : Int) ε => ε = [some (.int b), some (.int h), some (pr sh), some (.int s)]) (t_enW b h sh) (fun s => (t_cf b h s 1 s).bind fun c => t_less c sh) (fun s => some (s + 1)) (fun _ => rfl) (fun _ _ => rfl) (fun s l ε hs e => by
      subst hs
      obtain ⟨c, h1, h2⟩ := bd e
      refine ⟨_, ?h, fun _ => rfl, fun _ s' e' => ⟨_, ?k, rfl⟩⟩
      case h => simp only [e_mVar, e_kVar, e_mMov, e_kMov, e_mCst, e_kO, e_kOb, e_kOl, e_mBin, e_kB1, e_kB2, e_mUn, e_kU, e_mTb, e_kTb, e_mTru, e_kTru, e_mNot, e_kNot, e_mAnd, e_kAnd, e_mOr, e_kOr, e_mAndV, e_kAndVt, e_kAndVf, e_mOrV, e_kOrVt, e_kOrVf, e_mNotV, e_kNotV, e_mNotB, e_kNotB, e_kNB, e_mIf, e_kIf, e_kIfS, e_mNil, e_mCons, e_kC1, e_kC2, e_mTup, e_kTup, e_mLst, e_kLst, e_mCall, e_mRng, e_kCall, e_kCallR, e_mNoP, e_mP, e_kPI, e_mSl, e_kS1, e_kS2, e_kS3, e_kCh1, e_kCh2, e_kCh3t, e_kCh3f, e_mYes, e_mItems, e_kItL, e_kItT, e_mIsi, e_kIsi, e_mNol, e_kNolN, e_kNolI, e_kNolB, e_kNolS, e_kNolT, e_kNolD, e_mListS, e_kLS, e_gSet, e_gsNil, e_gsCons, e_kG, e_gTupM, e_aNil, e_aVal, e_kA1, e_kA2, e_aLent, e_kL1, e_kL2, e_mCallU, e_kU1, e_kU2, e_kU3, e_mFill0, e_mFill1, e_mFill2, e_kF, e_kFl, e_mBack0, e_mBack1, e_mBack2, e_sNil, e_sCons, e_kSeqN, e_kSeqB, e_kSeqC, e_kSeqR, e_sIf, e_sBk, e_sCt, e_sRet, e_kRet, e_sDrop, e_kDrop, e_sSet, e_kSet, e_sTgt, e_kTgt, e_kT2, e_sPar, e_kP1, e_kP2, e_kAp0, e_kAp1, e_kAp2, e_kPu1, e_kPu2, e_kPu3, e_kPu4, e_kPu5, e_mFor, e_kFor, e_sFor0, e_kF1, e_kF2N, e_kF2C, e_kF2B, e_kF2R, e_kW1, e_kW2N, e_kW2C, e_kW2B, e_kW2R, e_mLc, e_kLc, e_kLc2, e_mL0, e_kM1, e_kM2, e_kM3, e_kM4, e_wipe0, e_wipe1, e_res0, e_res1, e_mDef, e_kDefR, e_kDefN, e_kDO, e_mOu0, e_mOuF, e_mOuS, e_mOuL, e_kOu, e_mChain, e_sApp, e_sPut, e_kAndV, e_kOrV, e_kCh3, List.getElem?_cons_zero, List.getElem?_cons_succ, List.set_cons_zero, List.set_cons_succ, List.map_cons, List.map_nil, List.length_cons, List.length_nil, List.cons_append, List.nil_append, List.replicate_succ, List.replicate_zero, Option.getD_some, Option.getD_none, decide_eq_true_eq, Bool.false_eq_true, Bool.true_eq_false, Bool.not_true, Bool.not_false, Bool.not_eq_true', decide_eq_false_iff_not, if_true, if_false, Nat.zero_add, Nat.reduceAdd, Nat.reduceSub, Nat.sub_self, Nat.sub_zero, Nat.add_zero, Nat.reduceEqDiff, List.isEmpty_nil, List.isEmpty_cons, o_add, o_sub, o_neg, o_lt, o_le, o_gt, o_ge, o_eqI, o_neI, o_eqB, o_neB, o_isN, o_isNotN, o_isB, n_non, n_bool, n_int, n_str, n_list, n_tuple, t_non, t_bool, t_int, t_list, t_tuple, o_ixT0, o_ixT1, o_ixT2, o_ixT3, o_ixT4, o_ixL0, o_ixL1, o_ixL2, o_ixL3, ix0, ix1, ix2, ix3, b_lenL, b_lenT, b_abs, b_int, b_tupL, b_tupT, b_lstL, b_lstT, b_gcd, b_max2, b_min2, r_cf h1, r_less h2]
      case k => cases e'; simp only [e_mVar, e_kVar, e_mMov, e_kMov, e_mCst, e_kO, e_kOb, e_kOl, e_mBin, e_kB1, e_kB2, e_mUn, e_kU, e_mTb, e_kTb, e_mTru, e_kTru, e_mNot, e_kNot, e_mAnd, e_kAnd, e_mOr, e_kOr, e_mAndV, e_kAndVt, e_kAndVf, e_mOrV, e_kOrVt, e_kOrVf, e_mNotV, e_kNotV, e_mNotB, e_kNotB, e_kNB, e_mIf, e_kIf, e_kIfS, e_mNil, e_mCons, e_kC1, e_kC2, e_mTup, e_kTup, e_mLst, e_kLst, e_mCall, e_mRng, e_kCall, e_kCallR, e_mNoP, e_mP, e_kPI, e_mSl, e_kS1, e_kS2, e_kS3, e_kCh1, e_kCh2, e_kCh3t, e_kCh3f, e_mYes, e_mItems, e_kItL, e_kItT, e_mIsi, e_kIsi, e_mNol, e_kNolN, e_kNolI, e_kNolB, e_kNolS, e_kNolT, e_kNolD, e_mListS, e_kLS, e_gSet, e_gsNil, e_gsCons, e_kG, e_gTupM, e_aNil, e_aVal, e_kA1, e_kA2, e_aLent, e_kL1, e_kL2, e_mCallU, e_kU1, e_kU2, e_kU3, e_mFill0, e_mFill1, e_mFill2, e_kF, e_kFl, e_mBack0, e_mBack1, e_mBack2, e_sNil, e_sCons, e_kSeqN, e_kSeqB, e_kSeqC, e_kSeqR, e_sIf, e_sBk, e_sCt, e_sRet, e_kRet, e_sDrop, e_kDrop, e_sSet, e_kSet, e_sTgt, e_kTgt, e_kT2, e_sPar, e_kP1, e_kP2, e_kAp0, e_kAp1, e_kAp2, e_kPu1, e_kPu2, e_kPu3, e_kPu4, e_kPu5, e_mFor, e_kFor, e_sFor0, e_kF1, e_kF2N, e_kF2C, e_kF2B, e_kF2R, e_kW1, e_kW2N, e_kW2C, e_kW2B, e_kW2R, e_mLc, e_kLc, e_kLc2, e_mL0, e_kM1, e_kM2, e_kM3, e_kM4, e_wipe0, e_wipe1, e_res0, e_res1, e_mDef, e_kDefR, e_kDefN, e_kDO, e_mOu0, e_mOuF, e_mOuS, e_mOuL, e_kOu, e_mChain, e_sApp, e_sPut, e_kAndV, e_kOrV, e_kCh3, List.getElem?_cons_zero, List.getElem?_cons_succ, List.set_cons_zero, List.set_cons_succ, List.map_cons, List.map_nil, List.length_cons, List.length_nil, List.cons_append, List.nil_append, List.replicate_succ, List.replicate_zero, Option.getD_some, Option.getD_none, decide_eq_true_eq, Bool.false_eq_true, Bool.true_eq_false, Bool.not_true, Bool.not_false, Bool.not_eq_true', decide_eq_false_iff_not, if_true, if_false, Nat.zero_add, Nat.reduceAdd, Nat.reduceSub, Nat.sub_self, Nat.sub_zero, Nat.add_zero, Nat.reduceEqDiff, List.isEmpty_nil, List.isEmpty_cons, o_add, o_sub, o_neg, o_lt, o_le, o_gt, o_ge, o_eqI, o_neI, o_eqB, o_neB, o_isN, o_isNotN, o_isB, n_non, n_bool, n_int, n_str, n_list, n_tuple, t_non, t_bool, t_int, t_list, t_tuple, o_ixT0, o_ixT1, o_ixT2, o_ixT3, o_ixT4, o_ixL0, o_ixL1, o_ixL2, o_ixL3, ix0, ix1, ix2, ix3, b_lenL, b_lenT, b_abs, b_int, b_tupL, b_tupT, b_lstL, b_lstT, b_gcd, b_max2, b_min2]) 30 100000 0 r _ (by decide) rfl e
  subst hε
  simp only [e_mVar, e_kVar, e_mMov, e_kMov, e_mCst, e_kO, e_kOb, e_kOl, e_mBin, e_kB1, e_kB2, e_mUn, e_kU, e_mTb, e_kTb, e_mTru, e_kTru, e_mNot, e_kNot, e_mAnd, e_kAnd, e_mOr, e_kOr, e_mAndV, e_kAndVt, e_kAndVf, e_mOrV, e_kOrVt, e_kOrVf, e_mNotV, e_kNotV, e_mNotB, e_kNotB, e_kNB, e_mIf, e_kIf, e_kIfS, e_mNil, e_mCons, e_kC1, e_kC2, e_mTup, e_kTup, e_mLst, e_kLst, e_mCall, e_mRng, e_kCall, e_kCallR, e_mNoP, e_mP, e_kPI, e_mSl, e_kS1, e_kS2, e_kS3, e_kCh1, e_kCh2, e_kCh3t, e_kCh3f, e_mYes, e_mItems, e_kItL, e_kItT, e_mIsi, e_kIsi, e_mNol, e_kNolN, e_kNolI, e_kNolB, e_kNolS, e_kNolT, e_kNolD, e_mListS, e_kLS, e_gSet, e_gsNil, e_gsCons, e_kG, e_gTupM, e_aNil, e_aVal, e_kA1, e_kA2, e_aLent, e_kL1, e_kL2, e_mCallU, e_kU1, e_kU2, e_kU3, e_mFill0, e_mFill1, e_mFill2, e_kF, e_kFl, e_mBack0, e_mBack1, e_mBack2, e_sNil, e_sCons, e_kSeqN, e_kSeqB, e_kSeqC, e_kSeqR, e_sIf, e_sBk, e_sCt, e_sRet, e_kRet, e_sDrop, e_kDrop, e_sSet, e_kSet, e_sTgt, e_kTgt, e_kT2, e_sPar, e_kP1, e_kP2, e_kAp0, e_kAp1, e_kAp2, e_kPu1, e_kPu2, e_kPu3, e_kPu4, e_kPu5, e_mFor, e_kFor, e_sFor0, e_kF1, e_kF2N, e_kF2C, e_kF2B, e_kF2R, e_kW1, e_kW2N, e_kW2C, e_kW2B, e_kW2R, e_mLc, e_kLc, e_kLc2, e_mL0, e_kM1, e_kM2, e_kM3, e_kM4, e_wipe0, e_wipe1, e_res0, e_res1, e_mDef, e_kDefR, e_kDefN, e_kDO, e_mOu0, e_mOuF, e_mOuS, e_mOuL, e_kOu, e_mChain, e_sApp, e_sPut, e_kAndV, e_kOrV, e_kCh3, List.getElem?_cons_zero, List.getElem?_cons_succ, List.set_cons_zero, List.set_cons_succ, List.map_cons, List.map_nil, List.length_cons, List.length_nil, List.cons_append, List.nil_append, List.replicate_succ, List.replicate_zero, Option.getD_some, Option.getD_none, decide_eq_true_eq, Bool.false_eq_true, Bool.true_eq_false, Bool.not_true, Bool.not_false, Bool.not_eq_true', decide_eq_false_iff_not, if_true, if_false, Nat.zero_add, Nat.reduceAdd, Nat.reduceSub, Nat.sub_self, Nat.sub_zero, Nat.add_zero, Nat.reduceEqDiff, List.isEmpty_nil, List.isEmpty_cons, o_add, o_sub, o_neg, o_lt, o_le, o_gt, o_ge, o_eqI, o_neI, o_eqB, o_neB, o_isN, o_isNotN, o_isB, n_non, n_bool, n_int, n_str, n_list, n_tuple, t_non, t_bool, t_int, t_list, t_tuple, o_ixT0, o_ixT1, o_ixT2, o_ixT3, o_ixT4, o_ixL0, o_ixL1, o_ixL2, o_ixL3, ix0, ix1, ix2, ix3, b_lenL, b_lenT, b_abs, b_int, b_tupL, b_tupT, b_lstL, b_lstT, b_gcd, b_max2, b_min2, fm_enough, m_enough, L]
def t_fits (b h s f : Int) (sh : Int × Int) : Option Bool := (t_cf b h s f s).bind fun c => (t_less sh c).bind fun l => if l = true then (t_cf b h s 0 f).bind fun c => t_less sh c else some false
theorem r_fits {b h s f : Int} {sh : Int × Int} {r : Bool} (e : t_fits b h s f sh = some r) : fm_fits [.int b, .int h, .int s, .int f, pr sh] = some (.bool r, [.int b, .int h, .int s, .int f, pr sh]) := by
  obtain ⟨c, h1, e⟩ := bd e
  obtain ⟨l, h2, e⟩ := bd e
  cases l with
  | false =>
    rw [if_neg Bool.false_ne_true] at e; cases e
    simp only [e_mVar, e_kVar, e_mMov, e_kMov, e_mCst, e_kO, e_kOb, e_kOl, e_mBin, e_kB1, e_kB2, e_mUn, e_kU, e_mTb, e_kTb, e_mTru, e_kTru, e_mNot, e_kNot, e_mAnd, e_kAnd, e_mOr, e_kOr, e_mAndV, e_kAndVt, e_kAndVf, e_mOrV, e_kOrVt, e_kOrVf, e_mNotV, e_kNotV, e_mNotB, e_kNotB, e_kNB, e_mIf, e_kIf, e_kIfS, e_mNil, e_mCons, e_kC1, e_kC2, e_mTup, e_kTup, e_mLst, e_kLst, e_mCall, e_mRng, e_kCall, e_kCallR, e_mNoP, e_mP, e_kPI, e_mSl, e_kS1, e_kS2, e_kS3, e_kCh1, e_kCh2, e_kCh3t, e_kCh3f, e_mYes, e_mItems, e_kItL, e_kItT, e_mIsi, e_kIsi, e_mNol, e_kNolN, e_kNolI, e_kNolB, e_kNolS, e_kNolT, e_kNolD, e_mListS, e_kLS, e_gSet, e_gsNil, e_gsCons, e_kG, e_gTupM, e_aNil, e_aVal, e_kA1, e_kA2, e_aLent, e_kL1, e_kL2, e_mCallU, e_kU1, e_kU2, e_kU3, e_mFill0, e_mFill1, e_mFill2, e_kF, e_kFl, e_mBack0, e_mBack1, e_mBack2, e_sNil, e_sCons, e_kSeqN, e_kSeqB, e_kSeqC, e_kSeqR, e_sIf, e_sBk, e_sCt, e_sRet, e_kRet, e_sDrop, e_kDrop, e_sSet, e_kSet, e_sTgt, e_kTgt, e_kT2, e_sPar, e_kP1, e_kP2, e_kAp0, e_kAp1, e_kAp2, e_kPu1, e_kPu2, e_kPu3, e_kPu4, e_kPu5, e_mFor, e_kFor, e_sFor0, e_kF1, e_kF2N, e_kF2C, e_kF2B, e_kF2R, e_kW1, e_kW2N, e_kW2C, e_kW2B, e_kW2R, e_mLc, e_kLc, e_kLc2, e_mL0, e_kM1, e_kM2, e_kM3, e_kM4, e_wipe0, e_wipe1, e_res0, e_res1, e_mDef, e_kDefR, e_kDefN, e_kDO, e_mOu0, e_mOuF, e_mOuS, e_mOuL, e_kOu, e_mChain, e_sApp, e_sPut, e_kAndV, e_kOrV, e_kCh3, List.getElem?_cons_zero, List.getElem?_cons_succ, List.set_cons_zero, List.set_cons_succ, List.map_cons, List.map_nil, List.length_cons, List.length_nil, List.cons_append, List.nil_append, List.replicate_succ, List.replicate_zero, Option.getD_some, Option.getD_none, decide_eq_true_eq, Bool.false_eq_true, Bool.true_eq_false, Bool.not_true, Bool.not_false, Bool.not_eq_true', decide_eq_false_iff_not, if_true, if_false, Nat.zero_add, Nat.reduceAdd, Nat.reduceSub, Nat.sub_self, Nat.sub_zero, Nat.add_zero, Nat.reduceEqDiff, List.isEmpty_nil, List.isEmpty_cons, o_add, o_sub, o_neg, o_lt, o_le, o_gt, o_ge, o_eqI, o_neI, o_eqB, o_neB, o_isN, o_isNotN, o_isB, n_non, n_bool, n_int, n_str, n_list, n_tuple, t_non, t_bool, t_int, t_list, t_tuple, o_ixT0, o_ixT1, o_ixT2, o_ixT3, o_ixT4, o_ixL0, o_ixL1, o_ixL2, o_ixL3, ix0, ix1, ix2, ix3, b_lenL, b_lenT, b_abs, b_int, b_tupL, b_tupT, b_lstL, b_lstT, b_gcd, b_max2, b_min2, fm_fits, m_fits, r_cf h1, r_less h2]
  | true =>
    rw [if_pos rfl] at e
    obtain ⟨c', h3, e⟩ := bd e
    simp only [e_mVar, e_kVar, e_mMov, e_kMov, e_mCst, e_kO, e_kOb, e_kOl, e_mBin, e_kB1, e_kB2, e_mUn, e_kU, e_mTb, e_kTb, e_mTru, e_kTru, e_mNot, e_kNot, e_mAnd, e_kAnd, e_mOr, e_kOr, e_mAndV, e_kAndVt, e_kAndVf, e_mOrV, e_kOrVt, e_kOrVf, e_mNotV, e_kNotV, e_mNotB, e_kNotB, e_kNB, e_mIf, e_kIf, e_kIfS, e_mNil, e_mCons, e_kC1, e_kC2, e_mTup, e_kTup, e_mLst, e_kLst, e_mCall, e_mRng, e_kCall, e_kCallR, e_mNoP, e_mP, e_kPI, e_mSl, e_kS1, e_kS2, e_kS3, e_kCh1, e_kCh2, e_kCh3t, e_kCh3f, e_mYes, e_mItems, e_kItL, e_kItT, e_mIsi, e_kIsi, e_mNol, e_kNolN, e_kNolI, e_kNolB, e_kNolS, e_kNolT, e_kNolD, e_mListS, e_kLS, e_gSet, e_gsNil, e_gsCons, e_kG, e_gTupM, e_aNil, e_aVal, e_kA1, e_kA2, e_aLent, e_kL1, e_kL2, e_mCallU, e_kU1, e_kU2, e_kU3, e_mFill0, e_mFill1, e_mFill2, e_kF, e_kFl, e_mBack0, e_mBack1, e_mBack2, e_sNil, e_sCons, e_kSeqN, e_kSeqB, e_kSeqC, e_kSeqR, e_sIf, e_sBk, e_sCt, e_sRet, e_kRet, e_sDrop, e_kDrop, e_sSet, e_kSet, e_sTgt, e_kTgt, e_kT2, e_sPar, e_kP1, e_kP2, e_kAp0, e_kAp1, e_kAp2, e_kPu1, e_kPu2, e_kPu3, e_kPu4, e_kPu5, e_mFor, e_kFor, e_sFor0, e_kF1, e_kF2N, e_kF2C, e_kF2B, e_kF2R, e_kW1, e_kW2N, e_kW2C, e_kW2B, e_kW2R, e_mLc, e_kLc, e_kLc2, e_mL0, e_kM1, e_kM2, e_kM3, e_kM4, e_wipe0, e_wipe1, e_res0, e_res1, e_mDef, e_kDefR, e_kDefN, e_kDO, e_mOu0, e_mOuF, e_mOuS, e_mOuL, e_kOu, e_mChain, e_sApp, e_sPut, e_kAndV, e_kOrV, e_kCh3, List.getElem?_cons_zero, List.getElem?_cons_succ, List.set_cons_zero, List.set_cons_succ, List.map_cons, List.map_nil, List.length_cons, List.length_nil, List.cons_append, List.nil_append, List.replicate_succ, List.replicate_zero, Option.getD_some, Option.getD_none, decide_eq_true_eq, Bool.false_eq_true, Bool.true_eq_false, Bool.not_true, Bool.not_false, Bool.not_eq_true', decide_eq_false_iff_not, if_true, if_false, Nat.zero_add, Nat.reduceAdd, Nat.reduceSub, Nat.sub_self, Nat.sub_zero, Nat.add_zero, Nat.reduceEqDiff, List.isEmpty_nil, List.isEmpty_cons, o_add, o_sub, o_neg, o_lt, o_le, o_gt, o_ge, o_eqI, o_neI, o_eqB, o_neB, o_isN, o_isNotN, o_isB, n_non, n_bool, n_int, n_str, n_list, n_tuple, t_non, t_bool, t_int, t_list, t_tuple, o_ixT0, o_ixT1, o_ixT2, o_ixT3, o_ixT4, o_ixL0, o_ixL1, o_ixL2, o_ixL3, ix0, ix1, ix2, ix3, b_lenL, b_lenT, b_abs, b_int, b_tupL, b_tupT, b_lstL, b_lstT, b_gcd, b_max2, b_min2, fm_fits, m_fits, r_cf h1, r_less h2, r_cf h3, r_less e]
theorem map_getLast (l : List Int) (x : Int) : (PyData.int x :: l.map .int).getLast? = some (.int (l.getLast?.getD x)) := by
  rw [List.getLast?_cons, List.getLast?_map]
  cases l.getLast? <;> rfl
theorem o_lastI (l : List Int) (x : Int) : opIx (.list (PyData.int x :: l.map .int)) (.int (-1)) = some (.int (l.getLast?.getD x)) := at_last.trans (map_getLast l x)
def t_fitting (b s f : Int) (sh : Int × Int) : Option (Option (Int × Int)) := if rngOk (b + 1) = true ∧ (b + 1).toNat < sizeLine then (filO (fun h => t_fits b h s f sh) (rI 0 1 (b + 1).toNat)).map fun l => match l with
  | [] => none
  | x :: l => some (x, l.getLast?.getD x) else none
theorem r_fitting {b s f : Int} {sh : Int × Int} {r : Option (Int × Int)} (e : t_fitting b s f sh = some r) : fm_fitting [.int b, .int s, .int f, pr sh] = some (oP r, [.int b, .int s, .int f, pr sh]) := by
  unfold t_fitting at e
  by_cases hk : rngOk (b + 1) = true ∧ (b + 1).toNat < sizeLine
  · rw [if_pos hk] at e
    obtain ⟨l, h1, h2⟩ := map_of e
    have hl : ((rI 0 1 (b + 1).toNat).map PyData.int).length < sizeLine := by rw [List.length_map, rI_length]; exact hk.2
    have L := lc_filO (mt := gSet 5) (mk := (mTru (mCallU fm_fits [none, none, none, none, none] (aVal (mVar 0) (aVal (mVar 5) (aVal (mVar 1) (aVal (mVar 2) (aVal (mVar 3) aNil)))))))) (me := mVar 5) PyData.int (fun h => t_fits b h s f sh) [5] [some (.int b), some (.int s), some (.int f), some (pr sh), none, none] (rI 0 1 (b + 1).toNat) l (fun h k _ hs => by
      refine ⟨_, ?e, rfl, ?h, ?g, ?j⟩
      case h => simp only [e_mVar, e_kVar, e_mMov, e_kMov, e_mCst, e_kO, e_kOb, e_kOl, e_mBin, e_kB1, e_kB2, e_mUn, e_kU, e_mTb, e_kTb, e_mTru, e_kTru, e_mNot, e_kNot, e_mAnd, e_kAnd, e_mOr, e_kOr, e_mAndV, e_kAndVt, e_kAndVf, e_mOrV, e_kOrVt, e_kOrVf, e_mNotV, e_kNotV, e_mNotB, e_kNotB, e_kNB, e_mIf, e_kIf, e_kIfS, e_mNil, e_mCons, e_kC1, e_kC2, e_mTup, e_kTup, e_mLst, e_kLst, e_mCall, e_mRng, e_kCall, e_kCallR, e_mNoP, e_mP, e_kPI, e_mSl, e_kS1, e_kS2, e_kS3, e_kCh1, e_kCh2, e_kCh3t, e_kCh3f, e_mYes, e_mItems, e_kItL, e_kItT, e_mIsi, e_kIsi, e_mNol, e_kNolN, e_kNolI, e_kNolB, e_kNolS, e_kNolT, e_kNolD, e_mListS, e_kLS, e_gSet, e_gsNil, e_gsCons, e_kG, e_gTupM, e_aNil, e_aVal, e_kA1, e_kA2, e_aLent, e_kL1, e_kL2, e_mCallU, e_kU1, e_kU2, e_kU3, e_mFill0, e_mFill1, e_mFill2, e_kF, e_kFl, e_mBack0, e_mBack1, e_mBack2, e_sNil, e_sCons, e_kSeqN, e_kSeqB, e_kSeqC, e_kSeqR, e_sIf, e_sBk, e_sCt, e_sRet, e_kRet, e_sDrop, e_kDrop, e_sSet, e_kSet, e_sTgt, e_kTgt, e_kT2, e_sPar, e_kP1, e_kP2, e_kAp0, e_kAp1, e_kAp2, e_kPu1, e_kPu2, e_kPu3, e_kPu4, e_kPu5, e_mFor, e_kFor, e_sFor0, e_kF1, e_kF2N, e_kF2C, e_kF2B, e_kF2R, e_kW1, e_kW2N, e_kW2C, e_kW2B, e_kW2R, e_mLc, e_kLc, e_kLc2, e_mL0, e_kM1, e_kM2, e_kM3, e_kM4, e_wipe0, e_wipe1, e_res0, e_res1, e_mDef, e_kDefR, e_kDefN, e_kDO, e_mOu0, e_mOuF, e_mOuS, e_mOuL, e_kOu, e_mChain, e_sApp, e_sPut, e_kAndV, e_kOrV, e_kCh3, List.getElem?_cons_zero, List.getElem?_cons_succ, List.set_cons_zero, List.set_cons_succ, List.map_cons, List.map_nil, List.length_cons, List.length_nil, List.cons_append, List.nil_append, List.replicate_succ, List.replicate_zero, Option.getD_some, Option.getD_none, decide_eq_true_eq, Bool.false_eq_true, Bool.true_eq_false, Bool.not_true, Bool.not_false, Bool.not_eq_true', decide_eq_false_iff_not, if_true, if_false, Nat.zero_add, Nat.reduceAdd, Nat.reduceSub, Nat.sub_self, Nat.sub_zero, Nat.add_zero, Nat.reduceEqDiff, List.isEmpty_nil, List.isEmpty_cons, o_add, o_sub, o_neg, o_lt, o_le, o_gt, o_ge, o_eqI, o_neI, o_eqB, o_neB, o_isN, o_isNotN, o_isB, n_non, n_bool, n_int, n_str, n_list, n_tuple, t_non, t_bool, t_int, t_list, t_tuple, o_ixT0, o_ixT1, o_ixT2, o_ixT3, o_ixT4, o_ixL0, o_ixL1, o_ixL2, o_ixL3, ix0, ix1, ix2, ix3, b_lenL, b_lenT, b_abs, b_int, b_tupL, b_tupT, b_lstL, b_lstT, b_gcd, b_max2, b_min2, r_fits hs] <;> rfl
      case g => simp only [e_mVar, e_kVar, e_mMov, e_kMov, e_mCst, e_kO, e_kOb, e_kOl, e_mBin, e_kB1, e_kB2, e_mUn, e_kU, e_mTb, e_kTb, e_mTru, e_kTru, e_mNot, e_kNot, e_mAnd, e_kAnd, e_mOr, e_kOr, e_mAndV, e_kAndVt, e_kAndVf, e_mOrV, e_kOrVt, e_kOrVf, e_mNotV, e_kNotV, e_mNotB, e_kNotB, e_kNB, e_mIf, e_kIf, e_kIfS, e_mNil, e_mCons, e_kC1, e_kC2, e_mTup, e_kTup, e_mLst, e_kLst, e_mCall, e_mRng, e_kCall, e_kCallR, e_mNoP, e_mP, e_kPI, e_mSl, e_kS1, e_kS2, e_kS3, e_kCh1, e_kCh2, e_kCh3t, e_kCh3f, e_mYes, e_mItems, e_kItL, e_kItT, e_mIsi, e_kIsi, e_mNol, e_kNolN, e_kNolI, e_kNolB, e_kNolS, e_kNolT, e_kNolD, e_mListS, e_kLS, e_gSet, e_gsNil, e_gsCons, e_kG, e_gTupM, e_aNil, e_aVal, e_kA1, e_kA2, e_aLent, e_kL1, e_kL2, e_mCallU, e_kU1, e_kU2, e_kU3, e_mFill0, e_mFill1, e_mFill2, e_kF, e_kFl, e_mBack0, e_mBack1, e_mBack2, e_sNil, e_sCons, e_kSeqN, e_kSeqB, e_kSeqC, e_kSeqR, e_sIf, e_sBk, e_sCt, e_sRet, e_kRet, e_sDrop, e_kDrop, e_sSet, e_kSet, e_sTgt, e_kTgt, e_kT2, e_sPar, e_kP1, e_kP2, e_kAp0, e_kAp1, e_kAp2, e_kPu1, e_kPu2, e_kPu3, e_kPu4, e_kPu5, e_mFor, e_kFor, e_sFor0, e_kF1, e_kF2N, e_kF2C, e_kF2B, e_kF2R, e_kW1, e_kW2N, e_kW2C, e_kW2B, e_kW2R, e_mLc, e_kLc, e_kLc2, e_mL0, e_kM1, e_kM2, e_kM3, e_kM4, e_wipe0, e_wipe1, e_res0, e_res1, e_mDef, e_kDefR, e_kDefN, e_kDO, e_mOu0, e_mOuF, e_mOuS, e_mOuL, e_kOu, e_mChain, e_sApp, e_sPut, e_kAndV, e_kOrV, e_kCh3, List.getElem?_cons_zero, List.getElem?_cons_succ, List.set_cons_zero, List.set_cons_succ, List.map_cons, List.map_nil, List.length_cons, List.length_nil, List.cons_append, List.nil_append, List.replicate_succ, List.replicate_zero, Option.getD_some, Option.getD_none, decide_eq_true_eq, Bool.false_eq_true, Bool.true_eq_false, Bool.not_true, Bool.not_false, Bool.not_eq_true', decide_eq_false_iff_not, if_true, if_false, Nat.zero_add, Nat.reduceAdd, Nat.reduceSub, Nat.sub_self, Nat.sub_zero, Nat.add_zero, Nat.reduceEqDiff, List.isEmpty_nil, List.isEmpty_cons, o_add, o_sub, o_neg, o_lt, o_le, o_gt, o_ge, o_eqI, o_neI, o_eqB, o_neB, o_isN, o_isNotN, o_isB, n_non, n_bool, n_int, n_str, n_list, n_tuple, t_non, t_bool, t_int, t_list, t_tuple, o_ixT0, o_ixT1, o_ixT2, o_ixT3, o_ixT4, o_ixL0, o_ixL1, o_ixL2, o_ixL3, ix0, ix1, ix2, ix3, b_lenL, b_lenT, b_abs, b_int, b_tupL, b_tupT, b_lstL, b_lstT, b_gcd, b_max2, b_min2]
      case j => simp only [e_mVar, e_kVar, e_mMov, e_kMov, e_mCst, e_kO, e_kOb, e_kOl, e_mBin, e_kB1, e_kB2, e_mUn, e_kU, e_mTb, e_kTb, e_mTru, e_kTru, e_mNot, e_kNot, e_mAnd, e_kAnd, e_mOr, e_kOr, e_mAndV, e_kAndVt, e_kAndVf, e_mOrV, e_kOrVt, e_kOrVf, e_mNotV, e_kNotV, e_mNotB, e_kNotB, e_kNB, e_mIf, e_kIf, e_kIfS, e_mNil, e_mCons, e_kC1, e_kC2, e_mTup, e_kTup, e_mLst, e_kLst, e_mCall, e_mRng, e_kCall, e_kCallR, e_mNoP, e_mP, e_kPI, e_mSl, e_kS1, e_kS2, e_kS3, e_kCh1, e_kCh2, e_kCh3t, e_kCh3f, e_mYes, e_mItems, e_kItL, e_kItT, e_mIsi, e_kIsi, e_mNol, e_kNolN, e_kNolI, e_kNolB, e_kNolS, e_kNolT, e_kNolD, e_mListS, e_kLS, e_gSet, e_gsNil, e_gsCons, e_kG, e_gTupM, e_aNil, e_aVal, e_kA1, e_kA2, e_aLent, e_kL1, e_kL2, e_mCallU, e_kU1, e_kU2, e_kU3, e_mFill0, e_mFill1, e_mFill2, e_kF, e_kFl, e_mBack0, e_mBack1, e_mBack2, e_sNil, e_sCons, e_kSeqN, e_kSeqB, e_kSeqC, e_kSeqR, e_sIf, e_sBk, e_sCt, e_sRet, e_kRet, e_sDrop, e_kDrop, e_sSet, e_kSet, e_sTgt, e_kTgt, e_kT2, e_sPar, e_kP1, e_kP2, e_kAp0, e_kAp1, e_kAp2, e_kPu1, e_kPu2, e_kPu3, e_kPu4, e_kPu5, e_mFor, e_kFor, e_sFor0, e_kF1, e_kF2N, e_kF2C, e_kF2B, e_kF2R, e_kW1, e_kW2N, e_kW2C, e_kW2B, e_kW2R, e_mLc, e_kLc, e_kLc2, e_mL0, e_kM1, e_kM2, e_kM3, e_kM4, e_wipe0, e_wipe1, e_res0, e_res1, e_mDef, e_kDefR, e_kDefN, e_kDO, e_mOu0, e_mOuF, e_mOuS, e_mOuL, e_kOu, e_mChain, e_sApp, e_sPut, e_kAndV, e_kOrV, e_kCh3, List.getElem?_cons_zero, List.getElem?_cons_succ, List.set_cons_zero, List.set_cons_succ, List.map_cons, List.map_nil, List.length_cons, List.length_nil, List.cons_append, List.nil_append, List.replicate_succ, List.replicate_zero, Option.getD_some, Option.getD_none, decide_eq_true_eq, Bool.false_eq_true, Bool.true_eq_false, Bool.not_true, Bool.not_false, Bool.not_eq_true', decide_eq_false_iff_not, if_true, if_false, Nat.zero_add, Nat.reduceAdd, Nat.reduceSub, Nat.sub_self, Nat.sub_zero, Nat.add_zero, Nat.reduceEqDiff, List.isEmpty_nil, List.isEmpty_cons, o_add, o_sub, o_neg, o_lt, o_le, o_gt, o_ge, o_eqI, o_neI, o_eqB, o_neB, o_isN, o_isNotN, o_isB, n_non, n_bool, n_int, n_str, n_list, n_tuple, t_non, t_bool, t_int, t_list, t_tuple, o_ixT0, o_ixT1, o_ixT2, o_ixT3, o_ixT4, o_ixL0, o_ixL1, o_ixL2, o_ixL3, ix0, ix1, ix2, ix3, b_lenL, b_lenT, b_abs, b_int, b_tupL, b_tupT, b_lstL, b_lstT, b_gcd, b_max2, b_min2]) h1
    simp only [e_mVar, e_kVar, e_mMov, e_kMov, e_mCst, e_kO, e_kOb, e_kOl, e_mBin, e_kB1, e_kB2, e_mUn, e_kU, e_mTb, e_kTb, e_mTru, e_kTru, e_mNot, e_kNot, e_mAnd, e_kAnd, e_mOr, e_kOr, e_mAndV, e_kAndVt, e_kAndVf, e_mOrV, e_kOrVt, e_kOrVf, e_mNotV, e_kNotV, e_mNotB, e_kNotB, e_kNB, e_mIf, e_kIf, e_kIfS, e_mNil, e_mCons, e_kC1, e_kC2, e_mTup, e_kTup, e_mLst, e_kLst, e_mCall, e_mRng, e_kCall, e_kCallR, e_mNoP, e_mP, e_kPI, e_mSl, e_kS1, e_kS2, e_kS3, e_kCh1, e_kCh2, e_kCh3t, e_kCh3f, e_mYes, e_mItems, e_kItL, e_kItT, e_mIsi, e_kIsi, e_mNol, e_kNolN, e_kNolI, e_kNolB, e_kNolS, e_kNolT, e_kNolD, e_mListS, e_kLS, e_gSet, e_gsNil, e_gsCons, e_kG, e_gTupM, e_aNil, e_aVal, e_kA1, e_kA2, e_aLent, e_kL1, e_kL2, e_mCallU, e_kU1, e_kU2, e_kU3, e_mFill0, e_mFill1, e_mFill2, e_kF, e_kFl, e_mBack0, e_mBack1, e_mBack2, e_sNil, e_sCons, e_kSeqN, e_kSeqB, e_kSeqC, e_kSeqR, e_sIf, e_sBk, e_sCt, e_sRet, e_kRet, e_sDrop, e_kDrop, e_sSet, e_kSet, e_sTgt, e_kTgt, e_kT2, e_sPar, e_kP1, e_kP2, e_kAp0, e_kAp1, e_kAp2, e_kPu1, e_kPu2, e_kPu3, e_kPu4, e_kPu5, e_mFor, e_kFor, e_sFor0, e_kF1, e_kF2N, e_kF2C, e_kF2B, e_kF2R, e_kW1, e_kW2N, e_kW2C, e_kW2B, e_kW2R, e_mLc, e_kLc, e_kLc2, e_mL0, e_kM1, e_kM2, e_kM3, e_kM4, e_wipe0, e_wipe1, e_res0, e_res1, e_mDef, e_kDefR, e_kDefN, e_kDO, e_mOu0, e_mOuF, e_mOuS, e_mOuL, e_kOu, e_mChain, e_sApp, e_sPut, e_kAndV, e_kOrV, e_kCh3, List.getElem?_cons_zero, List.getElem?_cons_succ, List.set_cons_zero, List.set_cons_succ, List.map_cons, List.map_nil, List.length_cons, List.length_nil, List.cons_append, List.nil_append, List.replicate_succ, List.replicate_zero, Option.getD_some, Option.getD_none, decide_eq_true_eq, Bool.false_eq_true, Bool.true_eq_false, Bool.not_true, Bool.not_false, Bool.not_eq_true', decide_eq_false_iff_not, if_true, if_false, Nat.zero_add, Nat.reduceAdd, Nat.reduceSub, Nat.sub_self, Nat.sub_zero, Nat.add_zero, Nat.reduceEqDiff, List.isEmpty_nil, List.isEmpty_cons, o_add, o_sub, o_neg, o_lt, o_le, o_gt, o_ge, o_eqI, o_neI, o_eqB, o_neB, o_isN, o_isNotN, o_isB, n_non, n_bool, n_int, n_str, n_list, n_tuple, t_non, t_bool, t_int, t_list, t_tuple, o_ixT0, o_ixT1, o_ixT2, o_ixT3, o_ixT4, o_ixL0, o_ixL1, o_ixL2, o_ixL3, ix0, ix1, ix2, ix3, b_lenL, b_lenT, b_abs, b_int, b_tupL, b_tupT, b_lstL, b_lstT, b_gcd, b_max2, b_min2] at L
    cases l with
    | nil =>
      cases h2
      simp only [e_mVar, e_kVar, e_mMov, e_kMov, e_mCst, e_kO, e_kOb, e_kOl, e_mBin, e_kB1, e_kB2, e_mUn, e_kU, e_mTb, e_kTb, e_mTru, e_kTru, e_mNot, e_kNot, e_mAnd, e_kAnd, e_mOr, e_kOr, e_mAndV, e_kAndVt, e_kAndVf, e_mOrV, e_kOrVt, e_kOrVf, e_mNotV, e_kNotV, e_mNotB, e_kNotB, e_kNB, e_mIf, e_kIf, e_kIfS, e_mNil, e_mCons, e_kC1, e_kC2, e_mTup, e_kTup, e_mLst, e_kLst, e_mCall, e_mRng, e_kCall, e_kCallR, e_mNoP, e_mP, e_kPI, e_mSl, e_kS1, e_kS2, e_kS3, e_kCh1, e_kCh2, e_kCh3t, e_kCh3f, e_mYes, e_mItems, e_kItL, e_kItT, e_mIsi, e_kIsi, e_mNol, e_kNolN, e_kNolI, e_kNolB, e_kNolS, e_kNolT, e_kNolD, e_mListS, e_kLS, e_gSet, e_gsNil, e_gsCons, e_kG, e_gTupM, e_aNil, e_aVal, e_kA1, e_kA2, e_aLent, e_kL1, e_kL2, e_mCallU, e_kU1, e_kU2, e_kU3, e_mFill0, e_mFill1, e_mFill2, e_kF, e_kFl, e_mBack0, e_mBack1, e_mBack2, e_sNil, e_sCons, e_kSeqN, e_kSeqB, e_kSeqC, e_kSeqR, e_sIf, e_sBk, e_sCt, e_sRet, e_kRet, e_sDrop, e_kDrop, e_sSet, e_kSet, e_sTgt, e_kTgt, e_kT2, e_sPar, e_kP1, e_kP2, e_kAp0, e_kAp1, e_kAp2, e_kPu1, e_kPu2, e_kPu3, e_kPu4, e_kPu5, e_mFor, e_kFor, e_sFor0, e_kF1, e_kF2N, e_kF2C, e_kF2B, e_kF2R, e_kW1, e_kW2N, e_kW2C, e_kW2B, e_kW2R, e_mLc, e_kLc, e_kLc2, e_mL0, e_kM1, e_kM2, e_kM3, e_kM4, e_wipe0, e_wipe1, e_res0, e_res1, e_mDef, e_kDefR, e_kDefN, e_kDO, e_mOu0, e_mOuF, e_mOuS, e_mOuL, e_kOu, e_mChain, e_sApp, e_sPut, e_kAndV, e_kOrV, e_kCh3, List.getElem?_cons_zero, List.getElem?_cons_succ, List.set_cons_zero, List.set_cons_succ, List.map_cons, List.map_nil, List.length_cons, List.length_nil, List.cons_append, List.nil_append, List.replicate_succ, List.replicate_zero, Option.getD_some, Option.getD_none, decide_eq_true_eq, Bool.false_eq_true, Bool.true_eq_false, Bool.not_true, Bool.not_false, Bool.not_eq_true', decide_eq_false_iff_not, if_true, if_false, Nat.zero_add, Nat.reduceAdd, Nat.reduceSub, Nat.sub_self, Nat.sub_zero, Nat.add_zero, Nat.reduceEqDiff, List.isEmpty_nil, List.isEmpty_cons, o_add, o_sub, o_neg, o_lt, o_le, o_gt, o_ge, o_eqI, o_neI, o_eqB, o_neB, o_isN, o_isNotN, o_isB, n_non, n_bool, n_int, n_str, n_list, n_tuple, t_non, t_bool, t_int, t_list, t_tuple, o_ixT0, o_ixT1, o_ixT2, o_ixT3, o_ixT4, o_ixL0, o_ixL1, o_ixL2, o_ixL3, ix0, ix1, ix2, ix3, b_lenL, b_lenT, b_abs, b_int, b_tupL, b_tupT, b_lstL, b_lstT, b_gcd, b_max2, b_min2, fm_fitting, m_fitting, rng1_i hk.1, hl, L, oP]
    | cons x l =>
      cases h2
      simp only [e_mVar, e_kVar, e_mMov, e_kMov, e_mCst, e_kO, e_kOb, e_kOl, e_mBin, e_kB1, e_kB2, e_mUn, e_kU, e_mTb, e_kTb, e_mTru, e_kTru, e_mNot, e_kNot, e_mAnd, e_kAnd, e_mOr, e_kOr, e_mAndV, e_kAndVt, e_kAndVf, e_mOrV, e_kOrVt, e_kOrVf, e_mNotV, e_kNotV, e_mNotB, e_kNotB, e_kNB, e_mIf, e_kIf, e_kIfS, e_mNil, e_mCons, e_kC1, e_kC2, e_mTup, e_kTup, e_mLst, e_kLst, e_mCall, e_mRng, e_kCall, e_kCallR, e_mNoP, e_mP, e_kPI, e_mSl, e_kS1, e_kS2, e_kS3, e_kCh1, e_kCh2, e_kCh3t, e_kCh3f, e_mYes, e_mItems, e_kItL, e_kItT, e_mIsi, e_kIsi, e_mNol, e_kNolN, e_kNolI, e_kNolB, e_kNolS, e_kNolT, e_kNolD, e_mListS, e_kLS, e_gSet, e_gsNil, e_gsCons, e_kG, e_gTupM, e_aNil, e_aVal, e_kA1, e_kA2, e_aLent, e_kL1, e_kL2, e_mCallU, e_kU1, e_kU2, e_kU3, e_mFill0, e_mFill1, e_mFill2, e_kF, e_kFl, e_mBack0, e_mBack1, e_mBack2, e_sNil, e_sCons, e_kSeqN, e_kSeqB, e_kSeqC, e_kSeqR, e_sIf, e_sBk, e_sCt, e_sRet, e_kRet, e_sDrop, e_kDrop, e_sSet, e_kSet, e_sTgt, e_kTgt, e_kT2, e_sPar, e_kP1, e_kP2, e_kAp0, e_kAp1, e_kAp2, e_kPu1, e_kPu2, e_kPu3, e_kPu4, e_kPu5, e_mFor, e_kFor, e_sFor0, e_kF1, e_kF2N, e_kF2C, e_kF2B, e_kF2R, e_kW1, e_kW2N, e_kW2C, e_kW2B, e_kW2R, e_mLc, e_kLc, e_kLc2, e_mL0, e_kM1, e_kM2, e_kM3, e_kM4, e_wipe0, e_wipe1, e_res0, e_res1, e_mDef, e_kDefR, e_kDefN, e_kDO, e_mOu0, e_mOuF, e_mOuS, e_mOuL, e_kOu, e_mChain, e_sApp, e_sPut, e_kAndV, e_kOrV, e_kCh3, List.getElem?_cons_zero, List.getElem?_cons_succ, List.set_cons_zero, List.set_cons_succ, List.map_cons, List.map_nil, List.length_cons, List.length_nil, List.cons_append, List.nil_append, List.replicate_succ, List.replicate_zero, Option.getD_some, Option.getD_none, decide_eq_true_eq, Bool.false_eq_true, Bool.true_eq_false, Bool.not_true, Bool.not_false, Bool.not_eq_true', decide_eq_false_iff_not, if_true, if_false, Nat.zero_add, Nat.reduceAdd, Nat.reduceSub, Nat.sub_self, Nat.sub_zero, Nat.add_zero, Nat.reduceEqDiff, List.isEmpty_nil, List.isEmpty_cons, o_add, o_sub, o_neg, o_lt, o_le, o_gt, o_ge, o_eqI, o_neI, o_eqB, o_neB, o_isN, o_isNotN, o_isB, n_non, n_bool, n_int, n_str, n_list, n_tuple, t_non, t_bool, t_int, t_list, t_tuple, o_ixT0, o_ixT1, o_ixT2, o_ixT3, o_ixT4, o_ixL0, o_ixL1, o_ixL2, o_ixL3, ix0, ix1, ix2, ix3, b_lenL, b_lenT, b_abs, b_int, b_tupL, b_tupT, b_lstL, b_lstT, b_gcd, b_max2, b_min2, fm_fitting, m_fitting, rng1_i hk.1, hl, L, oP, o_lastI] <;> rfl
  · rw [if_neg hk] at e; cases e
end K86

set_option maxRecDepth 100000
set_option linter.all false
set_option Elab.async false
namespace K86
open PySem Dg L2
def ab (i : Int) : Int := if i < 0 then -i else i
def t_euW : Nat → Int × Int → Option (Int × Int)
  | 0, _ => none
  | n + 1, p => (some (decide (0 < p.2))).bind fun b => if b = true then ((fmo p.1 p.2).map fun m => (p.2, m)).bind (t_euW n) else some p
def t_low (a b : Int) : Option (Int × Int) :=
  let p := if b < 0 then (0 - a, 0 - b) else (a, b)
  (t_euW 60 (ab p.1, p.2)).bind fun q => (fd p.1 q.1).bind fun x => (fd p.2 q.1).bind fun y => some (x, y)
theorem l_eu {a b : Int} {p q : Int × Int} (e : t_euW 60 p = some q) : sWhile (mTb (mBin opGt (mVar 3) (mCst (.int 0)))) (sPar 2 3 (mVar 3) (mBin opMod (mVar 2) (mVar 3))) 100000 [some (.int a), some (.int b), some (.int p.1), some (.int p.2)] = some (.nx, [some (.int a), some (.int b), some (.int q.1), some (.int q.2)]) := by
  obtain ⟨ε', L, hε⟩ := while_O (mk := (mTb (mBin opGt (mVar 3) (mCst (.int 0))))) (mb := (sPar 2 3 (mVar 3) (mBin opMod (mVar 2) (mVar 3))))
    (fun (s : Int × Int) ε => ε = [some (.int a), some (.int b), some (.int s.1), some (.int s.2)]) t_euW (fun p => some (decide (0 < p.2))) (fun p => (fmo p.1 p.2).map fun m => (p.2, m)) (fun _ => rfl) (fun _ _ => rfl) (fun s l ε hs e => by
      subst hs
      cases e
      refine ⟨_, ?h, fun _ => rfl, fun _ s' e' => ⟨_, ?k, rfl⟩⟩
      case h => simp only [e_mVar, e_kVar, e_mMov, e_kMov, e_mCst, e_kO, e_kOb, e_kOl, e_mBin, e_kB1, e_kB2, e_mUn, e_kU, e_mTb, e_kTb, e_mTru, e_kTru, e_mNot, e_kNot, e_mAnd, e_kAnd, e_mOr, e_kOr, e_mAndV, e_kAndVt, e_kAndVf, e_mOrV, e_kOrVt, e_kOrVf, e_mNotV, e_kNotV, e_mNotB, e_kNotB, e_kNB, e_mIf, e_kIf, e_kIfS, e_mNil, e_mCons, e_kC1, e_kC2, e_mTup, e_kTup, e_mLst, e_kLst, e_mCall, e_mRng, e_kCall, e_kCallR, e_mNoP, e_mP, e_kPI, e_mSl, e_kS1, e_kS2, e_kS3, e_kCh1, e_kCh2, e_kCh3t, e_kCh3f, e_mYes, e_mItems, e_kItL, e_kItT, e_mIsi, e_kIsi, e_mNol, e_kNolN, e_kNolI, e_kNolB, e_kNolS, e_kNolT, e_kNolD, e_mListS, e_kLS, e_gSet, e_gsNil, e_gsCons, e_kG, e_gTupM, e_aNil, e_aVal, e_kA1, e_kA2, e_aLent, e_kL1, e_kL2, e_mCallU, e_kU1, e_kU2, e_kU3, e_mFill0, e_mFill1, e_mFill2, e_kF, e_kFl, e_mBack0, e_mBack1, e_mBack2, e_sNil, e_sCons, e_kSeqN, e_kSeqB, e_kSeqC, e_kSeqR, e_sIf, e_sBk, e_sCt, e_sRet, e_kRet, e_sDrop, e_kDrop, e_sSet, e_kSet, e_sTgt, e_kTgt, e_kT2, e_sPar, e_kP1, e_kP2, e_kAp0, e_kAp1, e_kAp2, e_kPu1, e_kPu2, e_kPu3, e_kPu4, e_kPu5, e_mFor, e_kFor, e_sFor0, e_kF1, e_kF2N, e_kF2C, e_kF2B, e_kF2R, e_kW1, e_kW2N, e_kW2C, e_kW2B, e_kW2R, e_mLc, e_kLc, e_kLc2, e_mL0, e_kM1, e_kM2, e_kM3, e_kM4, e_wipe0, e_wipe1, e_res0, e_res1, e_mDef, e_kDefR, e_kDefN, e_kDO, e_mOu0, e_mOuF, e_mOuS, e_mOuL, e_kOu, e_mChain, e_sApp, e_sPut, e_kAndV, e_kOrV, e_kCh3, List.getElem?_cons_zero, List.getElem?_cons_succ, List.set_cons_zero, List.set_cons_succ, List.map_cons, List.map_nil, List.length_cons, List.length_nil, List.cons_append, List.nil_append, List.replicate_succ, List.replicate_zero, Option.getD_some, Option.getD_none, decide_eq_true_eq, Bool.false_eq_true, Bool.true_eq_false, Bool.not_true, Bool.not_false, Bool.not_eq_true', decide_eq_false_iff_not, if_true, if_false, Nat.zero_add, Nat.reduceAdd, Nat.reduceSub, Nat.sub_self, Nat.sub_zero, Nat.add_zero, Nat.reduceEqDiff, List.isEmpty_nil, List.isEmpty_cons, o_add, o_sub, o_neg, o_lt, o_le, o_gt, o_ge, o_eqI, o_neI, o_eqB, o_neB, o_isN, o_isNotN, o_isB, n_non, n_bool, n_int, n_str, n_list, n_tuple, t_non, t_bool, t_int, t_list, t_tuple, o_ixT0, o_ixT1, o_ixT2, o_ixT3, o_ixT4, o_ixL0, o_ixL1, o_ixL2, o_ixL3, ix0, ix1, ix2, ix3, b_lenL, b_lenT, b_abs, b_int, b_tupL, b_tupT, b_lstL, b_lstT, b_gcd, b_max2, b_min2]
      case k =>
        obtain ⟨m, h1, h2⟩ := map_of e'
        cases h2
        simp only [e_mVar, e_kVar, e_mMov, e_kMov, e_mCst, e_kO, e_kOb, e_kOl, e_mBin, e_kB1, e_kB2, e_mUn, e_kU, e_mTb, e_kTb, e_mTru, e_kTru, e_mNot, e_kNot, e_mAnd, e_kAnd, e_mOr, e_kOr, e_mAndV, e_kAndVt, e_kAndVf, e_mOrV, e_kOrVt, e_kOrVf, e_mNotV, e_kNotV, e_mNotB, e_kNotB, e_kNB, e_mIf, e_kIf, e_kIfS, e_mNil, e_mCons, e_kC1, e_kC2, e_mTup, e_kTup, e_mLst, e_kLst, e_mCall, e_mRng, e_kCall, e_kCallR, e_mNoP, e_mP, e_kPI, e_mSl, e_kS1, e_kS2, e_kS3, e_kCh1, e_kCh2, e_kCh3t, e_kCh3f, e_mYes, e_mItems, e_kItL, e_kItT, e_mIsi, e_kIsi, e_mNol, e_kNolN, e_kNolI, e_kNolB, e_kNolS, e_kNolT, e_kNolD, e_mListS, e_kLS, e_gSet, e_gsNil, e_gsCons, e_kG, e_gTupM, e_aNil, e_aVal, e_kA1, e_kA2, e_aLent, e_kL1, e_kL2, e_mCallU, e_kU1, e_kU2, e_kU3, e_mFill0, e_mFill1, e_mFill2, e_kF, e_kFl, e_mBack0, e_mBack1, e_mBack2, e_sNil, e_sCons, e_kSeqN, e_kSeqB, e_kSeqC, e_kSeqR, e_sIf, e_sBk, e_sCt, e_sRet, e_kRet, e_sDrop, e_kDrop, e_sSet, e_kSet, e_sTgt, e_kTgt, e_kT2, e_sPar, e_kP1, e_kP2, e_kAp0, e_kAp1, e_kAp2, e_kPu1, e_kPu2, e_kPu3, e_kPu4, e_kPu5, e_mFor, e_kFor, e_sFor0, e_kF1, e_kF2N, e_kF2C, e_kF2B, e_kF2R, e_kW1, e_kW2N, e_kW2C, e_kW2B, e_kW2R, e_mLc, e_kLc, e_kLc2, e_mL0, e_kM1, e_kM2, e_kM3, e_kM4, e_wipe0, e_wipe1, e_res0, e_res1, e_mDef, e_kDefR, e_kDefN, e_kDO, e_mOu0, e_mOuF, e_mOuS, e_mOuL, e_kOu, e_mChain, e_sApp, e_sPut, e_kAndV, e_kOrV, e_kCh3, List.getElem?_cons_zero, List.getElem?_cons_succ, List.set_cons_zero, List.set_cons_succ, List.map_cons, List.map_nil, List.length_cons, List.length_nil, List.cons_append, List.nil_append, List.replicate_succ, List.replicate_zero, Option.getD_some, Option.getD_none, decide_eq_true_eq, Bool.false_eq_true, Bool.true_eq_false, Bool.not_true, Bool.not_false, Bool.not_eq_true', decide_eq_false_iff_not, if_true, if_false, Nat.zero_add, Nat.reduceAdd, Nat.reduceSub, Nat.sub_self, Nat.sub_zero, Nat.add_zero, Nat.reduceEqDiff, List.isEmpty_nil, List.isEmpty_cons, o_add, o_sub, o_neg, o_lt, o_le, o_gt, o_ge, o_eqI, o_neI, o_eqB, o_neB, o_isN, o_isNotN, o_isB, n_non, n_bool, n_int, n_str, n_list, n_tuple, t_non, t_bool, t_int, t_list, t_tuple, o_ixT0, o_ixT1, o_ixT2, o_ixT3, o_ixT4, o_ixL0, o_ixL1, o_ixL2, o_ixL3, ix0, ix1, ix2, ix3, b_lenL, b_lenT, b_abs, b_int, b_tupL, b_tupT, b_lstL, b_lstT, b_gcd, b_max2, b_min2, o_fmo h1]) 60 100000 p q _ (by decide) rfl e
  subst hε
  exact L
theorem r_low {a b : Int} {r : Int × Int} (h : t_low a b = some r) : fm__law_low [.int a, .int b] = some (pr r, [.int a, .int b]) := by
  unfold t_low at h
  by_cases hb : b < 0
  · rw [if_pos hb] at h
    obtain ⟨q, h0, h⟩ := bd h
    obtain ⟨x, h1, h⟩ := bd h
    obtain ⟨y, h2, h⟩ := bd h
    cases h
    have L := l_eu (a := 0 - a) (b := 0 - b) h0
    unfold ab at L
    simp only [e_mVar, e_kVar, e_mMov, e_kMov, e_mCst, e_kO, e_kOb, e_kOl, e_mBin, e_kB1, e_kB2, e_mUn, e_kU, e_mTb, e_kTb, e_mTru, e_kTru, e_mNot, e_kNot, e_mAnd, e_kAnd, e_mOr, e_kOr, e_mAndV, e_kAndVt, e_kAndVf, e_mOrV, e_kOrVt, e_kOrVf, e_mNotV, e_kNotV, e_mNotB, e_kNotB, e_kNB, e_mIf, e_kIf, e_kIfS, e_mNil, e_mCons, e_kC1, e_kC2, e_mTup, e_kTup, e_mLst, e_kLst, e_mCall, e_mRng, e_kCall, e_kCallR, e_mNoP, e_mP, e_kPI, e_mSl, e_kS1, e_kS2, e_kS3, e_kCh1, e_kCh2, e_kCh3t, e_kCh3f, e_mYes, e_mItems, e_kItL, e_kItT, e_mIsi, e_kIsi, e_mNol, e_kNolN, e_kNolI, e_kNolB, e_kNolS, e_kNolT, e_kNolD, e_mListS, e_kLS, e_gSet, e_gsNil, e_gsCons, e_kG, e_gTupM, e_aNil, e_aVal, e_kA1, e_kA2, e_aLent, e_kL1, e_kL2, e_mCallU, e_kU1, e_kU2, e_kU3, e_mFill0, e_mFill1, e_mFill2, e_kF, e_kFl, e_mBack0, e_mBack1, e_mBack2, e_sNil, e_sCons, e_kSeqN, e_kSeqB, e_kSeqC, e_kSeqR, e_sIf, e_sBk, e_sCt, e_sRet, e_kRet, e_sDrop, e_kDrop, e_sSet, e_kSet, e_sTgt, e_kTgt, e_kT2, e_sPar, e_kP1, e_kP2, e_kAp0, e_kAp1, e_kAp2, e_kPu1, e_kPu2, e_kPu3, e_kPu4, e_kPu5, e_mFor, e_kFor, e_sFor0, e_kF1, e_kF2N, e_kF2C, e_kF2B, e_kF2R, e_kW1, e_kW2N, e_kW2C, e_kW2B, e_kW2R, e_mLc, e_kLc, e_kLc2, e_mL0, e_kM1, e_kM2, e_kM3, e_kM4, e_wipe0, e_wipe1, e_res0, e_res1, e_mDef, e_kDefR, e_kDefN, e_kDO, e_mOu0, e_mOuF, e_mOuS, e_mOuL, e_kOu, e_mChain, e_sApp, e_sPut, e_kAndV, e_kOrV, e_kCh3, List.getElem?_cons_zero, List.getElem?_cons_succ, List.set_cons_zero, List.set_cons_succ, List.map_cons, List.map_nil, List.length_cons, List.length_nil, List.cons_append, List.nil_append, List.replicate_succ, List.replicate_zero, Option.getD_some, Option.getD_none, decide_eq_true_eq, Bool.false_eq_true, Bool.true_eq_false, Bool.not_true, Bool.not_false, Bool.not_eq_true', decide_eq_false_iff_not, if_true, if_false, Nat.zero_add, Nat.reduceAdd, Nat.reduceSub, Nat.sub_self, Nat.sub_zero, Nat.add_zero, Nat.reduceEqDiff, List.isEmpty_nil, List.isEmpty_cons, o_add, o_sub, o_neg, o_lt, o_le, o_gt, o_ge, o_eqI, o_neI, o_eqB, o_neB, o_isN, o_isNotN, o_isB, n_non, n_bool, n_int, n_str, n_list, n_tuple, t_non, t_bool, t_int, t_list, t_tuple, o_ixT0, o_ixT1, o_ixT2, o_ixT3, o_ixT4, o_ixL0, o_ixL1, o_ixL2, o_ixL3, ix0, ix1, ix2, ix3, b_lenL, b_lenT, b_abs, b_int, b_tupL, b_tupT, b_lstL, b_lstT, b_gcd, b_max2, b_min2, fm__law_low, m__law_low, hb, L, o_fd h1, o_fd h2, pr]
  · rw [if_neg hb] at h
    obtain ⟨q, h0, h⟩ := bd h
    obtain ⟨x, h1, h⟩ := bd h
    obtain ⟨y, h2, h⟩ := bd h
    cases h
    have L := l_eu (a := a) (b := b) h0
    unfold ab at L
    simp only [e_mVar, e_kVar, e_mMov, e_kMov, e_mCst, e_kO, e_kOb, e_kOl, e_mBin, e_kB1, e_kB2, e_mUn, e_kU, e_mTb, e_kTb, e_mTru, e_kTru, e_mNot, e_kNot, e_mAnd, e_kAnd, e_mOr, e_kOr, e_mAndV, e_kAndVt, e_kAndVf, e_mOrV, e_kOrVt, e_kOrVf, e_mNotV, e_kNotV, e_mNotB, e_kNotB, e_kNB, e_mIf, e_kIf, e_kIfS, e_mNil, e_mCons, e_kC1, e_kC2, e_mTup, e_kTup, e_mLst, e_kLst, e_mCall, e_mRng, e_kCall, e_kCallR, e_mNoP, e_mP, e_kPI, e_mSl, e_kS1, e_kS2, e_kS3, e_kCh1, e_kCh2, e_kCh3t, e_kCh3f, e_mYes, e_mItems, e_kItL, e_kItT, e_mIsi, e_kIsi, e_mNol, e_kNolN, e_kNolI, e_kNolB, e_kNolS, e_kNolT, e_kNolD, e_mListS, e_kLS, e_gSet, e_gsNil, e_gsCons, e_kG, e_gTupM, e_aNil, e_aVal, e_kA1, e_kA2, e_aLent, e_kL1, e_kL2, e_mCallU, e_kU1, e_kU2, e_kU3, e_mFill0, e_mFill1, e_mFill2, e_kF, e_kFl, e_mBack0, e_mBack1, e_mBack2, e_sNil, e_sCons, e_kSeqN, e_kSeqB, e_kSeqC, e_kSeqR, e_sIf, e_sBk, e_sCt, e_sRet, e_kRet, e_sDrop, e_kDrop, e_sSet, e_kSet, e_sTgt, e_kTgt, e_kT2, e_sPar, e_kP1, e_kP2, e_kAp0, e_kAp1, e_kAp2, e_kPu1, e_kPu2, e_kPu3, e_kPu4, e_kPu5, e_mFor, e_kFor, e_sFor0, e_kF1, e_kF2N, e_kF2C, e_kF2B, e_kF2R, e_kW1, e_kW2N, e_kW2C, e_kW2B, e_kW2R, e_mLc, e_kLc, e_kLc2, e_mL0, e_kM1, e_kM2, e_kM3, e_kM4, e_wipe0, e_wipe1, e_res0, e_res1, e_mDef, e_kDefR, e_kDefN, e_kDO, e_mOu0, e_mOuF, e_mOuS, e_mOuL, e_kOu, e_mChain, e_sApp, e_sPut, e_kAndV, e_kOrV, e_kCh3, List.getElem?_cons_zero, List.getElem?_cons_succ, List.set_cons_zero, List.set_cons_succ, List.map_cons, List.map_nil, List.length_cons, List.length_nil, List.cons_append, List.nil_append, List.replicate_succ, List.replicate_zero, Option.getD_some, Option.getD_none, decide_eq_true_eq, Bool.false_eq_true, Bool.true_eq_false, Bool.not_true, Bool.not_false, Bool.not_eq_true', decide_eq_false_iff_not, if_true, if_false, Nat.zero_add, Nat.reduceAdd, Nat.reduceSub, Nat.sub_self, Nat.sub_zero, Nat.add_zero, Nat.reduceEqDiff, List.isEmpty_nil, List.isEmpty_cons, o_add, o_sub, o_neg, o_lt, o_le, o_gt, o_ge, o_eqI, o_neI, o_eqB, o_neB, o_isN, o_isNotN, o_isB, n_non, n_bool, n_int, n_str, n_list, n_tuple, t_non, t_bool, t_int, t_list, t_tuple, o_ixT0, o_ixT1, o_ixT2, o_ixT3, o_ixT4, o_ixL0, o_ixL1, o_ixL2, o_ixL3, ix0, ix1, ix2, ix3, b_lenL, b_lenT, b_abs, b_int, b_tupL, b_tupT, b_lstL, b_lstT, b_gcd, b_max2, b_min2, fm__law_low, m__law_low, hb, L, o_fd h1, o_fd h2, pr]
def t_ladd (o p : Int × Int) : Option (Int × Int) := (mu o.1 p.2).bind fun x => (mu p.1 o.2).bind fun y => (mu o.2 p.2).bind fun z => t_low (x + y) z
theorem r_ladd {o p r : Int × Int} (h : t_ladd o p = some r) : fm__law_add [pr o, pr p] = some (pr r, [pr o, pr p]) := by
  obtain ⟨x, h1, h⟩ := bd h
  obtain ⟨y, h2, h⟩ := bd h
  obtain ⟨z, h3, h⟩ := bd h
  simp only [e_mVar, e_kVar, e_mMov, e_kMov, e_mCst, e_kO, e_kOb, e_kOl, e_mBin, e_kB1, e_kB2, e_mUn, e_kU, e_mTb, e_kTb, e_mTru, e_kTru, e_mNot, e_kNot, e_mAnd, e_kAnd, e_mOr, e_kOr, e_mAndV, e_kAndVt, e_kAndVf, e_mOrV, e_kOrVt, e_kOrVf, e_mNotV, e_kNotV, e_mNotB, e_kNotB, e_kNB, e_mIf, e_kIf, e_kIfS, e_mNil, e_mCons, e_kC1, e_kC2, e_mTup, e_kTup, e_mLst, e_kLst, e_mCall, e_mRng, e_kCall, e_kCallR, e_mNoP, e_mP, e_kPI, e_mSl, e_kS1, e_kS2, e_kS3, e_kCh1, e_kCh2, e_kCh3t, e_kCh3f, e_mYes, e_mItems, e_kItL, e_kItT, e_mIsi, e_kIsi, e_mNol, e_kNolN, e_kNolI, e_kNolB, e_kNolS, e_kNolT, e_kNolD, e_mListS, e_kLS, e_gSet, e_gsNil, e_gsCons, e_kG, e_gTupM, e_aNil, e_aVal, e_kA1, e_kA2, e_aLent, e_kL1, e_kL2, e_mCallU, e_kU1, e_kU2, e_kU3, e_mFill0, e_mFill1, e_mFill2, e_kF, e_kFl, e_mBack0, e_mBack1, e_mBack2, e_sNil, e_sCons, e_kSeqN, e_kSeqB, e_kSeqC, e_kSeqR, e_sIf, e_sBk, e_sCt, e_sRet, e_kRet, e_sDrop, e_kDrop, e_sSet, e_kSet, e_sTgt, e_kTgt, e_kT2, e_sPar, e_kP1, e_kP2, e_kAp0, e_kAp1, e_kAp2, e_kPu1, e_kPu2, e_kPu3, e_kPu4, e_kPu5, e_mFor, e_kFor, e_sFor0, e_kF1, e_kF2N, e_kF2C, e_kF2B, e_kF2R, e_kW1, e_kW2N, e_kW2C, e_kW2B, e_kW2R, e_mLc, e_kLc, e_kLc2, e_mL0, e_kM1, e_kM2, e_kM3, e_kM4, e_wipe0, e_wipe1, e_res0, e_res1, e_mDef, e_kDefR, e_kDefN, e_kDO, e_mOu0, e_mOuF, e_mOuS, e_mOuL, e_kOu, e_mChain, e_sApp, e_sPut, e_kAndV, e_kOrV, e_kCh3, List.getElem?_cons_zero, List.getElem?_cons_succ, List.set_cons_zero, List.set_cons_succ, List.map_cons, List.map_nil, List.length_cons, List.length_nil, List.cons_append, List.nil_append, List.replicate_succ, List.replicate_zero, Option.getD_some, Option.getD_none, decide_eq_true_eq, Bool.false_eq_true, Bool.true_eq_false, Bool.not_true, Bool.not_false, Bool.not_eq_true', decide_eq_false_iff_not, if_true, if_false, Nat.zero_add, Nat.reduceAdd, Nat.reduceSub, Nat.sub_self, Nat.sub_zero, Nat.add_zero, Nat.reduceEqDiff, List.isEmpty_nil, List.isEmpty_cons, o_add, o_sub, o_neg, o_lt, o_le, o_gt, o_ge, o_eqI, o_neI, o_eqB, o_neB, o_isN, o_isNotN, o_isB, n_non, n_bool, n_int, n_str, n_list, n_tuple, t_non, t_bool, t_int, t_list, t_tuple, o_ixT0, o_ixT1, o_ixT2, o_ixT3, o_ixT4, o_ixL0, o_ixL1, o_ixL2, o_ixL3, ix0, ix1, ix2, ix3, b_lenL, b_lenT, b_abs, b_int, b_tupL, b_tupT, b_lstL, b_lstT, b_gcd, b_max2, b_min2, fm__law_add, m__law_add, o_mu h1, o_mu h2, o_mu h3, r_low h, pr]
def t_lsub (o p : Int × Int) : Option (Int × Int) := (mu o.1 p.2).bind fun x => (mu p.1 o.2).bind fun y => (mu o.2 p.2).bind fun z => t_low (x - y) z
theorem r_lsub {o p r : Int × Int} (h : t_lsub o p = some r) : fm__law_less_by [pr o, pr p] = some (pr r, [pr o, pr p]) := by
  obtain ⟨x, h1, h⟩ := bd h
  obtain ⟨y, h2, h⟩ := bd h
  obtain ⟨z, h3, h⟩ := bd h
  simp only [e_mVar, e_kVar, e_mMov, e_kMov, e_mCst, e_kO, e_kOb, e_kOl, e_mBin, e_kB1, e_kB2, e_mUn, e_kU, e_mTb, e_kTb, e_mTru, e_kTru, e_mNot, e_kNot, e_mAnd, e_kAnd, e_mOr, e_kOr, e_mAndV, e_kAndVt, e_kAndVf, e_mOrV, e_kOrVt, e_kOrVf, e_mNotV, e_kNotV, e_mNotB, e_kNotB, e_kNB, e_mIf, e_kIf, e_kIfS, e_mNil, e_mCons, e_kC1, e_kC2, e_mTup, e_kTup, e_mLst, e_kLst, e_mCall, e_mRng, e_kCall, e_kCallR, e_mNoP, e_mP, e_kPI, e_mSl, e_kS1, e_kS2, e_kS3, e_kCh1, e_kCh2, e_kCh3t, e_kCh3f, e_mYes, e_mItems, e_kItL, e_kItT, e_mIsi, e_kIsi, e_mNol, e_kNolN, e_kNolI, e_kNolB, e_kNolS, e_kNolT, e_kNolD, e_mListS, e_kLS, e_gSet, e_gsNil, e_gsCons, e_kG, e_gTupM, e_aNil, e_aVal, e_kA1, e_kA2, e_aLent, e_kL1, e_kL2, e_mCallU, e_kU1, e_kU2, e_kU3, e_mFill0, e_mFill1, e_mFill2, e_kF, e_kFl, e_mBack0, e_mBack1, e_mBack2, e_sNil, e_sCons, e_kSeqN, e_kSeqB, e_kSeqC, e_kSeqR, e_sIf, e_sBk, e_sCt, e_sRet, e_kRet, e_sDrop, e_kDrop, e_sSet, e_kSet, e_sTgt, e_kTgt, e_kT2, e_sPar, e_kP1, e_kP2, e_kAp0, e_kAp1, e_kAp2, e_kPu1, e_kPu2, e_kPu3, e_kPu4, e_kPu5, e_mFor, e_kFor, e_sFor0, e_kF1, e_kF2N, e_kF2C, e_kF2B, e_kF2R, e_kW1, e_kW2N, e_kW2C, e_kW2B, e_kW2R, e_mLc, e_kLc, e_kLc2, e_mL0, e_kM1, e_kM2, e_kM3, e_kM4, e_wipe0, e_wipe1, e_res0, e_res1, e_mDef, e_kDefR, e_kDefN, e_kDO, e_mOu0, e_mOuF, e_mOuS, e_mOuL, e_kOu, e_mChain, e_sApp, e_sPut, e_kAndV, e_kOrV, e_kCh3, List.getElem?_cons_zero, List.getElem?_cons_succ, List.set_cons_zero, List.set_cons_succ, List.map_cons, List.map_nil, List.length_cons, List.length_nil, List.cons_append, List.nil_append, List.replicate_succ, List.replicate_zero, Option.getD_some, Option.getD_none, decide_eq_true_eq, Bool.false_eq_true, Bool.true_eq_false, Bool.not_true, Bool.not_false, Bool.not_eq_true', decide_eq_false_iff_not, if_true, if_false, Nat.zero_add, Nat.reduceAdd, Nat.reduceSub, Nat.sub_self, Nat.sub_zero, Nat.add_zero, Nat.reduceEqDiff, List.isEmpty_nil, List.isEmpty_cons, o_add, o_sub, o_neg, o_lt, o_le, o_gt, o_ge, o_eqI, o_neI, o_eqB, o_neB, o_isN, o_isNotN, o_isB, n_non, n_bool, n_int, n_str, n_list, n_tuple, t_non, t_bool, t_int, t_list, t_tuple, o_ixT0, o_ixT1, o_ixT2, o_ixT3, o_ixT4, o_ixL0, o_ixL1, o_ixL2, o_ixL3, ix0, ix1, ix2, ix3, b_lenL, b_lenT, b_abs, b_int, b_tupL, b_tupT, b_lstL, b_lstT, b_gcd, b_max2, b_min2, fm__law_less_by, m__law_less_by, o_mu h1, o_mu h2, o_mu h3, r_low h, pr]
def t_lmul (o p : Int × Int) : Option (Int × Int) := (mu o.1 p.1).bind fun x => (mu o.2 p.2).bind fun z => t_low x z
theorem r_lmul {o p r : Int × Int} (h : t_lmul o p = some r) : fm__law_times [pr o, pr p] = some (pr r, [pr o, pr p]) := by
  obtain ⟨x, h1, h⟩ := bd h
  obtain ⟨z, h3, h⟩ := bd h
  simp only [e_mVar, e_kVar, e_mMov, e_kMov, e_mCst, e_kO, e_kOb, e_kOl, e_mBin, e_kB1, e_kB2, e_mUn, e_kU, e_mTb, e_kTb, e_mTru, e_kTru, e_mNot, e_kNot, e_mAnd, e_kAnd, e_mOr, e_kOr, e_mAndV, e_kAndVt, e_kAndVf, e_mOrV, e_kOrVt, e_kOrVf, e_mNotV, e_kNotV, e_mNotB, e_kNotB, e_kNB, e_mIf, e_kIf, e_kIfS, e_mNil, e_mCons, e_kC1, e_kC2, e_mTup, e_kTup, e_mLst, e_kLst, e_mCall, e_mRng, e_kCall, e_kCallR, e_mNoP, e_mP, e_kPI, e_mSl, e_kS1, e_kS2, e_kS3, e_kCh1, e_kCh2, e_kCh3t, e_kCh3f, e_mYes, e_mItems, e_kItL, e_kItT, e_mIsi, e_kIsi, e_mNol, e_kNolN, e_kNolI, e_kNolB, e_kNolS, e_kNolT, e_kNolD, e_mListS, e_kLS, e_gSet, e_gsNil, e_gsCons, e_kG, e_gTupM, e_aNil, e_aVal, e_kA1, e_kA2, e_aLent, e_kL1, e_kL2, e_mCallU, e_kU1, e_kU2, e_kU3, e_mFill0, e_mFill1, e_mFill2, e_kF, e_kFl, e_mBack0, e_mBack1, e_mBack2, e_sNil, e_sCons, e_kSeqN, e_kSeqB, e_kSeqC, e_kSeqR, e_sIf, e_sBk, e_sCt, e_sRet, e_kRet, e_sDrop, e_kDrop, e_sSet, e_kSet, e_sTgt, e_kTgt, e_kT2, e_sPar, e_kP1, e_kP2, e_kAp0, e_kAp1, e_kAp2, e_kPu1, e_kPu2, e_kPu3, e_kPu4, e_kPu5, e_mFor, e_kFor, e_sFor0, e_kF1, e_kF2N, e_kF2C, e_kF2B, e_kF2R, e_kW1, e_kW2N, e_kW2C, e_kW2B, e_kW2R, e_mLc, e_kLc, e_kLc2, e_mL0, e_kM1, e_kM2, e_kM3, e_kM4, e_wipe0, e_wipe1, e_res0, e_res1, e_mDef, e_kDefR, e_kDefN, e_kDO, e_mOu0, e_mOuF, e_mOuS, e_mOuL, e_kOu, e_mChain, e_sApp, e_sPut, e_kAndV, e_kOrV, e_kCh3, List.getElem?_cons_zero, List.getElem?_cons_succ, List.set_cons_zero, List.set_cons_succ, List.map_cons, List.map_nil, List.length_cons, List.length_nil, List.cons_append, List.nil_append, List.replicate_succ, List.replicate_zero, Option.getD_some, Option.getD_none, decide_eq_true_eq, Bool.false_eq_true, Bool.true_eq_false, Bool.not_true, Bool.not_false, Bool.not_eq_true', decide_eq_false_iff_not, if_true, if_false, Nat.zero_add, Nat.reduceAdd, Nat.reduceSub, Nat.sub_self, Nat.sub_zero, Nat.add_zero, Nat.reduceEqDiff, List.isEmpty_nil, List.isEmpty_cons, o_add, o_sub, o_neg, o_lt, o_le, o_gt, o_ge, o_eqI, o_neI, o_eqB, o_neB, o_isN, o_isNotN, o_isB, n_non, n_bool, n_int, n_str, n_list, n_tuple, t_non, t_bool, t_int, t_list, t_tuple, o_ixT0, o_ixT1, o_ixT2, o_ixT3, o_ixT4, o_ixL0, o_ixL1, o_ixL2, o_ixL3, ix0, ix1, ix2, ix3, b_lenL, b_lenT, b_abs, b_int, b_tupL, b_tupT, b_lstL, b_lstT, b_gcd, b_max2, b_min2, fm__law_times, m__law_times, o_mu h1, o_mu h3, r_low h, pr]
theorem r_lbel {o p : Int × Int} {r : Bool} (h : t_less o p = some r) : fm__law_below [pr o, pr p] = some (.bool r, [pr o, pr p]) := by
  obtain ⟨x, h1, h⟩ := bd h
  obtain ⟨y, h2, h⟩ := bd h
  cases h
  simp only [e_mVar, e_kVar, e_mMov, e_kMov, e_mCst, e_kO, e_kOb, e_kOl, e_mBin, e_kB1, e_kB2, e_mUn, e_kU, e_mTb, e_kTb, e_mTru, e_kTru, e_mNot, e_kNot, e_mAnd, e_kAnd, e_mOr, e_kOr, e_mAndV, e_kAndVt, e_kAndVf, e_mOrV, e_kOrVt, e_kOrVf, e_mNotV, e_kNotV, e_mNotB, e_kNotB, e_kNB, e_mIf, e_kIf, e_kIfS, e_mNil, e_mCons, e_kC1, e_kC2, e_mTup, e_kTup, e_mLst, e_kLst, e_mCall, e_mRng, e_kCall, e_kCallR, e_mNoP, e_mP, e_kPI, e_mSl, e_kS1, e_kS2, e_kS3, e_kCh1, e_kCh2, e_kCh3t, e_kCh3f, e_mYes, e_mItems, e_kItL, e_kItT, e_mIsi, e_kIsi, e_mNol, e_kNolN, e_kNolI, e_kNolB, e_kNolS, e_kNolT, e_kNolD, e_mListS, e_kLS, e_gSet, e_gsNil, e_gsCons, e_kG, e_gTupM, e_aNil, e_aVal, e_kA1, e_kA2, e_aLent, e_kL1, e_kL2, e_mCallU, e_kU1, e_kU2, e_kU3, e_mFill0, e_mFill1, e_mFill2, e_kF, e_kFl, e_mBack0, e_mBack1, e_mBack2, e_sNil, e_sCons, e_kSeqN, e_kSeqB, e_kSeqC, e_kSeqR, e_sIf, e_sBk, e_sCt, e_sRet, e_kRet, e_sDrop, e_kDrop, e_sSet, e_kSet, e_sTgt, e_kTgt, e_kT2, e_sPar, e_kP1, e_kP2, e_kAp0, e_kAp1, e_kAp2, e_kPu1, e_kPu2, e_kPu3, e_kPu4, e_kPu5, e_mFor, e_kFor, e_sFor0, e_kF1, e_kF2N, e_kF2C, e_kF2B, e_kF2R, e_kW1, e_kW2N, e_kW2C, e_kW2B, e_kW2R, e_mLc, e_kLc, e_kLc2, e_mL0, e_kM1, e_kM2, e_kM3, e_kM4, e_wipe0, e_wipe1, e_res0, e_res1, e_mDef, e_kDefR, e_kDefN, e_kDO, e_mOu0, e_mOuF, e_mOuS, e_mOuL, e_kOu, e_mChain, e_sApp, e_sPut, e_kAndV, e_kOrV, e_kCh3, List.getElem?_cons_zero, List.getElem?_cons_succ, List.set_cons_zero, List.set_cons_succ, List.map_cons, List.map_nil, List.length_cons, List.length_nil, List.cons_append, List.nil_append, List.replicate_succ, List.replicate_zero, Option.getD_some, Option.getD_none, decide_eq_true_eq, Bool.false_eq_true, Bool.true_eq_false, Bool.not_true, Bool.not_false, Bool.not_eq_true', decide_eq_false_iff_not, if_true, if_false, Nat.zero_add, Nat.reduceAdd, Nat.reduceSub, Nat.sub_self, Nat.sub_zero, Nat.add_zero, Nat.reduceEqDiff, List.isEmpty_nil, List.isEmpty_cons, o_add, o_sub, o_neg, o_lt, o_le, o_gt, o_ge, o_eqI, o_neI, o_eqB, o_neB, o_isN, o_isNotN, o_isB, n_non, n_bool, n_int, n_str, n_list, n_tuple, t_non, t_bool, t_int, t_list, t_tuple, o_ixT0, o_ixT1, o_ixT2, o_ixT3, o_ixT4, o_ixL0, o_ixL1, o_ixL2, o_ixL3, ix0, ix1, ix2, ix3, b_lenL, b_lenT, b_abs, b_int, b_tupL, b_tupT, b_lstL, b_lstT, b_gcd, b_max2, b_min2, fm__law_below, m__law_below, o_mu h1, o_mu h2, pr]
def t_lsum (l : List (Int × Int)) : Option (Int × Int) := foldO t_ladd (0, 1) l
theorem r_lsum {l : List (Int × Int)} {r : Int × Int} (h : t_lsum l = some r) : fm__law_sum [.list (l.map pr)] = some (pr r, [.list (l.map pr)]) := by
  obtain ⟨ε', L, j, rfl⟩ := for_foldO (mt := gSet 2) (mb := (sSet 1 (mCallU fm__law_add [none, none] (aVal (mVar 1) (aVal (mVar 2) aNil))))) pr
    (fun (w : Int × Int) ε => ∃ j, ε = [some (.list (l.map pr)), some (pr w), j]) t_ladd l (0, 1) r [some (.list (l.map pr)), some (pr (0, 1)), none] (fun w f w' ε _ hi' hs => by
      obtain ⟨j, rfl⟩ := hi'
      refine ⟨_, _, rfl, ?h, ?j, rfl⟩
      case h => simp only [e_mVar, e_kVar, e_mMov, e_kMov, e_mCst, e_kO, e_kOb, e_kOl, e_mBin, e_kB1, e_kB2, e_mUn, e_kU, e_mTb, e_kTb, e_mTru, e_kTru, e_mNot, e_kNot, e_mAnd, e_kAnd, e_mOr, e_kOr, e_mAndV, e_kAndVt, e_kAndVf, e_mOrV, e_kOrVt, e_kOrVf, e_mNotV, e_kNotV, e_mNotB, e_kNotB, e_kNB, e_mIf, e_kIf, e_kIfS, e_mNil, e_mCons, e_kC1, e_kC2, e_mTup, e_kTup, e_mLst, e_kLst, e_mCall, e_mRng, e_kCall, e_kCallR, e_mNoP, e_mP, e_kPI, e_mSl, e_kS1, e_kS2, e_kS3, e_kCh1, e_kCh2, e_kCh3t, e_kCh3f, e_mYes, e_mItems, e_kItL, e_kItT, e_mIsi, e_kIsi, e_mNol, e_kNolN, e_kNolI, e_kNolB, e_kNolS, e_kNolT, e_kNolD, e_mListS, e_kLS, e_gSet, e_gsNil, e_gsCons, e_kG, e_gTupM, e_aNil, e_aVal, e_kA1, e_kA2, e_aLent, e_kL1, e_kL2, e_mCallU, e_kU1, e_kU2, e_kU3, e_mFill0, e_mFill1, e_mFill2, e_kF, e_kFl, e_mBack0, e_mBack1, e_mBack2, e_sNil, e_sCons, e_kSeqN, e_kSeqB, e_kSeqC, e_kSeqR, e_sIf, e_sBk, e_sCt, e_sRet, e_kRet, e_sDrop, e_kDrop, e_sSet, e_kSet, e_sTgt, e_kTgt, e_kT2, e_sPar, e_kP1, e_kP2, e_kAp0, e_kAp1, e_kAp2, e_kPu1, e_kPu2, e_kPu3, e_kPu4, e_kPu5, e_mFor, e_kFor, e_sFor0, e_kF1, e_kF2N, e_kF2C, e_kF2B, e_kF2R, e_kW1, e_kW2N, e_kW2C, e_kW2B, e_kW2R, e_mLc, e_kLc, e_kLc2, e_mL0, e_kM1, e_kM2, e_kM3, e_kM4, e_wipe0, e_wipe1, e_res0, e_res1, e_mDef, e_kDefR, e_kDefN, e_kDO, e_mOu0, e_mOuF, e_mOuS, e_mOuL, e_kOu, e_mChain, e_sApp, e_sPut, e_kAndV, e_kOrV, e_kCh3, List.getElem?_cons_zero, List.getElem?_cons_succ, List.set_cons_zero, List.set_cons_succ, List.map_cons, List.map_nil, List.length_cons, List.length_nil, List.cons_append, List.nil_append, List.replicate_succ, List.replicate_zero, Option.getD_some, Option.getD_none, decide_eq_true_eq, Bool.false_eq_true, Bool.true_eq_false, Bool.not_true, Bool.not_false, Bool.not_eq_true', decide_eq_false_iff_not, if_true, if_false, Nat.zero_add, Nat.reduceAdd, Nat.reduceSub, Nat.sub_self, Nat.sub_zero, Nat.add_zero, Nat.reduceEqDiff, List.isEmpty_nil, List.isEmpty_cons, o_add, o_sub, o_neg, o_lt, o_le, o_gt, o_ge, o_eqI, o_neI, o_eqB, o_neB, o_isN, o_isNotN, o_isB, n_non, n_bool, n_int, n_str, n_list, n_tuple, t_non, t_bool, t_int, t_list, t_tuple, o_ixT0, o_ixT1, o_ixT2, o_ixT3, o_ixT4, o_ixL0, o_ixL1, o_ixL2, o_ixL3, ix0, ix1, ix2, ix3, b_lenL, b_lenT, b_abs, b_int, b_tupL, b_tupT, b_lstL, b_lstT, b_gcd, b_max2, b_min2, r_ladd hs] <;> rfl) ⟨_, rfl⟩ h
  rw [show pr (0, 1) = .tuple [.int 0, .int 1] from rfl] at L
  simp only [e_mVar, e_kVar, e_mMov, e_kMov, e_mCst, e_kO, e_kOb, e_kOl, e_mBin, e_kB1, e_kB2, e_mUn, e_kU, e_mTb, e_kTb, e_mTru, e_kTru, e_mNot, e_kNot, e_mAnd, e_kAnd, e_mOr, e_kOr, e_mAndV, e_kAndVt, e_kAndVf, e_mOrV, e_kOrVt, e_kOrVf, e_mNotV, e_kNotV, e_mNotB, e_kNotB, e_kNB, e_mIf, e_kIf, e_kIfS, e_mNil, e_mCons, e_kC1, e_kC2, e_mTup, e_kTup, e_mLst, e_kLst, e_mCall, e_mRng, e_kCall, e_kCallR, e_mNoP, e_mP, e_kPI, e_mSl, e_kS1, e_kS2, e_kS3, e_kCh1, e_kCh2, e_kCh3t, e_kCh3f, e_mYes, e_mItems, e_kItL, e_kItT, e_mIsi, e_kIsi, e_mNol, e_kNolN, e_kNolI, e_kNolB, e_kNolS, e_kNolT, e_kNolD, e_mListS, e_kLS, e_gSet, e_gsNil, e_gsCons, e_kG, e_gTupM, e_aNil, e_aVal, e_kA1, e_kA2, e_aLent, e_kL1, e_kL2, e_mCallU, e_kU1, e_kU2, e_kU3, e_mFill0, e_mFill1, e_mFill2, e_kF, e_kFl, e_mBack0, e_mBack1, e_mBack2, e_sNil, e_sCons, e_kSeqN, e_kSeqB, e_kSeqC, e_kSeqR, e_sIf, e_sBk, e_sCt, e_sRet, e_kRet, e_sDrop, e_kDrop, e_sSet, e_kSet, e_sTgt, e_kTgt, e_kT2, e_sPar, e_kP1, e_kP2, e_kAp0, e_kAp1, e_kAp2, e_kPu1, e_kPu2, e_kPu3, e_kPu4, e_kPu5, e_mFor, e_kFor, e_sFor0, e_kF1, e_kF2N, e_kF2C, e_kF2B, e_kF2R, e_kW1, e_kW2N, e_kW2C, e_kW2B, e_kW2R, e_mLc, e_kLc, e_kLc2, e_mL0, e_kM1, e_kM2, e_kM3, e_kM4, e_wipe0, e_wipe1, e_res0, e_res1, e_mDef, e_kDefR, e_kDefN, e_kDO, e_mOu0, e_mOuF, e_mOuS, e_mOuL, e_kOu, e_mChain, e_sApp, e_sPut, e_kAndV, e_kOrV, e_kCh3, List.getElem?_cons_zero, List.getElem?_cons_succ, List.set_cons_zero, List.set_cons_succ, List.map_cons, List.map_nil, List.length_cons, List.length_nil, List.cons_append, List.nil_append, List.replicate_succ, List.replicate_zero, Option.getD_some, Option.getD_none, decide_eq_true_eq, Bool.false_eq_true, Bool.true_eq_false, Bool.not_true, Bool.not_false, Bool.not_eq_true', decide_eq_false_iff_not, if_true, if_false, Nat.zero_add, Nat.reduceAdd, Nat.reduceSub, Nat.sub_self, Nat.sub_zero, Nat.add_zero, Nat.reduceEqDiff, List.isEmpty_nil, List.isEmpty_cons, o_add, o_sub, o_neg, o_lt, o_le, o_gt, o_ge, o_eqI, o_neI, o_eqB, o_neB, o_isN, o_isNotN, o_isB, n_non, n_bool, n_int, n_str, n_list, n_tuple, t_non, t_bool, t_int, t_list, t_tuple, o_ixT0, o_ixT1, o_ixT2, o_ixT3, o_ixT4, o_ixL0, o_ixL1, o_ixL2, o_ixL3, ix0, ix1, ix2, ix3, b_lenL, b_lenT, b_abs, b_int, b_tupL, b_tupT, b_lstL, b_lstT, b_gcd, b_max2, b_min2, fm__law_sum, m__law_sum, L]

/-! the first part of the law, told by its drawn numbers -/
def rg (n : Int) : List Int := rI 0 1 n.toNat
def chkSame (b h s : Int) (told : List (Int × Int)) (f : Int) : Option Unit :=
  (t_chance b s h f).bind fun x => (t_chance b (b - h) s (s - f)).bind fun y => if told[f.toNat]? = some x ∧ told[f.toNat]? = some y then some () else none
def chk1 (b h s : Int) : Option (List (Int × Int)) :=
  (mapO (t_chance b h s) (rg (s + 1))).bind fun told => (t_lsum told).bind fun q => if q = (1, 1) then
    (foldO (fun (_ : Unit) f => chkSame b h s told f) () (rg ((if s < h then s else h) + 1))).bind fun _ =>
      (mapO (fun f => (told[f.toNat]?).bind fun x => t_lmul (f, 1) x) (rg (s + 1))).bind fun ms => (t_lsum ms).bind fun mean => (mu h s).bind fun hs => (t_low hs b).bind fun due => if mean = due then some told else none
  else none
/-- enough's part: held > 0 -/
def chk2 (b h p : Int) : Option Unit := (t_low (1 + p) 9).bind fun part => if 0 < h then
    (t_enW b h part 30 0).bind fun few => (t_chance b h few 0).bind fun c => (t_lsub (1, 1) c).bind fun u => (t_less u part).bind fun z => if z = true then none else
    (if 0 < few then (t_chance b h (few - 1) 0).bind fun c => (t_lsub (1, 1) c).bind fun u => t_less u part else some true).bind fun z => if z = false then none else
    if h < b then (t_enW b (h + 1) part 30 0).bind fun few2 => if few < few2 then none else some () else some ()
  else some ()
def chk3 (b s f : Int) : Option Unit := (t_fitting b s f (0, 1)).bind fun span => if span = some (f, b - s + f) then some () else none
theorem all1 : (List.range 9).all (fun b => (List.range (b + 2)).all fun h => (List.range (b + 2)).all fun s => (chk1 (b + 1) h s).isSome) = true := by decide +kernel
theorem all2 : (List.range 9).all (fun b => (List.range (b + 2)).all fun h => (List.range 9).all fun p => (chk2 (b + 1) h p).isSome) = true := by decide +kernel
theorem all3 : (List.range 9).all (fun b => (List.range (b + 2)).all fun s => (List.range (s + 1)).all fun f => (chk3 (b + 1) s f).isSome) = true := by decide +kernel
end K86

set_option maxRecDepth 100000
set_option linter.all false
set_option Elab.async false
namespace K86
open PySem Dg L2
def rgO (n : Int) : Option (List Int) := if rngOk n = true ∧ n.toNat < sizeLine then some (rI 0 1 n.toNat) else none
theorem r_rg {n : Int} {l : List Int} (h : rgO n = some l) : rng1 [.int n] = some (l.map .int) ∧ (l.map PyData.int).length < sizeLine := by
  unfold rgO at h
  split at h
  · rename_i z; cases h; exact ⟨rng1_i z.1, by rw [List.length_map, rI_length]; exact z.2⟩
  · cases h
theorem app_pr (l : List (Int × Int)) (x y : Int) : l.map pr ++ [.tuple [.int x, .int y]] = (l ++ [(x, y)]).map pr := by rw [List.map_append]; rfl
def t_sites (g s : Int × Int) : Option (List (Int × Int)) := (rgO (g.1 - s.1 + 1)).bind fun xs => foldO (fun acc x => (rgO (g.2 - s.2 + 1)).bind fun ys => foldO (fun acc y => if acc.length < sizeLine then some (acc ++ [(x, y)]) else none) acc ys) [] xs
theorem r_sites {g s : Int × Int} {r : List (Int × Int)} (h : t_sites g s = some r) : fm_sites [pr g, pr s] = some (.list (r.map pr), [pr g, pr s]) := by
  obtain ⟨xs, h1, h⟩ := bd h
  obtain ⟨ε', L, j, k, rfl⟩ := for_foldO (mt := gSet 3) (mb := (mFor (mRng rng1 (mCons (mBin opAdd (mBin opSub (mBin opIx (mVar 0) (mCst (.int 1))) (mBin opIx (mVar 1) (mCst (.int 1)))) (mCst (.int 1))) mNil)) (gSet 4) (sApp 2 (mTup (mCons (mVar 3) (mCons (mVar 4) mNil)))))) PyData.int
    (fun (acc : List (Int × Int)) ε => ∃ j k, ε = [some (pr g), some (pr s), some (.list (acc.map pr)), j, k]) (fun acc x => (rgO (g.2 - s.2 + 1)).bind fun ys => foldO (fun acc y => if acc.length < sizeLine then some (acc ++ [(x, y)]) else none) acc ys) xs [] r [some (pr g), some (pr s), some (.list []), none, none] (fun acc x acc' ε _ hi hs => by
      obtain ⟨j, k, rfl⟩ := hi
      obtain ⟨ys, h2, hs⟩ := bd hs
      obtain ⟨ε', L, k', rfl⟩ := for_foldO (mt := gSet 4) (mb := (sApp 2 (mTup (mCons (mVar 3) (mCons (mVar 4) mNil))))) PyData.int
        (fun (acc : List (Int × Int)) ε => ∃ k, ε = [some (pr g), some (pr s), some (.list (acc.map pr)), some (.int x), k]) (fun acc y => if acc.length < sizeLine then some (acc ++ [(x, y)]) else none) ys acc acc' [some (pr g), some (pr s), some (.list (acc.map pr)), some (.int x), k] (fun acc y acc' ε _ hi hs => by
          obtain ⟨k, rfl⟩ := hi
          split at hs
          · rename_i hl
            cases hs
            have hl' : (acc.map pr).length < sizeLine := by rw [List.length_map]; exact hl
            refine ⟨_, _, rfl, ?h, ?j, rfl⟩
            case h => simp only [e_mVar, e_kVar, e_mMov, e_kMov, e_mCst, e_kO, e_kOb, e_kOl, e_mBin, e_kB1, e_kB2, e_mUn, e_kU, e_mTb, e_kTb, e_mTru, e_kTru, e_mNot, e_kNot, e_mAnd, e_kAnd, e_mOr, e_kOr, e_mAndV, e_kAndVt, e_kAndVf, e_mOrV, e_kOrVt, e_kOrVf, e_mNotV, e_kNotV, e_mNotB, e_kNotB, e_kNB, e_mIf, e_kIf, e_kIfS, e_mNil, e_mCons, e_kC1, e_kC2, e_mTup, e_kTup, e_mLst, e_kLst, e_mCall, e_mRng, e_kCall, e_kCallR, e_mNoP, e_mP, e_kPI, e_mSl, e_kS1, e_kS2, e_kS3, e_kCh1, e_kCh2, e_kCh3t, e_kCh3f, e_mYes, e_mItems, e_kItL, e_kItT, e_mIsi, e_kIsi, e_mNol, e_kNolN, e_kNolI, e_kNolB, e_kNolS, e_kNolT, e_kNolD, e_mListS, e_kLS, e_gSet, e_gsNil, e_gsCons, e_kG, e_gTupM, e_aNil, e_aVal, e_kA1, e_kA2, e_aLent, e_kL1, e_kL2, e_mCallU, e_kU1, e_kU2, e_kU3, e_mFill0, e_mFill1, e_mFill2, e_kF, e_kFl, e_mBack0, e_mBack1, e_mBack2, e_sNil, e_sCons, e_kSeqN, e_kSeqB, e_kSeqC, e_kSeqR, e_sIf, e_sBk, e_sCt, e_sRet, e_kRet, e_sDrop, e_kDrop, e_sSet, e_kSet, e_sTgt, e_kTgt, e_kT2, e_sPar, e_kP1, e_kP2, e_kAp0, e_kAp1, e_kAp2, e_kPu1, e_kPu2, e_kPu3, e_kPu4, e_kPu5, e_mFor, e_kFor, e_sFor0, e_kF1, e_kF2N, e_kF2C, e_kF2B, e_kF2R, e_kW1, e_kW2N, e_kW2C, e_kW2B, e_kW2R, e_mLc, e_kLc, e_kLc2, e_mL0, e_kM1, e_kM2, e_kM3, e_kM4, e_wipe0, e_wipe1, e_res0, e_res1, e_mDef, e_kDefR, e_kDefN, e_kDO, e_mOu0, e_mOuF, e_mOuS, e_mOuL, e_kOu, e_mChain, e_sApp, e_sPut, e_kAndV, e_kOrV, e_kCh3, List.getElem?_cons_zero, List.getElem?_cons_succ, List.set_cons_zero, List.set_cons_succ, List.map_cons, List.map_nil, List.length_cons, List.length_nil, List.cons_append, List.nil_append, List.replicate_succ, List.replicate_zero, Option.getD_some, Option.getD_none, decide_eq_true_eq, Bool.false_eq_true, Bool.true_eq_false, Bool.not_true, Bool.not_false, Bool.not_eq_true', decide_eq_false_iff_not, if_true, if_false, Nat.zero_add, Nat.reduceAdd, Nat.reduceSub, Nat.sub_self, Nat.sub_zero, Nat.add_zero, Nat.reduceEqDiff, List.isEmpty_nil, List.isEmpty_cons, o_add, o_sub, o_neg, o_lt, o_le, o_gt, o_ge, o_eqI, o_neI, o_eqB, o_neB, o_isN, o_isNotN, o_isB, n_non, n_bool, n_int, n_str, n_list, n_tuple, t_non, t_bool, t_int, t_list, t_tuple, o_ixT0, o_ixT1, o_ixT2, o_ixT3, o_ixT4, o_ixL0, o_ixL1, o_ixL2, o_ixL3, ix0, ix1, ix2, ix3, b_lenL, b_lenT, b_abs, b_int, b_tupL, b_tupT, b_lstL, b_lstT, b_gcd, b_max2, b_min2, hl', app_pr] <;> rfl
          · cases hs) ⟨_, rfl⟩ hs
      have e1 := (r_rg h2).1
      refine ⟨_, _, rfl, ?h, some (.int x), k', rfl⟩
      unfold pr at L ⊢
      simp only [e_mVar, e_kVar, e_mMov, e_kMov, e_mCst, e_kO, e_kOb, e_kOl, e_mBin, e_kB1, e_kB2, e_mUn, e_kU, e_mTb, e_kTb, e_mTru, e_kTru, e_mNot, e_kNot, e_mAnd, e_kAnd, e_mOr, e_kOr, e_mAndV, e_kAndVt, e_kAndVf, e_mOrV, e_kOrVt, e_kOrVf, e_mNotV, e_kNotV, e_mNotB, e_kNotB, e_kNB, e_mIf, e_kIf, e_kIfS, e_mNil, e_mCons, e_kC1, e_kC2, e_mTup, e_kTup, e_mLst, e_kLst, e_mCall, e_mRng, e_kCall, e_kCallR, e_mNoP, e_mP, e_kPI, e_mSl, e_kS1, e_kS2, e_kS3, e_kCh1, e_kCh2, e_kCh3t, e_kCh3f, e_mYes, e_mItems, e_kItL, e_kItT, e_mIsi, e_kIsi, e_mNol, e_kNolN, e_kNolI, e_kNolB, e_kNolS, e_kNolT, e_kNolD, e_mListS, e_kLS, e_gSet, e_gsNil, e_gsCons, e_kG, e_gTupM, e_aNil, e_aVal, e_kA1, e_kA2, e_aLent, e_kL1, e_kL2, e_mCallU, e_kU1, e_kU2, e_kU3, e_mFill0, e_mFill1, e_mFill2, e_kF, e_kFl, e_mBack0, e_mBack1, e_mBack2, e_sNil, e_sCons, e_kSeqN, e_kSeqB, e_kSeqC, e_kSeqR, e_sIf, e_sBk, e_sCt, e_sRet, e_kRet, e_sDrop, e_kDrop, e_sSet, e_kSet, e_sTgt, e_kTgt, e_kT2, e_sPar, e_kP1, e_kP2, e_kAp0, e_kAp1, e_kAp2, e_kPu1, e_kPu2, e_kPu3, e_kPu4, e_kPu5, e_mFor, e_kFor, e_sFor0, e_kF1, e_kF2N, e_kF2C, e_kF2B, e_kF2R, e_kW1, e_kW2N, e_kW2C, e_kW2B, e_kW2R, e_mLc, e_kLc, e_kLc2, e_mL0, e_kM1, e_kM2, e_kM3, e_kM4, e_wipe0, e_wipe1, e_res0, e_res1, e_mDef, e_kDefR, e_kDefN, e_kDO, e_mOu0, e_mOuF, e_mOuS, e_mOuL, e_kOu, e_mChain, e_sApp, e_sPut, e_kAndV, e_kOrV, e_kCh3, List.getElem?_cons_zero, List.getElem?_cons_succ, List.set_cons_zero, List.set_cons_succ, List.map_cons, List.map_nil, List.length_cons, List.length_nil, List.cons_append, List.nil_append, List.replicate_succ, List.replicate_zero, Option.getD_some, Option.getD_none, decide_eq_true_eq, Bool.false_eq_true, Bool.true_eq_false, Bool.not_true, Bool.not_false, Bool.not_eq_true', decide_eq_false_iff_not, if_true, if_false, Nat.zero_add, Nat.reduceAdd, Nat.reduceSub, Nat.sub_self, Nat.sub_zero, Nat.add_zero, Nat.reduceEqDiff, List.isEmpty_nil, List.isEmpty_cons, o_add, o_sub, o_neg, o_lt, o_le, o_gt, o_ge, o_eqI, o_neI, o_eqB, o_neB, o_isN, o_isNotN, o_isB, n_non, n_bool, n_int, n_str, n_list, n_tuple, t_non, t_bool, t_int, t_list, t_tuple, o_ixT0, o_ixT1, o_ixT2, o_ixT3, o_ixT4, o_ixL0, o_ixL1, o_ixL2, o_ixL3, ix0, ix1, ix2, ix3, b_lenL, b_lenT, b_abs, b_int, b_tupL, b_tupT, b_lstL, b_lstT, b_gcd, b_max2, b_min2, e1, L] <;> rfl) ⟨_, _, rfl⟩ h
  have e1 := (r_rg h1).1
  unfold pr at L ⊢
  simp only [e_mVar, e_kVar, e_mMov, e_kMov, e_mCst, e_kO, e_kOb, e_kOl, e_mBin, e_kB1, e_kB2, e_mUn, e_kU, e_mTb, e_kTb, e_mTru, e_kTru, e_mNot, e_kNot, e_mAnd, e_kAnd, e_mOr, e_kOr, e_mAndV, e_kAndVt, e_kAndVf, e_mOrV, e_kOrVt, e_kOrVf, e_mNotV, e_kNotV, e_mNotB, e_kNotB, e_kNB, e_mIf, e_kIf, e_kIfS, e_mNil, e_mCons, e_kC1, e_kC2, e_mTup, e_kTup, e_mLst, e_kLst, e_mCall, e_mRng, e_kCall, e_kCallR, e_mNoP, e_mP, e_kPI, e_mSl, e_kS1, e_kS2, e_kS3, e_kCh1, e_kCh2, e_kCh3t, e_kCh3f, e_mYes, e_mItems, e_kItL, e_kItT, e_mIsi, e_kIsi, e_mNol, e_kNolN, e_kNolI, e_kNolB, e_kNolS, e_kNolT, e_kNolD, e_mListS, e_kLS, e_gSet, e_gsNil, e_gsCons, e_kG, e_gTupM, e_aNil, e_aVal, e_kA1, e_kA2, e_aLent, e_kL1, e_kL2, e_mCallU, e_kU1, e_kU2, e_kU3, e_mFill0, e_mFill1, e_mFill2, e_kF, e_kFl, e_mBack0, e_mBack1, e_mBack2, e_sNil, e_sCons, e_kSeqN, e_kSeqB, e_kSeqC, e_kSeqR, e_sIf, e_sBk, e_sCt, e_sRet, e_kRet, e_sDrop, e_kDrop, e_sSet, e_kSet, e_sTgt, e_kTgt, e_kT2, e_sPar, e_kP1, e_kP2, e_kAp0, e_kAp1, e_kAp2, e_kPu1, e_kPu2, e_kPu3, e_kPu4, e_kPu5, e_mFor, e_kFor, e_sFor0, e_kF1, e_kF2N, e_kF2C, e_kF2B, e_kF2R, e_kW1, e_kW2N, e_kW2C, e_kW2B, e_kW2R, e_mLc, e_kLc, e_kLc2, e_mL0, e_kM1, e_kM2, e_kM3, e_kM4, e_wipe0, e_wipe1, e_res0, e_res1, e_mDef, e_kDefR, e_kDefN, e_kDO, e_mOu0, e_mOuF, e_mOuS, e_mOuL, e_kOu, e_mChain, e_sApp, e_sPut, e_kAndV, e_kOrV, e_kCh3, List.getElem?_cons_zero, List.getElem?_cons_succ, List.set_cons_zero, List.set_cons_succ, List.map_cons, List.map_nil, List.length_cons, List.length_nil, List.cons_append, List.nil_append, List.replicate_succ, List.replicate_zero, Option.getD_some, Option.getD_none, decide_eq_true_eq, Bool.false_eq_true, Bool.true_eq_false, Bool.not_true, Bool.not_false, Bool.not_eq_true', decide_eq_false_iff_not, if_true, if_false, Nat.zero_add, Nat.reduceAdd, Nat.reduceSub, Nat.sub_self, Nat.sub_zero, Nat.add_zero, Nat.reduceEqDiff, List.isEmpty_nil, List.isEmpty_cons, o_add, o_sub, o_neg, o_lt, o_le, o_gt, o_ge, o_eqI, o_neI, o_eqB, o_neB, o_isN, o_isNotN, o_isB, n_non, n_bool, n_int, n_str, n_list, n_tuple, t_non, t_bool, t_int, t_list, t_tuple, o_ixT0, o_ixT1, o_ixT2, o_ixT3, o_ixT4, o_ixL0, o_ixL1, o_ixL2, o_ixL3, ix0, ix1, ix2, ix3, b_lenL, b_lenT, b_abs, b_int, b_tupL, b_tupT, b_lstL, b_lstT, b_gcd, b_max2, b_min2, fm_sites, m_sites, e1, L]
def hit1 (st sh p : Int × Int) : Bool := if st.1 ≤ p.1 then (if p.1 < st.1 + sh.1 then (if st.2 ≤ p.2 then decide (p.2 < st.2 + sh.2) else false) else false) else false
def hit (ps : List (Int × Int)) (st sh : Int × Int) : Bool := ps.any fun p => hit1 st sh p
theorem l_hit {ps : List (Int × Int)} {st sh : Int × Int} {x0 : T} (ε : Envt) (hε : ε = [some x0, some (pr st), some (pr sh), some (.int st.1), some (.int st.2), none, none]) :
    mLoopC (gTupM 2 (gsCons (gSet 5) (gsCons (gSet 6) gsNil))) mYes (mAndV (mChain opLe opLt (mVar 3) (mVar 5) (mBin opAdd (mVar 3) (mBin opIx (mVar 2) (mCst (.int 0))))) (mChain opLe opLt (mVar 4) (mVar 6) (mBin opAdd (mVar 4) (mBin opIx (mVar 2) (mCst (.int 1)))))) [5, 6] (ps.map pr) ε = some ((ps.map fun p => .bool (hit1 st sh p)), ε) := by
  subst hε
  have L := lc_all (mt := gTupM 2 (gsCons (gSet 5) (gsCons (gSet 6) gsNil))) (mk := mYes) (me := (mAndV (mChain opLe opLt (mVar 3) (mVar 5) (mBin opAdd (mVar 3) (mBin opIx (mVar 2) (mCst (.int 0))))) (mChain opLe opLt (mVar 4) (mVar 6) (mBin opAdd (mVar 4) (mBin opIx (mVar 2) (mCst (.int 1))))))) pr (fun p => .bool (hit1 st sh p)) (fun _ => true) [5, 6] ps [some x0, some (pr st), some (pr sh), some (.int st.1), some (.int st.2), none, none] (fun p _ => by
    refine ⟨[some x0, some (pr st), some (pr sh), some (.int st.1), some (.int st.2), some (.int p.1), some (.int p.2)], _, [some x0, some (pr st), some (pr sh), some (.int st.1), some (.int st.2), some (.int p.1), some (.int p.2)], ?_, rfl, ?_, fun _ => ⟨?_, ?_⟩⟩
    · simp only [e_mVar, e_kVar, e_mMov, e_kMov, e_mCst, e_kO, e_kOb, e_kOl, e_mBin, e_kB1, e_kB2, e_mUn, e_kU, e_mTb, e_kTb, e_mTru, e_kTru, e_mNot, e_kNot, e_mAnd, e_kAnd, e_mOr, e_kOr, e_mAndV, e_kAndVt, e_kAndVf, e_mOrV, e_kOrVt, e_kOrVf, e_mNotV, e_kNotV, e_mNotB, e_kNotB, e_kNB, e_mIf, e_kIf, e_kIfS, e_mNil, e_mCons, e_kC1, e_kC2, e_mTup, e_kTup, e_mLst, e_kLst, e_mCall, e_mRng, e_kCall, e_kCallR, e_mNoP, e_mP, e_kPI, e_mSl, e_kS1, e_kS2, e_kS3, e_kCh1, e_kCh2, e_kCh3t, e_kCh3f, e_mYes, e_mItems, e_kItL, e_kItT, e_mIsi, e_kIsi, e_mNol, e_kNolN, e_kNolI, e_kNolB, e_kNolS, e_kNolT, e_kNolD, e_mListS, e_kLS, e_gSet, e_gsNil, e_gsCons, e_kG, e_gTupM, e_aNil, e_aVal, e_kA1, e_kA2, e_aLent, e_kL1, e_kL2, e_mCallU, e_kU1, e_kU2, e_kU3, e_mFill0, e_mFill1, e_mFill2, e_kF, e_kFl, e_mBack0, e_mBack1, e_mBack2, e_sNil, e_sCons, e_kSeqN, e_kSeqB, e_kSeqC, e_kSeqR, e_sIf, e_sBk, e_sCt, e_sRet, e_kRet, e_sDrop, e_kDrop, e_sSet, e_kSet, e_sTgt, e_kTgt, e_kT2, e_sPar, e_kP1, e_kP2, e_kAp0, e_kAp1, e_kAp2, e_kPu1, e_kPu2, e_kPu3, e_kPu4, e_kPu5, e_mFor, e_kFor, e_sFor0, e_kF1, e_kF2N, e_kF2C, e_kF2B, e_kF2R, e_kW1, e_kW2N, e_kW2C, e_kW2B, e_kW2R, e_mLc, e_kLc, e_kLc2, e_mL0, e_kM1, e_kM2, e_kM3, e_kM4, e_wipe0, e_wipe1, e_res0, e_res1, e_mDef, e_kDefR, e_kDefN, e_kDO, e_mOu0, e_mOuF, e_mOuS, e_mOuL, e_kOu, e_mChain, e_sApp, e_sPut, e_kAndV, e_kOrV, e_kCh3, List.getElem?_cons_zero, List.getElem?_cons_succ, List.set_cons_zero, List.set_cons_succ, List.map_cons, List.map_nil, List.length_cons, List.length_nil, List.cons_append, List.nil_append, List.replicate_succ, List.replicate_zero, Option.getD_some, Option.getD_none, decide_eq_true_eq, Bool.false_eq_true, Bool.true_eq_false, Bool.not_true, Bool.not_false, Bool.not_eq_true', decide_eq_false_iff_not, if_true, if_false, Nat.zero_add, Nat.reduceAdd, Nat.reduceSub, Nat.sub_self, Nat.sub_zero, Nat.add_zero, Nat.reduceEqDiff, List.isEmpty_nil, List.isEmpty_cons, o_add, o_sub, o_neg, o_lt, o_le, o_gt, o_ge, o_eqI, o_neI, o_eqB, o_neB, o_isN, o_isNotN, o_isB, n_non, n_bool, n_int, n_str, n_list, n_tuple, t_non, t_bool, t_int, t_list, t_tuple, o_ixT0, o_ixT1, o_ixT2, o_ixT3, o_ixT4, o_ixL0, o_ixL1, o_ixL2, o_ixL3, ix0, ix1, ix2, ix3, b_lenL, b_lenT, b_abs, b_int, b_tupL, b_tupT, b_lstL, b_lstT, b_gcd, b_max2, b_min2, pr]
    · simp only [e_mVar, e_kVar, e_mMov, e_kMov, e_mCst, e_kO, e_kOb, e_kOl, e_mBin, e_kB1, e_kB2, e_mUn, e_kU, e_mTb, e_kTb, e_mTru, e_kTru, e_mNot, e_kNot, e_mAnd, e_kAnd, e_mOr, e_kOr, e_mAndV, e_kAndVt, e_kAndVf, e_mOrV, e_kOrVt, e_kOrVf, e_mNotV, e_kNotV, e_mNotB, e_kNotB, e_kNB, e_mIf, e_kIf, e_kIfS, e_mNil, e_mCons, e_kC1, e_kC2, e_mTup, e_kTup, e_mLst, e_kLst, e_mCall, e_mRng, e_kCall, e_kCallR, e_mNoP, e_mP, e_kPI, e_mSl, e_kS1, e_kS2, e_kS3, e_kCh1, e_kCh2, e_kCh3t, e_kCh3f, e_mYes, e_mItems, e_kItL, e_kItT, e_mIsi, e_kIsi, e_mNol, e_kNolN, e_kNolI, e_kNolB, e_kNolS, e_kNolT, e_kNolD, e_mListS, e_kLS, e_gSet, e_gsNil, e_gsCons, e_kG, e_gTupM, e_aNil, e_aVal, e_kA1, e_kA2, e_aLent, e_kL1, e_kL2, e_mCallU, e_kU1, e_kU2, e_kU3, e_mFill0, e_mFill1, e_mFill2, e_kF, e_kFl, e_mBack0, e_mBack1, e_mBack2, e_sNil, e_sCons, e_kSeqN, e_kSeqB, e_kSeqC, e_kSeqR, e_sIf, e_sBk, e_sCt, e_sRet, e_kRet, e_sDrop, e_kDrop, e_sSet, e_kSet, e_sTgt, e_kTgt, e_kT2, e_sPar, e_kP1, e_kP2, e_kAp0, e_kAp1, e_kAp2, e_kPu1, e_kPu2, e_kPu3, e_kPu4, e_kPu5, e_mFor, e_kFor, e_sFor0, e_kF1, e_kF2N, e_kF2C, e_kF2B, e_kF2R, e_kW1, e_kW2N, e_kW2C, e_kW2B, e_kW2R, e_mLc, e_kLc, e_kLc2, e_mL0, e_kM1, e_kM2, e_kM3, e_kM4, e_wipe0, e_wipe1, e_res0, e_res1, e_mDef, e_kDefR, e_kDefN, e_kDO, e_mOu0, e_mOuF, e_mOuS, e_mOuL, e_kOu, e_mChain, e_sApp, e_sPut, e_kAndV, e_kOrV, e_kCh3, List.getElem?_cons_zero, List.getElem?_cons_succ, List.set_cons_zero, List.set_cons_succ, List.map_cons, List.map_nil, List.length_cons, List.length_nil, List.cons_append, List.nil_append, List.replicate_succ, List.replicate_zero, Option.getD_some, Option.getD_none, decide_eq_true_eq, Bool.false_eq_true, Bool.true_eq_false, Bool.not_true, Bool.not_false, Bool.not_eq_true', decide_eq_false_iff_not, if_true, if_false, Nat.zero_add, Nat.reduceAdd, Nat.reduceSub, Nat.sub_self, Nat.sub_zero, Nat.add_zero, Nat.reduceEqDiff, List.isEmpty_nil, List.isEmpty_cons, o_add, o_sub, o_neg, o_lt, o_le, o_gt, o_ge, o_eqI, o_neI, o_eqB, o_neB, o_isN, o_isNotN, o_isB, n_non, n_bool, n_int, n_str, n_list, n_tuple, t_non, t_bool, t_int, t_list, t_tuple, o_ixT0, o_ixT1, o_ixT2, o_ixT3, o_ixT4, o_ixL0, o_ixL1, o_ixL2, o_ixL3, ix0, ix1, ix2, ix3, b_lenL, b_lenT, b_abs, b_int, b_tupL, b_tupT, b_lstL, b_lstT, b_gcd, b_max2, b_min2]
    · unfold hit1
      by_cases h1 : st.1 ≤ p.1
      · by_cases h2 : p.1 < st.1 + sh.1
        · by_cases h3 : st.2 ≤ p.2
          · simp only [e_mVar, e_kVar, e_mMov, e_kMov, e_mCst, e_kO, e_kOb, e_kOl, e_mBin, e_kB1, e_kB2, e_mUn, e_kU, e_mTb, e_kTb, e_mTru, e_kTru, e_mNot, e_kNot, e_mAnd, e_kAnd, e_mOr, e_kOr, e_mAndV, e_kAndVt, e_kAndVf, e_mOrV, e_kOrVt, e_kOrVf, e_mNotV, e_kNotV, e_mNotB, e_kNotB, e_kNB, e_mIf, e_kIf, e_kIfS, e_mNil, e_mCons, e_kC1, e_kC2, e_mTup, e_kTup, e_mLst, e_kLst, e_mCall, e_mRng, e_kCall, e_kCallR, e_mNoP, e_mP, e_kPI, e_mSl, e_kS1, e_kS2, e_kS3, e_kCh1, e_kCh2, e_kCh3t, e_kCh3f, e_mYes, e_mItems, e_kItL, e_kItT, e_mIsi, e_kIsi, e_mNol, e_kNolN, e_kNolI, e_kNolB, e_kNolS, e_kNolT, e_kNolD, e_mListS, e_kLS, e_gSet, e_gsNil, e_gsCons, e_kG, e_gTupM, e_aNil, e_aVal, e_kA1, e_kA2, e_aLent, e_kL1, e_kL2, e_mCallU, e_kU1, e_kU2, e_kU3, e_mFill0, e_mFill1, e_mFill2, e_kF, e_kFl, e_mBack0, e_mBack1, e_mBack2, e_sNil, e_sCons, e_kSeqN, e_kSeqB, e_kSeqC, e_kSeqR, e_sIf, e_sBk, e_sCt, e_sRet, e_kRet, e_sDrop, e_kDrop, e_sSet, e_kSet, e_sTgt, e_kTgt, e_kT2, e_sPar, e_kP1, e_kP2, e_kAp0, e_kAp1, e_kAp2, e_kPu1, e_kPu2, e_kPu3, e_kPu4, e_kPu5, e_mFor, e_kFor, e_sFor0, e_kF1, e_kF2N, e_kF2C, e_kF2B, e_kF2R, e_kW1, e_kW2N, e_kW2C, e_kW2B, e_kW2R, e_mLc, e_kLc, e_kLc2, e_mL0, e_kM1, e_kM2, e_kM3, e_kM4, e_wipe0, e_wipe1, e_res0, e_res1, e_mDef, e_kDefR, e_kDefN, e_kDO, e_mOu0, e_mOuF, e_mOuS, e_mOuL, e_kOu, e_mChain, e_sApp, e_sPut, e_kAndV, e_kOrV, e_kCh3, List.getElem?_cons_zero, List.getElem?_cons_succ, List.set_cons_zero, List.set_cons_succ, List.map_cons, List.map_nil, List.length_cons, List.length_nil, List.cons_append, List.nil_append, List.replicate_succ, List.replicate_zero, Option.getD_some, Option.getD_none, decide_eq_true_eq, Bool.false_eq_true, Bool.true_eq_false, Bool.not_true, Bool.not_false, Bool.not_eq_true', decide_eq_false_iff_not, if_true, if_false, Nat.zero_add, Nat.reduceAdd, Nat.reduceSub, Nat.sub_self, Nat.sub_zero, Nat.add_zero, Nat.reduceEqDiff, List.isEmpty_nil, List.isEmpty_cons, o_add, o_sub, o_neg, o_lt, o_le, o_gt, o_ge, o_eqI, o_neI, o_eqB, o_neB, o_isN, o_isNotN, o_isB, n_non, n_bool, n_int, n_str, n_list, n_tuple, t_non, t_bool, t_int, t_list, t_tuple, o_ixT0, o_ixT1, o_ixT2, o_ixT3, o_ixT4, o_ixL0, o_ixL1, o_ixL2, o_ixL3, ix0, ix1, ix2, ix3, b_lenL, b_lenT, b_abs, b_int, b_tupL, b_tupT, b_lstL, b_lstT, b_gcd, b_max2, b_min2, pr, h1, h2, h3]
          · simp only [e_mVar, e_kVar, e_mMov, e_kMov, e_mCst, e_kO, e_kOb, e_kOl, e_mBin, e_kB1, e_kB2, e_mUn, e_kU, e_mTb, e_kTb, e_mTru, e_kTru, e_mNot, e_kNot, e_mAnd, e_kAnd, e_mOr, e_kOr, e_mAndV, e_kAndVt, e_kAndVf, e_mOrV, e_kOrVt, e_kOrVf, e_mNotV, e_kNotV, e_mNotB, e_kNotB, e_kNB, e_mIf, e_kIf, e_kIfS, e_mNil, e_mCons, e_kC1, e_kC2, e_mTup, e_kTup, e_mLst, e_kLst, e_mCall, e_mRng, e_kCall, e_kCallR, e_mNoP, e_mP, e_kPI, e_mSl, e_kS1, e_kS2, e_kS3, e_kCh1, e_kCh2, e_kCh3t, e_kCh3f, e_mYes, e_mItems, e_kItL, e_kItT, e_mIsi, e_kIsi, e_mNol, e_kNolN, e_kNolI, e_kNolB, e_kNolS, e_kNolT, e_kNolD, e_mListS, e_kLS, e_gSet, e_gsNil, e_gsCons, e_kG, e_gTupM, e_aNil, e_aVal, e_kA1, e_kA2, e_aLent, e_kL1, e_kL2, e_mCallU, e_kU1, e_kU2, e_kU3, e_mFill0, e_mFill1, e_mFill2, e_kF, e_kFl, e_mBack0, e_mBack1, e_mBack2, e_sNil, e_sCons, e_kSeqN, e_kSeqB, e_kSeqC, e_kSeqR, e_sIf, e_sBk, e_sCt, e_sRet, e_kRet, e_sDrop, e_kDrop, e_sSet, e_kSet, e_sTgt, e_kTgt, e_kT2, e_sPar, e_kP1, e_kP2, e_kAp0, e_kAp1, e_kAp2, e_kPu1, e_kPu2, e_kPu3, e_kPu4, e_kPu5, e_mFor, e_kFor, e_sFor0, e_kF1, e_kF2N, e_kF2C, e_kF2B, e_kF2R, e_kW1, e_kW2N, e_kW2C, e_kW2B, e_kW2R, e_mLc, e_kLc, e_kLc2, e_mL0, e_kM1, e_kM2, e_kM3, e_kM4, e_wipe0, e_wipe1, e_res0, e_res1, e_mDef, e_kDefR, e_kDefN, e_kDO, e_mOu0, e_mOuF, e_mOuS, e_mOuL, e_kOu, e_mChain, e_sApp, e_sPut, e_kAndV, e_kOrV, e_kCh3, List.getElem?_cons_zero, List.getElem?_cons_succ, List.set_cons_zero, List.set_cons_succ, List.map_cons, List.map_nil, List.length_cons, List.length_nil, List.cons_append, List.nil_append, List.replicate_succ, List.replicate_zero, Option.getD_some, Option.getD_none, decide_eq_true_eq, Bool.false_eq_true, Bool.true_eq_false, Bool.not_true, Bool.not_false, Bool.not_eq_true', decide_eq_false_iff_not, if_true, if_false, Nat.zero_add, Nat.reduceAdd, Nat.reduceSub, Nat.sub_self, Nat.sub_zero, Nat.add_zero, Nat.reduceEqDiff, List.isEmpty_nil, List.isEmpty_cons, o_add, o_sub, o_neg, o_lt, o_le, o_gt, o_ge, o_eqI, o_neI, o_eqB, o_neB, o_isN, o_isNotN, o_isB, n_non, n_bool, n_int, n_str, n_list, n_tuple, t_non, t_bool, t_int, t_list, t_tuple, o_ixT0, o_ixT1, o_ixT2, o_ixT3, o_ixT4, o_ixL0, o_ixL1, o_ixL2, o_ixL3, ix0, ix1, ix2, ix3, b_lenL, b_lenT, b_abs, b_int, b_tupL, b_tupT, b_lstL, b_lstT, b_gcd, b_max2, b_min2, pr, h1, h2, h3]
        · simp only [e_mVar, e_kVar, e_mMov, e_kMov, e_mCst, e_kO, e_kOb, e_kOl, e_mBin, e_kB1, e_kB2, e_mUn, e_kU, e_mTb, e_kTb, e_mTru, e_kTru, e_mNot, e_kNot, e_mAnd, e_kAnd, e_mOr, e_kOr, e_mAndV, e_kAndVt, e_kAndVf, e_mOrV, e_kOrVt, e_kOrVf, e_mNotV, e_kNotV, e_mNotB, e_kNotB, e_kNB, e_mIf, e_kIf, e_kIfS, e_mNil, e_mCons, e_kC1, e_kC2, e_mTup, e_kTup, e_mLst, e_kLst, e_mCall, e_mRng, e_kCall, e_kCallR, e_mNoP, e_mP, e_kPI, e_mSl, e_kS1, e_kS2, e_kS3, e_kCh1, e_kCh2, e_kCh3t, e_kCh3f, e_mYes, e_mItems, e_kItL, e_kItT, e_mIsi, e_kIsi, e_mNol, e_kNolN, e_kNolI, e_kNolB, e_kNolS, e_kNolT, e_kNolD, e_mListS, e_kLS, e_gSet, e_gsNil, e_gsCons, e_kG, e_gTupM, e_aNil, e_aVal, e_kA1, e_kA2, e_aLent, e_kL1, e_kL2, e_mCallU, e_kU1, e_kU2, e_kU3, e_mFill0, e_mFill1, e_mFill2, e_kF, e_kFl, e_mBack0, e_mBack1, e_mBack2, e_sNil, e_sCons, e_kSeqN, e_kSeqB, e_kSeqC, e_kSeqR, e_sIf, e_sBk, e_sCt, e_sRet, e_kRet, e_sDrop, e_kDrop, e_sSet, e_kSet, e_sTgt, e_kTgt, e_kT2, e_sPar, e_kP1, e_kP2, e_kAp0, e_kAp1, e_kAp2, e_kPu1, e_kPu2, e_kPu3, e_kPu4, e_kPu5, e_mFor, e_kFor, e_sFor0, e_kF1, e_kF2N, e_kF2C, e_kF2B, e_kF2R, e_kW1, e_kW2N, e_kW2C, e_kW2B, e_kW2R, e_mLc, e_kLc, e_kLc2, e_mL0, e_kM1, e_kM2, e_kM3, e_kM4, e_wipe0, e_wipe1, e_res0, e_res1, e_mDef, e_kDefR, e_kDefN, e_kDO, e_mOu0, e_mOuF, e_mOuS, e_mOuL, e_kOu, e_mChain, e_sApp, e_sPut, e_kAndV, e_kOrV, e_kCh3, List.getElem?_cons_zero, List.getElem?_cons_succ, List.set_cons_zero, List.set_cons_succ, List.map_cons, List.map_nil, List.length_cons, List.length_nil, List.cons_append, List.nil_append, List.replicate_succ, List.replicate_zero, Option.getD_some, Option.getD_none, decide_eq_true_eq, Bool.false_eq_true, Bool.true_eq_false, Bool.not_true, Bool.not_false, Bool.not_eq_true', decide_eq_false_iff_not, if_true, if_false, Nat.zero_add, Nat.reduceAdd, Nat.reduceSub, Nat.sub_self, Nat.sub_zero, Nat.add_zero, Nat.reduceEqDiff, List.isEmpty_nil, List.isEmpty_cons, o_add, o_sub, o_neg, o_lt, o_le, o_gt, o_ge, o_eqI, o_neI, o_eqB, o_neB, o_isN, o_isNotN, o_isB, n_non, n_bool, n_int, n_str, n_list, n_tuple, t_non, t_bool, t_int, t_list, t_tuple, o_ixT0, o_ixT1, o_ixT2, o_ixT3, o_ixT4, o_ixL0, o_ixL1, o_ixL2, o_ixL3, ix0, ix1, ix2, ix3, b_lenL, b_lenT, b_abs, b_int, b_tupL, b_tupT, b_lstL, b_lstT, b_gcd, b_max2, b_min2, pr, h1, h2, decide_eq_false h2]
      · simp only [e_mVar, e_kVar, e_mMov, e_kMov, e_mCst, e_kO, e_kOb, e_kOl, e_mBin, e_kB1, e_kB2, e_mUn, e_kU, e_mTb, e_kTb, e_mTru, e_kTru, e_mNot, e_kNot, e_mAnd, e_kAnd, e_mOr, e_kOr, e_mAndV, e_kAndVt, e_kAndVf, e_mOrV, e_kOrVt, e_kOrVf, e_mNotV, e_kNotV, e_mNotB, e_kNotB, e_kNB, e_mIf, e_kIf, e_kIfS, e_mNil, e_mCons, e_kC1, e_kC2, e_mTup, e_kTup, e_mLst, e_kLst, e_mCall, e_mRng, e_kCall, e_kCallR, e_mNoP, e_mP, e_kPI, e_mSl, e_kS1, e_kS2, e_kS3, e_kCh1, e_kCh2, e_kCh3t, e_kCh3f, e_mYes, e_mItems, e_kItL, e_kItT, e_mIsi, e_kIsi, e_mNol, e_kNolN, e_kNolI, e_kNolB, e_kNolS, e_kNolT, e_kNolD, e_mListS, e_kLS, e_gSet, e_gsNil, e_gsCons, e_kG, e_gTupM, e_aNil, e_aVal, e_kA1, e_kA2, e_aLent, e_kL1, e_kL2, e_mCallU, e_kU1, e_kU2, e_kU3, e_mFill0, e_mFill1, e_mFill2, e_kF, e_kFl, e_mBack0, e_mBack1, e_mBack2, e_sNil, e_sCons, e_kSeqN, e_kSeqB, e_kSeqC, e_kSeqR, e_sIf, e_sBk, e_sCt, e_sRet, e_kRet, e_sDrop, e_kDrop, e_sSet, e_kSet, e_sTgt, e_kTgt, e_kT2, e_sPar, e_kP1, e_kP2, e_kAp0, e_kAp1, e_kAp2, e_kPu1, e_kPu2, e_kPu3, e_kPu4, e_kPu5, e_mFor, e_kFor, e_sFor0, e_kF1, e_kF2N, e_kF2C, e_kF2B, e_kF2R, e_kW1, e_kW2N, e_kW2C, e_kW2B, e_kW2R, e_mLc, e_kLc, e_kLc2, e_mL0, e_kM1, e_kM2, e_kM3, e_kM4, e_wipe0, e_wipe1, e_res0, e_res1, e_mDef, e_kDefR, e_kDefN, e_kDO, e_mOu0, e_mOuF, e_mOuS, e_mOuL, e_kOu, e_mChain, e_sApp, e_sPut, e_kAndV, e_kOrV, e_kCh3, List.getElem?_cons_zero, List.getElem?_cons_succ, List.set_cons_zero, List.set_cons_succ, List.map_cons, List.map_nil, List.length_cons, List.length_nil, List.cons_append, List.nil_append, List.replicate_succ, List.replicate_zero, Option.getD_some, Option.getD_none, decide_eq_true_eq, Bool.false_eq_true, Bool.true_eq_false, Bool.not_true, Bool.not_false, Bool.not_eq_true', decide_eq_false_iff_not, if_true, if_false, Nat.zero_add, Nat.reduceAdd, Nat.reduceSub, Nat.sub_self, Nat.sub_zero, Nat.add_zero, Nat.reduceEqDiff, List.isEmpty_nil, List.isEmpty_cons, o_add, o_sub, o_neg, o_lt, o_le, o_gt, o_ge, o_eqI, o_neI, o_eqB, o_neB, o_isN, o_isNotN, o_isB, n_non, n_bool, n_int, n_str, n_list, n_tuple, t_non, t_bool, t_int, t_list, t_tuple, o_ixT0, o_ixT1, o_ixT2, o_ixT3, o_ixT4, o_ixL0, o_ixL1, o_ixL2, o_ixL3, ix0, ix1, ix2, ix3, b_lenL, b_lenT, b_abs, b_int, b_tupL, b_tupT, b_lstL, b_lstT, b_gcd, b_max2, b_min2, pr, h1]
    · simp only [e_mVar, e_kVar, e_mMov, e_kMov, e_mCst, e_kO, e_kOb, e_kOl, e_mBin, e_kB1, e_kB2, e_mUn, e_kU, e_mTb, e_kTb, e_mTru, e_kTru, e_mNot, e_kNot, e_mAnd, e_kAnd, e_mOr, e_kOr, e_mAndV, e_kAndVt, e_kAndVf, e_mOrV, e_kOrVt, e_kOrVf, e_mNotV, e_kNotV, e_mNotB, e_kNotB, e_kNB, e_mIf, e_kIf, e_kIfS, e_mNil, e_mCons, e_kC1, e_kC2, e_mTup, e_kTup, e_mLst, e_kLst, e_mCall, e_mRng, e_kCall, e_kCallR, e_mNoP, e_mP, e_kPI, e_mSl, e_kS1, e_kS2, e_kS3, e_kCh1, e_kCh2, e_kCh3t, e_kCh3f, e_mYes, e_mItems, e_kItL, e_kItT, e_mIsi, e_kIsi, e_mNol, e_kNolN, e_kNolI, e_kNolB, e_kNolS, e_kNolT, e_kNolD, e_mListS, e_kLS, e_gSet, e_gsNil, e_gsCons, e_kG, e_gTupM, e_aNil, e_aVal, e_kA1, e_kA2, e_aLent, e_kL1, e_kL2, e_mCallU, e_kU1, e_kU2, e_kU3, e_mFill0, e_mFill1, e_mFill2, e_kF, e_kFl, e_mBack0, e_mBack1, e_mBack2, e_sNil, e_sCons, e_kSeqN, e_kSeqB, e_kSeqC, e_kSeqR, e_sIf, e_sBk, e_sCt, e_sRet, e_kRet, e_sDrop, e_kDrop, e_sSet, e_kSet, e_sTgt, e_kTgt, e_kT2, e_sPar, e_kP1, e_kP2, e_kAp0, e_kAp1, e_kAp2, e_kPu1, e_kPu2, e_kPu3, e_kPu4, e_kPu5, e_mFor, e_kFor, e_sFor0, e_kF1, e_kF2N, e_kF2C, e_kF2B, e_kF2R, e_kW1, e_kW2N, e_kW2C, e_kW2B, e_kW2R, e_mLc, e_kLc, e_kLc2, e_mL0, e_kM1, e_kM2, e_kM3, e_kM4, e_wipe0, e_wipe1, e_res0, e_res1, e_mDef, e_kDefR, e_kDefN, e_kDO, e_mOu0, e_mOuF, e_mOuS, e_mOuL, e_kOu, e_mChain, e_sApp, e_sPut, e_kAndV, e_kOrV, e_kCh3, List.getElem?_cons_zero, List.getElem?_cons_succ, List.set_cons_zero, List.set_cons_succ, List.map_cons, List.map_nil, List.length_cons, List.length_nil, List.cons_append, List.nil_append, List.replicate_succ, List.replicate_zero, Option.getD_some, Option.getD_none, decide_eq_true_eq, Bool.false_eq_true, Bool.true_eq_false, Bool.not_true, Bool.not_false, Bool.not_eq_true', decide_eq_false_iff_not, if_true, if_false, Nat.zero_add, Nat.reduceAdd, Nat.reduceSub, Nat.sub_self, Nat.sub_zero, Nat.add_zero, Nat.reduceEqDiff, List.isEmpty_nil, List.isEmpty_cons, o_add, o_sub, o_neg, o_lt, o_le, o_gt, o_ge, o_eqI, o_neI, o_eqB, o_neB, o_isN, o_isNotN, o_isB, n_non, n_bool, n_int, n_str, n_list, n_tuple, t_non, t_bool, t_int, t_list, t_tuple, o_ixT0, o_ixT1, o_ixT2, o_ixT3, o_ixT4, o_ixL0, o_ixL1, o_ixL2, o_ixL3, ix0, ix1, ix2, ix3, b_lenL, b_lenT, b_abs, b_int, b_tupL, b_tupT, b_lstL, b_lstT, b_gcd, b_max2, b_min2])
  simp only [e_mVar, e_kVar, e_mMov, e_kMov, e_mCst, e_kO, e_kOb, e_kOl, e_mBin, e_kB1, e_kB2, e_mUn, e_kU, e_mTb, e_kTb, e_mTru, e_kTru, e_mNot, e_kNot, e_mAnd, e_kAnd, e_mOr, e_kOr, e_mAndV, e_kAndVt, e_kAndVf, e_mOrV, e_kOrVt, e_kOrVf, e_mNotV, e_kNotV, e_mNotB, e_kNotB, e_kNB, e_mIf, e_kIf, e_kIfS, e_mNil, e_mCons, e_kC1, e_kC2, e_mTup, e_kTup, e_mLst, e_kLst, e_mCall, e_mRng, e_kCall, e_kCallR, e_mNoP, e_mP, e_kPI, e_mSl, e_kS1, e_kS2, e_kS3, e_kCh1, e_kCh2, e_kCh3t, e_kCh3f, e_mYes, e_mItems, e_kItL, e_kItT, e_mIsi, e_kIsi, e_mNol, e_kNolN, e_kNolI, e_kNolB, e_kNolS, e_kNolT, e_kNolD, e_mListS, e_kLS, e_gSet, e_gsNil, e_gsCons, e_kG, e_gTupM, e_aNil, e_aVal, e_kA1, e_kA2, e_aLent, e_kL1, e_kL2, e_mCallU, e_kU1, e_kU2, e_kU3, e_mFill0, e_mFill1, e_mFill2, e_kF, e_kFl, e_mBack0, e_mBack1, e_mBack2, e_sNil, e_sCons, e_kSeqN, e_kSeqB, e_kSeqC, e_kSeqR, e_sIf, e_sBk, e_sCt, e_sRet, e_kRet, e_sDrop, e_kDrop, e_sSet, e_kSet, e_sTgt, e_kTgt, e_kT2, e_sPar, e_kP1, e_kP2, e_kAp0, e_kAp1, e_kAp2, e_kPu1, e_kPu2, e_kPu3, e_kPu4, e_kPu5, e_mFor, e_kFor, e_sFor0, e_kF1, e_kF2N, e_kF2C, e_kF2B, e_kF2R, e_kW1, e_kW2N, e_kW2C, e_kW2B, e_kW2R, e_mLc, e_kLc, e_kLc2, e_mL0, e_kM1, e_kM2, e_kM3, e_kM4, e_wipe0, e_wipe1, e_res0, e_res1, e_mDef, e_kDefR, e_kDefN, e_kDO, e_mOu0, e_mOuF, e_mOuS, e_mOuL, e_kOu, e_mChain, e_sApp, e_sPut, e_kAndV, e_kOrV, e_kCh3, List.getElem?_cons_zero, List.getElem?_cons_succ, List.set_cons_zero, List.set_cons_succ, List.map_cons, List.map_nil, List.length_cons, List.length_nil, List.cons_append, List.nil_append, List.replicate_succ, List.replicate_zero, Option.getD_some, Option.getD_none, decide_eq_true_eq, Bool.false_eq_true, Bool.true_eq_false, Bool.not_true, Bool.not_false, Bool.not_eq_true', decide_eq_false_iff_not, if_true, if_false, Nat.zero_add, Nat.reduceAdd, Nat.reduceSub, Nat.sub_self, Nat.sub_zero, Nat.add_zero, Nat.reduceEqDiff, List.isEmpty_nil, List.isEmpty_cons, o_add, o_sub, o_neg, o_lt, o_le, o_gt, o_ge, o_eqI, o_neI, o_eqB, o_neB, o_isN, o_isNotN, o_isB, n_non, n_bool, n_int, n_str, n_list, n_tuple, t_non, t_bool, t_int, t_list, t_tuple, o_ixT0, o_ixT1, o_ixT2, o_ixT3, o_ixT4, o_ixL0, o_ixL1, o_ixL2, o_ixL3, ix0, ix1, ix2, ix3, b_lenL, b_lenT, b_abs, b_int, b_tupL, b_tupT, b_lstL, b_lstT, b_gcd, b_max2, b_min2] at L
  rw [List.filter_eq_self.mpr (fun _ _ => rfl)] at L
  exact L
theorem r_hit {ps : List (Int × Int)} {st sh : Int × Int} (hl : ps.length < sizeLine) : fm_is_hit [.tuple (ps.map pr), pr st, pr sh] = some (.bool (hit ps st sh), [.tuple (ps.map pr), pr st, pr sh]) := by
  have L := l_hit (ps := ps) (st := st) (sh := sh) (x0 := .tuple (ps.map pr)) _ rfl
  have hl' : (ps.map pr).length < sizeLine := by rw [List.length_map]; exact hl
  unfold pr at L hl' ⊢
  simp only [e_mVar, e_kVar, e_mMov, e_kMov, e_mCst, e_kO, e_kOb, e_kOl, e_mBin, e_kB1, e_kB2, e_mUn, e_kU, e_mTb, e_kTb, e_mTru, e_kTru, e_mNot, e_kNot, e_mAnd, e_kAnd, e_mOr, e_kOr, e_mAndV, e_kAndVt, e_kAndVf, e_mOrV, e_kOrVt, e_kOrVf, e_mNotV, e_kNotV, e_mNotB, e_kNotB, e_kNB, e_mIf, e_kIf, e_kIfS, e_mNil, e_mCons, e_kC1, e_kC2, e_mTup, e_kTup, e_mLst, e_kLst, e_mCall, e_mRng, e_kCall, e_kCallR, e_mNoP, e_mP, e_kPI, e_mSl, e_kS1, e_kS2, e_kS3, e_kCh1, e_kCh2, e_kCh3t, e_kCh3f, e_mYes, e_mItems, e_kItL, e_kItT, e_mIsi, e_kIsi, e_mNol, e_kNolN, e_kNolI, e_kNolB, e_kNolS, e_kNolT, e_kNolD, e_mListS, e_kLS, e_gSet, e_gsNil, e_gsCons, e_kG, e_gTupM, e_aNil, e_aVal, e_kA1, e_kA2, e_aLent, e_kL1, e_kL2, e_mCallU, e_kU1, e_kU2, e_kU3, e_mFill0, e_mFill1, e_mFill2, e_kF, e_kFl, e_mBack0, e_mBack1, e_mBack2, e_sNil, e_sCons, e_kSeqN, e_kSeqB, e_kSeqC, e_kSeqR, e_sIf, e_sBk, e_sCt, e_sRet, e_kRet, e_sDrop, e_kDrop, e_sSet, e_kSet, e_sTgt, e_kTgt, e_kT2, e_sPar, e_kP1, e_kP2, e_kAp0, e_kAp1, e_kAp2, e_kPu1, e_kPu2, e_kPu3, e_kPu4, e_kPu5, e_mFor, e_kFor, e_sFor0, e_kF1, e_kF2N, e_kF2C, e_kF2B, e_kF2R, e_kW1, e_kW2N, e_kW2C, e_kW2B, e_kW2R, e_mLc, e_kLc, e_kLc2, e_mL0, e_kM1, e_kM2, e_kM3, e_kM4, e_wipe0, e_wipe1, e_res0, e_res1, e_mDef, e_kDefR, e_kDefN, e_kDO, e_mOu0, e_mOuF, e_mOuS, e_mOuL, e_kOu, e_mChain, e_sApp, e_sPut, e_kAndV, e_kOrV, e_kCh3, List.getElem?_cons_zero, List.getElem?_cons_succ, List.set_cons_zero, List.set_cons_succ, List.map_cons, List.map_nil, List.length_cons, List.length_nil, List.cons_append, List.nil_append, List.replicate_succ, List.replicate_zero, Option.getD_some, Option.getD_none, decide_eq_true_eq, Bool.false_eq_true, Bool.true_eq_false, Bool.not_true, Bool.not_false, Bool.not_eq_true', decide_eq_false_iff_not, if_true, if_false, Nat.zero_add, Nat.reduceAdd, Nat.reduceSub, Nat.sub_self, Nat.sub_zero, Nat.add_zero, Nat.reduceEqDiff, List.isEmpty_nil, List.isEmpty_cons, o_add, o_sub, o_neg, o_lt, o_le, o_gt, o_ge, o_eqI, o_neI, o_eqB, o_neB, o_isN, o_isNotN, o_isB, n_non, n_bool, n_int, n_str, n_list, n_tuple, t_non, t_bool, t_int, t_list, t_tuple, o_ixT0, o_ixT1, o_ixT2, o_ixT3, o_ixT4, o_ixL0, o_ixL1, o_ixL2, o_ixL3, ix0, ix1, ix2, ix3, b_lenL, b_lenT, b_abs, b_int, b_tupL, b_tupT, b_lstL, b_lstT, b_gcd, b_max2, b_min2, fm_is_hit, m_is_hit, hl', L, b_anyM] <;> rfl
theorem r_hitL {ps : List (Int × Int)} {st sh : Int × Int} (hl : ps.length < sizeLine) : fm_is_hit [.list (ps.map pr), pr st, pr sh] = some (.bool (hit ps st sh), [.list (ps.map pr), pr st, pr sh]) := by
  have L := l_hit (ps := ps) (st := st) (sh := sh) (x0 := .list (ps.map pr)) _ rfl
  have hl' : (ps.map pr).length < sizeLine := by rw [List.length_map]; exact hl
  unfold pr at L hl' ⊢
  simp only [e_mVar, e_kVar, e_mMov, e_kMov, e_mCst, e_kO, e_kOb, e_kOl, e_mBin, e_kB1, e_kB2, e_mUn, e_kU, e_mTb, e_kTb, e_mTru, e_kTru, e_mNot, e_kNot, e_mAnd, e_kAnd, e_mOr, e_kOr, e_mAndV, e_kAndVt, e_kAndVf, e_mOrV, e_kOrVt, e_kOrVf, e_mNotV, e_kNotV, e_mNotB, e_kNotB, e_kNB, e_mIf, e_kIf, e_kIfS, e_mNil, e_mCons, e_kC1, e_kC2, e_mTup, e_kTup, e_mLst, e_kLst, e_mCall, e_mRng, e_kCall, e_kCallR, e_mNoP, e_mP, e_kPI, e_mSl, e_kS1, e_kS2, e_kS3, e_kCh1, e_kCh2, e_kCh3t, e_kCh3f, e_mYes, e_mItems, e_kItL, e_kItT, e_mIsi, e_kIsi, e_mNol, e_kNolN, e_kNolI, e_kNolB, e_kNolS, e_kNolT, e_kNolD, e_mListS, e_kLS, e_gSet, e_gsNil, e_gsCons, e_kG, e_gTupM, e_aNil, e_aVal, e_kA1, e_kA2, e_aLent, e_kL1, e_kL2, e_mCallU, e_kU1, e_kU2, e_kU3, e_mFill0, e_mFill1, e_mFill2, e_kF, e_kFl, e_mBack0, e_mBack1, e_mBack2, e_sNil, e_sCons, e_kSeqN, e_kSeqB, e_kSeqC, e_kSeqR, e_sIf, e_sBk, e_sCt, e_sRet, e_kRet, e_sDrop, e_kDrop, e_sSet, e_kSet, e_sTgt, e_kTgt, e_kT2, e_sPar, e_kP1, e_kP2, e_kAp0, e_kAp1, e_kAp2, e_kPu1, e_kPu2, e_kPu3, e_kPu4, e_kPu5, e_mFor, e_kFor, e_sFor0, e_kF1, e_kF2N, e_kF2C, e_kF2B, e_kF2R, e_kW1, e_kW2N, e_kW2C, e_kW2B, e_kW2R, e_mLc, e_kLc, e_kLc2, e_mL0, e_kM1, e_kM2, e_kM3, e_kM4, e_wipe0, e_wipe1, e_res0, e_res1, e_mDef, e_kDefR, e_kDefN, e_kDO, e_mOu0, e_mOuF, e_mOuS, e_mOuL, e_kOu, e_mChain, e_sApp, e_sPut, e_kAndV, e_kOrV, e_kCh3, List.getElem?_cons_zero, List.getElem?_cons_succ, List.set_cons_zero, List.set_cons_succ, List.map_cons, List.map_nil, List.length_cons, List.length_nil, List.cons_append, List.nil_append, List.replicate_succ, List.replicate_zero, Option.getD_some, Option.getD_none, decide_eq_true_eq, Bool.false_eq_true, Bool.true_eq_false, Bool.not_true, Bool.not_false, Bool.not_eq_true', decide_eq_false_iff_not, if_true, if_false, Nat.zero_add, Nat.reduceAdd, Nat.reduceSub, Nat.sub_self, Nat.sub_zero, Nat.add_zero, Nat.reduceEqDiff, List.isEmpty_nil, List.isEmpty_cons, o_add, o_sub, o_neg, o_lt, o_le, o_gt, o_ge, o_eqI, o_neI, o_eqB, o_neB, o_isN, o_isNotN, o_isB, n_non, n_bool, n_int, n_str, n_list, n_tuple, t_non, t_bool, t_int, t_list, t_tuple, o_ixT0, o_ixT1, o_ixT2, o_ixT3, o_ixT4, o_ixL0, o_ixL1, o_ixL2, o_ixL3, ix0, ix1, ix2, ix3, b_lenL, b_lenT, b_abs, b_int, b_tupL, b_tupT, b_lstL, b_lstT, b_gcd, b_max2, b_min2, fm_is_hit, m_is_hit, hl', L, b_anyM] <;> rfl
def t_missed (g : Int × Int) (ps : List (Int × Int)) (s : Int × Int) : Option (Option (Int × Int)) := if ps.length < sizeLine then (t_sites g s).bind fun l => findO (fun x => some (!hit ps x s)) l else none
theorem r_missed {g s : Int × Int} {ps : List (Int × Int)} {r : Option (Int × Int)} (h : t_missed g ps s = some r) : fm_missed [pr g, .tuple (ps.map pr), pr s] = some (oP r, [pr g, .tuple (ps.map pr), pr s]) := by
  unfold t_missed at h
  split at h
  · rename_i hl
    obtain ⟨l, h1, h⟩ := bd h
    obtain ⟨ε', L, j, rfl⟩ := for_findO (mt := gSet 3) (mb := (sIf (mNot (mTru (mCallU fm_is_hit [none, none, none] (aVal (mVar 1) (aVal (mVar 3) (aVal (mVar 2) aNil)))))) (sRet (mVar 3)) sNil)) pr pr (fun ε => ∃ j, ε = [some (pr g), some (.tuple (ps.map pr)), some (pr s), j]) (fun x => some (!hit ps x s)) l r [some (pr g), some (.tuple (ps.map pr)), some (pr s), none] (fun x b ε _ hi hb => by
      obtain ⟨j, rfl⟩ := hi
      cases hb
      refine ⟨_, [some (pr g), some (.tuple (ps.map pr)), some (pr s), some (pr x)], rfl, ?_, _, rfl⟩
      cases hh : hit ps x s with
      | true => simp only [e_mVar, e_kVar, e_mMov, e_kMov, e_mCst, e_kO, e_kOb, e_kOl, e_mBin, e_kB1, e_kB2, e_mUn, e_kU, e_mTb, e_kTb, e_mTru, e_kTru, e_mNot, e_kNot, e_mAnd, e_kAnd, e_mOr, e_kOr, e_mAndV, e_kAndVt, e_kAndVf, e_mOrV, e_kOrVt, e_kOrVf, e_mNotV, e_kNotV, e_mNotB, e_kNotB, e_kNB, e_mIf, e_kIf, e_kIfS, e_mNil, e_mCons, e_kC1, e_kC2, e_mTup, e_kTup, e_mLst, e_kLst, e_mCall, e_mRng, e_kCall, e_kCallR, e_mNoP, e_mP, e_kPI, e_mSl, e_kS1, e_kS2, e_kS3, e_kCh1, e_kCh2, e_kCh3t, e_kCh3f, e_mYes, e_mItems, e_kItL, e_kItT, e_mIsi, e_kIsi, e_mNol, e_kNolN, e_kNolI, e_kNolB, e_kNolS, e_kNolT, e_kNolD, e_mListS, e_kLS, e_gSet, e_gsNil, e_gsCons, e_kG, e_gTupM, e_aNil, e_aVal, e_kA1, e_kA2, e_aLent, e_kL1, e_kL2, e_mCallU, e_kU1, e_kU2, e_kU3, e_mFill0, e_mFill1, e_mFill2, e_kF, e_kFl, e_mBack0, e_mBack1, e_mBack2, e_sNil, e_sCons, e_kSeqN, e_kSeqB, e_kSeqC, e_kSeqR, e_sIf, e_sBk, e_sCt, e_sRet, e_kRet, e_sDrop, e_kDrop, e_sSet, e_kSet, e_sTgt, e_kTgt, e_kT2, e_sPar, e_kP1, e_kP2, e_kAp0, e_kAp1, e_kAp2, e_kPu1, e_kPu2, e_kPu3, e_kPu4, e_kPu5, e_mFor, e_kFor, e_sFor0, e_kF1, e_kF2N, e_kF2C, e_kF2B, e_kF2R, e_kW1, e_kW2N, e_kW2C, e_kW2B, e_kW2R, e_mLc, e_kLc, e_kLc2, e_mL0, e_kM1, e_kM2, e_kM3, e_kM4, e_wipe0, e_wipe1, e_res0, e_res1, e_mDef, e_kDefR, e_kDefN, e_kDO, e_mOu0, e_mOuF, e_mOuS, e_mOuL, e_kOu, e_mChain, e_sApp, e_sPut, e_kAndV, e_kOrV, e_kCh3, List.getElem?_cons_zero, List.getElem?_cons_succ, List.set_cons_zero, List.set_cons_succ, List.map_cons, List.map_nil, List.length_cons, List.length_nil, List.cons_append, List.nil_append, List.replicate_succ, List.replicate_zero, Option.getD_some, Option.getD_none, decide_eq_true_eq, Bool.false_eq_true, Bool.true_eq_false, Bool.not_true, Bool.not_false, Bool.not_eq_true', decide_eq_false_iff_not, if_true, if_false, Nat.zero_add, Nat.reduceAdd, Nat.reduceSub, Nat.sub_self, Nat.sub_zero, Nat.add_zero, Nat.reduceEqDiff, List.isEmpty_nil, List.isEmpty_cons, o_add, o_sub, o_neg, o_lt, o_le, o_gt, o_ge, o_eqI, o_neI, o_eqB, o_neB, o_isN, o_isNotN, o_isB, n_non, n_bool, n_int, n_str, n_list, n_tuple, t_non, t_bool, t_int, t_list, t_tuple, o_ixT0, o_ixT1, o_ixT2, o_ixT3, o_ixT4, o_ixL0, o_ixL1, o_ixL2, o_ixL3, ix0, ix1, ix2, ix3, b_lenL, b_lenT, b_abs, b_int, b_tupL, b_tupT, b_lstL, b_lstT, b_gcd, b_max2, b_min2, r_hit hl, hh]
      | false => simp only [e_mVar, e_kVar, e_mMov, e_kMov, e_mCst, e_kO, e_kOb, e_kOl, e_mBin, e_kB1, e_kB2, e_mUn, e_kU, e_mTb, e_kTb, e_mTru, e_kTru, e_mNot, e_kNot, e_mAnd, e_kAnd, e_mOr, e_kOr, e_mAndV, e_kAndVt, e_kAndVf, e_mOrV, e_kOrVt, e_kOrVf, e_mNotV, e_kNotV, e_mNotB, e_kNotB, e_kNB, e_mIf, e_kIf, e_kIfS, e_mNil, e_mCons, e_kC1, e_kC2, e_mTup, e_kTup, e_mLst, e_kLst, e_mCall, e_mRng, e_kCall, e_kCallR, e_mNoP, e_mP, e_kPI, e_mSl, e_kS1, e_kS2, e_kS3, e_kCh1, e_kCh2, e_kCh3t, e_kCh3f, e_mYes, e_mItems, e_kItL, e_kItT, e_mIsi, e_kIsi, e_mNol, e_kNolN, e_kNolI, e_kNolB, e_kNolS, e_kNolT, e_kNolD, e_mListS, e_kLS, e_gSet, e_gsNil, e_gsCons, e_kG, e_gTupM, e_aNil, e_aVal, e_kA1, e_kA2, e_aLent, e_kL1, e_kL2, e_mCallU, e_kU1, e_kU2, e_kU3, e_mFill0, e_mFill1, e_mFill2, e_kF, e_kFl, e_mBack0, e_mBack1, e_mBack2, e_sNil, e_sCons, e_kSeqN, e_kSeqB, e_kSeqC, e_kSeqR, e_sIf, e_sBk, e_sCt, e_sRet, e_kRet, e_sDrop, e_kDrop, e_sSet, e_kSet, e_sTgt, e_kTgt, e_kT2, e_sPar, e_kP1, e_kP2, e_kAp0, e_kAp1, e_kAp2, e_kPu1, e_kPu2, e_kPu3, e_kPu4, e_kPu5, e_mFor, e_kFor, e_sFor0, e_kF1, e_kF2N, e_kF2C, e_kF2B, e_kF2R, e_kW1, e_kW2N, e_kW2C, e_kW2B, e_kW2R, e_mLc, e_kLc, e_kLc2, e_mL0, e_kM1, e_kM2, e_kM3, e_kM4, e_wipe0, e_wipe1, e_res0, e_res1, e_mDef, e_kDefR, e_kDefN, e_kDO, e_mOu0, e_mOuF, e_mOuS, e_mOuL, e_kOu, e_mChain, e_sApp, e_sPut, e_kAndV, e_kOrV, e_kCh3, List.getElem?_cons_zero, List.getElem?_cons_succ, List.set_cons_zero, List.set_cons_succ, List.map_cons, List.map_nil, List.length_cons, List.length_nil, List.cons_append, List.nil_append, List.replicate_succ, List.replicate_zero, Option.getD_some, Option.getD_none, decide_eq_true_eq, Bool.false_eq_true, Bool.true_eq_false, Bool.not_true, Bool.not_false, Bool.not_eq_true', decide_eq_false_iff_not, if_true, if_false, Nat.zero_add, Nat.reduceAdd, Nat.reduceSub, Nat.sub_self, Nat.sub_zero, Nat.add_zero, Nat.reduceEqDiff, List.isEmpty_nil, List.isEmpty_cons, o_add, o_sub, o_neg, o_lt, o_le, o_gt, o_ge, o_eqI, o_neI, o_eqB, o_neB, o_isN, o_isNotN, o_isB, n_non, n_bool, n_int, n_str, n_list, n_tuple, t_non, t_bool, t_int, t_list, t_tuple, o_ixT0, o_ixT1, o_ixT2, o_ixT3, o_ixT4, o_ixL0, o_ixL1, o_ixL2, o_ixL3, ix0, ix1, ix2, ix3, b_lenL, b_lenT, b_abs, b_int, b_tupL, b_tupT, b_lstL, b_lstT, b_gcd, b_max2, b_min2, r_hit hl, hh]) ⟨_, rfl⟩ h
    cases r with
    | none => simp only [e_mVar, e_kVar, e_mMov, e_kMov, e_mCst, e_kO, e_kOb, e_kOl, e_mBin, e_kB1, e_kB2, e_mUn, e_kU, e_mTb, e_kTb, e_mTru, e_kTru, e_mNot, e_kNot, e_mAnd, e_kAnd, e_mOr, e_kOr, e_mAndV, e_kAndVt, e_kAndVf, e_mOrV, e_kOrVt, e_kOrVf, e_mNotV, e_kNotV, e_mNotB, e_kNotB, e_kNB, e_mIf, e_kIf, e_kIfS, e_mNil, e_mCons, e_kC1, e_kC2, e_mTup, e_kTup, e_mLst, e_kLst, e_mCall, e_mRng, e_kCall, e_kCallR, e_mNoP, e_mP, e_kPI, e_mSl, e_kS1, e_kS2, e_kS3, e_kCh1, e_kCh2, e_kCh3t, e_kCh3f, e_mYes, e_mItems, e_kItL, e_kItT, e_mIsi, e_kIsi, e_mNol, e_kNolN, e_kNolI, e_kNolB, e_kNolS, e_kNolT, e_kNolD, e_mListS, e_kLS, e_gSet, e_gsNil, e_gsCons, e_kG, e_gTupM, e_aNil, e_aVal, e_kA1, e_kA2, e_aLent, e_kL1, e_kL2, e_mCallU, e_kU1, e_kU2, e_kU3, e_mFill0, e_mFill1, e_mFill2, e_kF, e_kFl, e_mBack0, e_mBack1, e_mBack2, e_sNil, e_sCons, e_kSeqN, e_kSeqB, e_kSeqC, e_kSeqR, e_sIf, e_sBk, e_sCt, e_sRet, e_kRet, e_sDrop, e_kDrop, e_sSet, e_kSet, e_sTgt, e_kTgt, e_kT2, e_sPar, e_kP1, e_kP2, e_kAp0, e_kAp1, e_kAp2, e_kPu1, e_kPu2, e_kPu3, e_kPu4, e_kPu5, e_mFor, e_kFor, e_sFor0, e_kF1, e_kF2N, e_kF2C, e_kF2B, e_kF2R, e_kW1, e_kW2N, e_kW2C, e_kW2B, e_kW2R, e_mLc, e_kLc, e_kLc2, e_mL0, e_kM1, e_kM2, e_kM3, e_kM4, e_wipe0, e_wipe1, e_res0, e_res1, e_mDef, e_kDefR, e_kDefN, e_kDO, e_mOu0, e_mOuF, e_mOuS, e_mOuL, e_kOu, e_mChain, e_sApp, e_sPut, e_kAndV, e_kOrV, e_kCh3, List.getElem?_cons_zero, List.getElem?_cons_succ, List.set_cons_zero, List.set_cons_succ, List.map_cons, List.map_nil, List.length_cons, List.length_nil, List.cons_append, List.nil_append, List.replicate_succ, List.replicate_zero, Option.getD_some, Option.getD_none, decide_eq_true_eq, Bool.false_eq_true, Bool.true_eq_false, Bool.not_true, Bool.not_false, Bool.not_eq_true', decide_eq_false_iff_not, if_true, if_false, Nat.zero_add, Nat.reduceAdd, Nat.reduceSub, Nat.sub_self, Nat.sub_zero, Nat.add_zero, Nat.reduceEqDiff, List.isEmpty_nil, List.isEmpty_cons, o_add, o_sub, o_neg, o_lt, o_le, o_gt, o_ge, o_eqI, o_neI, o_eqB, o_neB, o_isN, o_isNotN, o_isB, n_non, n_bool, n_int, n_str, n_list, n_tuple, t_non, t_bool, t_int, t_list, t_tuple, o_ixT0, o_ixT1, o_ixT2, o_ixT3, o_ixT4, o_ixL0, o_ixL1, o_ixL2, o_ixL3, ix0, ix1, ix2, ix3, b_lenL, b_lenT, b_abs, b_int, b_tupL, b_tupT, b_lstL, b_lstT, b_gcd, b_max2, b_min2, fm_missed, m_missed, r_sites h1, L, fOut, oP]
    | some x => simp only [e_mVar, e_kVar, e_mMov, e_kMov, e_mCst, e_kO, e_kOb, e_kOl, e_mBin, e_kB1, e_kB2, e_mUn, e_kU, e_mTb, e_kTb, e_mTru, e_kTru, e_mNot, e_kNot, e_mAnd, e_kAnd, e_mOr, e_kOr, e_mAndV, e_kAndVt, e_kAndVf, e_mOrV, e_kOrVt, e_kOrVf, e_mNotV, e_kNotV, e_mNotB, e_kNotB, e_kNB, e_mIf, e_kIf, e_kIfS, e_mNil, e_mCons, e_kC1, e_kC2, e_mTup, e_kTup, e_mLst, e_kLst, e_mCall, e_mRng, e_kCall, e_kCallR, e_mNoP, e_mP, e_kPI, e_mSl, e_kS1, e_kS2, e_kS3, e_kCh1, e_kCh2, e_kCh3t, e_kCh3f, e_mYes, e_mItems, e_kItL, e_kItT, e_mIsi, e_kIsi, e_mNol, e_kNolN, e_kNolI, e_kNolB, e_kNolS, e_kNolT, e_kNolD, e_mListS, e_kLS, e_gSet, e_gsNil, e_gsCons, e_kG, e_gTupM, e_aNil, e_aVal, e_kA1, e_kA2, e_aLent, e_kL1, e_kL2, e_mCallU, e_kU1, e_kU2, e_kU3, e_mFill0, e_mFill1, e_mFill2, e_kF, e_kFl, e_mBack0, e_mBack1, e_mBack2, e_sNil, e_sCons, e_kSeqN, e_kSeqB, e_kSeqC, e_kSeqR, e_sIf, e_sBk, e_sCt, e_sRet, e_kRet, e_sDrop, e_kDrop, e_sSet, e_kSet, e_sTgt, e_kTgt, e_kT2, e_sPar, e_kP1, e_kP2, e_kAp0, e_kAp1, e_kAp2, e_kPu1, e_kPu2, e_kPu3, e_kPu4, e_kPu5, e_mFor, e_kFor, e_sFor0, e_kF1, e_kF2N, e_kF2C, e_kF2B, e_kF2R, e_kW1, e_kW2N, e_kW2C, e_kW2B, e_kW2R, e_mLc, e_kLc, e_kLc2, e_mL0, e_kM1, e_kM2, e_kM3, e_kM4, e_wipe0, e_wipe1, e_res0, e_res1, e_mDef, e_kDefR, e_kDefN, e_kDO, e_mOu0, e_mOuF, e_mOuS, e_mOuL, e_kOu, e_mChain, e_sApp, e_sPut, e_kAndV, e_kOrV, e_kCh3, List.getElem?_cons_zero, List.getElem?_cons_succ, List.set_cons_zero, List.set_cons_succ, List.map_cons, List.map_nil, List.length_cons, List.length_nil, List.cons_append, List.nil_append, List.replicate_succ, List.replicate_zero, Option.getD_some, Option.getD_none, decide_eq_true_eq, Bool.false_eq_true, Bool.true_eq_false, Bool.not_true, Bool.not_false, Bool.not_eq_true', decide_eq_false_iff_not, if_true, if_false, Nat.zero_add, Nat.reduceAdd, Nat.reduceSub, Nat.sub_self, Nat.sub_zero, Nat.add_zero, Nat.reduceEqDiff, List.isEmpty_nil, List.isEmpty_cons, o_add, o_sub, o_neg, o_lt, o_le, o_gt, o_ge, o_eqI, o_neI, o_eqB, o_neB, o_isN, o_isNotN, o_isB, n_non, n_bool, n_int, n_str, n_list, n_tuple, t_non, t_bool, t_int, t_list, t_tuple, o_ixT0, o_ixT1, o_ixT2, o_ixT3, o_ixT4, o_ixL0, o_ixL1, o_ixL2, o_ixL3, ix0, ix1, ix2, ix3, b_lenL, b_lenT, b_abs, b_int, b_tupL, b_tupT, b_lstL, b_lstT, b_gcd, b_max2, b_min2, fm_missed, m_missed, r_sites h1, L, fOut, oP]
  · cases h
theorem len_pr {ps : List (Int × Int)} (h : ps.length < sizeLine) : (ps.map pr).length < sizeLine := by rw [List.length_map]; exact h
def t_share (g : Int × Int) (ps : List (Int × Int)) (s : Int × Int) : Option (Int × Int) := if ps.length < sizeLine then (t_sites g s).bind fun l => if l = [] then some (1, 1) else if l.length < sizeLine then t_ratio (l.filter fun x => hit ps x s).length l.length else none else none
theorem r_share {g s r : Int × Int} {ps : List (Int × Int)} (h : t_share g ps s = some r) : fm_share [pr g, .tuple (ps.map pr), pr s] = some (pr r, [pr g, .tuple (ps.map pr), pr s]) := by
  unfold t_share at h
  split at h
  · rename_i hl
    obtain ⟨l, h1, h⟩ := bd h
    have L := lc_al (mt := gSet 4) (mk := (mTru (mCallU fm_is_hit [none, none, none] (aVal (mVar 1) (aVal (mVar 4) (aVal (mVar 2) aNil)))))) (me := mVar 4) pr pr (fun x => hit ps x s) [4] l [some (pr g), some (.tuple (ps.map pr)), some (pr s), some (.list (l.map pr)), none] (fun x _ => by
      refine ⟨_, rfl, ?_, fun _ => ?_, ?_⟩ <;> simp only [e_mVar, e_kVar, e_mMov, e_kMov, e_mCst, e_kO, e_kOb, e_kOl, e_mBin, e_kB1, e_kB2, e_mUn, e_kU, e_mTb, e_kTb, e_mTru, e_kTru, e_mNot, e_kNot, e_mAnd, e_kAnd, e_mOr, e_kOr, e_mAndV, e_kAndVt, e_kAndVf, e_mOrV, e_kOrVt, e_kOrVf, e_mNotV, e_kNotV, e_mNotB, e_kNotB, e_kNB, e_mIf, e_kIf, e_kIfS, e_mNil, e_mCons, e_kC1, e_kC2, e_mTup, e_kTup, e_mLst, e_kLst, e_mCall, e_mRng, e_kCall, e_kCallR, e_mNoP, e_mP, e_kPI, e_mSl, e_kS1, e_kS2, e_kS3, e_kCh1, e_kCh2, e_kCh3t, e_kCh3f, e_mYes, e_mItems, e_kItL, e_kItT, e_mIsi, e_kIsi, e_mNol, e_kNolN, e_kNolI, e_kNolB, e_kNolS, e_kNolT, e_kNolD, e_mListS, e_kLS, e_gSet, e_gsNil, e_gsCons, e_kG, e_gTupM, e_aNil, e_aVal, e_kA1, e_kA2, e_aLent, e_kL1, e_kL2, e_mCallU, e_kU1, e_kU2, e_kU3, e_mFill0, e_mFill1, e_mFill2, e_kF, e_kFl, e_mBack0, e_mBack1, e_mBack2, e_sNil, e_sCons, e_kSeqN, e_kSeqB, e_kSeqC, e_kSeqR, e_sIf, e_sBk, e_sCt, e_sRet, e_kRet, e_sDrop, e_kDrop, e_sSet, e_kSet, e_sTgt, e_kTgt, e_kT2, e_sPar, e_kP1, e_kP2, e_kAp0, e_kAp1, e_kAp2, e_kPu1, e_kPu2, e_kPu3, e_kPu4, e_kPu5, e_mFor, e_kFor, e_sFor0, e_kF1, e_kF2N, e_kF2C, e_kF2B, e_kF2R, e_kW1, e_kW2N, e_kW2C, e_kW2B, e_kW2R, e_mLc, e_kLc, e_kLc2, e_mL0, e_kM1, e_kM2, e_kM3, e_kM4, e_wipe0, e_wipe1, e_res0, e_res1, e_mDef, e_kDefR, e_kDefN, e_kDO, e_mOu0, e_mOuF, e_mOuS, e_mOuL, e_kOu, e_mChain, e_sApp, e_sPut, e_kAndV, e_kOrV, e_kCh3, List.getElem?_cons_zero, List.getElem?_cons_succ, List.set_cons_zero, List.set_cons_succ, List.map_cons, List.map_nil, List.length_cons, List.length_nil, List.cons_append, List.nil_append, List.replicate_succ, List.replicate_zero, Option.getD_some, Option.getD_none, decide_eq_true_eq, Bool.false_eq_true, Bool.true_eq_false, Bool.not_true, Bool.not_false, Bool.not_eq_true', decide_eq_false_iff_not, if_true, if_false, Nat.zero_add, Nat.reduceAdd, Nat.reduceSub, Nat.sub_self, Nat.sub_zero, Nat.add_zero, Nat.reduceEqDiff, List.isEmpty_nil, List.isEmpty_cons, o_add, o_sub, o_neg, o_lt, o_le, o_gt, o_ge, o_eqI, o_neI, o_eqB, o_neB, o_isN, o_isNotN, o_isB, n_non, n_bool, n_int, n_str, n_list, n_tuple, t_non, t_bool, t_int, t_list, t_tuple, o_ixT0, o_ixT1, o_ixT2, o_ixT3, o_ixT4, o_ixL0, o_ixL1, o_ixL2, o_ixL3, ix0, ix1, ix2, ix3, b_lenL, b_lenT, b_abs, b_int, b_tupL, b_tupT, b_lstL, b_lstT, b_gcd, b_max2, b_min2, r_hit hl])
    simp only [e_mVar, e_kVar, e_mMov, e_kMov, e_mCst, e_kO, e_kOb, e_kOl, e_mBin, e_kB1, e_kB2, e_mUn, e_kU, e_mTb, e_kTb, e_mTru, e_kTru, e_mNot, e_kNot, e_mAnd, e_kAnd, e_mOr, e_kOr, e_mAndV, e_kAndVt, e_kAndVf, e_mOrV, e_kOrVt, e_kOrVf, e_mNotV, e_kNotV, e_mNotB, e_kNotB, e_kNB, e_mIf, e_kIf, e_kIfS, e_mNil, e_mCons, e_kC1, e_kC2, e_mTup, e_kTup, e_mLst, e_kLst, e_mCall, e_mRng, e_kCall, e_kCallR, e_mNoP, e_mP, e_kPI, e_mSl, e_kS1, e_kS2, e_kS3, e_kCh1, e_kCh2, e_kCh3t, e_kCh3f, e_mYes, e_mItems, e_kItL, e_kItT, e_mIsi, e_kIsi, e_mNol, e_kNolN, e_kNolI, e_kNolB, e_kNolS, e_kNolT, e_kNolD, e_mListS, e_kLS, e_gSet, e_gsNil, e_gsCons, e_kG, e_gTupM, e_aNil, e_aVal, e_kA1, e_kA2, e_aLent, e_kL1, e_kL2, e_mCallU, e_kU1, e_kU2, e_kU3, e_mFill0, e_mFill1, e_mFill2, e_kF, e_kFl, e_mBack0, e_mBack1, e_mBack2, e_sNil, e_sCons, e_kSeqN, e_kSeqB, e_kSeqC, e_kSeqR, e_sIf, e_sBk, e_sCt, e_sRet, e_kRet, e_sDrop, e_kDrop, e_sSet, e_kSet, e_sTgt, e_kTgt, e_kT2, e_sPar, e_kP1, e_kP2, e_kAp0, e_kAp1, e_kAp2, e_kPu1, e_kPu2, e_kPu3, e_kPu4, e_kPu5, e_mFor, e_kFor, e_sFor0, e_kF1, e_kF2N, e_kF2C, e_kF2B, e_kF2R, e_kW1, e_kW2N, e_kW2C, e_kW2B, e_kW2R, e_mLc, e_kLc, e_kLc2, e_mL0, e_kM1, e_kM2, e_kM3, e_kM4, e_wipe0, e_wipe1, e_res0, e_res1, e_mDef, e_kDefR, e_kDefN, e_kDO, e_mOu0, e_mOuF, e_mOuS, e_mOuL, e_kOu, e_mChain, e_sApp, e_sPut, e_kAndV, e_kOrV, e_kCh3, List.getElem?_cons_zero, List.getElem?_cons_succ, List.set_cons_zero, List.set_cons_succ, List.map_cons, List.map_nil, List.length_cons, List.length_nil, List.cons_append, List.nil_append, List.replicate_succ, List.replicate_zero, Option.getD_some, Option.getD_none, decide_eq_true_eq, Bool.false_eq_true, Bool.true_eq_false, Bool.not_true, Bool.not_false, Bool.not_eq_true', decide_eq_false_iff_not, if_true, if_false, Nat.zero_add, Nat.reduceAdd, Nat.reduceSub, Nat.sub_self, Nat.sub_zero, Nat.add_zero, Nat.reduceEqDiff, List.isEmpty_nil, List.isEmpty_cons, o_add, o_sub, o_neg, o_lt, o_le, o_gt, o_ge, o_eqI, o_neI, o_eqB, o_neB, o_isN, o_isNotN, o_isB, n_non, n_bool, n_int, n_str, n_list, n_tuple, t_non, t_bool, t_int, t_list, t_tuple, o_ixT0, o_ixT1, o_ixT2, o_ixT3, o_ixT4, o_ixL0, o_ixL1, o_ixL2, o_ixL3, ix0, ix1, ix2, ix3, b_lenL, b_lenT, b_abs, b_int, b_tupL, b_tupT, b_lstL, b_lstT, b_gcd, b_max2, b_min2] at L
    by_cases e0 : l = []
    · subst e0
      rw [if_pos rfl] at h
      cases h
      simp only [e_mVar, e_kVar, e_mMov, e_kMov, e_mCst, e_kO, e_kOb, e_kOl, e_mBin, e_kB1, e_kB2, e_mUn, e_kU, e_mTb, e_kTb, e_mTru, e_kTru, e_mNot, e_kNot, e_mAnd, e_kAnd, e_mOr, e_kOr, e_mAndV, e_kAndVt, e_kAndVf, e_mOrV, e_kOrVt, e_kOrVf, e_mNotV, e_kNotV, e_mNotB, e_kNotB, e_kNB, e_mIf, e_kIf, e_kIfS, e_mNil, e_mCons, e_kC1, e_kC2, e_mTup, e_kTup, e_mLst, e_kLst, e_mCall, e_mRng, e_kCall, e_kCallR, e_mNoP, e_mP, e_kPI, e_mSl, e_kS1, e_kS2, e_kS3, e_kCh1, e_kCh2, e_kCh3t, e_kCh3f, e_mYes, e_mItems, e_kItL, e_kItT, e_mIsi, e_kIsi, e_mNol, e_kNolN, e_kNolI, e_kNolB, e_kNolS, e_kNolT, e_kNolD, e_mListS, e_kLS, e_gSet, e_gsNil, e_gsCons, e_kG, e_gTupM, e_aNil, e_aVal, e_kA1, e_kA2, e_aLent, e_kL1, e_kL2, e_mCallU, e_kU1, e_kU2, e_kU3, e_mFill0, e_mFill1, e_mFill2, e_kF, e_kFl, e_mBack0, e_mBack1, e_mBack2, e_sNil, e_sCons, e_kSeqN, e_kSeqB, e_kSeqC, e_kSeqR, e_sIf, e_sBk, e_sCt, e_sRet, e_kRet, e_sDrop, e_kDrop, e_sSet, e_kSet, e_sTgt, e_kTgt, e_kT2, e_sPar, e_kP1, e_kP2, e_kAp0, e_kAp1, e_kAp2, e_kPu1, e_kPu2, e_kPu3, e_kPu4, e_kPu5, e_mFor, e_kFor, e_sFor0, e_kF1, e_kF2N, e_kF2C, e_kF2B, e_kF2R, e_kW1, e_kW2N, e_kW2C, e_kW2B, e_kW2R, e_mLc, e_kLc, e_kLc2, e_mL0, e_kM1, e_kM2, e_kM3, e_kM4, e_wipe0, e_wipe1, e_res0, e_res1, e_mDef, e_kDefR, e_kDefN, e_kDO, e_mOu0, e_mOuF, e_mOuS, e_mOuL, e_kOu, e_mChain, e_sApp, e_sPut, e_kAndV, e_kOrV, e_kCh3, List.getElem?_cons_zero, List.getElem?_cons_succ, List.set_cons_zero, List.set_cons_succ, List.map_cons, List.map_nil, List.length_cons, List.length_nil, List.cons_append, List.nil_append, List.replicate_succ, List.replicate_zero, Option.getD_some, Option.getD_none, decide_eq_true_eq, Bool.false_eq_true, Bool.true_eq_false, Bool.not_true, Bool.not_false, Bool.not_eq_true', decide_eq_false_iff_not, if_true, if_false, Nat.zero_add, Nat.reduceAdd, Nat.reduceSub, Nat.sub_self, Nat.sub_zero, Nat.add_zero, Nat.reduceEqDiff, List.isEmpty_nil, List.isEmpty_cons, o_add, o_sub, o_neg, o_lt, o_le, o_gt, o_ge, o_eqI, o_neI, o_eqB, o_neB, o_isN, o_isNotN, o_isB, n_non, n_bool, n_int, n_str, n_list, n_tuple, t_non, t_bool, t_int, t_list, t_tuple, o_ixT0, o_ixT1, o_ixT2, o_ixT3, o_ixT4, o_ixL0, o_ixL1, o_ixL2, o_ixL3, ix0, ix1, ix2, ix3, b_lenL, b_lenT, b_abs, b_int, b_tupL, b_tupT, b_lstL, b_lstT, b_gcd, b_max2, b_min2, fm_share, m_share, r_sites h1] <;> rfl
    · rw [if_neg e0] at h
      split at h
      · rename_i hl2
        have hl3 := len_pr hl2
        have e1 : ((l.filter fun x => hit ps x s).map pr).length = (l.filter fun x => hit ps x s).length := List.length_map ..
        have e2 : (l.map pr).length = l.length := List.length_map ..
        have e3 : (l.map pr).isEmpty = false := by cases l with | nil => exact absurd rfl e0 | cons _ _ => rfl
        simp only [e_mVar, e_kVar, e_mMov, e_kMov, e_mCst, e_kO, e_kOb, e_kOl, e_mBin, e_kB1, e_kB2, e_mUn, e_kU, e_mTb, e_kTb, e_mTru, e_kTru, e_mNot, e_kNot, e_mAnd, e_kAnd, e_mOr, e_kOr, e_mAndV, e_kAndVt, e_kAndVf, e_mOrV, e_kOrVt, e_kOrVf, e_mNotV, e_kNotV, e_mNotB, e_kNotB, e_kNB, e_mIf, e_kIf, e_kIfS, e_mNil, e_mCons, e_kC1, e_kC2, e_mTup, e_kTup, e_mLst, e_kLst, e_mCall, e_mRng, e_kCall, e_kCallR, e_mNoP, e_mP, e_kPI, e_mSl, e_kS1, e_kS2, e_kS3, e_kCh1, e_kCh2, e_kCh3t, e_kCh3f, e_mYes, e_mItems, e_kItL, e_kItT, e_mIsi, e_kIsi, e_mNol, e_kNolN, e_kNolI, e_kNolB, e_kNolS, e_kNolT, e_kNolD, e_mListS, e_kLS, e_gSet, e_gsNil, e_gsCons, e_kG, e_gTupM, e_aNil, e_aVal, e_kA1, e_kA2, e_aLent, e_kL1, e_kL2, e_mCallU, e_kU1, e_kU2, e_kU3, e_mFill0, e_mFill1, e_mFill2, e_kF, e_kFl, e_mBack0, e_mBack1, e_mBack2, e_sNil, e_sCons, e_kSeqN, e_kSeqB, e_kSeqC, e_kSeqR, e_sIf, e_sBk, e_sCt, e_sRet, e_kRet, e_sDrop, e_kDrop, e_sSet, e_kSet, e_sTgt, e_kTgt, e_kT2, e_sPar, e_kP1, e_kP2, e_kAp0, e_kAp1, e_kAp2, e_kPu1, e_kPu2, e_kPu3, e_kPu4, e_kPu5, e_mFor, e_kFor, e_sFor0, e_kF1, e_kF2N, e_kF2C, e_kF2B, e_kF2R, e_kW1, e_kW2N, e_kW2C, e_kW2B, e_kW2R, e_mLc, e_kLc, e_kLc2, e_mL0, e_kM1, e_kM2, e_kM3, e_kM4, e_wipe0, e_wipe1, e_res0, e_res1, e_mDef, e_kDefR, e_kDefN, e_kDO, e_mOu0, e_mOuF, e_mOuS, e_mOuL, e_kOu, e_mChain, e_sApp, e_sPut, e_kAndV, e_kOrV, e_kCh3, List.getElem?_cons_zero, List.getElem?_cons_succ, List.set_cons_zero, List.set_cons_succ, List.map_cons, List.map_nil, List.length_cons, List.length_nil, List.cons_append, List.nil_append, List.replicate_succ, List.replicate_zero, Option.getD_some, Option.getD_none, decide_eq_true_eq, Bool.false_eq_true, Bool.true_eq_false, Bool.not_true, Bool.not_false, Bool.not_eq_true', decide_eq_false_iff_not, if_true, if_false, Nat.zero_add, Nat.reduceAdd, Nat.reduceSub, Nat.sub_self, Nat.sub_zero, Nat.add_zero, Nat.reduceEqDiff, List.isEmpty_nil, List.isEmpty_cons, o_add, o_sub, o_neg, o_lt, o_le, o_gt, o_ge, o_eqI, o_neI, o_eqB, o_neB, o_isN, o_isNotN, o_isB, n_non, n_bool, n_int, n_str, n_list, n_tuple, t_non, t_bool, t_int, t_list, t_tuple, o_ixT0, o_ixT1, o_ixT2, o_ixT3, o_ixT4, o_ixL0, o_ixL1, o_ixL2, o_ixL3, ix0, ix1, ix2, ix3, b_lenL, b_lenT, b_abs, b_int, b_tupL, b_tupT, b_lstL, b_lstT, b_gcd, b_max2, b_min2, fm_share, m_share, r_sites h1, hl2, L, e1, e2, e3, r_ratio h]
      · cases h
  · cases h
def upd1 (left : List (Int × Int)) (s : Int × Int) (b : Option (Int × (Int × Int))) (x y : Int) : Option (Int × (Int × Int)) :=
  if 0 < ((left.filter fun st => hit [(x, y)] st s).length : Int) then match b with
    | none => some ((left.filter fun st => hit [(x, y)] st s).length, (x, y))
    | some b => if b.1 < ((left.filter fun st => hit [(x, y)] st s).length : Int) then some ((left.filter fun st => hit [(x, y)] st s).length, (x, y)) else some b
  else b
def bN : Option (Int × (Int × Int)) → T
  | none => .none
  | some b => .tuple [.int b.1, pr b.2]
def t_next (g : Int × Int) (ps : List (Int × Int)) (s : Int × Int) : Option (Option (Int × Int)) := if ps.length < sizeLine then (t_sites g s).bind fun l => if l.length < sizeLine then (rgO g.1).bind fun xs => (rgO g.2).bind fun ys =>
  some ((xs.foldl (fun b x => ys.foldl (fun b y => upd1 (l.filter fun st => !hit ps st s) s b x y) b) none).map (·.2)) else none else none
theorem bN0 : isNon (bN none) = true := rfl
theorem bN1 {b : Int × (Int × Int)} : isNon (bN (some b)) = false := rfl
theorem bN2 {b : Int × (Int × Int)} : opIx (bN (some b)) (.int 0) = some (.int b.1) := rfl
theorem bN3 {b : Int × (Int × Int)} : opIx (bN (some b)) (.int 1) = some (pr b.2) := rfl
theorem one_pr (x y : Int) : [PyData.tuple [.int x, .int y]] = [(x, y)].map pr := rfl
theorem l_next1 {g s : Int × Int} {x0 : T} {left : List (Int × Int)} (hl : left.length < sizeLine) (b : Option (Int × (Int × Int))) (x y : Int) (j7 j8 : Option T) :
    ∃ k7, (sCons (sSet 7 (mCall bLen (mCons (mLc (mItems (mVar 3)) (gSet 8) (mTru (mCallU fm_is_hit [none, none, none] (aVal (mLst (mCons (mTup (mCons (mVar 5) (mCons (mVar 6) mNil))) mNil)) (aVal (mVar 8) (aVal (mVar 2) aNil))))) (mVar 8) [8]) mNil))) (sIf (mAnd (mTb (mBin opGt (mVar 7) (mCst (.int 0)))) (mOr (mTb (mBin opIs (mVar 4) (mCst .none))) (mTb (mBin opGt (mVar 7) (mBin opIx (mVar 4) (mCst (.int 0))))))) (sSet 4 (mTup (mCons (mVar 7) (mCons (mTup (mCons (mVar 5) (mCons (mVar 6) mNil))) mNil)))) sNil)) [some (pr g), some x0, some (pr s), some (.list (left.map pr)), some (bN b), some (.int x), some (.int y), j7, j8] =
      some (.nx, [some (pr g), some x0, some (pr s), some (.list (left.map pr)), some (bN (upd1 left s b x y)), some (.int x), some (.int y), k7, j8]) := by
  have L := lc_al (mt := gSet 8) (mk := (mTru (mCallU fm_is_hit [none, none, none] (aVal (mLst (mCons (mTup (mCons (mVar 5) (mCons (mVar 6) mNil))) mNil)) (aVal (mVar 8) (aVal (mVar 2) aNil)))))) (me := mVar 8) pr pr (fun st => hit [(x, y)] st s) [8] left [some (pr g), some x0, some (pr s), some (.list (left.map pr)), some (bN b), some (.int x), some (.int y), j7, j8] (fun st _ => by
    have e := r_hitL (ps := [(x, y)]) (st := st) (sh := s) (by rw [List.length_singleton]; decide)
    rw [← one_pr] at e
    refine ⟨_, rfl, ?_, fun _ => ?_, ?_⟩ <;> simp only [e_mVar, e_kVar, e_mMov, e_kMov, e_mCst, e_kO, e_kOb, e_kOl, e_mBin, e_kB1, e_kB2, e_mUn, e_kU, e_mTb, e_kTb, e_mTru, e_kTru, e_mNot, e_kNot, e_mAnd, e_kAnd, e_mOr, e_kOr, e_mAndV, e_kAndVt, e_kAndVf, e_mOrV, e_kOrVt, e_kOrVf, e_mNotV, e_kNotV, e_mNotB, e_kNotB, e_kNB, e_mIf, e_kIf, e_kIfS, e_mNil, e_mCons, e_kC1, e_kC2, e_mTup, e_kTup, e_mLst, e_kLst, e_mCall, e_mRng, e_kCall, e_kCallR, e_mNoP, e_mP, e_kPI, e_mSl, e_kS1, e_kS2, e_kS3, e_kCh1, e_kCh2, e_kCh3t, e_kCh3f, e_mYes, e_mItems, e_kItL, e_kItT, e_mIsi, e_kIsi, e_mNol, e_kNolN, e_kNolI, e_kNolB, e_kNolS, e_kNolT, e_kNolD, e_mListS, e_kLS, e_gSet, e_gsNil, e_gsCons, e_kG, e_gTupM, e_aNil, e_aVal, e_kA1, e_kA2, e_aLent, e_kL1, e_kL2, e_mCallU, e_kU1, e_kU2, e_kU3, e_mFill0, e_mFill1, e_mFill2, e_kF, e_kFl, e_mBack0, e_mBack1, e_mBack2, e_sNil, e_sCons, e_kSeqN, e_kSeqB, e_kSeqC, e_kSeqR, e_sIf, e_sBk, e_sCt, e_sRet, e_kRet, e_sDrop, e_kDrop, e_sSet, e_kSet, e_sTgt, e_kTgt, e_kT2, e_sPar, e_kP1, e_kP2, e_kAp0, e_kAp1, e_kAp2, e_kPu1, e_kPu2, e_kPu3, e_kPu4, e_kPu5, e_mFor, e_kFor, e_sFor0, e_kF1, e_kF2N, e_kF2C, e_kF2B, e_kF2R, e_kW1, e_kW2N, e_kW2C, e_kW2B, e_kW2R, e_mLc, e_kLc, e_kLc2, e_mL0, e_kM1, e_kM2, e_kM3, e_kM4, e_wipe0, e_wipe1, e_res0, e_res1, e_mDef, e_kDefR, e_kDefN, e_kDO, e_mOu0, e_mOuF, e_mOuS, e_mOuL, e_kOu, e_mChain, e_sApp, e_sPut, e_kAndV, e_kOrV, e_kCh3, List.getElem?_cons_zero, List.getElem?_cons_succ, List.set_cons_zero, List.set_cons_succ, List.map_cons, List.map_nil, List.length_cons, List.length_nil, List.cons_append, List.nil_append, List.replicate_succ, List.replicate_zero, Option.getD_some, Option.getD_none, decide_eq_true_eq, Bool.false_eq_true, Bool.true_eq_false, Bool.not_true, Bool.not_false, Bool.not_eq_true', decide_eq_false_iff_not, if_true, if_false, Nat.zero_add, Nat.reduceAdd, Nat.reduceSub, Nat.sub_self, Nat.sub_zero, Nat.add_zero, Nat.reduceEqDiff, List.isEmpty_nil, List.isEmpty_cons, o_add, o_sub, o_neg, o_lt, o_le, o_gt, o_ge, o_eqI, o_neI, o_eqB, o_neB, o_isN, o_isNotN, o_isB, n_non, n_bool, n_int, n_str, n_list, n_tuple, t_non, t_bool, t_int, t_list, t_tuple, o_ixT0, o_ixT1, o_ixT2, o_ixT3, o_ixT4, o_ixL0, o_ixL1, o_ixL2, o_ixL3, ix0, ix1, ix2, ix3, b_lenL, b_lenT, b_abs, b_int, b_tupL, b_tupT, b_lstL, b_lstT, b_gcd, b_max2, b_min2, e])
  have hl3 := len_pr hl
  have e1 : ((left.filter fun st => hit [(x, y)] st s).map pr).length = (left.filter fun st => hit [(x, y)] st s).length := List.length_map ..
  simp only [e_mVar, e_kVar, e_mMov, e_kMov, e_mCst, e_kO, e_kOb, e_kOl, e_mBin, e_kB1, e_kB2, e_mUn, e_kU, e_mTb, e_kTb, e_mTru, e_kTru, e_mNot, e_kNot, e_mAnd, e_kAnd, e_mOr, e_kOr, e_mAndV, e_kAndVt, e_kAndVf, e_mOrV, e_kOrVt, e_kOrVf, e_mNotV, e_kNotV, e_mNotB, e_kNotB, e_kNB, e_mIf, e_kIf, e_kIfS, e_mNil, e_mCons, e_kC1, e_kC2, e_mTup, e_kTup, e_mLst, e_kLst, e_mCall, e_mRng, e_kCall, e_kCallR, e_mNoP, e_mP, e_kPI, e_mSl, e_kS1, e_kS2, e_kS3, e_kCh1, e_kCh2, e_kCh3t, e_kCh3f, e_mYes, e_mItems, e_kItL, e_kItT, e_mIsi, e_kIsi, e_mNol, e_kNolN, e_kNolI, e_kNolB, e_kNolS, e_kNolT, e_kNolD, e_mListS, e_kLS, e_gSet, e_gsNil, e_gsCons, e_kG, e_gTupM, e_aNil, e_aVal, e_kA1, e_kA2, e_aLent, e_kL1, e_kL2, e_mCallU, e_kU1, e_kU2, e_kU3, e_mFill0, e_mFill1, e_mFill2, e_kF, e_kFl, e_mBack0, e_mBack1, e_mBack2, e_sNil, e_sCons, e_kSeqN, e_kSeqB, e_kSeqC, e_kSeqR, e_sIf, e_sBk, e_sCt, e_sRet, e_kRet, e_sDrop, e_kDrop, e_sSet, e_kSet, e_sTgt, e_kTgt, e_kT2, e_sPar, e_kP1, e_kP2, e_kAp0, e_kAp1, e_kAp2, e_kPu1, e_kPu2, e_kPu3, e_kPu4, e_kPu5, e_mFor, e_kFor, e_sFor0, e_kF1, e_kF2N, e_kF2C, e_kF2B, e_kF2R, e_kW1, e_kW2N, e_kW2C, e_kW2B, e_kW2R, e_mLc, e_kLc, e_kLc2, e_mL0, e_kM1, e_kM2, e_kM3, e_kM4, e_wipe0, e_wipe1, e_res0, e_res1, e_mDef, e_kDefR, e_kDefN, e_kDO, e_mOu0, e_mOuF, e_mOuS, e_mOuL, e_kOu, e_mChain, e_sApp, e_sPut, e_kAndV, e_kOrV, e_kCh3, List.getElem?_cons_zero, List.getElem?_cons_succ, List.set_cons_zero, List.set_cons_succ, List.map_cons, List.map_nil, List.length_cons, List.length_nil, List.cons_append, List.nil_append, List.replicate_succ, List.replicate_zero, Option.getD_some, Option.getD_none, decide_eq_true_eq, Bool.false_eq_true, Bool.true_eq_false, Bool.not_true, Bool.not_false, Bool.not_eq_true', decide_eq_false_iff_not, if_true, if_false, Nat.zero_add, Nat.reduceAdd, Nat.reduceSub, Nat.sub_self, Nat.sub_zero, Nat.add_zero, Nat.reduceEqDiff, List.isEmpty_nil, List.isEmpty_cons, o_add, o_sub, o_neg, o_lt, o_le, o_gt, o_ge, o_eqI, o_neI, o_eqB, o_neB, o_isN, o_isNotN, o_isB, n_non, n_bool, n_int, n_str, n_list, n_tuple, t_non, t_bool, t_int, t_list, t_tuple, o_ixT0, o_ixT1, o_ixT2, o_ixT3, o_ixT4, o_ixL0, o_ixL1, o_ixL2, o_ixL3, ix0, ix1, ix2, ix3, b_lenL, b_lenT, b_abs, b_int, b_tupL, b_tupT, b_lstL, b_lstT, b_gcd, b_max2, b_min2] at L
  refine ⟨some (.int (left.filter fun st => hit [(x, y)] st s).length), ?_⟩
  unfold upd1
  by_cases h1 : 0 < ((left.filter fun st => hit [(x, y)] st s).length : Int)
  · cases b with
    | none => simp only [e_mVar, e_kVar, e_mMov, e_kMov, e_mCst, e_kO, e_kOb, e_kOl, e_mBin, e_kB1, e_kB2, e_mUn, e_kU, e_mTb, e_kTb, e_mTru, e_kTru, e_mNot, e_kNot, e_mAnd, e_kAnd, e_mOr, e_kOr, e_mAndV, e_kAndVt, e_kAndVf, e_mOrV, e_kOrVt, e_kOrVf, e_mNotV, e_kNotV, e_mNotB, e_kNotB, e_kNB, e_mIf, e_kIf, e_kIfS, e_mNil, e_mCons, e_kC1, e_kC2, e_mTup, e_kTup, e_mLst, e_kLst, e_mCall, e_mRng, e_kCall, e_kCallR, e_mNoP, e_mP, e_kPI, e_mSl, e_kS1, e_kS2, e_kS3, e_kCh1, e_kCh2, e_kCh3t, e_kCh3f, e_mYes, e_mItems, e_kItL, e_kItT, e_mIsi, e_kIsi, e_mNol, e_kNolN, e_kNolI, e_kNolB, e_kNolS, e_kNolT, e_kNolD, e_mListS, e_kLS, e_gSet, e_gsNil, e_gsCons, e_kG, e_gTupM, e_aNil, e_aVal, e_kA1, e_kA2, e_aLent, e_kL1, e_kL2, e_mCallU, e_kU1, e_kU2, e_kU3, e_mFill0, e_mFill1, e_mFill2, e_kF, e_kFl, e_mBack0, e_mBack1, e_mBack2, e_sNil, e_sCons, e_kSeqN, e_kSeqB, e_kSeqC, e_kSeqR, e_sIf, e_sBk, e_sCt, e_sRet, e_kRet, e_sDrop, e_kDrop, e_sSet, e_kSet, e_sTgt, e_kTgt, e_kT2, e_sPar, e_kP1, e_kP2, e_kAp0, e_kAp1, e_kAp2, e_kPu1, e_kPu2, e_kPu3, e_kPu4, e_kPu5, e_mFor, e_kFor, e_sFor0, e_kF1, e_kF2N, e_kF2C, e_kF2B, e_kF2R, e_kW1, e_kW2N, e_kW2C, e_kW2B, e_kW2R, e_mLc, e_kLc, e_kLc2, e_mL0, e_kM1, e_kM2, e_kM3, e_kM4, e_wipe0, e_wipe1, e_res0, e_res1, e_mDef, e_kDefR, e_kDefN, e_kDO, e_mOu0, e_mOuF, e_mOuS, e_mOuL, e_kOu, e_mChain, e_sApp, e_sPut, e_kAndV, e_kOrV, e_kCh3, List.getElem?_cons_zero, List.getElem?_cons_succ, List.set_cons_zero, List.set_cons_succ, List.map_cons, List.map_nil, List.length_cons, List.length_nil, List.cons_append, List.nil_append, List.replicate_succ, List.replicate_zero, Option.getD_some, Option.getD_none, decide_eq_true_eq, Bool.false_eq_true, Bool.true_eq_false, Bool.not_true, Bool.not_false, Bool.not_eq_true', decide_eq_false_iff_not, if_true, if_false, Nat.zero_add, Nat.reduceAdd, Nat.reduceSub, Nat.sub_self, Nat.sub_zero, Nat.add_zero, Nat.reduceEqDiff, List.isEmpty_nil, List.isEmpty_cons, o_add, o_sub, o_neg, o_lt, o_le, o_gt, o_ge, o_eqI, o_neI, o_eqB, o_neB, o_isN, o_isNotN, o_isB, n_non, n_bool, n_int, n_str, n_list, n_tuple, t_non, t_bool, t_int, t_list, t_tuple, o_ixT0, o_ixT1, o_ixT2, o_ixT3, o_ixT4, o_ixL0, o_ixL1, o_ixL2, o_ixL3, ix0, ix1, ix2, ix3, b_lenL, b_lenT, b_abs, b_int, b_tupL, b_tupT, b_lstL, b_lstT, b_gcd, b_max2, b_min2, bN0, hl3, L, e1, h1] <;> rfl
    | some b =>
      by_cases h2 : b.1 < ((left.filter fun st => hit [(x, y)] st s).length : Int)
      · simp only [e_mVar, e_kVar, e_mMov, e_kMov, e_mCst, e_kO, e_kOb, e_kOl, e_mBin, e_kB1, e_kB2, e_mUn, e_kU, e_mTb, e_kTb, e_mTru, e_kTru, e_mNot, e_kNot, e_mAnd, e_kAnd, e_mOr, e_kOr, e_mAndV, e_kAndVt, e_kAndVf, e_mOrV, e_kOrVt, e_kOrVf, e_mNotV, e_kNotV, e_mNotB, e_kNotB, e_kNB, e_mIf, e_kIf, e_kIfS, e_mNil, e_mCons, e_kC1, e_kC2, e_mTup, e_kTup, e_mLst, e_kLst, e_mCall, e_mRng, e_kCall, e_kCallR, e_mNoP, e_mP, e_kPI, e_mSl, e_kS1, e_kS2, e_kS3, e_kCh1, e_kCh2, e_kCh3t, e_kCh3f, e_mYes, e_mItems, e_kItL, e_kItT, e_mIsi, e_kIsi, e_mNol, e_kNolN, e_kNolI, e_kNolB, e_kNolS, e_kNolT, e_kNolD, e_mListS, e_kLS, e_gSet, e_gsNil, e_gsCons, e_kG, e_gTupM, e_aNil, e_aVal, e_kA1, e_kA2, e_aLent, e_kL1, e_kL2, e_mCallU, e_kU1, e_kU2, e_kU3, e_mFill0, e_mFill1, e_mFill2, e_kF, e_kFl, e_mBack0, e_mBack1, e_mBack2, e_sNil, e_sCons, e_kSeqN, e_kSeqB, e_kSeqC, e_kSeqR, e_sIf, e_sBk, e_sCt, e_sRet, e_kRet, e_sDrop, e_kDrop, e_sSet, e_kSet, e_sTgt, e_kTgt, e_kT2, e_sPar, e_kP1, e_kP2, e_kAp0, e_kAp1, e_kAp2, e_kPu1, e_kPu2, e_kPu3, e_kPu4, e_kPu5, e_mFor, e_kFor, e_sFor0, e_kF1, e_kF2N, e_kF2C, e_kF2B, e_kF2R, e_kW1, e_kW2N, e_kW2C, e_kW2B, e_kW2R, e_mLc, e_kLc, e_kLc2, e_mL0, e_kM1, e_kM2, e_kM3, e_kM4, e_wipe0, e_wipe1, e_res0, e_res1, e_mDef, e_kDefR, e_kDefN, e_kDO, e_mOu0, e_mOuF, e_mOuS, e_mOuL, e_kOu, e_mChain, e_sApp, e_sPut, e_kAndV, e_kOrV, e_kCh3, List.getElem?_cons_zero, List.getElem?_cons_succ, List.set_cons_zero, List.set_cons_succ, List.map_cons, List.map_nil, List.length_cons, List.length_nil, List.cons_append, List.nil_append, List.replicate_succ, List.replicate_zero, Option.getD_some, Option.getD_none, decide_eq_true_eq, Bool.false_eq_true, Bool.true_eq_false, Bool.not_true, Bool.not_false, Bool.not_eq_true', decide_eq_false_iff_not, if_true, if_false, Nat.zero_add, Nat.reduceAdd, Nat.reduceSub, Nat.sub_self, Nat.sub_zero, Nat.add_zero, Nat.reduceEqDiff, List.isEmpty_nil, List.isEmpty_cons, o_add, o_sub, o_neg, o_lt, o_le, o_gt, o_ge, o_eqI, o_neI, o_eqB, o_neB, o_isN, o_isNotN, o_isB, n_non, n_bool, n_int, n_str, n_list, n_tuple, t_non, t_bool, t_int, t_list, t_tuple, o_ixT0, o_ixT1, o_ixT2, o_ixT3, o_ixT4, o_ixL0, o_ixL1, o_ixL2, o_ixL3, ix0, ix1, ix2, ix3, b_lenL, b_lenT, b_abs, b_int, b_tupL, b_tupT, b_lstL, b_lstT, b_gcd, b_max2, b_min2, bN1, bN2, hl3, L, e1, h1, h2] <;> rfl
      · simp only [e_mVar, e_kVar, e_mMov, e_kMov, e_mCst, e_kO, e_kOb, e_kOl, e_mBin, e_kB1, e_kB2, e_mUn, e_kU, e_mTb, e_kTb, e_mTru, e_kTru, e_mNot, e_kNot, e_mAnd, e_kAnd, e_mOr, e_kOr, e_mAndV, e_kAndVt, e_kAndVf, e_mOrV, e_kOrVt, e_kOrVf, e_mNotV, e_kNotV, e_mNotB, e_kNotB, e_kNB, e_mIf, e_kIf, e_kIfS, e_mNil, e_mCons, e_kC1, e_kC2, e_mTup, e_kTup, e_mLst, e_kLst, e_mCall, e_mRng, e_kCall, e_kCallR, e_mNoP, e_mP, e_kPI, e_mSl, e_kS1, e_kS2, e_kS3, e_kCh1, e_kCh2, e_kCh3t, e_kCh3f, e_mYes, e_mItems, e_kItL, e_kItT, e_mIsi, e_kIsi, e_mNol, e_kNolN, e_kNolI, e_kNolB, e_kNolS, e_kNolT, e_kNolD, e_mListS, e_kLS, e_gSet, e_gsNil, e_gsCons, e_kG, e_gTupM, e_aNil, e_aVal, e_kA1, e_kA2, e_aLent, e_kL1, e_kL2, e_mCallU, e_kU1, e_kU2, e_kU3, e_mFill0, e_mFill1, e_mFill2, e_kF, e_kFl, e_mBack0, e_mBack1, e_mBack2, e_sNil, e_sCons, e_kSeqN, e_kSeqB, e_kSeqC, e_kSeqR, e_sIf, e_sBk, e_sCt, e_sRet, e_kRet, e_sDrop, e_kDrop, e_sSet, e_kSet, e_sTgt, e_kTgt, e_kT2, e_sPar, e_kP1, e_kP2, e_kAp0, e_kAp1, e_kAp2, e_kPu1, e_kPu2, e_kPu3, e_kPu4, e_kPu5, e_mFor, e_kFor, e_sFor0, e_kF1, e_kF2N, e_kF2C, e_kF2B, e_kF2R, e_kW1, e_kW2N, e_kW2C, e_kW2B, e_kW2R, e_mLc, e_kLc, e_kLc2, e_mL0, e_kM1, e_kM2, e_kM3, e_kM4, e_wipe0, e_wipe1, e_res0, e_res1, e_mDef, e_kDefR, e_kDefN, e_kDO, e_mOu0, e_mOuF, e_mOuS, e_mOuL, e_kOu, e_mChain, e_sApp, e_sPut, e_kAndV, e_kOrV, e_kCh3, List.getElem?_cons_zero, List.getElem?_cons_succ, List.set_cons_zero, List.set_cons_succ, List.map_cons, List.map_nil, List.length_cons, List.length_nil, List.cons_append, List.nil_append, List.replicate_succ, List.replicate_zero, Option.getD_some, Option.getD_none, decide_eq_true_eq, Bool.false_eq_true, Bool.true_eq_false, Bool.not_true, Bool.not_false, Bool.not_eq_true', decide_eq_false_iff_not, if_true, if_false, Nat.zero_add, Nat.reduceAdd, Nat.reduceSub, Nat.sub_self, Nat.sub_zero, Nat.add_zero, Nat.reduceEqDiff, List.isEmpty_nil, List.isEmpty_cons, o_add, o_sub, o_neg, o_lt, o_le, o_gt, o_ge, o_eqI, o_neI, o_eqB, o_neB, o_isN, o_isNotN, o_isB, n_non, n_bool, n_int, n_str, n_list, n_tuple, t_non, t_bool, t_int, t_list, t_tuple, o_ixT0, o_ixT1, o_ixT2, o_ixT3, o_ixT4, o_ixL0, o_ixL1, o_ixL2, o_ixL3, ix0, ix1, ix2, ix3, b_lenL, b_lenT, b_abs, b_int, b_tupL, b_tupT, b_lstL, b_lstT, b_gcd, b_max2, b_min2, bN1, bN2, hl3, L, e1, h1, h2]
  · simp only [e_mVar, e_kVar, e_mMov, e_kMov, e_mCst, e_kO, e_kOb, e_kOl, e_mBin, e_kB1, e_kB2, e_mUn, e_kU, e_mTb, e_kTb, e_mTru, e_kTru, e_mNot, e_kNot, e_mAnd, e_kAnd, e_mOr, e_kOr, e_mAndV, e_kAndVt, e_kAndVf, e_mOrV, e_kOrVt, e_kOrVf, e_mNotV, e_kNotV, e_mNotB, e_kNotB, e_kNB, e_mIf, e_kIf, e_kIfS, e_mNil, e_mCons, e_kC1, e_kC2, e_mTup, e_kTup, e_mLst, e_kLst, e_mCall, e_mRng, e_kCall, e_kCallR, e_mNoP, e_mP, e_kPI, e_mSl, e_kS1, e_kS2, e_kS3, e_kCh1, e_kCh2, e_kCh3t, e_kCh3f, e_mYes, e_mItems, e_kItL, e_kItT, e_mIsi, e_kIsi, e_mNol, e_kNolN, e_kNolI, e_kNolB, e_kNolS, e_kNolT, e_kNolD, e_mListS, e_kLS, e_gSet, e_gsNil, e_gsCons, e_kG, e_gTupM, e_aNil, e_aVal, e_kA1, e_kA2, e_aLent, e_kL1, e_kL2, e_mCallU, e_kU1, e_kU2, e_kU3, e_mFill0, e_mFill1, e_mFill2, e_kF, e_kFl, e_mBack0, e_mBack1, e_mBack2, e_sNil, e_sCons, e_kSeqN, e_kSeqB, e_kSeqC, e_kSeqR, e_sIf, e_sBk, e_sCt, e_sRet, e_kRet, e_sDrop, e_kDrop, e_sSet, e_kSet, e_sTgt, e_kTgt, e_kT2, e_sPar, e_kP1, e_kP2, e_kAp0, e_kAp1, e_kAp2, e_kPu1, e_kPu2, e_kPu3, e_kPu4, e_kPu5, e_mFor, e_kFor, e_sFor0, e_kF1, e_kF2N, e_kF2C, e_kF2B, e_kF2R, e_kW1, e_kW2N, e_kW2C, e_kW2B, e_kW2R, e_mLc, e_kLc, e_kLc2, e_mL0, e_kM1, e_kM2, e_kM3, e_kM4, e_wipe0, e_wipe1, e_res0, e_res1, e_mDef, e_kDefR, e_kDefN, e_kDO, e_mOu0, e_mOuF, e_mOuS, e_mOuL, e_kOu, e_mChain, e_sApp, e_sPut, e_kAndV, e_kOrV, e_kCh3, List.getElem?_cons_zero, List.getElem?_cons_succ, List.set_cons_zero, List.set_cons_succ, List.map_cons, List.map_nil, List.length_cons, List.length_nil, List.cons_append, List.nil_append, List.replicate_succ, List.replicate_zero, Option.getD_some, Option.getD_none, decide_eq_true_eq, Bool.false_eq_true, Bool.true_eq_false, Bool.not_true, Bool.not_false, Bool.not_eq_true', decide_eq_false_iff_not, if_true, if_false, Nat.zero_add, Nat.reduceAdd, Nat.reduceSub, Nat.sub_self, Nat.sub_zero, Nat.add_zero, Nat.reduceEqDiff, List.isEmpty_nil, List.isEmpty_cons, o_add, o_sub, o_neg, o_lt, o_le, o_gt, o_ge, o_eqI, o_neI, o_eqB, o_neB, o_isN, o_isNotN, o_isB, n_non, n_bool, n_int, n_str, n_list, n_tuple, t_non, t_bool, t_int, t_list, t_tuple, o_ixT0, o_ixT1, o_ixT2, o_ixT3, o_ixT4, o_ixL0, o_ixL1, o_ixL2, o_ixL3, ix0, ix1, ix2, ix3, b_lenL, b_lenT, b_abs, b_int, b_tupL, b_tupT, b_lstL, b_lstT, b_gcd, b_max2, b_min2, hl3, L, e1, h1]
theorem r_next {g s : Int × Int} {ps : List (Int × Int)} {r : Option (Int × Int)} (h : t_next g ps s = some r) : fm_next_pit [pr g, .tuple (ps.map pr), pr s] = some (oP r, [pr g, .tuple (ps.map pr), pr s]) := by
  unfold t_next at h
  split at h
  · rename_i hl
    obtain ⟨l, h1, h⟩ := bd h
    split at h
    · rename_i hl2
      obtain ⟨xs, h2, h⟩ := bd h
      obtain ⟨ys, h3, h⟩ := bd h
      have L := lc_al (mt := gSet 8) (mk := (mNot (mTru (mCallU fm_is_hit [none, none, none] (aVal (mVar 1) (aVal (mVar 8) (aVal (mVar 2) aNil))))))) (me := mVar 8) pr pr (fun x => !hit ps x s) [8] l [some (pr g), some (.tuple (ps.map pr)), some (pr s), none, none, none, none, none, none] (fun x _ => by
        refine ⟨_, rfl, ?_, fun _ => ?_, ?_⟩ <;> simp only [e_mVar, e_kVar, e_mMov, e_kMov, e_mCst, e_kO, e_kOb, e_kOl, e_mBin, e_kB1, e_kB2, e_mUn, e_kU, e_mTb, e_kTb, e_mTru, e_kTru, e_mNot, e_kNot, e_mAnd, e_kAnd, e_mOr, e_kOr, e_mAndV, e_kAndVt, e_kAndVf, e_mOrV, e_kOrVt, e_kOrVf, e_mNotV, e_kNotV, e_mNotB, e_kNotB, e_kNB, e_mIf, e_kIf, e_kIfS, e_mNil, e_mCons, e_kC1, e_kC2, e_mTup, e_kTup, e_mLst, e_kLst, e_mCall, e_mRng, e_kCall, e_kCallR, e_mNoP, e_mP, e_kPI, e_mSl, e_kS1, e_kS2, e_kS3, e_kCh1, e_kCh2, e_kCh3t, e_kCh3f, e_mYes, e_mItems, e_kItL, e_kItT, e_mIsi, e_kIsi, e_mNol, e_kNolN, e_kNolI, e_kNolB, e_kNolS, e_kNolT, e_kNolD, e_mListS, e_kLS, e_gSet, e_gsNil, e_gsCons, e_kG, e_gTupM, e_aNil, e_aVal, e_kA1, e_kA2, e_aLent, e_kL1, e_kL2, e_mCallU, e_kU1, e_kU2, e_kU3, e_mFill0, e_mFill1, e_mFill2, e_kF, e_kFl, e_mBack0, e_mBack1, e_mBack2, e_sNil, e_sCons, e_kSeqN, e_kSeqB, e_kSeqC, e_kSeqR, e_sIf, e_sBk, e_sCt, e_sRet, e_kRet, e_sDrop, e_kDrop, e_sSet, e_kSet, e_sTgt, e_kTgt, e_kT2, e_sPar, e_kP1, e_kP2, e_kAp0, e_kAp1, e_kAp2, e_kPu1, e_kPu2, e_kPu3, e_kPu4, e_kPu5, e_mFor, e_kFor, e_sFor0, e_kF1, e_kF2N, e_kF2C, e_kF2B, e_kF2R, e_kW1, e_kW2N, e_kW2C, e_kW2B, e_kW2R, e_mLc, e_kLc, e_kLc2, e_mL0, e_kM1, e_kM2, e_kM3, e_kM4, e_wipe0, e_wipe1, e_res0, e_res1, e_mDef, e_kDefR, e_kDefN, e_kDO, e_mOu0, e_mOuF, e_mOuS, e_mOuL, e_kOu, e_mChain, e_sApp, e_sPut, e_kAndV, e_kOrV, e_kCh3, List.getElem?_cons_zero, List.getElem?_cons_succ, List.set_cons_zero, List.set_cons_succ, List.map_cons, List.map_nil, List.length_cons, List.length_nil, List.cons_append, List.nil_append, List.replicate_succ, List.replicate_zero, Option.getD_some, Option.getD_none, decide_eq_true_eq, Bool.false_eq_true, Bool.true_eq_false, Bool.not_true, Bool.not_false, Bool.not_eq_true', decide_eq_false_iff_not, if_true, if_false, Nat.zero_add, Nat.reduceAdd, Nat.reduceSub, Nat.sub_self, Nat.sub_zero, Nat.add_zero, Nat.reduceEqDiff, List.isEmpty_nil, List.isEmpty_cons, o_add, o_sub, o_neg, o_lt, o_le, o_gt, o_ge, o_eqI, o_neI, o_eqB, o_neB, o_isN, o_isNotN, o_isB, n_non, n_bool, n_int, n_str, n_list, n_tuple, t_non, t_bool, t_int, t_list, t_tuple, o_ixT0, o_ixT1, o_ixT2, o_ixT3, o_ixT4, o_ixL0, o_ixL1, o_ixL2, o_ixL3, ix0, ix1, ix2, ix3, b_lenL, b_lenT, b_abs, b_int, b_tupL, b_tupT, b_lstL, b_lstT, b_gcd, b_max2, b_min2, r_hit hl])
      simp only [e_mVar, e_kVar, e_mMov, e_kMov, e_mCst, e_kO, e_kOb, e_kOl, e_mBin, e_kB1, e_kB2, e_mUn, e_kU, e_mTb, e_kTb, e_mTru, e_kTru, e_mNot, e_kNot, e_mAnd, e_kAnd, e_mOr, e_kOr, e_mAndV, e_kAndVt, e_kAndVf, e_mOrV, e_kOrVt, e_kOrVf, e_mNotV, e_kNotV, e_mNotB, e_kNotB, e_kNB, e_mIf, e_kIf, e_kIfS, e_mNil, e_mCons, e_kC1, e_kC2, e_mTup, e_kTup, e_mLst, e_kLst, e_mCall, e_mRng, e_kCall, e_kCallR, e_mNoP, e_mP, e_kPI, e_mSl, e_kS1, e_kS2, e_kS3, e_kCh1, e_kCh2, e_kCh3t, e_kCh3f, e_mYes, e_mItems, e_kItL, e_kItT, e_mIsi, e_kIsi, e_mNol, e_kNolN, e_kNolI, e_kNolB, e_kNolS, e_kNolT, e_kNolD, e_mListS, e_kLS, e_gSet, e_gsNil, e_gsCons, e_kG, e_gTupM, e_aNil, e_aVal, e_kA1, e_kA2, e_aLent, e_kL1, e_kL2, e_mCallU, e_kU1, e_kU2, e_kU3, e_mFill0, e_mFill1, e_mFill2, e_kF, e_kFl, e_mBack0, e_mBack1, e_mBack2, e_sNil, e_sCons, e_kSeqN, e_kSeqB, e_kSeqC, e_kSeqR, e_sIf, e_sBk, e_sCt, e_sRet, e_kRet, e_sDrop, e_kDrop, e_sSet, e_kSet, e_sTgt, e_kTgt, e_kT2, e_sPar, e_kP1, e_kP2, e_kAp0, e_kAp1, e_kAp2, e_kPu1, e_kPu2, e_kPu3, e_kPu4, e_kPu5, e_mFor, e_kFor, e_sFor0, e_kF1, e_kF2N, e_kF2C, e_kF2B, e_kF2R, e_kW1, e_kW2N, e_kW2C, e_kW2B, e_kW2R, e_mLc, e_kLc, e_kLc2, e_mL0, e_kM1, e_kM2, e_kM3, e_kM4, e_wipe0, e_wipe1, e_res0, e_res1, e_mDef, e_kDefR, e_kDefN, e_kDO, e_mOu0, e_mOuF, e_mOuS, e_mOuL, e_kOu, e_mChain, e_sApp, e_sPut, e_kAndV, e_kOrV, e_kCh3, List.getElem?_cons_zero, List.getElem?_cons_succ, List.set_cons_zero, List.set_cons_succ, List.map_cons, List.map_nil, List.length_cons, List.length_nil, List.cons_append, List.nil_append, List.replicate_succ, List.replicate_zero, Option.getD_some, Option.getD_none, decide_eq_true_eq, Bool.false_eq_true, Bool.true_eq_false, Bool.not_true, Bool.not_false, Bool.not_eq_true', decide_eq_false_iff_not, if_true, if_false, Nat.zero_add, Nat.reduceAdd, Nat.reduceSub, Nat.sub_self, Nat.sub_zero, Nat.add_zero, Nat.reduceEqDiff, List.isEmpty_nil, List.isEmpty_cons, o_add, o_sub, o_neg, o_lt, o_le, o_gt, o_ge, o_eqI, o_neI, o_eqB, o_neB, o_isN, o_isNotN, o_isB, n_non, n_bool, n_int, n_str, n_list, n_tuple, t_non, t_bool, t_int, t_list, t_tuple, o_ixT0, o_ixT1, o_ixT2, o_ixT3, o_ixT4, o_ixL0, o_ixL1, o_ixL2, o_ixL3, ix0, ix1, ix2, ix3, b_lenL, b_lenT, b_abs, b_int, b_tupL, b_tupT, b_lstL, b_lstT, b_gcd, b_max2, b_min2] at L
      have hl3 := len_pr hl2
      obtain ⟨e4, _⟩ := r_rg h2
      obtain ⟨e5, _⟩ := r_rg h3
      have hf : (l.filter fun st => !hit ps st s).length < sizeLine := Nat.lt_of_le_of_lt (List.length_filter_le _ _) hl2
      generalize hleft : (l.filter fun st => !hit ps st s) = left at L h hf
      obtain ⟨ε', L2, j5, j6, j7, rfl⟩ := for_fold (mt := gSet 5) (mb := (mFor (mRng rng1 (mCons (mBin opIx (mVar 0) (mCst (.int 1))) mNil)) (gSet 6) (sCons (sSet 7 (mCall bLen (mCons (mLc (mItems (mVar 3)) (gSet 8) (mTru (mCallU fm_is_hit [none, none, none] (aVal (mLst (mCons (mTup (mCons (mVar 5) (mCons (mVar 6) mNil))) mNil)) (aVal (mVar 8) (aVal (mVar 2) aNil))))) (mVar 8) [8]) mNil))) (sIf (mAnd (mTb (mBin opGt (mVar 7) (mCst (.int 0)))) (mOr (mTb (mBin opIs (mVar 4) (mCst .none))) (mTb (mBin opGt (mVar 7) (mBin opIx (mVar 4) (mCst (.int 0))))))) (sSet 4 (mTup (mCons (mVar 7) (mCons (mTup (mCons (mVar 5) (mCons (mVar 6) mNil))) mNil)))) sNil)))) PyData.int
        (fun (b : Option (Int × (Int × Int))) ε => ∃ j5 j6 j7, ε = [some (pr g), some (.tuple (ps.map pr)), some (pr s), some (.list (left.map pr)), some (bN b), j5, j6, j7, none]) (fun b x => ys.foldl (fun b y => upd1 left s b x y) b) xs (fun b x ε _ hi => by
          obtain ⟨j5, j6, j7, rfl⟩ := hi
          obtain ⟨ε', L2, j6', j7', rfl⟩ := for_fold (mt := gSet 6) (mb := (sCons (sSet 7 (mCall bLen (mCons (mLc (mItems (mVar 3)) (gSet 8) (mTru (mCallU fm_is_hit [none, none, none] (aVal (mLst (mCons (mTup (mCons (mVar 5) (mCons (mVar 6) mNil))) mNil)) (aVal (mVar 8) (aVal (mVar 2) aNil))))) (mVar 8) [8]) mNil))) (sIf (mAnd (mTb (mBin opGt (mVar 7) (mCst (.int 0)))) (mOr (mTb (mBin opIs (mVar 4) (mCst .none))) (mTb (mBin opGt (mVar 7) (mBin opIx (mVar 4) (mCst (.int 0))))))) (sSet 4 (mTup (mCons (mVar 7) (mCons (mTup (mCons (mVar 5) (mCons (mVar 6) mNil))) mNil)))) sNil))) PyData.int
            (fun (b : Option (Int × (Int × Int))) ε => ∃ j6 j7, ε = [some (pr g), some (.tuple (ps.map pr)), some (pr s), some (.list (left.map pr)), some (bN b), some (.int x), j6, j7, none]) (fun b y => upd1 left s b x y) ys (fun b y ε _ hi => by
              obtain ⟨j6, j7, rfl⟩ := hi
              obtain ⟨k7, e⟩ := l_next1 (g := g) (s := s) (x0 := .tuple (ps.map pr)) hf b x y j7 none
              exact ⟨_, _, rfl, e, _, _, rfl⟩) b [some (pr g), some (.tuple (ps.map pr)), some (pr s), some (.list (left.map pr)), some (bN b), some (.int x), j6, j7, none] ⟨_, _, rfl⟩
          refine ⟨_, _, rfl, ?h, some (.int x), j6', j7', rfl⟩
          have q : opIx (pr g) (.int 1) = some (.int g.2) := rfl
          simp only [e_mVar, e_kVar, e_mMov, e_kMov, e_mCst, e_kO, e_kOb, e_kOl, e_mBin, e_kB1, e_kB2, e_mUn, e_kU, e_mTb, e_kTb, e_mTru, e_kTru, e_mNot, e_kNot, e_mAnd, e_kAnd, e_mOr, e_kOr, e_mAndV, e_kAndVt, e_kAndVf, e_mOrV, e_kOrVt, e_kOrVf, e_mNotV, e_kNotV, e_mNotB, e_kNotB, e_kNB, e_mIf, e_kIf, e_kIfS, e_mNil, e_mCons, e_kC1, e_kC2, e_mTup, e_kTup, e_mLst, e_kLst, e_mCall, e_mRng, e_kCall, e_kCallR, e_mNoP, e_mP, e_kPI, e_mSl, e_kS1, e_kS2, e_kS3, e_kCh1, e_kCh2, e_kCh3t, e_kCh3f, e_mYes, e_mItems, e_kItL, e_kItT, e_mIsi, e_kIsi, e_mNol, e_kNolN, e_kNolI, e_kNolB, e_kNolS, e_kNolT, e_kNolD, e_mListS, e_kLS, e_gSet, e_gsNil, e_gsCons, e_kG, e_gTupM, e_aNil, e_aVal, e_kA1, e_kA2, e_aLent, e_kL1, e_kL2, e_mCallU, e_kU1, e_kU2, e_kU3, e_mFill0, e_mFill1, e_mFill2, e_kF, e_kFl, e_mBack0, e_mBack1, e_mBack2, e_sNil, e_sCons, e_kSeqN, e_kSeqB, e_kSeqC, e_kSeqR, e_sIf, e_sBk, e_sCt, e_sRet, e_kRet, e_sDrop, e_kDrop, e_sSet, e_kSet, e_sTgt, e_kTgt, e_kT2, e_sPar, e_kP1, e_kP2, e_kAp0, e_kAp1, e_kAp2, e_kPu1, e_kPu2, e_kPu3, e_kPu4, e_kPu5, e_mFor, e_kFor, e_sFor0, e_kF1, e_kF2N, e_kF2C, e_kF2B, e_kF2R, e_kW1, e_kW2N, e_kW2C, e_kW2B, e_kW2R, e_mLc, e_kLc, e_kLc2, e_mL0, e_kM1, e_kM2, e_kM3, e_kM4, e_wipe0, e_wipe1, e_res0, e_res1, e_mDef, e_kDefR, e_kDefN, e_kDO, e_mOu0, e_mOuF, e_mOuS, e_mOuL, e_kOu, e_mChain, e_sApp, e_sPut, e_kAndV, e_kOrV, e_kCh3, List.getElem?_cons_zero, List.getElem?_cons_succ, List.set_cons_zero, List.set_cons_succ, List.map_cons, List.map_nil, List.length_cons, List.length_nil, List.cons_append, List.nil_append, List.replicate_succ, List.replicate_zero, Option.getD_some, Option.getD_none, decide_eq_true_eq, Bool.false_eq_true, Bool.true_eq_false, Bool.not_true, Bool.not_false, Bool.not_eq_true', decide_eq_false_iff_not, if_true, if_false, Nat.zero_add, Nat.reduceAdd, Nat.reduceSub, Nat.sub_self, Nat.sub_zero, Nat.add_zero, Nat.reduceEqDiff, List.isEmpty_nil, List.isEmpty_cons, o_add, o_sub, o_neg, o_lt, o_le, o_gt, o_ge, o_eqI, o_neI, o_eqB, o_neB, o_isN, o_isNotN, o_isB, n_non, n_bool, n_int, n_str, n_list, n_tuple, t_non, t_bool, t_int, t_list, t_tuple, o_ixT0, o_ixT1, o_ixT2, o_ixT3, o_ixT4, o_ixL0, o_ixL1, o_ixL2, o_ixL3, ix0, ix1, ix2, ix3, b_lenL, b_lenT, b_abs, b_int, b_tupL, b_tupT, b_lstL, b_lstT, b_gcd, b_max2, b_min2, q, e5, L2]) none [some (pr g), some (.tuple (ps.map pr)), some (pr s), some (.list (left.map pr)), some (bN none), none, none, none, none] ⟨_, _, _, rfl⟩
      have q : opIx (pr g) (.int 0) = some (.int g.1) := rfl
      generalize hb : (xs.foldl (fun b x => ys.foldl (fun b y => upd1 left s b x y) b) none) = b at L2 h
      rw [show bN none = .none from rfl] at L2
      cases h
      cases b with
      | none => simp only [e_mVar, e_kVar, e_mMov, e_kMov, e_mCst, e_kO, e_kOb, e_kOl, e_mBin, e_kB1, e_kB2, e_mUn, e_kU, e_mTb, e_kTb, e_mTru, e_kTru, e_mNot, e_kNot, e_mAnd, e_kAnd, e_mOr, e_kOr, e_mAndV, e_kAndVt, e_kAndVf, e_mOrV, e_kOrVt, e_kOrVf, e_mNotV, e_kNotV, e_mNotB, e_kNotB, e_kNB, e_mIf, e_kIf, e_kIfS, e_mNil, e_mCons, e_kC1, e_kC2, e_mTup, e_kTup, e_mLst, e_kLst, e_mCall, e_mRng, e_kCall, e_kCallR, e_mNoP, e_mP, e_kPI, e_mSl, e_kS1, e_kS2, e_kS3, e_kCh1, e_kCh2, e_kCh3t, e_kCh3f, e_mYes, e_mItems, e_kItL, e_kItT, e_mIsi, e_kIsi, e_mNol, e_kNolN, e_kNolI, e_kNolB, e_kNolS, e_kNolT, e_kNolD, e_mListS, e_kLS, e_gSet, e_gsNil, e_gsCons, e_kG, e_gTupM, e_aNil, e_aVal, e_kA1, e_kA2, e_aLent, e_kL1, e_kL2, e_mCallU, e_kU1, e_kU2, e_kU3, e_mFill0, e_mFill1, e_mFill2, e_kF, e_kFl, e_mBack0, e_mBack1, e_mBack2, e_sNil, e_sCons, e_kSeqN, e_kSeqB, e_kSeqC, e_kSeqR, e_sIf, e_sBk, e_sCt, e_sRet, e_kRet, e_sDrop, e_kDrop, e_sSet, e_kSet, e_sTgt, e_kTgt, e_kT2, e_sPar, e_kP1, e_kP2, e_kAp0, e_kAp1, e_kAp2, e_kPu1, e_kPu2, e_kPu3, e_kPu4, e_kPu5, e_mFor, e_kFor, e_sFor0, e_kF1, e_kF2N, e_kF2C, e_kF2B, e_kF2R, e_kW1, e_kW2N, e_kW2C, e_kW2B, e_kW2R, e_mLc, e_kLc, e_kLc2, e_mL0, e_kM1, e_kM2, e_kM3, e_kM4, e_wipe0, e_wipe1, e_res0, e_res1, e_mDef, e_kDefR, e_kDefN, e_kDO, e_mOu0, e_mOuF, e_mOuS, e_mOuL, e_kOu, e_mChain, e_sApp, e_sPut, e_kAndV, e_kOrV, e_kCh3, List.getElem?_cons_zero, List.getElem?_cons_succ, List.set_cons_zero, List.set_cons_succ, List.map_cons, List.map_nil, List.length_cons, List.length_nil, List.cons_append, List.nil_append, List.replicate_succ, List.replicate_zero, Option.getD_some, Option.getD_none, decide_eq_true_eq, Bool.false_eq_true, Bool.true_eq_false, Bool.not_true, Bool.not_false, Bool.not_eq_true', decide_eq_false_iff_not, if_true, if_false, Nat.zero_add, Nat.reduceAdd, Nat.reduceSub, Nat.sub_self, Nat.sub_zero, Nat.add_zero, Nat.reduceEqDiff, List.isEmpty_nil, List.isEmpty_cons, o_add, o_sub, o_neg, o_lt, o_le, o_gt, o_ge, o_eqI, o_neI, o_eqB, o_neB, o_isN, o_isNotN, o_isB, n_non, n_bool, n_int, n_str, n_list, n_tuple, t_non, t_bool, t_int, t_list, t_tuple, o_ixT0, o_ixT1, o_ixT2, o_ixT3, o_ixT4, o_ixL0, o_ixL1, o_ixL2, o_ixL3, ix0, ix1, ix2, ix3, b_lenL, b_lenT, b_abs, b_int, b_tupL, b_tupT, b_lstL, b_lstT, b_gcd, b_max2, b_min2, fm_next_pit, m_next_pit, r_sites h1, hl3, L, q, e4, L2, bN0] <;> rfl
      | some b => simp only [e_mVar, e_kVar, e_mMov, e_kMov, e_mCst, e_kO, e_kOb, e_kOl, e_mBin, e_kB1, e_kB2, e_mUn, e_kU, e_mTb, e_kTb, e_mTru, e_kTru, e_mNot, e_kNot, e_mAnd, e_kAnd, e_mOr, e_kOr, e_mAndV, e_kAndVt, e_kAndVf, e_mOrV, e_kOrVt, e_kOrVf, e_mNotV, e_kNotV, e_mNotB, e_kNotB, e_kNB, e_mIf, e_kIf, e_kIfS, e_mNil, e_mCons, e_kC1, e_kC2, e_mTup, e_kTup, e_mLst, e_kLst, e_mCall, e_mRng, e_kCall, e_kCallR, e_mNoP, e_mP, e_kPI, e_mSl, e_kS1, e_kS2, e_kS3, e_kCh1, e_kCh2, e_kCh3t, e_kCh3f, e_mYes, e_mItems, e_kItL, e_kItT, e_mIsi, e_kIsi, e_mNol, e_kNolN, e_kNolI, e_kNolB, e_kNolS, e_kNolT, e_kNolD, e_mListS, e_kLS, e_gSet, e_gsNil, e_gsCons, e_kG, e_gTupM, e_aNil, e_aVal, e_kA1, e_kA2, e_aLent, e_kL1, e_kL2, e_mCallU, e_kU1, e_kU2, e_kU3, e_mFill0, e_mFill1, e_mFill2, e_kF, e_kFl, e_mBack0, e_mBack1, e_mBack2, e_sNil, e_sCons, e_kSeqN, e_kSeqB, e_kSeqC, e_kSeqR, e_sIf, e_sBk, e_sCt, e_sRet, e_kRet, e_sDrop, e_kDrop, e_sSet, e_kSet, e_sTgt, e_kTgt, e_kT2, e_sPar, e_kP1, e_kP2, e_kAp0, e_kAp1, e_kAp2, e_kPu1, e_kPu2, e_kPu3, e_kPu4, e_kPu5, e_mFor, e_kFor, e_sFor0, e_kF1, e_kF2N, e_kF2C, e_kF2B, e_kF2R, e_kW1, e_kW2N, e_kW2C, e_kW2B, e_kW2R, e_mLc, e_kLc, e_kLc2, e_mL0, e_kM1, e_kM2, e_kM3, e_kM4, e_wipe0, e_wipe1, e_res0, e_res1, e_mDef, e_kDefR, e_kDefN, e_kDO, e_mOu0, e_mOuF, e_mOuS, e_mOuL, e_kOu, e_mChain, e_sApp, e_sPut, e_kAndV, e_kOrV, e_kCh3, List.getElem?_cons_zero, List.getElem?_cons_succ, List.set_cons_zero, List.set_cons_succ, List.map_cons, List.map_nil, List.length_cons, List.length_nil, List.cons_append, List.nil_append, List.replicate_succ, List.replicate_zero, Option.getD_some, Option.getD_none, decide_eq_true_eq, Bool.false_eq_true, Bool.true_eq_false, Bool.not_true, Bool.not_false, Bool.not_eq_true', decide_eq_false_iff_not, if_true, if_false, Nat.zero_add, Nat.reduceAdd, Nat.reduceSub, Nat.sub_self, Nat.sub_zero, Nat.add_zero, Nat.reduceEqDiff, List.isEmpty_nil, List.isEmpty_cons, o_add, o_sub, o_neg, o_lt, o_le, o_gt, o_ge, o_eqI, o_neI, o_eqB, o_neB, o_isN, o_isNotN, o_isB, n_non, n_bool, n_int, n_str, n_list, n_tuple, t_non, t_bool, t_int, t_list, t_tuple, o_ixT0, o_ixT1, o_ixT2, o_ixT3, o_ixT4, o_ixL0, o_ixL1, o_ixL2, o_ixL3, ix0, ix1, ix2, ix3, b_lenL, b_lenT, b_abs, b_int, b_tupL, b_tupT, b_lstL, b_lstT, b_gcd, b_max2, b_min2, fm_next_pit, m_next_pit, r_sites h1, hl3, L, q, e4, L2, bN1, bN3] <;> rfl
    · cases h
  · cases h
end K86

set_option maxRecDepth 100000
set_option linter.all false
set_option Elab.async false
namespace K86
open PySem Dg L2
def t_planW (g s : Int × Int) (many : Int) : Nat → List (Int × Int) → Option (List (Int × Int))
  | 0, _ => none
  | n + 1, f => if (f.length : Int) < many then (t_next g f s).bind fun c => match c with
      | none => some f
      | some c => if f.length + 1 ≤ sizeLine then t_planW g s many n (f ++ [c]) else none
    else some f
theorem l_plan {g s : Int × Int} {many : Int} : ∀ (n m : Nat) (f r : List (Int × Int)) (j : Option T), n ≤ m → t_planW g s many n f = some r →
    ∃ j', sWhile (mTb (mBin opLt (mCall bLen (mCons (mVar 3) mNil)) (mVar 2))) (sCons (sSet 4 (mCallU fm_next_pit [none, none, none] (aVal (mVar 0) (aVal (mVar 3) (aVal (mVar 1) aNil))))) (sCons (sIf (mTb (mBin opIs (mVar 4) (mCst .none))) sBk sNil) (sSet 3 (mBin opAdd (mVar 3) (mTup (mCons (mVar 4) mNil)))))) m
      [some (pr g), some (pr s), some (.int many), some (.tuple (f.map pr)), j] = some (.nx, [some (pr g), some (pr s), some (.int many), some (.tuple (r.map pr)), j'])
  | 0, _, _, _, _, _, h => by cases h
  | n + 1, 0, _, _, _, h, _ => by omega
  | n + 1, m + 1, f, r, j, h', h => by
    unfold t_planW at h
    have el : (f.map pr).length = f.length := List.length_map ..
    rw [e_sWh]
    split at h
    · rename_i hl
      obtain ⟨c, h1, h⟩ := bd h
      cases c with
      | none =>
        cases h
        exact ⟨some .none, by simp only [e_mVar, e_kVar, e_mMov, e_kMov, e_mCst, e_kO, e_kOb, e_kOl, e_mBin, e_kB1, e_kB2, e_mUn, e_kU, e_mTb, e_kTb, e_mTru, e_kTru, e_mNot, e_kNot, e_mAnd, e_kAnd, e_mOr, e_kOr, e_mAndV, e_kAndVt, e_kAndVf, e_mOrV, e_kOrVt, e_kOrVf, e_mNotV, e_kNotV, e_mNotB, e_kNotB, e_kNB, e_mIf, e_kIf, e_kIfS, e_mNil, e_mCons, e_kC1, e_kC2, e_mTup, e_kTup, e_mLst, e_kLst, e_mCall, e_mRng, e_kCall, e_kCallR, e_mNoP, e_mP, e_kPI, e_mSl, e_kS1, e_kS2, e_kS3, e_kCh1, e_kCh2, e_kCh3t, e_kCh3f, e_mYes, e_mItems, e_kItL, e_kItT, e_mIsi, e_kIsi, e_mNol, e_kNolN, e_kNolI, e_kNolB, e_kNolS, e_kNolT, e_kNolD, e_mListS, e_kLS, e_gSet, e_gsNil, e_gsCons, e_kG, e_gTupM, e_aNil, e_aVal, e_kA1, e_kA2, e_aLent, e_kL1, e_kL2, e_mCallU, e_kU1, e_kU2, e_kU3, e_mFill0, e_mFill1, e_mFill2, e_kF, e_kFl, e_mBack0, e_mBack1, e_mBack2, e_sNil, e_sCons, e_kSeqN, e_kSeqB, e_kSeqC, e_kSeqR, e_sIf, e_sBk, e_sCt, e_sRet, e_kRet, e_sDrop, e_kDrop, e_sSet, e_kSet, e_sTgt, e_kTgt, e_kT2, e_sPar, e_kP1, e_kP2, e_kAp0, e_kAp1, e_kAp2, e_kPu1, e_kPu2, e_kPu3, e_kPu4, e_kPu5, e_mFor, e_kFor, e_sFor0, e_kF1, e_kF2N, e_kF2C, e_kF2B, e_kF2R, e_kW1, e_kW2N, e_kW2C, e_kW2B, e_kW2R, e_mLc, e_kLc, e_kLc2, e_mL0, e_kM1, e_kM2, e_kM3, e_kM4, e_wipe0, e_wipe1, e_res0, e_res1, e_mDef, e_kDefR, e_kDefN, e_kDO, e_mOu0, e_mOuF, e_mOuS, e_mOuL, e_kOu, e_mChain, e_sApp, e_sPut, e_kAndV, e_kOrV, e_kCh3, List.getElem?_cons_zero, List.getElem?_cons_succ, List.set_cons_zero, List.set_cons_succ, List.map_cons, List.map_nil, List.length_cons, List.length_nil, List.cons_append, List.nil_append, List.replicate_succ, List.replicate_zero, Option.getD_some, Option.getD_none, decide_eq_true_eq, Bool.false_eq_true, Bool.true_eq_false, Bool.not_true, Bool.not_false, Bool.not_eq_true', decide_eq_false_iff_not, if_true, if_false, Nat.zero_add, Nat.reduceAdd, Nat.reduceSub, Nat.sub_self, Nat.sub_zero, Nat.add_zero, Nat.reduceEqDiff, List.isEmpty_nil, List.isEmpty_cons, o_add, o_sub, o_neg, o_lt, o_le, o_gt, o_ge, o_eqI, o_neI, o_eqB, o_neB, o_isN, o_isNotN, o_isB, n_non, n_bool, n_int, n_str, n_list, n_tuple, t_non, t_bool, t_int, t_list, t_tuple, o_ixT0, o_ixT1, o_ixT2, o_ixT3, o_ixT4, o_ixL0, o_ixL1, o_ixL2, o_ixL3, ix0, ix1, ix2, ix3, b_lenL, b_lenT, b_abs, b_int, b_tupL, b_tupT, b_lstL, b_lstT, b_gcd, b_max2, b_min2, el, hl, r_next h1, oP]⟩
      | some c =>
        have h : (if f.length + 1 ≤ sizeLine then t_planW g s many n (f ++ [c]) else none) = some r := h
        split at h
        · rename_i hz
          obtain ⟨j', L⟩ := l_plan n m (f ++ [c]) r (some (pr c)) (by omega) h
          refine ⟨j', ?_⟩
          have q : opAdd (.tuple (f.map pr)) (.tuple [pr c]) = some (.tuple ((f ++ [c]).map pr)) := by
            rw [o_addT (by rw [List.length_map, List.length_singleton]; exact hz), List.map_append]; rfl
          have q2 : isNon (pr c) = false := rfl
          simp only [e_mVar, e_kVar, e_mMov, e_kMov, e_mCst, e_kO, e_kOb, e_kOl, e_mBin, e_kB1, e_kB2, e_mUn, e_kU, e_mTb, e_kTb, e_mTru, e_kTru, e_mNot, e_kNot, e_mAnd, e_kAnd, e_mOr, e_kOr, e_mAndV, e_kAndVt, e_kAndVf, e_mOrV, e_kOrVt, e_kOrVf, e_mNotV, e_kNotV, e_mNotB, e_kNotB, e_kNB, e_mIf, e_kIf, e_kIfS, e_mNil, e_mCons, e_kC1, e_kC2, e_mTup, e_kTup, e_mLst, e_kLst, e_mCall, e_mRng, e_kCall, e_kCallR, e_mNoP, e_mP, e_kPI, e_mSl, e_kS1, e_kS2, e_kS3, e_kCh1, e_kCh2, e_kCh3t, e_kCh3f, e_mYes, e_mItems, e_kItL, e_kItT, e_mIsi, e_kIsi, e_mNol, e_kNolN, e_kNolI, e_kNolB, e_kNolS, e_kNolT, e_kNolD, e_mListS, e_kLS, e_gSet, e_gsNil, e_gsCons, e_kG, e_gTupM, e_aNil, e_aVal, e_kA1, e_kA2, e_aLent, e_kL1, e_kL2, e_mCallU, e_kU1, e_kU2, e_kU3, e_mFill0, e_mFill1, e_mFill2, e_kF, e_kFl, e_mBack0, e_mBack1, e_mBack2, e_sNil, e_sCons, e_kSeqN, e_kSeqB, e_kSeqC, e_kSeqR, e_sIf, e_sBk, e_sCt, e_sRet, e_kRet, e_sDrop, e_kDrop, e_sSet, e_kSet, e_sTgt, e_kTgt, e_kT2, e_sPar, e_kP1, e_kP2, e_kAp0, e_kAp1, e_kAp2, e_kPu1, e_kPu2, e_kPu3, e_kPu4, e_kPu5, e_mFor, e_kFor, e_sFor0, e_kF1, e_kF2N, e_kF2C, e_kF2B, e_kF2R, e_kW1, e_kW2N, e_kW2C, e_kW2B, e_kW2R, e_mLc, e_kLc, e_kLc2, e_mL0, e_kM1, e_kM2, e_kM3, e_kM4, e_wipe0, e_wipe1, e_res0, e_res1, e_mDef, e_kDefR, e_kDefN, e_kDO, e_mOu0, e_mOuF, e_mOuS, e_mOuL, e_kOu, e_mChain, e_sApp, e_sPut, e_kAndV, e_kOrV, e_kCh3, List.getElem?_cons_zero, List.getElem?_cons_succ, List.set_cons_zero, List.set_cons_succ, List.map_cons, List.map_nil, List.length_cons, List.length_nil, List.cons_append, List.nil_append, List.replicate_succ, List.replicate_zero, Option.getD_some, Option.getD_none, decide_eq_true_eq, Bool.false_eq_true, Bool.true_eq_false, Bool.not_true, Bool.not_false, Bool.not_eq_true', decide_eq_false_iff_not, if_true, if_false, Nat.zero_add, Nat.reduceAdd, Nat.reduceSub, Nat.sub_self, Nat.sub_zero, Nat.add_zero, Nat.reduceEqDiff, List.isEmpty_nil, List.isEmpty_cons, o_add, o_sub, o_neg, o_lt, o_le, o_gt, o_ge, o_eqI, o_neI, o_eqB, o_neB, o_isN, o_isNotN, o_isB, n_non, n_bool, n_int, n_str, n_list, n_tuple, t_non, t_bool, t_int, t_list, t_tuple, o_ixT0, o_ixT1, o_ixT2, o_ixT3, o_ixT4, o_ixL0, o_ixL1, o_ixL2, o_ixL3, ix0, ix1, ix2, ix3, b_lenL, b_lenT, b_abs, b_int, b_tupL, b_tupT, b_lstL, b_lstT, b_gcd, b_max2, b_min2, el, hl, r_next h1, oP, q, q2, L]
        · cases h
    · rename_i hl
      cases h
      exact ⟨j, by simp only [e_mVar, e_kVar, e_mMov, e_kMov, e_mCst, e_kO, e_kOb, e_kOl, e_mBin, e_kB1, e_kB2, e_mUn, e_kU, e_mTb, e_kTb, e_mTru, e_kTru, e_mNot, e_kNot, e_mAnd, e_kAnd, e_mOr, e_kOr, e_mAndV, e_kAndVt, e_kAndVf, e_mOrV, e_kOrVt, e_kOrVf, e_mNotV, e_kNotV, e_mNotB, e_kNotB, e_kNB, e_mIf, e_kIf, e_kIfS, e_mNil, e_mCons, e_kC1, e_kC2, e_mTup, e_kTup, e_mLst, e_kLst, e_mCall, e_mRng, e_kCall, e_kCallR, e_mNoP, e_mP, e_kPI, e_mSl, e_kS1, e_kS2, e_kS3, e_kCh1, e_kCh2, e_kCh3t, e_kCh3f, e_mYes, e_mItems, e_kItL, e_kItT, e_mIsi, e_kIsi, e_mNol, e_kNolN, e_kNolI, e_kNolB, e_kNolS, e_kNolT, e_kNolD, e_mListS, e_kLS, e_gSet, e_gsNil, e_gsCons, e_kG, e_gTupM, e_aNil, e_aVal, e_kA1, e_kA2, e_aLent, e_kL1, e_kL2, e_mCallU, e_kU1, e_kU2, e_kU3, e_mFill0, e_mFill1, e_mFill2, e_kF, e_kFl, e_mBack0, e_mBack1, e_mBack2, e_sNil, e_sCons, e_kSeqN, e_kSeqB, e_kSeqC, e_kSeqR, e_sIf, e_sBk, e_sCt, e_sRet, e_kRet, e_sDrop, e_kDrop, e_sSet, e_kSet, e_sTgt, e_kTgt, e_kT2, e_sPar, e_kP1, e_kP2, e_kAp0, e_kAp1, e_kAp2, e_kPu1, e_kPu2, e_kPu3, e_kPu4, e_kPu5, e_mFor, e_kFor, e_sFor0, e_kF1, e_kF2N, e_kF2C, e_kF2B, e_kF2R, e_kW1, e_kW2N, e_kW2C, e_kW2B, e_kW2R, e_mLc, e_kLc, e_kLc2, e_mL0, e_kM1, e_kM2, e_kM3, e_kM4, e_wipe0, e_wipe1, e_res0, e_res1, e_mDef, e_kDefR, e_kDefN, e_kDO, e_mOu0, e_mOuF, e_mOuS, e_mOuL, e_kOu, e_mChain, e_sApp, e_sPut, e_kAndV, e_kOrV, e_kCh3, List.getElem?_cons_zero, List.getElem?_cons_succ, List.set_cons_zero, List.set_cons_succ, List.map_cons, List.map_nil, List.length_cons, List.length_nil, List.cons_append, List.nil_append, List.replicate_succ, List.replicate_zero, Option.getD_some, Option.getD_none, decide_eq_true_eq, Bool.false_eq_true, Bool.true_eq_false, Bool.not_true, Bool.not_false, Bool.not_eq_true', decide_eq_false_iff_not, if_true, if_false, Nat.zero_add, Nat.reduceAdd, Nat.reduceSub, Nat.sub_self, Nat.sub_zero, Nat.add_zero, Nat.reduceEqDiff, List.isEmpty_nil, List.isEmpty_cons, o_add, o_sub, o_neg, o_lt, o_le, o_gt, o_ge, o_eqI, o_neI, o_eqB, o_neB, o_isN, o_isNotN, o_isB, n_non, n_bool, n_int, n_str, n_list, n_tuple, t_non, t_bool, t_int, t_list, t_tuple, o_ixT0, o_ixT1, o_ixT2, o_ixT3, o_ixT4, o_ixL0, o_ixL1, o_ixL2, o_ixL3, ix0, ix1, ix2, ix3, b_lenL, b_lenT, b_abs, b_int, b_tupL, b_tupT, b_lstL, b_lstT, b_gcd, b_max2, b_min2, el, hl]⟩
theorem r_plan {g s : Int × Int} {many : Int} {r : List (Int × Int)} (h : t_planW g s many 64 [] = some r) : fm_plan [pr g, pr s, .int many] = some (.tuple (r.map pr), [pr g, pr s, .int many]) := by
  obtain ⟨j, L⟩ := l_plan 64 100000 [] r none (by decide) h
  rw [List.map_nil] at L
  simp only [e_mVar, e_kVar, e_mMov, e_kMov, e_mCst, e_kO, e_kOb, e_kOl, e_mBin, e_kB1, e_kB2, e_mUn, e_kU, e_mTb, e_kTb, e_mTru, e_kTru, e_mNot, e_kNot, e_mAnd, e_kAnd, e_mOr, e_kOr, e_mAndV, e_kAndVt, e_kAndVf, e_mOrV, e_kOrVt, e_kOrVf, e_mNotV, e_kNotV, e_mNotB, e_kNotB, e_kNB, e_mIf, e_kIf, e_kIfS, e_mNil, e_mCons, e_kC1, e_kC2, e_mTup, e_kTup, e_mLst, e_kLst, e_mCall, e_mRng, e_kCall, e_kCallR, e_mNoP, e_mP, e_kPI, e_mSl, e_kS1, e_kS2, e_kS3, e_kCh1, e_kCh2, e_kCh3t, e_kCh3f, e_mYes, e_mItems, e_kItL, e_kItT, e_mIsi, e_kIsi, e_mNol, e_kNolN, e_kNolI, e_kNolB, e_kNolS, e_kNolT, e_kNolD, e_mListS, e_kLS, e_gSet, e_gsNil, e_gsCons, e_kG, e_gTupM, e_aNil, e_aVal, e_kA1, e_kA2, e_aLent, e_kL1, e_kL2, e_mCallU, e_kU1, e_kU2, e_kU3, e_mFill0, e_mFill1, e_mFill2, e_kF, e_kFl, e_mBack0, e_mBack1, e_mBack2, e_sNil, e_sCons, e_kSeqN, e_kSeqB, e_kSeqC, e_kSeqR, e_sIf, e_sBk, e_sCt, e_sRet, e_kRet, e_sDrop, e_kDrop, e_sSet, e_kSet, e_sTgt, e_kTgt, e_kT2, e_sPar, e_kP1, e_kP2, e_kAp0, e_kAp1, e_kAp2, e_kPu1, e_kPu2, e_kPu3, e_kPu4, e_kPu5, e_mFor, e_kFor, e_sFor0, e_kF1, e_kF2N, e_kF2C, e_kF2B, e_kF2R, e_kW1, e_kW2N, e_kW2C, e_kW2B, e_kW2R, e_mLc, e_kLc, e_kLc2, e_mL0, e_kM1, e_kM2, e_kM3, e_kM4, e_wipe0, e_wipe1, e_res0, e_res1, e_mDef, e_kDefR, e_kDefN, e_kDO, e_mOu0, e_mOuF, e_mOuS, e_mOuL, e_kOu, e_mChain, e_sApp, e_sPut, e_kAndV, e_kOrV, e_kCh3, List.getElem?_cons_zero, List.getElem?_cons_succ, List.set_cons_zero, List.set_cons_succ, List.map_cons, List.map_nil, List.length_cons, List.length_nil, List.cons_append, List.nil_append, List.replicate_succ, List.replicate_zero, Option.getD_some, Option.getD_none, decide_eq_true_eq, Bool.false_eq_true, Bool.true_eq_false, Bool.not_true, Bool.not_false, Bool.not_eq_true', decide_eq_false_iff_not, if_true, if_false, Nat.zero_add, Nat.reduceAdd, Nat.reduceSub, Nat.sub_self, Nat.sub_zero, Nat.add_zero, Nat.reduceEqDiff, List.isEmpty_nil, List.isEmpty_cons, o_add, o_sub, o_neg, o_lt, o_le, o_gt, o_ge, o_eqI, o_neI, o_eqB, o_neB, o_isN, o_isNotN, o_isB, n_non, n_bool, n_int, n_str, n_list, n_tuple, t_non, t_bool, t_int, t_list, t_tuple, o_ixT0, o_ixT1, o_ixT2, o_ixT3, o_ixT4, o_ixL0, o_ixL1, o_ixL2, o_ixL3, ix0, ix1, ix2, ix3, b_lenL, b_lenT, b_abs, b_int, b_tupL, b_tupT, b_lstL, b_lstT, b_gcd, b_max2, b_min2, fm_plan, m_plan, L]
def rg3 (i j c : Int) : Option (List Int) := if c ≠ 0 ∧ c.natAbs < 1073741824 ∧ Builtin.Range.small i j c = true ∧ 0 ≤ Builtin.Range.rangeSize i j c then some (rI i c (Builtin.Range.rangeSize i j c).toNat) else none
theorem r_rg3 {i j c : Int} {l : List Int} (h : rg3 i j c = some l) : rng3 [.int i, .int j, .int c] = some (l.map .int) := by
  unfold rg3 at h
  split at h
  · rename_i z
    cases h
    rw [← rngT_map]
    exact if_pos z
  · cases h
def t_few (g s : Int × Int) : Option (List (Int × Int)) := (rg3 0 (g.1 - s.1 + 1) s.1).bind fun xs => foldO (fun acc x => (rg3 0 (g.2 - s.2 + 1) s.2).bind fun ys => foldO (fun acc y => if acc.length < sizeLine then some (acc ++ [(x, y)]) else none) acc ys) [] xs
theorem r_few {g s : Int × Int} {r : List (Int × Int)} (h : t_few g s = some r) (hr : r.length < sizeLine) : fm_fewest_pits [pr g, pr s] = some (.tuple [.tuple (r.map fun p => pr (p.1 + s.1 - 1, p.2 + s.2 - 1)), .tuple (r.map pr)], [pr g, pr s]) := by
  obtain ⟨xs, h1, h⟩ := bd h
  obtain ⟨ε', L, j, k, rfl⟩ := for_foldO (mt := gSet 5) (mb := (mFor (mRng rng3 (mCons (mCst (.int 0)) (mCons (mBin opAdd (mBin opSub (mBin opIx (mVar 0) (mCst (.int 1))) (mVar 3)) (mCst (.int 1))) (mCons (mVar 3) mNil)))) (gSet 6) (sApp 4 (mTup (mCons (mVar 5) (mCons (mVar 6) mNil)))))) PyData.int
    (fun (acc : List (Int × Int)) ε => ∃ j k, ε = [some (pr g), some (pr s), some (.int s.1), some (.int s.2), some (.list (acc.map pr)), j, k]) (fun acc x => (rg3 0 (g.2 - s.2 + 1) s.2).bind fun ys => foldO (fun acc y => if acc.length < sizeLine then some (acc ++ [(x, y)]) else none) acc ys) xs [] r [some (pr g), some (pr s), some (.int s.1), some (.int s.2), some (.list []), none, none] (fun acc x acc' ε _ hi hs => by
      obtain ⟨j, k, rfl⟩ := hi
      obtain ⟨ys, h2, hs⟩ := bd hs
      obtain ⟨ε', L, k', rfl⟩ := for_foldO (mt := gSet 6) (mb := (sApp 4 (mTup (mCons (mVar 5) (mCons (mVar 6) mNil))))) PyData.int
        (fun (acc : List (Int × Int)) ε => ∃ k, ε = [some (pr g), some (pr s), some (.int s.1), some (.int s.2), some (.list (acc.map pr)), some (.int x), k]) (fun acc y => if acc.length < sizeLine then some (acc ++ [(x, y)]) else none) ys acc acc' [some (pr g), some (pr s), some (.int s.1), some (.int s.2), some (.list (acc.map pr)), some (.int x), k] (fun acc y acc' ε _ hi hs => by
          obtain ⟨k, rfl⟩ := hi
          split at hs
          · rename_i hl
            cases hs
            have hl' : (acc.map pr).length < sizeLine := by rw [List.length_map]; exact hl
            refine ⟨_, _, rfl, ?h, ?j, rfl⟩
            case h => simp only [e_mVar, e_kVar, e_mMov, e_kMov, e_mCst, e_kO, e_kOb, e_kOl, e_mBin, e_kB1, e_kB2, e_mUn, e_kU, e_mTb, e_kTb, e_mTru, e_kTru, e_mNot, e_kNot, e_mAnd, e_kAnd, e_mOr, e_kOr, e_mAndV, e_kAndVt, e_kAndVf, e_mOrV, e_kOrVt, e_kOrVf, e_mNotV, e_kNotV, e_mNotB, e_kNotB, e_kNB, e_mIf, e_kIf, e_kIfS, e_mNil, e_mCons, e_kC1, e_kC2, e_mTup, e_kTup, e_mLst, e_kLst, e_mCall, e_mRng, e_kCall, e_kCallR, e_mNoP, e_mP, e_kPI, e_mSl, e_kS1, e_kS2, e_kS3, e_kCh1, e_kCh2, e_kCh3t, e_kCh3f, e_mYes, e_mItems, e_kItL, e_kItT, e_mIsi, e_kIsi, e_mNol, e_kNolN, e_kNolI, e_kNolB, e_kNolS, e_kNolT, e_kNolD, e_mListS, e_kLS, e_gSet, e_gsNil, e_gsCons, e_kG, e_gTupM, e_aNil, e_aVal, e_kA1, e_kA2, e_aLent, e_kL1, e_kL2, e_mCallU, e_kU1, e_kU2, e_kU3, e_mFill0, e_mFill1, e_mFill2, e_kF, e_kFl, e_mBack0, e_mBack1, e_mBack2, e_sNil, e_sCons, e_kSeqN, e_kSeqB, e_kSeqC, e_kSeqR, e_sIf, e_sBk, e_sCt, e_sRet, e_kRet, e_sDrop, e_kDrop, e_sSet, e_kSet, e_sTgt, e_kTgt, e_kT2, e_sPar, e_kP1, e_kP2, e_kAp0, e_kAp1, e_kAp2, e_kPu1, e_kPu2, e_kPu3, e_kPu4, e_kPu5, e_mFor, e_kFor, e_sFor0, e_kF1, e_kF2N, e_kF2C, e_kF2B, e_kF2R, e_kW1, e_kW2N, e_kW2C, e_kW2B, e_kW2R, e_mLc, e_kLc, e_kLc2, e_mL0, e_kM1, e_kM2, e_kM3, e_kM4, e_wipe0, e_wipe1, e_res0, e_res1, e_mDef, e_kDefR, e_kDefN, e_kDO, e_mOu0, e_mOuF, e_mOuS, e_mOuL, e_kOu, e_mChain, e_sApp, e_sPut, e_kAndV, e_kOrV, e_kCh3, List.getElem?_cons_zero, List.getElem?_cons_succ, List.set_cons_zero, List.set_cons_succ, List.map_cons, List.map_nil, List.length_cons, List.length_nil, List.cons_append, List.nil_append, List.replicate_succ, List.replicate_zero, Option.getD_some, Option.getD_none, decide_eq_true_eq, Bool.false_eq_true, Bool.true_eq_false, Bool.not_true, Bool.not_false, Bool.not_eq_true', decide_eq_false_iff_not, if_true, if_false, Nat.zero_add, Nat.reduceAdd, Nat.reduceSub, Nat.sub_self, Nat.sub_zero, Nat.add_zero, Nat.reduceEqDiff, List.isEmpty_nil, List.isEmpty_cons, o_add, o_sub, o_neg, o_lt, o_le, o_gt, o_ge, o_eqI, o_neI, o_eqB, o_neB, o_isN, o_isNotN, o_isB, n_non, n_bool, n_int, n_str, n_list, n_tuple, t_non, t_bool, t_int, t_list, t_tuple, o_ixT0, o_ixT1, o_ixT2, o_ixT3, o_ixT4, o_ixL0, o_ixL1, o_ixL2, o_ixL3, ix0, ix1, ix2, ix3, b_lenL, b_lenT, b_abs, b_int, b_tupL, b_tupT, b_lstL, b_lstT, b_gcd, b_max2, b_min2, hl', app_pr] <;> rfl
          · cases hs) ⟨_, rfl⟩ hs
      have e1 := r_rg3 h2
      refine ⟨_, _, rfl, ?h, some (.int x), k', rfl⟩
      unfold pr at L ⊢
      simp only [e_mVar, e_kVar, e_mMov, e_kMov, e_mCst, e_kO, e_kOb, e_kOl, e_mBin, e_kB1, e_kB2, e_mUn, e_kU, e_mTb, e_kTb, e_mTru, e_kTru, e_mNot, e_kNot, e_mAnd, e_kAnd, e_mOr, e_kOr, e_mAndV, e_kAndVt, e_kAndVf, e_mOrV, e_kOrVt, e_kOrVf, e_mNotV, e_kNotV, e_mNotB, e_kNotB, e_kNB, e_mIf, e_kIf, e_kIfS, e_mNil, e_mCons, e_kC1, e_kC2, e_mTup, e_kTup, e_mLst, e_kLst, e_mCall, e_mRng, e_kCall, e_kCallR, e_mNoP, e_mP, e_kPI, e_mSl, e_kS1, e_kS2, e_kS3, e_kCh1, e_kCh2, e_kCh3t, e_kCh3f, e_mYes, e_mItems, e_kItL, e_kItT, e_mIsi, e_kIsi, e_mNol, e_kNolN, e_kNolI, e_kNolB, e_kNolS, e_kNolT, e_kNolD, e_mListS, e_kLS, e_gSet, e_gsNil, e_gsCons, e_kG, e_gTupM, e_aNil, e_aVal, e_kA1, e_kA2, e_aLent, e_kL1, e_kL2, e_mCallU, e_kU1, e_kU2, e_kU3, e_mFill0, e_mFill1, e_mFill2, e_kF, e_kFl, e_mBack0, e_mBack1, e_mBack2, e_sNil, e_sCons, e_kSeqN, e_kSeqB, e_kSeqC, e_kSeqR, e_sIf, e_sBk, e_sCt, e_sRet, e_kRet, e_sDrop, e_kDrop, e_sSet, e_kSet, e_sTgt, e_kTgt, e_kT2, e_sPar, e_kP1, e_kP2, e_kAp0, e_kAp1, e_kAp2, e_kPu1, e_kPu2, e_kPu3, e_kPu4, e_kPu5, e_mFor, e_kFor, e_sFor0, e_kF1, e_kF2N, e_kF2C, e_kF2B, e_kF2R, e_kW1, e_kW2N, e_kW2C, e_kW2B, e_kW2R, e_mLc, e_kLc, e_kLc2, e_mL0, e_kM1, e_kM2, e_kM3, e_kM4, e_wipe0, e_wipe1, e_res0, e_res1, e_mDef, e_kDefR, e_kDefN, e_kDO, e_mOu0, e_mOuF, e_mOuS, e_mOuL, e_kOu, e_mChain, e_sApp, e_sPut, e_kAndV, e_kOrV, e_kCh3, List.getElem?_cons_zero, List.getElem?_cons_succ, List.set_cons_zero, List.set_cons_succ, List.map_cons, List.map_nil, List.length_cons, List.length_nil, List.cons_append, List.nil_append, List.replicate_succ, List.replicate_zero, Option.getD_some, Option.getD_none, decide_eq_true_eq, Bool.false_eq_true, Bool.true_eq_false, Bool.not_true, Bool.not_false, Bool.not_eq_true', decide_eq_false_iff_not, if_true, if_false, Nat.zero_add, Nat.reduceAdd, Nat.reduceSub, Nat.sub_self, Nat.sub_zero, Nat.add_zero, Nat.reduceEqDiff, List.isEmpty_nil, List.isEmpty_cons, o_add, o_sub, o_neg, o_lt, o_le, o_gt, o_ge, o_eqI, o_neI, o_eqB, o_neB, o_isN, o_isNotN, o_isB, n_non, n_bool, n_int, n_str, n_list, n_tuple, t_non, t_bool, t_int, t_list, t_tuple, o_ixT0, o_ixT1, o_ixT2, o_ixT3, o_ixT4, o_ixL0, o_ixL1, o_ixL2, o_ixL3, ix0, ix1, ix2, ix3, b_lenL, b_lenT, b_abs, b_int, b_tupL, b_tupT, b_lstL, b_lstT, b_gcd, b_max2, b_min2, e1, L] <;> rfl) ⟨_, _, rfl⟩ h
  have e1 := r_rg3 h1
  have L2 := lc_map (mt := gTupM 2 (gsCons (gSet 5) (gsCons (gSet 6) gsNil))) (me := (mTup (mCons (mBin opSub (mBin opAdd (mVar 5) (mVar 2)) (mCst (.int 1))) (mCons (mBin opSub (mBin opAdd (mVar 6) (mVar 3)) (mCst (.int 1))) mNil)))) pr (fun p => pr (p.1 + s.1 - 1, p.2 + s.2 - 1)) [5, 6] r [some (pr g), some (pr s), some (.int s.1), some (.int s.2), some (.list (r.map pr)), j, k] (fun p _ => by
    refine ⟨[some (pr g), some (pr s), some (.int s.1), some (.int s.2), some (.list (r.map pr)), some (.int p.1), some (.int p.2)], ?_, ?_, ?_⟩ <;> simp only [e_mVar, e_kVar, e_mMov, e_kMov, e_mCst, e_kO, e_kOb, e_kOl, e_mBin, e_kB1, e_kB2, e_mUn, e_kU, e_mTb, e_kTb, e_mTru, e_kTru, e_mNot, e_kNot, e_mAnd, e_kAnd, e_mOr, e_kOr, e_mAndV, e_kAndVt, e_kAndVf, e_mOrV, e_kOrVt, e_kOrVf, e_mNotV, e_kNotV, e_mNotB, e_kNotB, e_kNB, e_mIf, e_kIf, e_kIfS, e_mNil, e_mCons, e_kC1, e_kC2, e_mTup, e_kTup, e_mLst, e_kLst, e_mCall, e_mRng, e_kCall, e_kCallR, e_mNoP, e_mP, e_kPI, e_mSl, e_kS1, e_kS2, e_kS3, e_kCh1, e_kCh2, e_kCh3t, e_kCh3f, e_mYes, e_mItems, e_kItL, e_kItT, e_mIsi, e_kIsi, e_mNol, e_kNolN, e_kNolI, e_kNolB, e_kNolS, e_kNolT, e_kNolD, e_mListS, e_kLS, e_gSet, e_gsNil, e_gsCons, e_kG, e_gTupM, e_aNil, e_aVal, e_kA1, e_kA2, e_aLent, e_kL1, e_kL2, e_mCallU, e_kU1, e_kU2, e_kU3, e_mFill0, e_mFill1, e_mFill2, e_kF, e_kFl, e_mBack0, e_mBack1, e_mBack2, e_sNil, e_sCons, e_kSeqN, e_kSeqB, e_kSeqC, e_kSeqR, e_sIf, e_sBk, e_sCt, e_sRet, e_kRet, e_sDrop, e_kDrop, e_sSet, e_kSet, e_sTgt, e_kTgt, e_kT2, e_sPar, e_kP1, e_kP2, e_kAp0, e_kAp1, e_kAp2, e_kPu1, e_kPu2, e_kPu3, e_kPu4, e_kPu5, e_mFor, e_kFor, e_sFor0, e_kF1, e_kF2N, e_kF2C, e_kF2B, e_kF2R, e_kW1, e_kW2N, e_kW2C, e_kW2B, e_kW2R, e_mLc, e_kLc, e_kLc2, e_mL0, e_kM1, e_kM2, e_kM3, e_kM4, e_wipe0, e_wipe1, e_res0, e_res1, e_mDef, e_kDefR, e_kDefN, e_kDO, e_mOu0, e_mOuF, e_mOuS, e_mOuL, e_kOu, e_mChain, e_sApp, e_sPut, e_kAndV, e_kOrV, e_kCh3, List.getElem?_cons_zero, List.getElem?_cons_succ, List.set_cons_zero, List.set_cons_succ, List.map_cons, List.map_nil, List.length_cons, List.length_nil, List.cons_append, List.nil_append, List.replicate_succ, List.replicate_zero, Option.getD_some, Option.getD_none, decide_eq_true_eq, Bool.false_eq_true, Bool.true_eq_false, Bool.not_true, Bool.not_false, Bool.not_eq_true', decide_eq_false_iff_not, if_true, if_false, Nat.zero_add, Nat.reduceAdd, Nat.reduceSub, Nat.sub_self, Nat.sub_zero, Nat.add_zero, Nat.reduceEqDiff, List.isEmpty_nil, List.isEmpty_cons, o_add, o_sub, o_neg, o_lt, o_le, o_gt, o_ge, o_eqI, o_neI, o_eqB, o_neB, o_isN, o_isNotN, o_isB, n_non, n_bool, n_int, n_str, n_list, n_tuple, t_non, t_bool, t_int, t_list, t_tuple, o_ixT0, o_ixT1, o_ixT2, o_ixT3, o_ixT4, o_ixL0, o_ixL1, o_ixL2, o_ixL3, ix0, ix1, ix2, ix3, b_lenL, b_lenT, b_abs, b_int, b_tupL, b_tupT, b_lstL, b_lstT, b_gcd, b_max2, b_min2, pr])
  simp only [e_mVar, e_kVar, e_mMov, e_kMov, e_mCst, e_kO, e_kOb, e_kOl, e_mBin, e_kB1, e_kB2, e_mUn, e_kU, e_mTb, e_kTb, e_mTru, e_kTru, e_mNot, e_kNot, e_mAnd, e_kAnd, e_mOr, e_kOr, e_mAndV, e_kAndVt, e_kAndVf, e_mOrV, e_kOrVt, e_kOrVf, e_mNotV, e_kNotV, e_mNotB, e_kNotB, e_kNB, e_mIf, e_kIf, e_kIfS, e_mNil, e_mCons, e_kC1, e_kC2, e_mTup, e_kTup, e_mLst, e_kLst, e_mCall, e_mRng, e_kCall, e_kCallR, e_mNoP, e_mP, e_kPI, e_mSl, e_kS1, e_kS2, e_kS3, e_kCh1, e_kCh2, e_kCh3t, e_kCh3f, e_mYes, e_mItems, e_kItL, e_kItT, e_mIsi, e_kIsi, e_mNol, e_kNolN, e_kNolI, e_kNolB, e_kNolS, e_kNolT, e_kNolD, e_mListS, e_kLS, e_gSet, e_gsNil, e_gsCons, e_kG, e_gTupM, e_aNil, e_aVal, e_kA1, e_kA2, e_aLent, e_kL1, e_kL2, e_mCallU, e_kU1, e_kU2, e_kU3, e_mFill0, e_mFill1, e_mFill2, e_kF, e_kFl, e_mBack0, e_mBack1, e_mBack2, e_sNil, e_sCons, e_kSeqN, e_kSeqB, e_kSeqC, e_kSeqR, e_sIf, e_sBk, e_sCt, e_sRet, e_kRet, e_sDrop, e_kDrop, e_sSet, e_kSet, e_sTgt, e_kTgt, e_kT2, e_sPar, e_kP1, e_kP2, e_kAp0, e_kAp1, e_kAp2, e_kPu1, e_kPu2, e_kPu3, e_kPu4, e_kPu5, e_mFor, e_kFor, e_sFor0, e_kF1, e_kF2N, e_kF2C, e_kF2B, e_kF2R, e_kW1, e_kW2N, e_kW2C, e_kW2B, e_kW2R, e_mLc, e_kLc, e_kLc2, e_mL0, e_kM1, e_kM2, e_kM3, e_kM4, e_wipe0, e_wipe1, e_res0, e_res1, e_mDef, e_kDefR, e_kDefN, e_kDO, e_mOu0, e_mOuF, e_mOuS, e_mOuL, e_kOu, e_mChain, e_sApp, e_sPut, e_kAndV, e_kOrV, e_kCh3, List.getElem?_cons_zero, List.getElem?_cons_succ, List.set_cons_zero, List.set_cons_succ, List.map_cons, List.map_nil, List.length_cons, List.length_nil, List.cons_append, List.nil_append, List.replicate_succ, List.replicate_zero, Option.getD_some, Option.getD_none, decide_eq_true_eq, Bool.false_eq_true, Bool.true_eq_false, Bool.not_true, Bool.not_false, Bool.not_eq_true', decide_eq_false_iff_not, if_true, if_false, Nat.zero_add, Nat.reduceAdd, Nat.reduceSub, Nat.sub_self, Nat.sub_zero, Nat.add_zero, Nat.reduceEqDiff, List.isEmpty_nil, List.isEmpty_cons, o_add, o_sub, o_neg, o_lt, o_le, o_gt, o_ge, o_eqI, o_neI, o_eqB, o_neB, o_isN, o_isNotN, o_isB, n_non, n_bool, n_int, n_str, n_list, n_tuple, t_non, t_bool, t_int, t_list, t_tuple, o_ixT0, o_ixT1, o_ixT2, o_ixT3, o_ixT4, o_ixL0, o_ixL1, o_ixL2, o_ixL3, ix0, ix1, ix2, ix3, b_lenL, b_lenT, b_abs, b_int, b_tupL, b_tupT, b_lstL, b_lstT, b_gcd, b_max2, b_min2] at L2
  have hr' := len_pr hr
  have q1 : opIx (pr g) (.int 0) = some (.int g.1) := rfl
  have q2 : gTupM 2 (gsCons (gSet 2) (gsCons (gSet 3) gsNil)) (pr s) [some (pr g), some (pr s), none, none, none, none, none] = some [some (pr g), some (pr s), some (.int s.1), some (.int s.2), none, none, none] := rfl
  simp only [e_mVar, e_kVar, e_mMov, e_kMov, e_mCst, e_kO, e_kOb, e_kOl, e_mBin, e_kB1, e_kB2, e_mUn, e_kU, e_mTb, e_kTb, e_mTru, e_kTru, e_mNot, e_kNot, e_mAnd, e_kAnd, e_mOr, e_kOr, e_mAndV, e_kAndVt, e_kAndVf, e_mOrV, e_kOrVt, e_kOrVf, e_mNotV, e_kNotV, e_mNotB, e_kNotB, e_kNB, e_mIf, e_kIf, e_kIfS, e_mNil, e_mCons, e_kC1, e_kC2, e_mTup, e_kTup, e_mLst, e_kLst, e_mCall, e_mRng, e_kCall, e_kCallR, e_mNoP, e_mP, e_kPI, e_mSl, e_kS1, e_kS2, e_kS3, e_kCh1, e_kCh2, e_kCh3t, e_kCh3f, e_mYes, e_mItems, e_kItL, e_kItT, e_mIsi, e_kIsi, e_mNol, e_kNolN, e_kNolI, e_kNolB, e_kNolS, e_kNolT, e_kNolD, e_mListS, e_kLS, e_gSet, e_gsNil, e_gsCons, e_kG, e_gTupM, e_aNil, e_aVal, e_kA1, e_kA2, e_aLent, e_kL1, e_kL2, e_mCallU, e_kU1, e_kU2, e_kU3, e_mFill0, e_mFill1, e_mFill2, e_kF, e_kFl, e_mBack0, e_mBack1, e_mBack2, e_sNil, e_sCons, e_kSeqN, e_kSeqB, e_kSeqC, e_kSeqR, e_sIf, e_sBk, e_sCt, e_sRet, e_kRet, e_sDrop, e_kDrop, e_sSet, e_kSet, e_sTgt, e_kTgt, e_kT2, e_sPar, e_kP1, e_kP2, e_kAp0, e_kAp1, e_kAp2, e_kPu1, e_kPu2, e_kPu3, e_kPu4, e_kPu5, e_mFor, e_kFor, e_sFor0, e_kF1, e_kF2N, e_kF2C, e_kF2B, e_kF2R, e_kW1, e_kW2N, e_kW2C, e_kW2B, e_kW2R, e_mLc, e_kLc, e_kLc2, e_mL0, e_kM1, e_kM2, e_kM3, e_kM4, e_wipe0, e_wipe1, e_res0, e_res1, e_mDef, e_kDefR, e_kDefN, e_kDO, e_mOu0, e_mOuF, e_mOuS, e_mOuL, e_kOu, e_mChain, e_sApp, e_sPut, e_kAndV, e_kOrV, e_kCh3, List.getElem?_cons_zero, List.getElem?_cons_succ, List.set_cons_zero, List.set_cons_succ, List.map_cons, List.map_nil, List.length_cons, List.length_nil, List.cons_append, List.nil_append, List.replicate_succ, List.replicate_zero, Option.getD_some, Option.getD_none, decide_eq_true_eq, Bool.false_eq_true, Bool.true_eq_false, Bool.not_true, Bool.not_false, Bool.not_eq_true', decide_eq_false_iff_not, if_true, if_false, Nat.zero_add, Nat.reduceAdd, Nat.reduceSub, Nat.sub_self, Nat.sub_zero, Nat.add_zero, Nat.reduceEqDiff, List.isEmpty_nil, List.isEmpty_cons, o_add, o_sub, o_neg, o_lt, o_le, o_gt, o_ge, o_eqI, o_neI, o_eqB, o_neB, o_isN, o_isNotN, o_isB, n_non, n_bool, n_int, n_str, n_list, n_tuple, t_non, t_bool, t_int, t_list, t_tuple, o_ixT0, o_ixT1, o_ixT2, o_ixT3, o_ixT4, o_ixL0, o_ixL1, o_ixL2, o_ixL3, ix0, ix1, ix2, ix3, b_lenL, b_lenT, b_abs, b_int, b_tupL, b_tupT, b_lstL, b_lstT, b_gcd, b_max2, b_min2, fm_fewest_pits, m_fewest_pits, q1, q2, e1, L, hr', L2]
def rgO2 (a b : Int) : Option (List Int) := if rngOk a = true ∧ rngOk b = true then some (rI a 1 (b - a).toNat) else none
theorem r_rg2 {a b : Int} {l : List Int} (h : rgO2 a b = some l) : rng2 [.int a, .int b] = some (l.map .int) := by
  unfold rgO2 at h
  split at h
  · rename_i z; cases h; exact rng2_i z.1 z.2
  · cases h
def t_rs (g : Int × Int) (q : Int) : Option (List (Int × Int)) := (rgO2 q (g.1 - q)).bind fun xs => foldO (fun acc x => (rgO2 q (g.2 - q)).bind fun ys => foldO (fun acc y => if acc.length < sizeLine then some (acc ++ [(x, y)]) else none) acc ys) [] xs
theorem r_rs {g : Int × Int} {q : Int} {r : List (Int × Int)} (h : t_rs g q = some r) : fm_round_sites [pr g, .int q] = some (.list (r.map pr), [pr g, .int q]) := by
  obtain ⟨xs, h1, h⟩ := bd h
  obtain ⟨ε', L, j, k, rfl⟩ := for_foldO (mt := gSet 3) (mb := (mFor (mRng rng2 (mCons (mVar 1) (mCons (mBin opSub (mBin opIx (mVar 0) (mCst (.int 1))) (mVar 1)) mNil))) (gSet 4) (sApp 2 (mTup (mCons (mVar 3) (mCons (mVar 4) mNil)))))) PyData.int
    (fun (acc : List (Int × Int)) ε => ∃ j k, ε = [some (pr g), some (.int q), some (.list (acc.map pr)), j, k]) (fun acc x => (rgO2 q (g.2 - q)).bind fun ys => foldO (fun acc y => if acc.length < sizeLine then some (acc ++ [(x, y)]) else none) acc ys) xs [] r [some (pr g), some (.int q), some (.list []), none, none] (fun acc x acc' ε _ hi hs => by
      obtain ⟨j, k, rfl⟩ := hi
      obtain ⟨ys, h2, hs⟩ := bd hs
      obtain ⟨ε', L, k', rfl⟩ := for_foldO (mt := gSet 4) (mb := (sApp 2 (mTup (mCons (mVar 3) (mCons (mVar 4) mNil))))) PyData.int
        (fun (acc : List (Int × Int)) ε => ∃ k, ε = [some (pr g), some (.int q), some (.list (acc.map pr)), some (.int x), k]) (fun acc y => if acc.length < sizeLine then some (acc ++ [(x, y)]) else none) ys acc acc' [some (pr g), some (.int q), some (.list (acc.map pr)), some (.int x), k] (fun acc y acc' ε _ hi hs => by
          obtain ⟨k, rfl⟩ := hi
          split at hs
          · rename_i hl
            cases hs
            have hl' : (acc.map pr).length < sizeLine := by rw [List.length_map]; exact hl
            refine ⟨_, _, rfl, ?h, ?j, rfl⟩
            case h => simp only [e_mVar, e_kVar, e_mMov, e_kMov, e_mCst, e_kO, e_kOb, e_kOl, e_mBin, e_kB1, e_kB2, e_mUn, e_kU, e_mTb, e_kTb, e_mTru, e_kTru, e_mNot, e_kNot, e_mAnd, e_kAnd, e_mOr, e_kOr, e_mAndV, e_kAndVt, e_kAndVf, e_mOrV, e_kOrVt, e_kOrVf, e_mNotV, e_kNotV, e_mNotB, e_kNotB, e_kNB, e_mIf, e_kIf, e_kIfS, e_mNil, e_mCons, e_kC1, e_kC2, e_mTup, e_kTup, e_mLst, e_kLst, e_mCall, e_mRng, e_kCall, e_kCallR, e_mNoP, e_mP, e_kPI, e_mSl, e_kS1, e_kS2, e_kS3, e_kCh1, e_kCh2, e_kCh3t, e_kCh3f, e_mYes, e_mItems, e_kItL, e_kItT, e_mIsi, e_kIsi, e_mNol, e_kNolN, e_kNolI, e_kNolB, e_kNolS, e_kNolT, e_kNolD, e_mListS, e_kLS, e_gSet, e_gsNil, e_gsCons, e_kG, e_gTupM, e_aNil, e_aVal, e_kA1, e_kA2, e_aLent, e_kL1, e_kL2, e_mCallU, e_kU1, e_kU2, e_kU3, e_mFill0, e_mFill1, e_mFill2, e_kF, e_kFl, e_mBack0, e_mBack1, e_mBack2, e_sNil, e_sCons, e_kSeqN, e_kSeqB, e_kSeqC, e_kSeqR, e_sIf, e_sBk, e_sCt, e_sRet, e_kRet, e_sDrop, e_kDrop, e_sSet, e_kSet, e_sTgt, e_kTgt, e_kT2, e_sPar, e_kP1, e_kP2, e_kAp0, e_kAp1, e_kAp2, e_kPu1, e_kPu2, e_kPu3, e_kPu4, e_kPu5, e_mFor, e_kFor, e_sFor0, e_kF1, e_kF2N, e_kF2C, e_kF2B, e_kF2R, e_kW1, e_kW2N, e_kW2C, e_kW2B, e_kW2R, e_mLc, e_kLc, e_kLc2, e_mL0, e_kM1, e_kM2, e_kM3, e_kM4, e_wipe0, e_wipe1, e_res0, e_res1, e_mDef, e_kDefR, e_kDefN, e_kDO, e_mOu0, e_mOuF, e_mOuS, e_mOuL, e_kOu, e_mChain, e_sApp, e_sPut, e_kAndV, e_kOrV, e_kCh3, List.getElem?_cons_zero, List.getElem?_cons_succ, List.set_cons_zero, List.set_cons_succ, List.map_cons, List.map_nil, List.length_cons, List.length_nil, List.cons_append, List.nil_append, List.replicate_succ, List.replicate_zero, Option.getD_some, Option.getD_none, decide_eq_true_eq, Bool.false_eq_true, Bool.true_eq_false, Bool.not_true, Bool.not_false, Bool.not_eq_true', decide_eq_false_iff_not, if_true, if_false, Nat.zero_add, Nat.reduceAdd, Nat.reduceSub, Nat.sub_self, Nat.sub_zero, Nat.add_zero, Nat.reduceEqDiff, List.isEmpty_nil, List.isEmpty_cons, o_add, o_sub, o_neg, o_lt, o_le, o_gt, o_ge, o_eqI, o_neI, o_eqB, o_neB, o_isN, o_isNotN, o_isB, n_non, n_bool, n_int, n_str, n_list, n_tuple, t_non, t_bool, t_int, t_list, t_tuple, o_ixT0, o_ixT1, o_ixT2, o_ixT3, o_ixT4, o_ixL0, o_ixL1, o_ixL2, o_ixL3, ix0, ix1, ix2, ix3, b_lenL, b_lenT, b_abs, b_int, b_tupL, b_tupT, b_lstL, b_lstT, b_gcd, b_max2, b_min2, hl', app_pr] <;> rfl
          · cases hs) ⟨_, rfl⟩ hs
      have e1 := (r_rg2 h2)
      refine ⟨_, _, rfl, ?h, some (.int x), k', rfl⟩
      unfold pr at L ⊢
      simp only [e_mVar, e_kVar, e_mMov, e_kMov, e_mCst, e_kO, e_kOb, e_kOl, e_mBin, e_kB1, e_kB2, e_mUn, e_kU, e_mTb, e_kTb, e_mTru, e_kTru, e_mNot, e_kNot, e_mAnd, e_kAnd, e_mOr, e_kOr, e_mAndV, e_kAndVt, e_kAndVf, e_mOrV, e_kOrVt, e_kOrVf, e_mNotV, e_kNotV, e_mNotB, e_kNotB, e_kNB, e_mIf, e_kIf, e_kIfS, e_mNil, e_mCons, e_kC1, e_kC2, e_mTup, e_kTup, e_mLst, e_kLst, e_mCall, e_mRng, e_kCall, e_kCallR, e_mNoP, e_mP, e_kPI, e_mSl, e_kS1, e_kS2, e_kS3, e_kCh1, e_kCh2, e_kCh3t, e_kCh3f, e_mYes, e_mItems, e_kItL, e_kItT, e_mIsi, e_kIsi, e_mNol, e_kNolN, e_kNolI, e_kNolB, e_kNolS, e_kNolT, e_kNolD, e_mListS, e_kLS, e_gSet, e_gsNil, e_gsCons, e_kG, e_gTupM, e_aNil, e_aVal, e_kA1, e_kA2, e_aLent, e_kL1, e_kL2, e_mCallU, e_kU1, e_kU2, e_kU3, e_mFill0, e_mFill1, e_mFill2, e_kF, e_kFl, e_mBack0, e_mBack1, e_mBack2, e_sNil, e_sCons, e_kSeqN, e_kSeqB, e_kSeqC, e_kSeqR, e_sIf, e_sBk, e_sCt, e_sRet, e_kRet, e_sDrop, e_kDrop, e_sSet, e_kSet, e_sTgt, e_kTgt, e_kT2, e_sPar, e_kP1, e_kP2, e_kAp0, e_kAp1, e_kAp2, e_kPu1, e_kPu2, e_kPu3, e_kPu4, e_kPu5, e_mFor, e_kFor, e_sFor0, e_kF1, e_kF2N, e_kF2C, e_kF2B, e_kF2R, e_kW1, e_kW2N, e_kW2C, e_kW2B, e_kW2R, e_mLc, e_kLc, e_kLc2, e_mL0, e_kM1, e_kM2, e_kM3, e_kM4, e_wipe0, e_wipe1, e_res0, e_res1, e_mDef, e_kDefR, e_kDefN, e_kDO, e_mOu0, e_mOuF, e_mOuS, e_mOuL, e_kOu, e_mChain, e_sApp, e_sPut, e_kAndV, e_kOrV, e_kCh3, List.getElem?_cons_zero, List.getElem?_cons_succ, List.set_cons_zero, List.set_cons_succ, List.map_cons, List.map_nil, List.length_cons, List.length_nil, List.cons_append, List.nil_append, List.replicate_succ, List.replicate_zero, Option.getD_some, Option.getD_none, decide_eq_true_eq, Bool.false_eq_true, Bool.true_eq_false, Bool.not_true, Bool.not_false, Bool.not_eq_true', decide_eq_false_iff_not, if_true, if_false, Nat.zero_add, Nat.reduceAdd, Nat.reduceSub, Nat.sub_self, Nat.sub_zero, Nat.add_zero, Nat.reduceEqDiff, List.isEmpty_nil, List.isEmpty_cons, o_add, o_sub, o_neg, o_lt, o_le, o_gt, o_ge, o_eqI, o_neI, o_eqB, o_neB, o_isN, o_isNotN, o_isB, n_non, n_bool, n_int, n_str, n_list, n_tuple, t_non, t_bool, t_int, t_list, t_tuple, o_ixT0, o_ixT1, o_ixT2, o_ixT3, o_ixT4, o_ixL0, o_ixL1, o_ixL2, o_ixL3, ix0, ix1, ix2, ix3, b_lenL, b_lenT, b_abs, b_int, b_tupL, b_tupT, b_lstL, b_lstT, b_gcd, b_max2, b_min2, e1, L] <;> rfl) ⟨_, _, rfl⟩ h
  have e1 := (r_rg2 h1)
  unfold pr at L ⊢
  simp only [e_mVar, e_kVar, e_mMov, e_kMov, e_mCst, e_kO, e_kOb, e_kOl, e_mBin, e_kB1, e_kB2, e_mUn, e_kU, e_mTb, e_kTb, e_mTru, e_kTru, e_mNot, e_kNot, e_mAnd, e_kAnd, e_mOr, e_kOr, e_mAndV, e_kAndVt, e_kAndVf, e_mOrV, e_kOrVt, e_kOrVf, e_mNotV, e_kNotV, e_mNotB, e_kNotB, e_kNB, e_mIf, e_kIf, e_kIfS, e_mNil, e_mCons, e_kC1, e_kC2, e_mTup, e_kTup, e_mLst, e_kLst, e_mCall, e_mRng, e_kCall, e_kCallR, e_mNoP, e_mP, e_kPI, e_mSl, e_kS1, e_kS2, e_kS3, e_kCh1, e_kCh2, e_kCh3t, e_kCh3f, e_mYes, e_mItems, e_kItL, e_kItT, e_mIsi, e_kIsi, e_mNol, e_kNolN, e_kNolI, e_kNolB, e_kNolS, e_kNolT, e_kNolD, e_mListS, e_kLS, e_gSet, e_gsNil, e_gsCons, e_kG, e_gTupM, e_aNil, e_aVal, e_kA1, e_kA2, e_aLent, e_kL1, e_kL2, e_mCallU, e_kU1, e_kU2, e_kU3, e_mFill0, e_mFill1, e_mFill2, e_kF, e_kFl, e_mBack0, e_mBack1, e_mBack2, e_sNil, e_sCons, e_kSeqN, e_kSeqB, e_kSeqC, e_kSeqR, e_sIf, e_sBk, e_sCt, e_sRet, e_kRet, e_sDrop, e_kDrop, e_sSet, e_kSet, e_sTgt, e_kTgt, e_kT2, e_sPar, e_kP1, e_kP2, e_kAp0, e_kAp1, e_kAp2, e_kPu1, e_kPu2, e_kPu3, e_kPu4, e_kPu5, e_mFor, e_kFor, e_sFor0, e_kF1, e_kF2N, e_kF2C, e_kF2B, e_kF2R, e_kW1, e_kW2N, e_kW2C, e_kW2B, e_kW2R, e_mLc, e_kLc, e_kLc2, e_mL0, e_kM1, e_kM2, e_kM3, e_kM4, e_wipe0, e_wipe1, e_res0, e_res1, e_mDef, e_kDefR, e_kDefN, e_kDO, e_mOu0, e_mOuF, e_mOuS, e_mOuL, e_kOu, e_mChain, e_sApp, e_sPut, e_kAndV, e_kOrV, e_kCh3, List.getElem?_cons_zero, List.getElem?_cons_succ, List.set_cons_zero, List.set_cons_succ, List.map_cons, List.map_nil, List.length_cons, List.length_nil, List.cons_append, List.nil_append, List.replicate_succ, List.replicate_zero, Option.getD_some, Option.getD_none, decide_eq_true_eq, Bool.false_eq_true, Bool.true_eq_false, Bool.not_true, Bool.not_false, Bool.not_eq_true', decide_eq_false_iff_not, if_true, if_false, Nat.zero_add, Nat.reduceAdd, Nat.reduceSub, Nat.sub_self, Nat.sub_zero, Nat.add_zero, Nat.reduceEqDiff, List.isEmpty_nil, List.isEmpty_cons, o_add, o_sub, o_neg, o_lt, o_le, o_gt, o_ge, o_eqI, o_neI, o_eqB, o_neB, o_isN, o_isNotN, o_isB, n_non, n_bool, n_int, n_str, n_list, n_tuple, t_non, t_bool, t_int, t_list, t_tuple, o_ixT0, o_ixT1, o_ixT2, o_ixT3, o_ixT4, o_ixL0, o_ixL1, o_ixL2, o_ixL3, ix0, ix1, ix2, ix3, b_lenL, b_lenT, b_abs, b_int, b_tupL, b_tupT, b_lstL, b_lstT, b_gcd, b_max2, b_min2, fm_round_sites, m_round_sites, e1, L]
def t_inr (c m : Int × Int) (q : Int) : Option Bool := (mu (c.1 - m.1) (c.1 - m.1)).bind fun a => (mu (c.2 - m.2) (c.2 - m.2)).bind fun b => (mu q q).bind fun d => some (decide (a + b ≤ d))
theorem r_inr {c m : Int × Int} {q : Int} {b : Bool} (h : t_inr c m q = some b) : fm_is_in_round [pr c, pr m, .int q] = some (.bool b, [pr c, pr m, .int q]) := by
  obtain ⟨x, h1, h⟩ := bd h
  obtain ⟨y, h2, h⟩ := bd h
  obtain ⟨z, h3, h⟩ := bd h
  cases h
  simp only [e_mVar, e_kVar, e_mMov, e_kMov, e_mCst, e_kO, e_kOb, e_kOl, e_mBin, e_kB1, e_kB2, e_mUn, e_kU, e_mTb, e_kTb, e_mTru, e_kTru, e_mNot, e_kNot, e_mAnd, e_kAnd, e_mOr, e_kOr, e_mAndV, e_kAndVt, e_kAndVf, e_mOrV, e_kOrVt, e_kOrVf, e_mNotV, e_kNotV, e_mNotB, e_kNotB, e_kNB, e_mIf, e_kIf, e_kIfS, e_mNil, e_mCons, e_kC1, e_kC2, e_mTup, e_kTup, e_mLst, e_kLst, e_mCall, e_mRng, e_kCall, e_kCallR, e_mNoP, e_mP, e_kPI, e_mSl, e_kS1, e_kS2, e_kS3, e_kCh1, e_kCh2, e_kCh3t, e_kCh3f, e_mYes, e_mItems, e_kItL, e_kItT, e_mIsi, e_kIsi, e_mNol, e_kNolN, e_kNolI, e_kNolB, e_kNolS, e_kNolT, e_kNolD, e_mListS, e_kLS, e_gSet, e_gsNil, e_gsCons, e_kG, e_gTupM, e_aNil, e_aVal, e_kA1, e_kA2, e_aLent, e_kL1, e_kL2, e_mCallU, e_kU1, e_kU2, e_kU3, e_mFill0, e_mFill1, e_mFill2, e_kF, e_kFl, e_mBack0, e_mBack1, e_mBack2, e_sNil, e_sCons, e_kSeqN, e_kSeqB, e_kSeqC, e_kSeqR, e_sIf, e_sBk, e_sCt, e_sRet, e_kRet, e_sDrop, e_kDrop, e_sSet, e_kSet, e_sTgt, e_kTgt, e_kT2, e_sPar, e_kP1, e_kP2, e_kAp0, e_kAp1, e_kAp2, e_kPu1, e_kPu2, e_kPu3, e_kPu4, e_kPu5, e_mFor, e_kFor, e_sFor0, e_kF1, e_kF2N, e_kF2C, e_kF2B, e_kF2R, e_kW1, e_kW2N, e_kW2C, e_kW2B, e_kW2R, e_mLc, e_kLc, e_kLc2, e_mL0, e_kM1, e_kM2, e_kM3, e_kM4, e_wipe0, e_wipe1, e_res0, e_res1, e_mDef, e_kDefR, e_kDefN, e_kDO, e_mOu0, e_mOuF, e_mOuS, e_mOuL, e_kOu, e_mChain, e_sApp, e_sPut, e_kAndV, e_kOrV, e_kCh3, List.getElem?_cons_zero, List.getElem?_cons_succ, List.set_cons_zero, List.set_cons_succ, List.map_cons, List.map_nil, List.length_cons, List.length_nil, List.cons_append, List.nil_append, List.replicate_succ, List.replicate_zero, Option.getD_some, Option.getD_none, decide_eq_true_eq, Bool.false_eq_true, Bool.true_eq_false, Bool.not_true, Bool.not_false, Bool.not_eq_true', decide_eq_false_iff_not, if_true, if_false, Nat.zero_add, Nat.reduceAdd, Nat.reduceSub, Nat.sub_self, Nat.sub_zero, Nat.add_zero, Nat.reduceEqDiff, List.isEmpty_nil, List.isEmpty_cons, o_add, o_sub, o_neg, o_lt, o_le, o_gt, o_ge, o_eqI, o_neI, o_eqB, o_neB, o_isN, o_isNotN, o_isB, n_non, n_bool, n_int, n_str, n_list, n_tuple, t_non, t_bool, t_int, t_list, t_tuple, o_ixT0, o_ixT1, o_ixT2, o_ixT3, o_ixT4, o_ixL0, o_ixL1, o_ixL2, o_ixL3, ix0, ix1, ix2, ix3, b_lenL, b_lenT, b_abs, b_int, b_tupL, b_tupT, b_lstL, b_lstT, b_gcd, b_max2, b_min2, fm_is_in_round, m_is_in_round, o_mu h1, o_mu h2, o_mu h3, pr]
def t_mr (g : Int × Int) (ps : List (Int × Int)) (q : Int) : Option (Option (Int × Int)) := if ps.length < sizeLine then (t_rs g q).bind fun l => findO (fun x => (mapO (fun p => t_inr p x q) ps).map fun bs => !bs.any id) l else none
theorem r_mr {g : Int × Int} {ps : List (Int × Int)} {q : Int} {r : Option (Int × Int)} (h : t_mr g ps q = some r) : fm_missed_round [pr g, .tuple (ps.map pr), .int q] = some (oP r, [pr g, .tuple (ps.map pr), .int q]) := by
  unfold t_mr at h
  split at h
  · rename_i hl
    obtain ⟨l, h1, h⟩ := bd h
    have hl' := len_pr hl
    obtain ⟨ε', L, j, rfl⟩ := for_findO (mt := gSet 3) (mb := (sIf (mNot (mTru (mCall bAny (mCons (mLc (mItems (mVar 1)) (gSet 4) mYes (mCallU fm_is_in_round [none, none, none] (aVal (mVar 4) (aVal (mVar 3) (aVal (mVar 2) aNil)))) [4]) mNil)))) (sRet (mVar 3)) sNil)) pr pr (fun ε => ∃ j, ε = [some (pr g), some (.tuple (ps.map pr)), some (.int q), j, none]) (fun x => (mapO (fun p => t_inr p x q) ps).map fun bs => !bs.any id) l r [some (pr g), some (.tuple (ps.map pr)), some (.int q), none, none] (fun x b ε _ hi hb => by
      obtain ⟨j, rfl⟩ := hi
      obtain ⟨bs, h2, h3⟩ := map_of hb
      subst h3
      have L := lc_mapO (mt := gSet 4) (mk := mYes) (me := (mCallU fm_is_in_round [none, none, none] (aVal (mVar 4) (aVal (mVar 3) (aVal (mVar 2) aNil))))) pr PyData.bool (fun p => t_inr p x q) [4] [some (pr g), some (.tuple (ps.map pr)), some (.int q), some (pr x), none] ps bs (fun p b _ hb => by
        refine ⟨_, ?e, rfl, rfl, ?h, ?g⟩
        case h => simp only [e_mVar, e_kVar, e_mMov, e_kMov, e_mCst, e_kO, e_kOb, e_kOl, e_mBin, e_kB1, e_kB2, e_mUn, e_kU, e_mTb, e_kTb, e_mTru, e_kTru, e_mNot, e_kNot, e_mAnd, e_kAnd, e_mOr, e_kOr, e_mAndV, e_kAndVt, e_kAndVf, e_mOrV, e_kOrVt, e_kOrVf, e_mNotV, e_kNotV, e_mNotB, e_kNotB, e_kNB, e_mIf, e_kIf, e_kIfS, e_mNil, e_mCons, e_kC1, e_kC2, e_mTup, e_kTup, e_mLst, e_kLst, e_mCall, e_mRng, e_kCall, e_kCallR, e_mNoP, e_mP, e_kPI, e_mSl, e_kS1, e_kS2, e_kS3, e_kCh1, e_kCh2, e_kCh3t, e_kCh3f, e_mYes, e_mItems, e_kItL, e_kItT, e_mIsi, e_kIsi, e_mNol, e_kNolN, e_kNolI, e_kNolB, e_kNolS, e_kNolT, e_kNolD, e_mListS, e_kLS, e_gSet, e_gsNil, e_gsCons, e_kG, e_gTupM, e_aNil, e_aVal, e_kA1, e_kA2, e_aLent, e_kL1, e_kL2, e_mCallU, e_kU1, e_kU2, e_kU3, e_mFill0, e_mFill1, e_mFill2, e_kF, e_kFl, e_mBack0, e_mBack1, e_mBack2, e_sNil, e_sCons, e_kSeqN, e_kSeqB, e_kSeqC, e_kSeqR, e_sIf, e_sBk, e_sCt, e_sRet, e_kRet, e_sDrop, e_kDrop, e_sSet, e_kSet, e_sTgt, e_kTgt, e_kT2, e_sPar, e_kP1, e_kP2, e_kAp0, e_kAp1, e_kAp2, e_kPu1, e_kPu2, e_kPu3, e_kPu4, e_kPu5, e_mFor, e_kFor, e_sFor0, e_kF1, e_kF2N, e_kF2C, e_kF2B, e_kF2R, e_kW1, e_kW2N, e_kW2C, e_kW2B, e_kW2R, e_mLc, e_kLc, e_kLc2, e_mL0, e_kM1, e_kM2, e_kM3, e_kM4, e_wipe0, e_wipe1, e_res0, e_res1, e_mDef, e_kDefR, e_kDefN, e_kDO, e_mOu0, e_mOuF, e_mOuS, e_mOuL, e_kOu, e_mChain, e_sApp, e_sPut, e_kAndV, e_kOrV, e_kCh3, List.getElem?_cons_zero, List.getElem?_cons_succ, List.set_cons_zero, List.set_cons_succ, List.map_cons, List.map_nil, List.length_cons, List.length_nil, List.cons_append, List.nil_append, List.replicate_succ, List.replicate_zero, Option.getD_some, Option.getD_none, decide_eq_true_eq, Bool.false_eq_true, Bool.true_eq_false, Bool.not_true, Bool.not_false, Bool.not_eq_true', decide_eq_false_iff_not, if_true, if_false, Nat.zero_add, Nat.reduceAdd, Nat.reduceSub, Nat.sub_self, Nat.sub_zero, Nat.add_zero, Nat.reduceEqDiff, List.isEmpty_nil, List.isEmpty_cons, o_add, o_sub, o_neg, o_lt, o_le, o_gt, o_ge, o_eqI, o_neI, o_eqB, o_neB, o_isN, o_isNotN, o_isB, n_non, n_bool, n_int, n_str, n_list, n_tuple, t_non, t_bool, t_int, t_list, t_tuple, o_ixT0, o_ixT1, o_ixT2, o_ixT3, o_ixT4, o_ixL0, o_ixL1, o_ixL2, o_ixL3, ix0, ix1, ix2, ix3, b_lenL, b_lenT, b_abs, b_int, b_tupL, b_tupT, b_lstL, b_lstT, b_gcd, b_max2, b_min2, r_inr hb] <;> rfl
        case g => simp only [e_mVar, e_kVar, e_mMov, e_kMov, e_mCst, e_kO, e_kOb, e_kOl, e_mBin, e_kB1, e_kB2, e_mUn, e_kU, e_mTb, e_kTb, e_mTru, e_kTru, e_mNot, e_kNot, e_mAnd, e_kAnd, e_mOr, e_kOr, e_mAndV, e_kAndVt, e_kAndVf, e_mOrV, e_kOrVt, e_kOrVf, e_mNotV, e_kNotV, e_mNotB, e_kNotB, e_kNB, e_mIf, e_kIf, e_kIfS, e_mNil, e_mCons, e_kC1, e_kC2, e_mTup, e_kTup, e_mLst, e_kLst, e_mCall, e_mRng, e_kCall, e_kCallR, e_mNoP, e_mP, e_kPI, e_mSl, e_kS1, e_kS2, e_kS3, e_kCh1, e_kCh2, e_kCh3t, e_kCh3f, e_mYes, e_mItems, e_kItL, e_kItT, e_mIsi, e_kIsi, e_mNol, e_kNolN, e_kNolI, e_kNolB, e_kNolS, e_kNolT, e_kNolD, e_mListS, e_kLS, e_gSet, e_gsNil, e_gsCons, e_kG, e_gTupM, e_aNil, e_aVal, e_kA1, e_kA2, e_aLent, e_kL1, e_kL2, e_mCallU, e_kU1, e_kU2, e_kU3, e_mFill0, e_mFill1, e_mFill2, e_kF, e_kFl, e_mBack0, e_mBack1, e_mBack2, e_sNil, e_sCons, e_kSeqN, e_kSeqB, e_kSeqC, e_kSeqR, e_sIf, e_sBk, e_sCt, e_sRet, e_kRet, e_sDrop, e_kDrop, e_sSet, e_kSet, e_sTgt, e_kTgt, e_kT2, e_sPar, e_kP1, e_kP2, e_kAp0, e_kAp1, e_kAp2, e_kPu1, e_kPu2, e_kPu3, e_kPu4, e_kPu5, e_mFor, e_kFor, e_sFor0, e_kF1, e_kF2N, e_kF2C, e_kF2B, e_kF2R, e_kW1, e_kW2N, e_kW2C, e_kW2B, e_kW2R, e_mLc, e_kLc, e_kLc2, e_mL0, e_kM1, e_kM2, e_kM3, e_kM4, e_wipe0, e_wipe1, e_res0, e_res1, e_mDef, e_kDefR, e_kDefN, e_kDO, e_mOu0, e_mOuF, e_mOuS, e_mOuL, e_kOu, e_mChain, e_sApp, e_sPut, e_kAndV, e_kOrV, e_kCh3, List.getElem?_cons_zero, List.getElem?_cons_succ, List.set_cons_zero, List.set_cons_succ, List.map_cons, List.map_nil, List.length_cons, List.length_nil, List.cons_append, List.nil_append, List.replicate_succ, List.replicate_zero, Option.getD_some, Option.getD_none, decide_eq_true_eq, Bool.false_eq_true, Bool.true_eq_false, Bool.not_true, Bool.not_false, Bool.not_eq_true', decide_eq_false_iff_not, if_true, if_false, Nat.zero_add, Nat.reduceAdd, Nat.reduceSub, Nat.sub_self, Nat.sub_zero, Nat.add_zero, Nat.reduceEqDiff, List.isEmpty_nil, List.isEmpty_cons, o_add, o_sub, o_neg, o_lt, o_le, o_gt, o_ge, o_eqI, o_neI, o_eqB, o_neB, o_isN, o_isNotN, o_isB, n_non, n_bool, n_int, n_str, n_list, n_tuple, t_non, t_bool, t_int, t_list, t_tuple, o_ixT0, o_ixT1, o_ixT2, o_ixT3, o_ixT4, o_ixL0, o_ixL1, o_ixL2, o_ixL3, ix0, ix1, ix2, ix3, b_lenL, b_lenT, b_abs, b_int, b_tupL, b_tupT, b_lstL, b_lstT, b_gcd, b_max2, b_min2]) h2
      simp only [e_mVar, e_kVar, e_mMov, e_kMov, e_mCst, e_kO, e_kOb, e_kOl, e_mBin, e_kB1, e_kB2, e_mUn, e_kU, e_mTb, e_kTb, e_mTru, e_kTru, e_mNot, e_kNot, e_mAnd, e_kAnd, e_mOr, e_kOr, e_mAndV, e_kAndVt, e_kAndVf, e_mOrV, e_kOrVt, e_kOrVf, e_mNotV, e_kNotV, e_mNotB, e_kNotB, e_kNB, e_mIf, e_kIf, e_kIfS, e_mNil, e_mCons, e_kC1, e_kC2, e_mTup, e_kTup, e_mLst, e_kLst, e_mCall, e_mRng, e_kCall, e_kCallR, e_mNoP, e_mP, e_kPI, e_mSl, e_kS1, e_kS2, e_kS3, e_kCh1, e_kCh2, e_kCh3t, e_kCh3f, e_mYes, e_mItems, e_kItL, e_kItT, e_mIsi, e_kIsi, e_mNol, e_kNolN, e_kNolI, e_kNolB, e_kNolS, e_kNolT, e_kNolD, e_mListS, e_kLS, e_gSet, e_gsNil, e_gsCons, e_kG, e_gTupM, e_aNil, e_aVal, e_kA1, e_kA2, e_aLent, e_kL1, e_kL2, e_mCallU, e_kU1, e_kU2, e_kU3, e_mFill0, e_mFill1, e_mFill2, e_kF, e_kFl, e_mBack0, e_mBack1, e_mBack2, e_sNil, e_sCons, e_kSeqN, e_kSeqB, e_kSeqC, e_kSeqR, e_sIf, e_sBk, e_sCt, e_sRet, e_kRet, e_sDrop, e_kDrop, e_sSet, e_kSet, e_sTgt, e_kTgt, e_kT2, e_sPar, e_kP1, e_kP2, e_kAp0, e_kAp1, e_kAp2, e_kPu1, e_kPu2, e_kPu3, e_kPu4, e_kPu5, e_mFor, e_kFor, e_sFor0, e_kF1, e_kF2N, e_kF2C, e_kF2B, e_kF2R, e_kW1, e_kW2N, e_kW2C, e_kW2B, e_kW2R, e_mLc, e_kLc, e_kLc2, e_mL0, e_kM1, e_kM2, e_kM3, e_kM4, e_wipe0, e_wipe1, e_res0, e_res1, e_mDef, e_kDefR, e_kDefN, e_kDO, e_mOu0, e_mOuF, e_mOuS, e_mOuL, e_kOu, e_mChain, e_sApp, e_sPut, e_kAndV, e_kOrV, e_kCh3, List.getElem?_cons_zero, List.getElem?_cons_succ, List.set_cons_zero, List.set_cons_succ, List.map_cons, List.map_nil, List.length_cons, List.length_nil, List.cons_append, List.nil_append, List.replicate_succ, List.replicate_zero, Option.getD_some, Option.getD_none, decide_eq_true_eq, Bool.false_eq_true, Bool.true_eq_false, Bool.not_true, Bool.not_false, Bool.not_eq_true', decide_eq_false_iff_not, if_true, if_false, Nat.zero_add, Nat.reduceAdd, Nat.reduceSub, Nat.sub_self, Nat.sub_zero, Nat.add_zero, Nat.reduceEqDiff, List.isEmpty_nil, List.isEmpty_cons, o_add, o_sub, o_neg, o_lt, o_le, o_gt, o_ge, o_eqI, o_neI, o_eqB, o_neB, o_isN, o_isNotN, o_isB, n_non, n_bool, n_int, n_str, n_list, n_tuple, t_non, t_bool, t_int, t_list, t_tuple, o_ixT0, o_ixT1, o_ixT2, o_ixT3, o_ixT4, o_ixL0, o_ixL1, o_ixL2, o_ixL3, ix0, ix1, ix2, ix3, b_lenL, b_lenT, b_abs, b_int, b_tupL, b_tupT, b_lstL, b_lstT, b_gcd, b_max2, b_min2] at L
      refine ⟨_, [some (pr g), some (.tuple (ps.map pr)), some (.int q), some (pr x), none], rfl, ?_, _, rfl⟩
      cases hh : bs.any id with
      | true => simp only [e_mVar, e_kVar, e_mMov, e_kMov, e_mCst, e_kO, e_kOb, e_kOl, e_mBin, e_kB1, e_kB2, e_mUn, e_kU, e_mTb, e_kTb, e_mTru, e_kTru, e_mNot, e_kNot, e_mAnd, e_kAnd, e_mOr, e_kOr, e_mAndV, e_kAndVt, e_kAndVf, e_mOrV, e_kOrVt, e_kOrVf, e_mNotV, e_kNotV, e_mNotB, e_kNotB, e_kNB, e_mIf, e_kIf, e_kIfS, e_mNil, e_mCons, e_kC1, e_kC2, e_mTup, e_kTup, e_mLst, e_kLst, e_mCall, e_mRng, e_kCall, e_kCallR, e_mNoP, e_mP, e_kPI, e_mSl, e_kS1, e_kS2, e_kS3, e_kCh1, e_kCh2, e_kCh3t, e_kCh3f, e_mYes, e_mItems, e_kItL, e_kItT, e_mIsi, e_kIsi, e_mNol, e_kNolN, e_kNolI, e_kNolB, e_kNolS, e_kNolT, e_kNolD, e_mListS, e_kLS, e_gSet, e_gsNil, e_gsCons, e_kG, e_gTupM, e_aNil, e_aVal, e_kA1, e_kA2, e_aLent, e_kL1, e_kL2, e_mCallU, e_kU1, e_kU2, e_kU3, e_mFill0, e_mFill1, e_mFill2, e_kF, e_kFl, e_mBack0, e_mBack1, e_mBack2, e_sNil, e_sCons, e_kSeqN, e_kSeqB, e_kSeqC, e_kSeqR, e_sIf, e_sBk, e_sCt, e_sRet, e_kRet, e_sDrop, e_kDrop, e_sSet, e_kSet, e_sTgt, e_kTgt, e_kT2, e_sPar, e_kP1, e_kP2, e_kAp0, e_kAp1, e_kAp2, e_kPu1, e_kPu2, e_kPu3, e_kPu4, e_kPu5, e_mFor, e_kFor, e_sFor0, e_kF1, e_kF2N, e_kF2C, e_kF2B, e_kF2R, e_kW1, e_kW2N, e_kW2C, e_kW2B, e_kW2R, e_mLc, e_kLc, e_kLc2, e_mL0, e_kM1, e_kM2, e_kM3, e_kM4, e_wipe0, e_wipe1, e_res0, e_res1, e_mDef, e_kDefR, e_kDefN, e_kDO, e_mOu0, e_mOuF, e_mOuS, e_mOuL, e_kOu, e_mChain, e_sApp, e_sPut, e_kAndV, e_kOrV, e_kCh3, List.getElem?_cons_zero, List.getElem?_cons_succ, List.set_cons_zero, List.set_cons_succ, List.map_cons, List.map_nil, List.length_cons, List.length_nil, List.cons_append, List.nil_append, List.replicate_succ, List.replicate_zero, Option.getD_some, Option.getD_none, decide_eq_true_eq, Bool.false_eq_true, Bool.true_eq_false, Bool.not_true, Bool.not_false, Bool.not_eq_true', decide_eq_false_iff_not, if_true, if_false, Nat.zero_add, Nat.reduceAdd, Nat.reduceSub, Nat.sub_self, Nat.sub_zero, Nat.add_zero, Nat.reduceEqDiff, List.isEmpty_nil, List.isEmpty_cons, o_add, o_sub, o_neg, o_lt, o_le, o_gt, o_ge, o_eqI, o_neI, o_eqB, o_neB, o_isN, o_isNotN, o_isB, n_non, n_bool, n_int, n_str, n_list, n_tuple, t_non, t_bool, t_int, t_list, t_tuple, o_ixT0, o_ixT1, o_ixT2, o_ixT3, o_ixT4, o_ixL0, o_ixL1, o_ixL2, o_ixL3, ix0, ix1, ix2, ix3, b_lenL, b_lenT, b_abs, b_int, b_tupL, b_tupT, b_lstL, b_lstT, b_gcd, b_max2, b_min2, hl', L, b_any, hh]
      | false => simp only [e_mVar, e_kVar, e_mMov, e_kMov, e_mCst, e_kO, e_kOb, e_kOl, e_mBin, e_kB1, e_kB2, e_mUn, e_kU, e_mTb, e_kTb, e_mTru, e_kTru, e_mNot, e_kNot, e_mAnd, e_kAnd, e_mOr, e_kOr, e_mAndV, e_kAndVt, e_kAndVf, e_mOrV, e_kOrVt, e_kOrVf, e_mNotV, e_kNotV, e_mNotB, e_kNotB, e_kNB, e_mIf, e_kIf, e_kIfS, e_mNil, e_mCons, e_kC1, e_kC2, e_mTup, e_kTup, e_mLst, e_kLst, e_mCall, e_mRng, e_kCall, e_kCallR, e_mNoP, e_mP, e_kPI, e_mSl, e_kS1, e_kS2, e_kS3, e_kCh1, e_kCh2, e_kCh3t, e_kCh3f, e_mYes, e_mItems, e_kItL, e_kItT, e_mIsi, e_kIsi, e_mNol, e_kNolN, e_kNolI, e_kNolB, e_kNolS, e_kNolT, e_kNolD, e_mListS, e_kLS, e_gSet, e_gsNil, e_gsCons, e_kG, e_gTupM, e_aNil, e_aVal, e_kA1, e_kA2, e_aLent, e_kL1, e_kL2, e_mCallU, e_kU1, e_kU2, e_kU3, e_mFill0, e_mFill1, e_mFill2, e_kF, e_kFl, e_mBack0, e_mBack1, e_mBack2, e_sNil, e_sCons, e_kSeqN, e_kSeqB, e_kSeqC, e_kSeqR, e_sIf, e_sBk, e_sCt, e_sRet, e_kRet, e_sDrop, e_kDrop, e_sSet, e_kSet, e_sTgt, e_kTgt, e_kT2, e_sPar, e_kP1, e_kP2, e_kAp0, e_kAp1, e_kAp2, e_kPu1, e_kPu2, e_kPu3, e_kPu4, e_kPu5, e_mFor, e_kFor, e_sFor0, e_kF1, e_kF2N, e_kF2C, e_kF2B, e_kF2R, e_kW1, e_kW2N, e_kW2C, e_kW2B, e_kW2R, e_mLc, e_kLc, e_kLc2, e_mL0, e_kM1, e_kM2, e_kM3, e_kM4, e_wipe0, e_wipe1, e_res0, e_res1, e_mDef, e_kDefR, e_kDefN, e_kDO, e_mOu0, e_mOuF, e_mOuS, e_mOuL, e_kOu, e_mChain, e_sApp, e_sPut, e_kAndV, e_kOrV, e_kCh3, List.getElem?_cons_zero, List.getElem?_cons_succ, List.set_cons_zero, List.set_cons_succ, List.map_cons, List.map_nil, List.length_cons, List.length_nil, List.cons_append, List.nil_append, List.replicate_succ, List.replicate_zero, Option.getD_some, Option.getD_none, decide_eq_true_eq, Bool.false_eq_true, Bool.true_eq_false, Bool.not_true, Bool.not_false, Bool.not_eq_true', decide_eq_false_iff_not, if_true, if_false, Nat.zero_add, Nat.reduceAdd, Nat.reduceSub, Nat.sub_self, Nat.sub_zero, Nat.add_zero, Nat.reduceEqDiff, List.isEmpty_nil, List.isEmpty_cons, o_add, o_sub, o_neg, o_lt, o_le, o_gt, o_ge, o_eqI, o_neI, o_eqB, o_neB, o_isN, o_isNotN, o_isB, n_non, n_bool, n_int, n_str, n_list, n_tuple, t_non, t_bool, t_int, t_list, t_tuple, o_ixT0, o_ixT1, o_ixT2, o_ixT3, o_ixT4, o_ixL0, o_ixL1, o_ixL2, o_ixL3, ix0, ix1, ix2, ix3, b_lenL, b_lenT, b_abs, b_int, b_tupL, b_tupT, b_lstL, b_lstT, b_gcd, b_max2, b_min2, hl', L, b_any, hh]) ⟨_, rfl⟩ h
    cases r with
    | none => simp only [e_mVar, e_kVar, e_mMov, e_kMov, e_mCst, e_kO, e_kOb, e_kOl, e_mBin, e_kB1, e_kB2, e_mUn, e_kU, e_mTb, e_kTb, e_mTru, e_kTru, e_mNot, e_kNot, e_mAnd, e_kAnd, e_mOr, e_kOr, e_mAndV, e_kAndVt, e_kAndVf, e_mOrV, e_kOrVt, e_kOrVf, e_mNotV, e_kNotV, e_mNotB, e_kNotB, e_kNB, e_mIf, e_kIf, e_kIfS, e_mNil, e_mCons, e_kC1, e_kC2, e_mTup, e_kTup, e_mLst, e_kLst, e_mCall, e_mRng, e_kCall, e_kCallR, e_mNoP, e_mP, e_kPI, e_mSl, e_kS1, e_kS2, e_kS3, e_kCh1, e_kCh2, e_kCh3t, e_kCh3f, e_mYes, e_mItems, e_kItL, e_kItT, e_mIsi, e_kIsi, e_mNol, e_kNolN, e_kNolI, e_kNolB, e_kNolS, e_kNolT, e_kNolD, e_mListS, e_kLS, e_gSet, e_gsNil, e_gsCons, e_kG, e_gTupM, e_aNil, e_aVal, e_kA1, e_kA2, e_aLent, e_kL1, e_kL2, e_mCallU, e_kU1, e_kU2, e_kU3, e_mFill0, e_mFill1, e_mFill2, e_kF, e_kFl, e_mBack0, e_mBack1, e_mBack2, e_sNil, e_sCons, e_kSeqN, e_kSeqB, e_kSeqC, e_kSeqR, e_sIf, e_sBk, e_sCt, e_sRet, e_kRet, e_sDrop, e_kDrop, e_sSet, e_kSet, e_sTgt, e_kTgt, e_kT2, e_sPar, e_kP1, e_kP2, e_kAp0, e_kAp1, e_kAp2, e_kPu1, e_kPu2, e_kPu3, e_kPu4, e_kPu5, e_mFor, e_kFor, e_sFor0, e_kF1, e_kF2N, e_kF2C, e_kF2B, e_kF2R, e_kW1, e_kW2N, e_kW2C, e_kW2B, e_kW2R, e_mLc, e_kLc, e_kLc2, e_mL0, e_kM1, e_kM2, e_kM3, e_kM4, e_wipe0, e_wipe1, e_res0, e_res1, e_mDef, e_kDefR, e_kDefN, e_kDO, e_mOu0, e_mOuF, e_mOuS, e_mOuL, e_kOu, e_mChain, e_sApp, e_sPut, e_kAndV, e_kOrV, e_kCh3, List.getElem?_cons_zero, List.getElem?_cons_succ, List.set_cons_zero, List.set_cons_succ, List.map_cons, List.map_nil, List.length_cons, List.length_nil, List.cons_append, List.nil_append, List.replicate_succ, List.replicate_zero, Option.getD_some, Option.getD_none, decide_eq_true_eq, Bool.false_eq_true, Bool.true_eq_false, Bool.not_true, Bool.not_false, Bool.not_eq_true', decide_eq_false_iff_not, if_true, if_false, Nat.zero_add, Nat.reduceAdd, Nat.reduceSub, Nat.sub_self, Nat.sub_zero, Nat.add_zero, Nat.reduceEqDiff, List.isEmpty_nil, List.isEmpty_cons, o_add, o_sub, o_neg, o_lt, o_le, o_gt, o_ge, o_eqI, o_neI, o_eqB, o_neB, o_isN, o_isNotN, o_isB, n_non, n_bool, n_int, n_str, n_list, n_tuple, t_non, t_bool, t_int, t_list, t_tuple, o_ixT0, o_ixT1, o_ixT2, o_ixT3, o_ixT4, o_ixL0, o_ixL1, o_ixL2, o_ixL3, ix0, ix1, ix2, ix3, b_lenL, b_lenT, b_abs, b_int, b_tupL, b_tupT, b_lstL, b_lstT, b_gcd, b_max2, b_min2, fm_missed_round, m_missed_round, r_rs h1, L, fOut, oP]
    | some x => simp only [e_mVar, e_kVar, e_mMov, e_kMov, e_mCst, e_kO, e_kOb, e_kOl, e_mBin, e_kB1, e_kB2, e_mUn, e_kU, e_mTb, e_kTb, e_mTru, e_kTru, e_mNot, e_kNot, e_mAnd, e_kAnd, e_mOr, e_kOr, e_mAndV, e_kAndVt, e_kAndVf, e_mOrV, e_kOrVt, e_kOrVf, e_mNotV, e_kNotV, e_mNotB, e_kNotB, e_kNB, e_mIf, e_kIf, e_kIfS, e_mNil, e_mCons, e_kC1, e_kC2, e_mTup, e_kTup, e_mLst, e_kLst, e_mCall, e_mRng, e_kCall, e_kCallR, e_mNoP, e_mP, e_kPI, e_mSl, e_kS1, e_kS2, e_kS3, e_kCh1, e_kCh2, e_kCh3t, e_kCh3f, e_mYes, e_mItems, e_kItL, e_kItT, e_mIsi, e_kIsi, e_mNol, e_kNolN, e_kNolI, e_kNolB, e_kNolS, e_kNolT, e_kNolD, e_mListS, e_kLS, e_gSet, e_gsNil, e_gsCons, e_kG, e_gTupM, e_aNil, e_aVal, e_kA1, e_kA2, e_aLent, e_kL1, e_kL2, e_mCallU, e_kU1, e_kU2, e_kU3, e_mFill0, e_mFill1, e_mFill2, e_kF, e_kFl, e_mBack0, e_mBack1, e_mBack2, e_sNil, e_sCons, e_kSeqN, e_kSeqB, e_kSeqC, e_kSeqR, e_sIf, e_sBk, e_sCt, e_sRet, e_kRet, e_sDrop, e_kDrop, e_sSet, e_kSet, e_sTgt, e_kTgt, e_kT2, e_sPar, e_kP1, e_kP2, e_kAp0, e_kAp1, e_kAp2, e_kPu1, e_kPu2, e_kPu3, e_kPu4, e_kPu5, e_mFor, e_kFor, e_sFor0, e_kF1, e_kF2N, e_kF2C, e_kF2B, e_kF2R, e_kW1, e_kW2N, e_kW2C, e_kW2B, e_kW2R, e_mLc, e_kLc, e_kLc2, e_mL0, e_kM1, e_kM2, e_kM3, e_kM4, e_wipe0, e_wipe1, e_res0, e_res1, e_mDef, e_kDefR, e_kDefN, e_kDO, e_mOu0, e_mOuF, e_mOuS, e_mOuL, e_kOu, e_mChain, e_sApp, e_sPut, e_kAndV, e_kOrV, e_kCh3, List.getElem?_cons_zero, List.getElem?_cons_succ, List.set_cons_zero, List.set_cons_succ, List.map_cons, List.map_nil, List.length_cons, List.length_nil, List.cons_append, List.nil_append, List.replicate_succ, List.replicate_zero, Option.getD_some, Option.getD_none, decide_eq_true_eq, Bool.false_eq_true, Bool.true_eq_false, Bool.not_true, Bool.not_false, Bool.not_eq_true', decide_eq_false_iff_not, if_true, if_false, Nat.zero_add, Nat.reduceAdd, Nat.reduceSub, Nat.sub_self, Nat.sub_zero, Nat.add_zero, Nat.reduceEqDiff, List.isEmpty_nil, List.isEmpty_cons, o_add, o_sub, o_neg, o_lt, o_le, o_gt, o_ge, o_eqI, o_neI, o_eqB, o_neB, o_isN, o_isNotN, o_isB, n_non, n_bool, n_int, n_str, n_list, n_tuple, t_non, t_bool, t_int, t_list, t_tuple, o_ixT0, o_ixT1, o_ixT2, o_ixT3, o_ixT4, o_ixL0, o_ixL1, o_ixL2, o_ixL3, ix0, ix1, ix2, ix3, b_lenL, b_lenT, b_abs, b_int, b_tupL, b_tupT, b_lstL, b_lstT, b_gcd, b_max2, b_min2, fm_missed_round, m_missed_round, r_rs h1, L, fOut, oP]
  · cases h
def oI : Option Int → T
  | Option.none => .none
  | Option.some p => .int p
def t_wide (g : Int × Int) (ps : List (Int × Int)) : Option (Option Int) := findO (fun q => (t_mr g ps q).map Option.isSome) [5, 4, 3, 2, 1, 0]
theorem r_wide {g : Int × Int} {ps : List (Int × Int)} {r : Option Int} (h : t_wide g ps = some r) : fm_widest_missed [pr g, .tuple (ps.map pr)] = some (oI r, [pr g, .tuple (ps.map pr)]) := by
  obtain ⟨ε', L, j, rfl⟩ := for_findO (mt := gSet 2) (mb := (sIf (mTb (mBin opIsNot (mCallU fm_missed_round [none, none, none] (aVal (mVar 0) (aVal (mVar 1) (aVal (mVar 2) aNil)))) (mCst .none))) (sRet (mVar 2)) sNil)) PyData.int PyData.int (fun ε => ∃ j, ε = [some (pr g), some (.tuple (ps.map pr)), j]) (fun q => (t_mr g ps q).map Option.isSome) [5, 4, 3, 2, 1, 0] r [some (pr g), some (.tuple (ps.map pr)), none] (fun q b ε _ hi hb => by
    obtain ⟨j, rfl⟩ := hi
    obtain ⟨c, h2, h3⟩ := map_of hb
    subst h3
    refine ⟨_, [some (pr g), some (.tuple (ps.map pr)), some (.int q)], rfl, ?_, _, rfl⟩
    cases c with
    | none => simp only [e_mVar, e_kVar, e_mMov, e_kMov, e_mCst, e_kO, e_kOb, e_kOl, e_mBin, e_kB1, e_kB2, e_mUn, e_kU, e_mTb, e_kTb, e_mTru, e_kTru, e_mNot, e_kNot, e_mAnd, e_kAnd, e_mOr, e_kOr, e_mAndV, e_kAndVt, e_kAndVf, e_mOrV, e_kOrVt, e_kOrVf, e_mNotV, e_kNotV, e_mNotB, e_kNotB, e_kNB, e_mIf, e_kIf, e_kIfS, e_mNil, e_mCons, e_kC1, e_kC2, e_mTup, e_kTup, e_mLst, e_kLst, e_mCall, e_mRng, e_kCall, e_kCallR, e_mNoP, e_mP, e_kPI, e_mSl, e_kS1, e_kS2, e_kS3, e_kCh1, e_kCh2, e_kCh3t, e_kCh3f, e_mYes, e_mItems, e_kItL, e_kItT, e_mIsi, e_kIsi, e_mNol, e_kNolN, e_kNolI, e_kNolB, e_kNolS, e_kNolT, e_kNolD, e_mListS, e_kLS, e_gSet, e_gsNil, e_gsCons, e_kG, e_gTupM, e_aNil, e_aVal, e_kA1, e_kA2, e_aLent, e_kL1, e_kL2, e_mCallU, e_kU1, e_kU2, e_kU3, e_mFill0, e_mFill1, e_mFill2, e_kF, e_kFl, e_mBack0, e_mBack1, e_mBack2, e_sNil, e_sCons, e_kSeqN, e_kSeqB, e_kSeqC, e_kSeqR, e_sIf, e_sBk, e_sCt, e_sRet, e_kRet, e_sDrop, e_kDrop, e_sSet, e_kSet, e_sTgt, e_kTgt, e_kT2, e_sPar, e_kP1, e_kP2, e_kAp0, e_kAp1, e_kAp2, e_kPu1, e_kPu2, e_kPu3, e_kPu4, e_kPu5, e_mFor, e_kFor, e_sFor0, e_kF1, e_kF2N, e_kF2C, e_kF2B, e_kF2R, e_kW1, e_kW2N, e_kW2C, e_kW2B, e_kW2R, e_mLc, e_kLc, e_kLc2, e_mL0, e_kM1, e_kM2, e_kM3, e_kM4, e_wipe0, e_wipe1, e_res0, e_res1, e_mDef, e_kDefR, e_kDefN, e_kDO, e_mOu0, e_mOuF, e_mOuS, e_mOuL, e_kOu, e_mChain, e_sApp, e_sPut, e_kAndV, e_kOrV, e_kCh3, List.getElem?_cons_zero, List.getElem?_cons_succ, List.set_cons_zero, List.set_cons_succ, List.map_cons, List.map_nil, List.length_cons, List.length_nil, List.cons_append, List.nil_append, List.replicate_succ, List.replicate_zero, Option.getD_some, Option.getD_none, decide_eq_true_eq, Bool.false_eq_true, Bool.true_eq_false, Bool.not_true, Bool.not_false, Bool.not_eq_true', decide_eq_false_iff_not, if_true, if_false, Nat.zero_add, Nat.reduceAdd, Nat.reduceSub, Nat.sub_self, Nat.sub_zero, Nat.add_zero, Nat.reduceEqDiff, List.isEmpty_nil, List.isEmpty_cons, o_add, o_sub, o_neg, o_lt, o_le, o_gt, o_ge, o_eqI, o_neI, o_eqB, o_neB, o_isN, o_isNotN, o_isB, n_non, n_bool, n_int, n_str, n_list, n_tuple, t_non, t_bool, t_int, t_list, t_tuple, o_ixT0, o_ixT1, o_ixT2, o_ixT3, o_ixT4, o_ixL0, o_ixL1, o_ixL2, o_ixL3, ix0, ix1, ix2, ix3, b_lenL, b_lenT, b_abs, b_int, b_tupL, b_tupT, b_lstL, b_lstT, b_gcd, b_max2, b_min2, r_mr h2, n_oP, Option.isNone_none, Option.isSome_none]
    | some c => simp only [e_mVar, e_kVar, e_mMov, e_kMov, e_mCst, e_kO, e_kOb, e_kOl, e_mBin, e_kB1, e_kB2, e_mUn, e_kU, e_mTb, e_kTb, e_mTru, e_kTru, e_mNot, e_kNot, e_mAnd, e_kAnd, e_mOr, e_kOr, e_mAndV, e_kAndVt, e_kAndVf, e_mOrV, e_kOrVt, e_kOrVf, e_mNotV, e_kNotV, e_mNotB, e_kNotB, e_kNB, e_mIf, e_kIf, e_kIfS, e_mNil, e_mCons, e_kC1, e_kC2, e_mTup, e_kTup, e_mLst, e_kLst, e_mCall, e_mRng, e_kCall, e_kCallR, e_mNoP, e_mP, e_kPI, e_mSl, e_kS1, e_kS2, e_kS3, e_kCh1, e_kCh2, e_kCh3t, e_kCh3f, e_mYes, e_mItems, e_kItL, e_kItT, e_mIsi, e_kIsi, e_mNol, e_kNolN, e_kNolI, e_kNolB, e_kNolS, e_kNolT, e_kNolD, e_mListS, e_kLS, e_gSet, e_gsNil, e_gsCons, e_kG, e_gTupM, e_aNil, e_aVal, e_kA1, e_kA2, e_aLent, e_kL1, e_kL2, e_mCallU, e_kU1, e_kU2, e_kU3, e_mFill0, e_mFill1, e_mFill2, e_kF, e_kFl, e_mBack0, e_mBack1, e_mBack2, e_sNil, e_sCons, e_kSeqN, e_kSeqB, e_kSeqC, e_kSeqR, e_sIf, e_sBk, e_sCt, e_sRet, e_kRet, e_sDrop, e_kDrop, e_sSet, e_kSet, e_sTgt, e_kTgt, e_kT2, e_sPar, e_kP1, e_kP2, e_kAp0, e_kAp1, e_kAp2, e_kPu1, e_kPu2, e_kPu3, e_kPu4, e_kPu5, e_mFor, e_kFor, e_sFor0, e_kF1, e_kF2N, e_kF2C, e_kF2B, e_kF2R, e_kW1, e_kW2N, e_kW2C, e_kW2B, e_kW2R, e_mLc, e_kLc, e_kLc2, e_mL0, e_kM1, e_kM2, e_kM3, e_kM4, e_wipe0, e_wipe1, e_res0, e_res1, e_mDef, e_kDefR, e_kDefN, e_kDO, e_mOu0, e_mOuF, e_mOuS, e_mOuL, e_kOu, e_mChain, e_sApp, e_sPut, e_kAndV, e_kOrV, e_kCh3, List.getElem?_cons_zero, List.getElem?_cons_succ, List.set_cons_zero, List.set_cons_succ, List.map_cons, List.map_nil, List.length_cons, List.length_nil, List.cons_append, List.nil_append, List.replicate_succ, List.replicate_zero, Option.getD_some, Option.getD_none, decide_eq_true_eq, Bool.false_eq_true, Bool.true_eq_false, Bool.not_true, Bool.not_false, Bool.not_eq_true', decide_eq_false_iff_not, if_true, if_false, Nat.zero_add, Nat.reduceAdd, Nat.reduceSub, Nat.sub_self, Nat.sub_zero, Nat.add_zero, Nat.reduceEqDiff, List.isEmpty_nil, List.isEmpty_cons, o_add, o_sub, o_neg, o_lt, o_le, o_gt, o_ge, o_eqI, o_neI, o_eqB, o_neB, o_isN, o_isNotN, o_isB, n_non, n_bool, n_int, n_str, n_list, n_tuple, t_non, t_bool, t_int, t_list, t_tuple, o_ixT0, o_ixT1, o_ixT2, o_ixT3, o_ixT4, o_ixL0, o_ixL1, o_ixL2, o_ixL3, ix0, ix1, ix2, ix3, b_lenL, b_lenT, b_abs, b_int, b_tupL, b_tupT, b_lstL, b_lstT, b_gcd, b_max2, b_min2, r_mr h2, n_oP, Option.isNone_some, Option.isSome_some]) ⟨_, rfl⟩ h
  have e1 : rng3 [.int 5, .int (-1), .int (-1)] = some ([5, 4, 3, 2, 1, 0].map PyData.int) := r_rg3 (by decide +kernel)
  generalize ([5, 4, 3, 2, 1, 0] : List Int).map PyData.int = l0 at L e1
  cases r with
  | none => simp only [e_mVar, e_kVar, e_mMov, e_kMov, e_mCst, e_kO, e_kOb, e_kOl, e_mBin, e_kB1, e_kB2, e_mUn, e_kU, e_mTb, e_kTb, e_mTru, e_kTru, e_mNot, e_kNot, e_mAnd, e_kAnd, e_mOr, e_kOr, e_mAndV, e_kAndVt, e_kAndVf, e_mOrV, e_kOrVt, e_kOrVf, e_mNotV, e_kNotV, e_mNotB, e_kNotB, e_kNB, e_mIf, e_kIf, e_kIfS, e_mNil, e_mCons, e_kC1, e_kC2, e_mTup, e_kTup, e_mLst, e_kLst, e_mCall, e_mRng, e_kCall, e_kCallR, e_mNoP, e_mP, e_kPI, e_mSl, e_kS1, e_kS2, e_kS3, e_kCh1, e_kCh2, e_kCh3t, e_kCh3f, e_mYes, e_mItems, e_kItL, e_kItT, e_mIsi, e_kIsi, e_mNol, e_kNolN, e_kNolI, e_kNolB, e_kNolS, e_kNolT, e_kNolD, e_mListS, e_kLS, e_gSet, e_gsNil, e_gsCons, e_kG, e_gTupM, e_aNil, e_aVal, e_kA1, e_kA2, e_aLent, e_kL1, e_kL2, e_mCallU, e_kU1, e_kU2, e_kU3, e_mFill0, e_mFill1, e_mFill2, e_kF, e_kFl, e_mBack0, e_mBack1, e_mBack2, e_sNil, e_sCons, e_kSeqN, e_kSeqB, e_kSeqC, e_kSeqR, e_sIf, e_sBk, e_sCt, e_sRet, e_kRet, e_sDrop, e_kDrop, e_sSet, e_kSet, e_sTgt, e_kTgt, e_kT2, e_sPar, e_kP1, e_kP2, e_kAp0, e_kAp1, e_kAp2, e_kPu1, e_kPu2, e_kPu3, e_kPu4, e_kPu5, e_mFor, e_kFor, e_sFor0, e_kF1, e_kF2N, e_kF2C, e_kF2B, e_kF2R, e_kW1, e_kW2N, e_kW2C, e_kW2B, e_kW2R, e_mLc, e_kLc, e_kLc2, e_mL0, e_kM1, e_kM2, e_kM3, e_kM4, e_wipe0, e_wipe1, e_res0, e_res1, e_mDef, e_kDefR, e_kDefN, e_kDO, e_mOu0, e_mOuF, e_mOuS, e_mOuL, e_kOu, e_mChain, e_sApp, e_sPut, e_kAndV, e_kOrV, e_kCh3, List.getElem?_cons_zero, List.getElem?_cons_succ, List.set_cons_zero, List.set_cons_succ, List.map_cons, List.map_nil, List.length_cons, List.length_nil, List.cons_append, List.nil_append, List.replicate_succ, List.replicate_zero, Option.getD_some, Option.getD_none, decide_eq_true_eq, Bool.false_eq_true, Bool.true_eq_false, Bool.not_true, Bool.not_false, Bool.not_eq_true', decide_eq_false_iff_not, if_true, if_false, Nat.zero_add, Nat.reduceAdd, Nat.reduceSub, Nat.sub_self, Nat.sub_zero, Nat.add_zero, Nat.reduceEqDiff, List.isEmpty_nil, List.isEmpty_cons, o_add, o_sub, o_neg, o_lt, o_le, o_gt, o_ge, o_eqI, o_neI, o_eqB, o_neB, o_isN, o_isNotN, o_isB, n_non, n_bool, n_int, n_str, n_list, n_tuple, t_non, t_bool, t_int, t_list, t_tuple, o_ixT0, o_ixT1, o_ixT2, o_ixT3, o_ixT4, o_ixL0, o_ixL1, o_ixL2, o_ixL3, ix0, ix1, ix2, ix3, b_lenL, b_lenT, b_abs, b_int, b_tupL, b_tupT, b_lstL, b_lstT, b_gcd, b_max2, b_min2, fm_widest_missed, m_widest_missed, e1, L, fOut, oI] <;> rfl
  | some x => simp only [e_mVar, e_kVar, e_mMov, e_kMov, e_mCst, e_kO, e_kOb, e_kOl, e_mBin, e_kB1, e_kB2, e_mUn, e_kU, e_mTb, e_kTb, e_mTru, e_kTru, e_mNot, e_kNot, e_mAnd, e_kAnd, e_mOr, e_kOr, e_mAndV, e_kAndVt, e_kAndVf, e_mOrV, e_kOrVt, e_kOrVf, e_mNotV, e_kNotV, e_mNotB, e_kNotB, e_kNB, e_mIf, e_kIf, e_kIfS, e_mNil, e_mCons, e_kC1, e_kC2, e_mTup, e_kTup, e_mLst, e_kLst, e_mCall, e_mRng, e_kCall, e_kCallR, e_mNoP, e_mP, e_kPI, e_mSl, e_kS1, e_kS2, e_kS3, e_kCh1, e_kCh2, e_kCh3t, e_kCh3f, e_mYes, e_mItems, e_kItL, e_kItT, e_mIsi, e_kIsi, e_mNol, e_kNolN, e_kNolI, e_kNolB, e_kNolS, e_kNolT, e_kNolD, e_mListS, e_kLS, e_gSet, e_gsNil, e_gsCons, e_kG, e_gTupM, e_aNil, e_aVal, e_kA1, e_kA2, e_aLent, e_kL1, e_kL2, e_mCallU, e_kU1, e_kU2, e_kU3, e_mFill0, e_mFill1, e_mFill2, e_kF, e_kFl, e_mBack0, e_mBack1, e_mBack2, e_sNil, e_sCons, e_kSeqN, e_kSeqB, e_kSeqC, e_kSeqR, e_sIf, e_sBk, e_sCt, e_sRet, e_kRet, e_sDrop, e_kDrop, e_sSet, e_kSet, e_sTgt, e_kTgt, e_kT2, e_sPar, e_kP1, e_kP2, e_kAp0, e_kAp1, e_kAp2, e_kPu1, e_kPu2, e_kPu3, e_kPu4, e_kPu5, e_mFor, e_kFor, e_sFor0, e_kF1, e_kF2N, e_kF2C, e_kF2B, e_kF2R, e_kW1, e_kW2N, e_kW2C, e_kW2B, e_kW2R, e_mLc, e_kLc, e_kLc2, e_mL0, e_kM1, e_kM2, e_kM3, e_kM4, e_wipe0, e_wipe1, e_res0, e_res1, e_mDef, e_kDefR, e_kDefN, e_kDO, e_mOu0, e_mOuF, e_mOuS, e_mOuL, e_kOu, e_mChain, e_sApp, e_sPut, e_kAndV, e_kOrV, e_kCh3, List.getElem?_cons_zero, List.getElem?_cons_succ, List.set_cons_zero, List.set_cons_succ, List.map_cons, List.map_nil, List.length_cons, List.length_nil, List.cons_append, List.nil_append, List.replicate_succ, List.replicate_zero, Option.getD_some, Option.getD_none, decide_eq_true_eq, Bool.false_eq_true, Bool.true_eq_false, Bool.not_true, Bool.not_false, Bool.not_eq_true', decide_eq_false_iff_not, if_true, if_false, Nat.zero_add, Nat.reduceAdd, Nat.reduceSub, Nat.sub_self, Nat.sub_zero, Nat.add_zero, Nat.reduceEqDiff, List.isEmpty_nil, List.isEmpty_cons, o_add, o_sub, o_neg, o_lt, o_le, o_gt, o_ge, o_eqI, o_neI, o_eqB, o_neB, o_isN, o_isNotN, o_isB, n_non, n_bool, n_int, n_str, n_list, n_tuple, t_non, t_bool, t_int, t_list, t_tuple, o_ixT0, o_ixT1, o_ixT2, o_ixT3, o_ixT4, o_ixL0, o_ixL1, o_ixL2, o_ixL3, ix0, ix1, ix2, ix3, b_lenL, b_lenT, b_abs, b_int, b_tupL, b_tupT, b_lstL, b_lstT, b_gcd, b_max2, b_min2, fm_widest_missed, m_widest_missed, e1, L, fOut, oI] <;> rfl
end K86

set_option maxRecDepth 100000
set_option linter.all false
set_option Elab.async false
namespace K86
open PySem Dg L2
def t_turn (g s : Int × Int) (ps : List (Int × Int)) : Option (List (Int × Int)) :=
  (t_next g ps s).bind fun c => (t_share g ps s).bind fun bf => (t_missed g ps s).bind fun ms =>
    if c.isNone = ms.isNone ∧ c.isNone = decide (bf = (1, 1)) then match c with
      | none => some ps
      | some c => if ps.length + 1 ≤ sizeLine then (t_share g (insS leP (ps ++ [c])) s).bind fun sh => (t_less bf sh).bind fun b => if b = true then some (insS leP (ps ++ [c])) else none else none
    else none
def chk5 (g s : Int × Int) (ps : List (Int × Int)) : Option Unit :=
  (t_few g s).bind fun ap => if ap.length < sizeLine then (t_planW g s (ap.length + 20) 64 []).bind fun row => (t_missed g (insS leP row) s).bind fun ms =>
    if ms = none ∧ ¬ row.length < ap.length then (t_sites g s).bind fun ss => if ap.isEmpty = ss.isEmpty then
      (t_few (g.2, g.1) (s.2, s.1)).bind fun ap2 => (t_sites (g.2, g.1) (s.2, s.1)).bind fun ss2 => if ap2.length = ap.length ∧ ss2.length = ss.length then
        (t_wide g ps).bind fun w => (mapO (fun r => (t_mr g ps r).map fun m => m.isNone || (match w with | none => false | some w => decide (r ≤ w))) [0, 1, 2, 3, 4, 5]).bind fun bs => if bs.all id = true then some () else none
      else none else none
    else none else none
def chk4 (g s : Int × Int) : Option Unit := (t_turn g s []).bind fun p1 => (t_turn g s p1).bind fun p2 => (t_turn g s p2).bind fun p3 => chk5 g s p3
theorem all4 : (List.range 6).all (fun a => (List.range 5).all fun b => (List.range 3).all fun c => (List.range 3).all fun d => (chk4 (a + 1, b + 1) (c + 1, d + 1)).isSome) = true := by decide +kernel
end K86

set_option maxRecDepth 100000
set_option linter.all false
set_option Elab.async false
namespace K86
open PySem Dg L2
theorem seqT {s1 s2 : Ms} {ε ε1 : Envt} (h : s1 ε = some (.nx, ε1)) (h2 : ∃ x ε', s2 ε1 = some (.rt (.bool true), x :: ε')) : ∃ x ε', sCons s1 s2 ε = some (.rt (.bool true), x :: ε') := by rw [e_sCons, h]; exact h2
theorem get1 {b h s : Int} (hb : 0 ≤ b ∧ b < 9) (hh : 0 ≤ h ∧ h < 1 + b + 1) (hs : 0 ≤ s ∧ s < 1 + b + 1) : ∃ told, chk1 (1 + b) h s = some told := by
  have e := List.all_eq_true.mp (List.all_eq_true.mp (List.all_eq_true.mp all1 b.toNat (List.mem_range.mpr (by omega))) h.toNat (List.mem_range.mpr (by omega))) s.toNat (List.mem_range.mpr (by omega))
  rw [show ((b.toNat : Int) + 1) = 1 + b by omega, Int.toNat_of_nonneg hh.1, Int.toNat_of_nonneg hs.1] at e
  exact Option.isSome_iff_exists.mp e
theorem get2 {b h p : Int} (hb : 0 ≤ b ∧ b < 9) (hh : 0 ≤ h ∧ h < 1 + b + 1) (hp : 0 ≤ p ∧ p < 9) : ∃ u, chk2 (1 + b) h p = some u := by
  have e := List.all_eq_true.mp (List.all_eq_true.mp (List.all_eq_true.mp all2 b.toNat (List.mem_range.mpr (by omega))) h.toNat (List.mem_range.mpr (by omega))) p.toNat (List.mem_range.mpr (by omega))
  rw [show ((b.toNat : Int) + 1) = 1 + b by omega, Int.toNat_of_nonneg hh.1, Int.toNat_of_nonneg hp.1] at e
  exact Option.isSome_iff_exists.mp e
theorem get3 {b s f : Int} (hb : 0 ≤ b ∧ b < 9) (hs : 0 ≤ s ∧ s < 1 + b + 1) (hf : 0 ≤ f ∧ f < s + 1) : ∃ u, chk3 (1 + b) s f = some u := by
  have e := List.all_eq_true.mp (List.all_eq_true.mp (List.all_eq_true.mp all3 b.toNat (List.mem_range.mpr (by omega))) s.toNat (List.mem_range.mpr (by omega))) f.toNat (List.mem_range.mpr (by omega))
  rw [show ((b.toNat : Int) + 1) = 1 + b by omega, Int.toNat_of_nonneg hs.1, Int.toNat_of_nonneg hf.1] at e
  exact Option.isSome_iff_exists.mp e
theorem get4 {a b c d : Int} (ha : 0 ≤ a ∧ a < 6) (hb : 0 ≤ b ∧ b < 5) (hc : 0 ≤ c ∧ c < 3) (hd : 0 ≤ d ∧ d < 3) : ∃ u, chk4 (1 + a, 1 + b) (1 + c, 1 + d) = some u := by
  have e := List.all_eq_true.mp (List.all_eq_true.mp (List.all_eq_true.mp (List.all_eq_true.mp all4 a.toNat (List.mem_range.mpr (by omega))) b.toNat (List.mem_range.mpr (by omega))) c.toNat (List.mem_range.mpr (by omega))) d.toNat (List.mem_range.mpr (by omega))
  rw [show ((a.toNat : Int) + 1) = 1 + a by omega, show ((b.toNat : Int) + 1) = 1 + b by omega, show ((c.toNat : Int) + 1) = 1 + c by omega, show ((d.toNat : Int) + 1) = 1 + d by omega] at e
  exact Option.isSome_iff_exists.mp e
theorem nx_eq : fm__law_next = fm_next := rfl
theorem dr_eq : fm__law_draw = fm_draw := rfl
theorem sm_eq : ∀ k, fm__law_same k = fm_same k
  | 0 => rfl
  | k + 1 => by
    have ih := sm_eq k
    show mDef _ _ (m__law_same (fm__law_same k)) = mDef _ _ (m_same (fm_same k))
    rw [ih]; rfl
theorem sm_pr (p : Int × Int) : fm__law_same 6 [pr p, pr p] = some (.bool true, [pr p, pr p]) := by
  rw [sm_eq]; exact same_refl (SOk.pr (k := 4) p)
theorem o_nePr {a b : Int × Int} : opNe (pr a) (pr b) = some (.bool (!decide (a = b))) := o_neE (α := Int × Int)
theorem o_nePr' {a : Int × Int} {c d : Int} : opNe (pr a) (.tuple [.int c, .int d]) = some (.bool (!decide (a = (c, d)))) := o_neE (α := Int × Int) (b := (c, d))
theorem o_eqPr' {a : Int × Int} {c d : Int} : opEq (pr a) (.tuple [.int c, .int d]) = some (.bool (decide (a = (c, d)))) := o_eqE (α := Int × Int) (b := (c, d))
theorem sz_small {n : Nat} (h : n < 1000) : n < sizeLine := by
  have : sizeLine = 16777216 := by decide
  omega
theorem rg_ok {n : Int} (h0 : 0 ≤ n) (h : n < 1000) : rng1 [.int n] = some ((rg n).map .int) ∧ ((rg n).map PyData.int).length < sizeLine := ⟨rng1_i (rngOk_i (by omega) (by omega)), by rw [List.length_map]; unfold rg; rw [rI_length]; exact sz_small (by omega)⟩
theorem mem_rg {n x : Int} (h : x ∈ rg n) : 0 ≤ x := (rI_mem.mp h).1
/-- the part on the pits -/
theorem pit1 {g s : Int × Int} {ps ps' : List (Int × Int)} (h : t_turn g s ps = some ps') {e0 e1 e2 e3 e4 e5 e6 e7 e8 e9 e10 e14 e15 e16 e17 e18 e19 e20 e21 : Option T} :
    ∃ k15 k16, (sCons (sPar 15 16 (mCallU fm_next_pit [none, none, none] (aVal (mVar 11) (aVal (mVar 13) (aVal (mVar 12) aNil)))) (mCallU fm_share [none, none, none] (aVal (mVar 11) (aVal (mVar 13) (aVal (mVar 12) aNil))))) (sCons (sIf (mOr (mTb (mBin opNe (mBin opIs (mVar 15) (mCst .none)) (mBin opIs (mCallU fm_missed [none, none, none] (aVal (mVar 11) (aVal (mVar 13) (aVal (mVar 12) aNil)))) (mCst .none)))) (mTb (mBin opNe (mBin opIs (mVar 15) (mCst .none)) (mBin opEq (mVar 16) (mTup (mCons (mCst (.int 1)) (mCons (mCst (.int 1)) mNil))))))) (sRet (mCst (.bool false))) sNil) (sIf (mTb (mBin opIsNot (mVar 15) (mCst .none))) (sCons (sSet 13 (mCall bTuple (mCons (mCall bSorted (mCons (mBin opAdd (mVar 13) (mTup (mCons (mVar 15) mNil))) mNil)) mNil))) (sIf (mNot (mTru (mCallU fm__law_below [none, none] (aVal (mVar 16) (aVal (mCallU fm_share [none, none, none] (aVal (mVar 11) (aVal (mVar 13) (aVal (mVar 12) aNil)))) aNil))))) (sRet (mCst (.bool false))) sNil)) sNil))) [e0, e1, e2, e3, e4, e5, e6, e7, e8, e9, e10, some (pr g), some (pr s), some (.tuple (ps.map pr)), e14, e15, e16, e17, e18, e19, e20, e21] = some (.nx, [e0, e1, e2, e3, e4, e5, e6, e7, e8, e9, e10, some (pr g), some (pr s), some (.tuple (ps'.map pr)), e14, k15, k16, e17, e18, e19, e20, e21]) := by
  obtain ⟨c, h1, h⟩ := bd h
  obtain ⟨bf, h2, h⟩ := bd h
  obtain ⟨ms, h3, h⟩ := bd h
  split at h
  · rename_i hc
    cases c with
    | none =>
      cases h
      have d1 : ms.isNone = true := hc.1.symm
      have d2 : decide (bf = (1, 1)) = true := hc.2.symm
      exact ⟨_, _, by simp only [e_mVar, e_kVar, e_mMov, e_kMov, e_mCst, e_kO, e_kOb, e_kOl, e_mBin, e_kB1, e_kB2, e_mUn, e_kU, e_mTb, e_kTb, e_mTru, e_kTru, e_mNot, e_kNot, e_mAnd, e_kAnd, e_mOr, e_kOr, e_mAndV, e_kAndVt, e_kAndVf, e_mOrV, e_kOrVt, e_kOrVf, e_mNotV, e_kNotV, e_mNotB, e_kNotB, e_kNB, e_mIf, e_kIf, e_kIfS, e_mNil, e_mCons, e_kC1, e_kC2, e_mTup, e_kTup, e_mLst, e_kLst, e_mCall, e_mRng, e_kCall, e_kCallR, e_mNoP, e_mP, e_kPI, e_mSl, e_kS1, e_kS2, e_kS3, e_kCh1, e_kCh2, e_kCh3t, e_kCh3f, e_mYes, e_mItems, e_kItL, e_kItT, e_mIsi, e_kIsi, e_mNol, e_kNolN, e_kNolI, e_kNolB, e_kNolS, e_kNolT, e_kNolD, e_mListS, e_kLS, e_gSet, e_gsNil, e_gsCons, e_kG, e_gTupM, e_aNil, e_aVal, e_kA1, e_kA2, e_aLent, e_kL1, e_kL2, e_mCallU, e_kU1, e_kU2, e_kU3, e_mFill0, e_mFill1, e_mFill2, e_kF, e_kFl, e_mBack0, e_mBack1, e_mBack2, e_sNil, e_sCons, e_kSeqN, e_kSeqB, e_kSeqC, e_kSeqR, e_sIf, e_sBk, e_sCt, e_sRet, e_kRet, e_sDrop, e_kDrop, e_sSet, e_kSet, e_sTgt, e_kTgt, e_kT2, e_sPar, e_kP1, e_kP2, e_kAp0, e_kAp1, e_kAp2, e_kPu1, e_kPu2, e_kPu3, e_kPu4, e_kPu5, e_mFor, e_kFor, e_sFor0, e_kF1, e_kF2N, e_kF2C, e_kF2B, e_kF2R, e_kW1, e_kW2N, e_kW2C, e_kW2B, e_kW2R, e_mLc, e_kLc, e_kLc2, e_mL0, e_kM1, e_kM2, e_kM3, e_kM4, e_wipe0, e_wipe1, e_res0, e_res1, e_mDef, e_kDefR, e_kDefN, e_kDO, e_mOu0, e_mOuF, e_mOuS, e_mOuL, e_kOu, e_mChain, e_sApp, e_sPut, e_kAndV, e_kOrV, e_kCh3, List.getElem?_cons_zero, List.getElem?_cons_succ, List.set_cons_zero, List.set_cons_succ, List.map_cons, List.map_nil, List.length_cons, List.length_nil, List.cons_append, List.nil_append, List.replicate_succ, List.replicate_zero, Option.getD_some, Option.getD_none, decide_eq_true_eq, Bool.false_eq_true, Bool.true_eq_false, Bool.not_true, Bool.not_false, Bool.not_eq_true', decide_eq_false_iff_not, if_true, if_false, Nat.zero_add, Nat.reduceAdd, Nat.reduceSub, Nat.sub_self, Nat.sub_zero, Nat.add_zero, Nat.reduceEqDiff, List.isEmpty_nil, List.isEmpty_cons, o_add, o_sub, o_neg, o_lt, o_le, o_gt, o_ge, o_eqI, o_neI, o_eqB, o_neB, o_isN, o_isNotN, o_isB, n_non, n_bool, n_int, n_str, n_list, n_tuple, t_non, t_bool, t_int, t_list, t_tuple, o_ixT0, o_ixT1, o_ixT2, o_ixT3, o_ixT4, o_ixL0, o_ixL1, o_ixL2, o_ixL3, ix0, ix1, ix2, ix3, b_lenL, b_lenT, b_abs, b_int, b_tupL, b_tupT, b_lstL, b_lstT, b_gcd, b_max2, b_min2, r_next h1, r_share h2, r_missed h3, n_oP, o_eqPr', d1, d2, Option.isNone_none, decide_true] <;> rfl⟩
    | some c =>
      have d1 : ms.isNone = false := hc.1.symm
      have d2 : decide (bf = (1, 1)) = false := hc.2.symm
      have h : (if ps.length + 1 ≤ sizeLine then (t_share g (insS leP (ps ++ [c])) s).bind fun sh => (t_less bf sh).bind fun b => if b = true then some (insS leP (ps ++ [c])) else none else none) = some ps' := h
      split at h
      · rename_i hz
        obtain ⟨sh, h4, h⟩ := bd h
        obtain ⟨b, h5, h⟩ := bd h
        split at h
        · rename_i hb
          subst hb
          cases h
          have q : opAdd (.tuple (ps.map pr)) (.tuple [oP (some c)]) = some (.tuple ((ps ++ [c]).map pr)) := by
            rw [o_addT (by rw [List.length_map, List.length_singleton]; exact hz), List.map_append]; rfl
          exact ⟨_, _, by simp only [e_mVar, e_kVar, e_mMov, e_kMov, e_mCst, e_kO, e_kOb, e_kOl, e_mBin, e_kB1, e_kB2, e_mUn, e_kU, e_mTb, e_kTb, e_mTru, e_kTru, e_mNot, e_kNot, e_mAnd, e_kAnd, e_mOr, e_kOr, e_mAndV, e_kAndVt, e_kAndVf, e_mOrV, e_kOrVt, e_kOrVf, e_mNotV, e_kNotV, e_mNotB, e_kNotB, e_kNB, e_mIf, e_kIf, e_kIfS, e_mNil, e_mCons, e_kC1, e_kC2, e_mTup, e_kTup, e_mLst, e_kLst, e_mCall, e_mRng, e_kCall, e_kCallR, e_mNoP, e_mP, e_kPI, e_mSl, e_kS1, e_kS2, e_kS3, e_kCh1, e_kCh2, e_kCh3t, e_kCh3f, e_mYes, e_mItems, e_kItL, e_kItT, e_mIsi, e_kIsi, e_mNol, e_kNolN, e_kNolI, e_kNolB, e_kNolS, e_kNolT, e_kNolD, e_mListS, e_kLS, e_gSet, e_gsNil, e_gsCons, e_kG, e_gTupM, e_aNil, e_aVal, e_kA1, e_kA2, e_aLent, e_kL1, e_kL2, e_mCallU, e_kU1, e_kU2, e_kU3, e_mFill0, e_mFill1, e_mFill2, e_kF, e_kFl, e_mBack0, e_mBack1, e_mBack2, e_sNil, e_sCons, e_kSeqN, e_kSeqB, e_kSeqC, e_kSeqR, e_sIf, e_sBk, e_sCt, e_sRet, e_kRet, e_sDrop, e_kDrop, e_sSet, e_kSet, e_sTgt, e_kTgt, e_kT2, e_sPar, e_kP1, e_kP2, e_kAp0, e_kAp1, e_kAp2, e_kPu1, e_kPu2, e_kPu3, e_kPu4, e_kPu5, e_mFor, e_kFor, e_sFor0, e_kF1, e_kF2N, e_kF2C, e_kF2B, e_kF2R, e_kW1, e_kW2N, e_kW2C, e_kW2B, e_kW2R, e_mLc, e_kLc, e_kLc2, e_mL0, e_kM1, e_kM2, e_kM3, e_kM4, e_wipe0, e_wipe1, e_res0, e_res1, e_mDef, e_kDefR, e_kDefN, e_kDO, e_mOu0, e_mOuF, e_mOuS, e_mOuL, e_kOu, e_mChain, e_sApp, e_sPut, e_kAndV, e_kOrV, e_kCh3, List.getElem?_cons_zero, List.getElem?_cons_succ, List.set_cons_zero, List.set_cons_succ, List.map_cons, List.map_nil, List.length_cons, List.length_nil, List.cons_append, List.nil_append, List.replicate_succ, List.replicate_zero, Option.getD_some, Option.getD_none, decide_eq_true_eq, Bool.false_eq_true, Bool.true_eq_false, Bool.not_true, Bool.not_false, Bool.not_eq_true', decide_eq_false_iff_not, if_true, if_false, Nat.zero_add, Nat.reduceAdd, Nat.reduceSub, Nat.sub_self, Nat.sub_zero, Nat.add_zero, Nat.reduceEqDiff, List.isEmpty_nil, List.isEmpty_cons, o_add, o_sub, o_neg, o_lt, o_le, o_gt, o_ge, o_eqI, o_neI, o_eqB, o_neB, o_isN, o_isNotN, o_isB, n_non, n_bool, n_int, n_str, n_list, n_tuple, t_non, t_bool, t_int, t_list, t_tuple, o_ixT0, o_ixT1, o_ixT2, o_ixT3, o_ixT4, o_ixL0, o_ixL1, o_ixL2, o_ixL3, ix0, ix1, ix2, ix3, b_lenL, b_lenT, b_abs, b_int, b_tupL, b_tupT, b_lstL, b_lstT, b_gcd, b_max2, b_min2, r_next h1, r_share h2, r_missed h3, n_oP, o_eqPr', d1, d2, Option.isNone_some, decide_true, q, b_sortPT, r_share h4, r_lbel h5] <;> rfl⟩
        · cases h
      · cases h
  · cases h
theorem o_eqTn {l : List (Int × Int)} : opEq (.tuple (l.map pr)) (.tuple []) = some (.bool l.isEmpty) := by
  refine (o_eqE (α := Tup (Int × Int)) (a := ⟨l⟩) (b := ⟨[]⟩)).trans ?_
  cases l with
  | nil => rfl
  | cons x r => rw [decide_eq_false fun z => by cases z]; rfl
theorem o_eqLn {l : List (Int × Int)} : opEq (.list (l.map pr)) (.list []) = some (.bool l.isEmpty) := by
  refine (o_eqE (α := List (Int × Int)) (a := l) (b := [])).trans ?_
  cases l with
  | nil => rfl
  | cons x r => rw [decide_eq_false fun z => by cases z]; rfl
theorem o_rev {p : Int × Int} : opRev (pr p) = some (pr (p.2, p.1)) := rfl
theorem lm {l : List (Int × Int)} : (l.map pr).length = l.length := List.length_map ..
theorem oI_non {o : Option Int} : isNon (oI o) = o.isNone := by cases o <;> rfl
theorem plain (ns : List Int) (hns : ns.length ≤ 63) : ∃ outs, fm_law [.list (ns.map .int)] = some (.bool true, outs) := by
  suffices H : ∃ x ε', m_law [some (.list (ns.map .int)), none, none, none, none, none, none, none, none, none, none, none, none, none, none, none, none, none, none, none, none, none] = some (.rt (.bool true), x :: ε') by
    obtain ⟨x, ε', e⟩ := H
    refine ⟨[.list (ns.map .int)], ?_⟩
    simp only [e_mVar, e_kVar, e_mMov, e_kMov, e_mCst, e_kO, e_kOb, e_kOl, e_mBin, e_kB1, e_kB2, e_mUn, e_kU, e_mTb, e_kTb, e_mTru, e_kTru, e_mNot, e_kNot, e_mAnd, e_kAnd, e_mOr, e_kOr, e_mAndV, e_kAndVt, e_kAndVf, e_mOrV, e_kOrVt, e_kOrVf, e_mNotV, e_kNotV, e_mNotB, e_kNotB, e_kNB, e_mIf, e_kIf, e_kIfS, e_mNil, e_mCons, e_kC1, e_kC2, e_mTup, e_kTup, e_mLst, e_kLst, e_mCall, e_mRng, e_kCall, e_kCallR, e_mNoP, e_mP, e_kPI, e_mSl, e_kS1, e_kS2, e_kS3, e_kCh1, e_kCh2, e_kCh3t, e_kCh3f, e_mYes, e_mItems, e_kItL, e_kItT, e_mIsi, e_kIsi, e_mNol, e_kNolN, e_kNolI, e_kNolB, e_kNolS, e_kNolT, e_kNolD, e_mListS, e_kLS, e_gSet, e_gsNil, e_gsCons, e_kG, e_gTupM, e_aNil, e_aVal, e_kA1, e_kA2, e_aLent, e_kL1, e_kL2, e_mCallU, e_kU1, e_kU2, e_kU3, e_mFill0, e_mFill1, e_mFill2, e_kF, e_kFl, e_mBack0, e_mBack1, e_mBack2, e_sNil, e_sCons, e_kSeqN, e_kSeqB, e_kSeqC, e_kSeqR, e_sIf, e_sBk, e_sCt, e_sRet, e_kRet, e_sDrop, e_kDrop, e_sSet, e_kSet, e_sTgt, e_kTgt, e_kT2, e_sPar, e_kP1, e_kP2, e_kAp0, e_kAp1, e_kAp2, e_kPu1, e_kPu2, e_kPu3, e_kPu4, e_kPu5, e_mFor, e_kFor, e_sFor0, e_kF1, e_kF2N, e_kF2C, e_kF2B, e_kF2R, e_kW1, e_kW2N, e_kW2C, e_kW2B, e_kW2R, e_mLc, e_kLc, e_kLc2, e_mL0, e_kM1, e_kM2, e_kM3, e_kM4, e_wipe0, e_wipe1, e_res0, e_res1, e_mDef, e_kDefR, e_kDefN, e_kDO, e_mOu0, e_mOuF, e_mOuS, e_mOuL, e_kOu, e_mChain, e_sApp, e_sPut, e_kAndV, e_kOrV, e_kCh3, List.getElem?_cons_zero, List.getElem?_cons_succ, List.set_cons_zero, List.set_cons_succ, List.map_cons, List.map_nil, List.length_cons, List.length_nil, List.cons_append, List.nil_append, List.replicate_succ, List.replicate_zero, Option.getD_some, Option.getD_none, decide_eq_true_eq, Bool.false_eq_true, Bool.true_eq_false, Bool.not_true, Bool.not_false, Bool.not_eq_true', decide_eq_false_iff_not, if_true, if_false, Nat.zero_add, Nat.reduceAdd, Nat.reduceSub, Nat.sub_self, Nat.sub_zero, Nat.add_zero, Nat.reduceEqDiff, List.isEmpty_nil, List.isEmpty_cons, o_add, o_sub, o_neg, o_lt, o_le, o_gt, o_ge, o_eqI, o_neI, o_eqB, o_neB, o_isN, o_isNotN, o_isB, n_non, n_bool, n_int, n_str, n_list, n_tuple, t_non, t_bool, t_int, t_list, t_tuple, o_ixT0, o_ixT1, o_ixT2, o_ixT3, o_ixT4, o_ixL0, o_ixL1, o_ixL2, o_ixL3, ix0, ix1, ix2, ix3, b_lenL, b_lenT, b_abs, b_int, b_tupL, b_tupT, b_lstL, b_lstT, b_gcd, b_max2, b_min2, fm_law, e]
  obtain ⟨d0, e0, D⟩ := draw_ok (ns := ns) (sz_small (by omega))
  obtain ⟨b, d1, e1, D, hb⟩ := next_ok D (m := 9) (by omega) (by omega)
  obtain ⟨h, d2, e2, D, hh⟩ := next_ok D (m := 1 + b + 1) (by omega) (by omega)
  obtain ⟨s, d3, e3, D, hs⟩ := next_ok D (m := 1 + b + 1) (by omega) (by omega)
  obtain ⟨p, d4, e4, D, hp⟩ := next_ok D (m := 9) (by omega) (by omega)
  obtain ⟨f, d5, e5, D, hf⟩ := next_ok D (m := s + 1) (by omega) (by omega)
  obtain ⟨g1, d6, e6, D, hg1⟩ := next_ok D (m := 6) (by omega) (by omega)
  obtain ⟨g2, d7, e7, D, hg2⟩ := next_ok D (m := 5) (by omega) (by omega)
  obtain ⟨s1, d8, e8, D, hs1⟩ := next_ok D (m := 3) (by omega) (by omega)
  obtain ⟨s2, d9, e9, D, hs2⟩ := next_ok D (m := 3) (by omega) (by omega)
  obtain ⟨told, c1⟩ := get1 hb hh hs
  obtain ⟨u2, c2⟩ := get2 hb hh hp
  obtain ⟨u3, c3⟩ := get3 hb hs hf
  obtain ⟨u4, c4⟩ := get4 hg1 hg2 hs1 hs2
  generalize hB : 1 + b = B at *
  -- the first part, taken apart
  obtain ⟨told', t1, c1⟩ := bd c1
  obtain ⟨q, t2, c1⟩ := bd c1
  split at c1
  case isFalse => cases c1
  rename_i hq
  subst hq
  obtain ⟨u, t3, c1⟩ := bd c1
  obtain ⟨ms, t4, c1⟩ := bd c1
  obtain ⟨mean, t5, c1⟩ := bd c1
  obtain ⟨hsv, t6, c1⟩ := bd c1
  obtain ⟨due, t7, c1⟩ := bd c1
  split at c1
  case isFalse => cases c1
  rename_i hq
  subst hq
  cases c1
  obtain ⟨r1, r2⟩ := rg_ok (n := s + 1) (by omega) (by omega)
  have hm0 : 0 ≤ (if s < h then s else h) := by split <;> omega
  have hm1 : (if s < h then s else h) ≤ 10 := by split <;> omega
  obtain ⟨r3, r4⟩ := rg_ok (n := (if s < h then s else h) + 1) (by omega) (by omega)
  unfold m_law
  refine seqT (by simp only [e_mVar, e_kVar, e_mMov, e_kMov, e_mCst, e_kO, e_kOb, e_kOl, e_mBin, e_kB1, e_kB2, e_mUn, e_kU, e_mTb, e_kTb, e_mTru, e_kTru, e_mNot, e_kNot, e_mAnd, e_kAnd, e_mOr, e_kOr, e_mAndV, e_kAndVt, e_kAndVf, e_mOrV, e_kOrVt, e_kOrVf, e_mNotV, e_kNotV, e_mNotB, e_kNotB, e_kNB, e_mIf, e_kIf, e_kIfS, e_mNil, e_mCons, e_kC1, e_kC2, e_mTup, e_kTup, e_mLst, e_kLst, e_mCall, e_mRng, e_kCall, e_kCallR, e_mNoP, e_mP, e_kPI, e_mSl, e_kS1, e_kS2, e_kS3, e_kCh1, e_kCh2, e_kCh3t, e_kCh3f, e_mYes, e_mItems, e_kItL, e_kItT, e_mIsi, e_kIsi, e_mNol, e_kNolN, e_kNolI, e_kNolB, e_kNolS, e_kNolT, e_kNolD, e_mListS, e_kLS, e_gSet, e_gsNil, e_gsCons, e_kG, e_gTupM, e_aNil, e_aVal, e_kA1, e_kA2, e_aLent, e_kL1, e_kL2, e_mCallU, e_kU1, e_kU2, e_kU3, e_mFill0, e_mFill1, e_mFill2, e_kF, e_kFl, e_mBack0, e_mBack1, e_mBack2, e_sNil, e_sCons, e_kSeqN, e_kSeqB, e_kSeqC, e_kSeqR, e_sIf, e_sBk, e_sCt, e_sRet, e_kRet, e_sDrop, e_kDrop, e_sSet, e_kSet, e_sTgt, e_kTgt, e_kT2, e_sPar, e_kP1, e_kP2, e_kAp0, e_kAp1, e_kAp2, e_kPu1, e_kPu2, e_kPu3, e_kPu4, e_kPu5, e_mFor, e_kFor, e_sFor0, e_kF1, e_kF2N, e_kF2C, e_kF2B, e_kF2R, e_kW1, e_kW2N, e_kW2C, e_kW2B, e_kW2R, e_mLc, e_kLc, e_kLc2, e_mL0, e_kM1, e_kM2, e_kM3, e_kM4, e_wipe0, e_wipe1, e_res0, e_res1, e_mDef, e_kDefR, e_kDefN, e_kDO, e_mOu0, e_mOuF, e_mOuS, e_mOuL, e_kOu, e_mChain, e_sApp, e_sPut, e_kAndV, e_kOrV, e_kCh3, List.getElem?_cons_zero, List.getElem?_cons_succ, List.set_cons_zero, List.set_cons_succ, List.map_cons, List.map_nil, List.length_cons, List.length_nil, List.cons_append, List.nil_append, List.replicate_succ, List.replicate_zero, Option.getD_some, Option.getD_none, decide_eq_true_eq, Bool.false_eq_true, Bool.true_eq_false, Bool.not_true, Bool.not_false, Bool.not_eq_true', decide_eq_false_iff_not, if_true, if_false, Nat.zero_add, Nat.reduceAdd, Nat.reduceSub, Nat.sub_self, Nat.sub_zero, Nat.add_zero, Nat.reduceEqDiff, List.isEmpty_nil, List.isEmpty_cons, o_add, o_sub, o_neg, o_lt, o_le, o_gt, o_ge, o_eqI, o_neI, o_eqB, o_neB, o_isN, o_isNotN, o_isB, n_non, n_bool, n_int, n_str, n_list, n_tuple, t_non, t_bool, t_int, t_list, t_tuple, o_ixT0, o_ixT1, o_ixT2, o_ixT3, o_ixT4, o_ixL0, o_ixL1, o_ixL2, o_ixL3, ix0, ix1, ix2, ix3, b_lenL, b_lenT, b_abs, b_int, b_tupL, b_tupT, b_lstL, b_lstT, b_gcd, b_max2, b_min2, dr_eq, e0] <;> rfl) ?_
  refine seqT (by simp only [e_mVar, e_kVar, e_mMov, e_kMov, e_mCst, e_kO, e_kOb, e_kOl, e_mBin, e_kB1, e_kB2, e_mUn, e_kU, e_mTb, e_kTb, e_mTru, e_kTru, e_mNot, e_kNot, e_mAnd, e_kAnd, e_mOr, e_kOr, e_mAndV, e_kAndVt, e_kAndVf, e_mOrV, e_kOrVt, e_kOrVf, e_mNotV, e_kNotV, e_mNotB, e_kNotB, e_kNB, e_mIf, e_kIf, e_kIfS, e_mNil, e_mCons, e_kC1, e_kC2, e_mTup, e_kTup, e_mLst, e_kLst, e_mCall, e_mRng, e_kCall, e_kCallR, e_mNoP, e_mP, e_kPI, e_mSl, e_kS1, e_kS2, e_kS3, e_kCh1, e_kCh2, e_kCh3t, e_kCh3f, e_mYes, e_mItems, e_kItL, e_kItT, e_mIsi, e_kIsi, e_mNol, e_kNolN, e_kNolI, e_kNolB, e_kNolS, e_kNolT, e_kNolD, e_mListS, e_kLS, e_gSet, e_gsNil, e_gsCons, e_kG, e_gTupM, e_aNil, e_aVal, e_kA1, e_kA2, e_aLent, e_kL1, e_kL2, e_mCallU, e_kU1, e_kU2, e_kU3, e_mFill0, e_mFill1, e_mFill2, e_kF, e_kFl, e_mBack0, e_mBack1, e_mBack2, e_sNil, e_sCons, e_kSeqN, e_kSeqB, e_kSeqC, e_kSeqR, e_sIf, e_sBk, e_sCt, e_sRet, e_kRet, e_sDrop, e_kDrop, e_sSet, e_kSet, e_sTgt, e_kTgt, e_kT2, e_sPar, e_kP1, e_kP2, e_kAp0, e_kAp1, e_kAp2, e_kPu1, e_kPu2, e_kPu3, e_kPu4, e_kPu5, e_mFor, e_kFor, e_sFor0, e_kF1, e_kF2N, e_kF2C, e_kF2B, e_kF2R, e_kW1, e_kW2N, e_kW2C, e_kW2B, e_kW2R, e_mLc, e_kLc, e_kLc2, e_mL0, e_kM1, e_kM2, e_kM3, e_kM4, e_wipe0, e_wipe1, e_res0, e_res1, e_mDef, e_kDefR, e_kDefN, e_kDO, e_mOu0, e_mOuF, e_mOuS, e_mOuL, e_kOu, e_mChain, e_sApp, e_sPut, e_kAndV, e_kOrV, e_kCh3, List.getElem?_cons_zero, List.getElem?_cons_succ, List.set_cons_zero, List.set_cons_succ, List.map_cons, List.map_nil, List.length_cons, List.length_nil, List.cons_append, List.nil_append, List.replicate_succ, List.replicate_zero, Option.getD_some, Option.getD_none, decide_eq_true_eq, Bool.false_eq_true, Bool.true_eq_false, Bool.not_true, Bool.not_false, Bool.not_eq_true', decide_eq_false_iff_not, if_true, if_false, Nat.zero_add, Nat.reduceAdd, Nat.reduceSub, Nat.sub_self, Nat.sub_zero, Nat.add_zero, Nat.reduceEqDiff, List.isEmpty_nil, List.isEmpty_cons, o_add, o_sub, o_neg, o_lt, o_le, o_gt, o_ge, o_eqI, o_neI, o_eqB, o_neB, o_isN, o_isNotN, o_isB, n_non, n_bool, n_int, n_str, n_list, n_tuple, t_non, t_bool, t_int, t_list, t_tuple, o_ixT0, o_ixT1, o_ixT2, o_ixT3, o_ixT4, o_ixL0, o_ixL1, o_ixL2, o_ixL3, ix0, ix1, ix2, ix3, b_lenL, b_lenT, b_abs, b_int, b_tupL, b_tupT, b_lstL, b_lstT, b_gcd, b_max2, b_min2, nx_eq, e1, hB] <;> rfl) ?_
  refine seqT (by simp only [e_mVar, e_kVar, e_mMov, e_kMov, e_mCst, e_kO, e_kOb, e_kOl, e_mBin, e_kB1, e_kB2, e_mUn, e_kU, e_mTb, e_kTb, e_mTru, e_kTru, e_mNot, e_kNot, e_mAnd, e_kAnd, e_mOr, e_kOr, e_mAndV, e_kAndVt, e_kAndVf, e_mOrV, e_kOrVt, e_kOrVf, e_mNotV, e_kNotV, e_mNotB, e_kNotB, e_kNB, e_mIf, e_kIf, e_kIfS, e_mNil, e_mCons, e_kC1, e_kC2, e_mTup, e_kTup, e_mLst, e_kLst, e_mCall, e_mRng, e_kCall, e_kCallR, e_mNoP, e_mP, e_kPI, e_mSl, e_kS1, e_kS2, e_kS3, e_kCh1, e_kCh2, e_kCh3t, e_kCh3f, e_mYes, e_mItems, e_kItL, e_kItT, e_mIsi, e_kIsi, e_mNol, e_kNolN, e_kNolI, e_kNolB, e_kNolS, e_kNolT, e_kNolD, e_mListS, e_kLS, e_gSet, e_gsNil, e_gsCons, e_kG, e_gTupM, e_aNil, e_aVal, e_kA1, e_kA2, e_aLent, e_kL1, e_kL2, e_mCallU, e_kU1, e_kU2, e_kU3, e_mFill0, e_mFill1, e_mFill2, e_kF, e_kFl, e_mBack0, e_mBack1, e_mBack2, e_sNil, e_sCons, e_kSeqN, e_kSeqB, e_kSeqC, e_kSeqR, e_sIf, e_sBk, e_sCt, e_sRet, e_kRet, e_sDrop, e_kDrop, e_sSet, e_kSet, e_sTgt, e_kTgt, e_kT2, e_sPar, e_kP1, e_kP2, e_kAp0, e_kAp1, e_kAp2, e_kPu1, e_kPu2, e_kPu3, e_kPu4, e_kPu5, e_mFor, e_kFor, e_sFor0, e_kF1, e_kF2N, e_kF2C, e_kF2B, e_kF2R, e_kW1, e_kW2N, e_kW2C, e_kW2B, e_kW2R, e_mLc, e_kLc, e_kLc2, e_mL0, e_kM1, e_kM2, e_kM3, e_kM4, e_wipe0, e_wipe1, e_res0, e_res1, e_mDef, e_kDefR, e_kDefN, e_kDO, e_mOu0, e_mOuF, e_mOuS, e_mOuL, e_kOu, e_mChain, e_sApp, e_sPut, e_kAndV, e_kOrV, e_kCh3, List.getElem?_cons_zero, List.getElem?_cons_succ, List.set_cons_zero, List.set_cons_succ, List.map_cons, List.map_nil, List.length_cons, List.length_nil, List.cons_append, List.nil_append, List.replicate_succ, List.replicate_zero, Option.getD_some, Option.getD_none, decide_eq_true_eq, Bool.false_eq_true, Bool.true_eq_false, Bool.not_true, Bool.not_false, Bool.not_eq_true', decide_eq_false_iff_not, if_true, if_false, Nat.zero_add, Nat.reduceAdd, Nat.reduceSub, Nat.sub_self, Nat.sub_zero, Nat.add_zero, Nat.reduceEqDiff, List.isEmpty_nil, List.isEmpty_cons, o_add, o_sub, o_neg, o_lt, o_le, o_gt, o_ge, o_eqI, o_neI, o_eqB, o_neB, o_isN, o_isNotN, o_isB, n_non, n_bool, n_int, n_str, n_list, n_tuple, t_non, t_bool, t_int, t_list, t_tuple, o_ixT0, o_ixT1, o_ixT2, o_ixT3, o_ixT4, o_ixL0, o_ixL1, o_ixL2, o_ixL3, ix0, ix1, ix2, ix3, b_lenL, b_lenT, b_abs, b_int, b_tupL, b_tupT, b_lstL, b_lstT, b_gcd, b_max2, b_min2, nx_eq, e2, e3] <;> rfl) ?_
  -- told
  have L4 := lc_mapO (mt := gSet 6) (mk := mYes) (me := (mCallU fm_chance [none, none, none, none] (aVal (mVar 2) (aVal (mVar 3) (aVal (mVar 4) (aVal (mVar 6) aNil)))))) PyData.int pr (t_chance B h s) [6] [some (.list (ns.map .int)), some d3, some (.int B), some (.int h), some (.int s), none, none, none, none, none, none, none, none, none, none, none, none, none, none, none, none, none] (rg (s + 1)) told (fun x y _ hx => by
    refine ⟨_, ?e, rfl, rfl, ?h, ?g⟩
    case h => simp only [e_mVar, e_kVar, e_mMov, e_kMov, e_mCst, e_kO, e_kOb, e_kOl, e_mBin, e_kB1, e_kB2, e_mUn, e_kU, e_mTb, e_kTb, e_mTru, e_kTru, e_mNot, e_kNot, e_mAnd, e_kAnd, e_mOr, e_kOr, e_mAndV, e_kAndVt, e_kAndVf, e_mOrV, e_kOrVt, e_kOrVf, e_mNotV, e_kNotV, e_mNotB, e_kNotB, e_kNB, e_mIf, e_kIf, e_kIfS, e_mNil, e_mCons, e_kC1, e_kC2, e_mTup, e_kTup, e_mLst, e_kLst, e_mCall, e_mRng, e_kCall, e_kCallR, e_mNoP, e_mP, e_kPI, e_mSl, e_kS1, e_kS2, e_kS3, e_kCh1, e_kCh2, e_kCh3t, e_kCh3f, e_mYes, e_mItems, e_kItL, e_kItT, e_mIsi, e_kIsi, e_mNol, e_kNolN, e_kNolI, e_kNolB, e_kNolS, e_kNolT, e_kNolD, e_mListS, e_kLS, e_gSet, e_gsNil, e_gsCons, e_kG, e_gTupM, e_aNil, e_aVal, e_kA1, e_kA2, e_aLent, e_kL1, e_kL2, e_mCallU, e_kU1, e_kU2, e_kU3, e_mFill0, e_mFill1, e_mFill2, e_kF, e_kFl, e_mBack0, e_mBack1, e_mBack2, e_sNil, e_sCons, e_kSeqN, e_kSeqB, e_kSeqC, e_kSeqR, e_sIf, e_sBk, e_sCt, e_sRet, e_kRet, e_sDrop, e_kDrop, e_sSet, e_kSet, e_sTgt, e_kTgt, e_kT2, e_sPar, e_kP1, e_kP2, e_kAp0, e_kAp1, e_kAp2, e_kPu1, e_kPu2, e_kPu3, e_kPu4, e_kPu5, e_mFor, e_kFor, e_sFor0, e_kF1, e_kF2N, e_kF2C, e_kF2B, e_kF2R, e_kW1, e_kW2N, e_kW2C, e_kW2B, e_kW2R, e_mLc, e_kLc, e_kLc2, e_mL0, e_kM1, e_kM2, e_kM3, e_kM4, e_wipe0, e_wipe1, e_res0, e_res1, e_mDef, e_kDefR, e_kDefN, e_kDO, e_mOu0, e_mOuF, e_mOuS, e_mOuL, e_kOu, e_mChain, e_sApp, e_sPut, e_kAndV, e_kOrV, e_kCh3, List.getElem?_cons_zero, List.getElem?_cons_succ, List.set_cons_zero, List.set_cons_succ, List.map_cons, List.map_nil, List.length_cons, List.length_nil, List.cons_append, List.nil_append, List.replicate_succ, List.replicate_zero, Option.getD_some, Option.getD_none, decide_eq_true_eq, Bool.false_eq_true, Bool.true_eq_false, Bool.not_true, Bool.not_false, Bool.not_eq_true', decide_eq_false_iff_not, if_true, if_false, Nat.zero_add, Nat.reduceAdd, Nat.reduceSub, Nat.sub_self, Nat.sub_zero, Nat.add_zero, Nat.reduceEqDiff, List.isEmpty_nil, List.isEmpty_cons, o_add, o_sub, o_neg, o_lt, o_le, o_gt, o_ge, o_eqI, o_neI, o_eqB, o_neB, o_isN, o_isNotN, o_isB, n_non, n_bool, n_int, n_str, n_list, n_tuple, t_non, t_bool, t_int, t_list, t_tuple, o_ixT0, o_ixT1, o_ixT2, o_ixT3, o_ixT4, o_ixL0, o_ixL1, o_ixL2, o_ixL3, ix0, ix1, ix2, ix3, b_lenL, b_lenT, b_abs, b_int, b_tupL, b_tupT, b_lstL, b_lstT, b_gcd, b_max2, b_min2, r_chance hx] <;> rfl
    case g => simp only [e_mVar, e_kVar, e_mMov, e_kMov, e_mCst, e_kO, e_kOb, e_kOl, e_mBin, e_kB1, e_kB2, e_mUn, e_kU, e_mTb, e_kTb, e_mTru, e_kTru, e_mNot, e_kNot, e_mAnd, e_kAnd, e_mOr, e_kOr, e_mAndV, e_kAndVt, e_kAndVf, e_mOrV, e_kOrVt, e_kOrVf, e_mNotV, e_kNotV, e_mNotB, e_kNotB, e_kNB, e_mIf, e_kIf, e_kIfS, e_mNil, e_mCons, e_kC1, e_kC2, e_mTup, e_kTup, e_mLst, e_kLst, e_mCall, e_mRng, e_kCall, e_kCallR, e_mNoP, e_mP, e_kPI, e_mSl, e_kS1, e_kS2, e_kS3, e_kCh1, e_kCh2, e_kCh3t, e_kCh3f, e_mYes, e_mItems, e_kItL, e_kItT, e_mIsi, e_kIsi, e_mNol, e_kNolN, e_kNolI, e_kNolB, e_kNolS, e_kNolT, e_kNolD, e_mListS, e_kLS, e_gSet, e_gsNil, e_gsCons, e_kG, e_gTupM, e_aNil, e_aVal, e_kA1, e_kA2, e_aLent, e_kL1, e_kL2, e_mCallU, e_kU1, e_kU2, e_kU3, e_mFill0, e_mFill1, e_mFill2, e_kF, e_kFl, e_mBack0, e_mBack1, e_mBack2, e_sNil, e_sCons, e_kSeqN, e_kSeqB, e_kSeqC, e_kSeqR, e_sIf, e_sBk, e_sCt, e_sRet, e_kRet, e_sDrop, e_kDrop, e_sSet, e_kSet, e_sTgt, e_kTgt, e_kT2, e_sPar, e_kP1, e_kP2, e_kAp0, e_kAp1, e_kAp2, e_kPu1, e_kPu2, e_kPu3, e_kPu4, e_kPu5, e_mFor, e_kFor, e_sFor0, e_kF1, e_kF2N, e_kF2C, e_kF2B, e_kF2R, e_kW1, e_kW2N, e_kW2C, e_kW2B, e_kW2R, e_mLc, e_kLc, e_kLc2, e_mL0, e_kM1, e_kM2, e_kM3, e_kM4, e_wipe0, e_wipe1, e_res0, e_res1, e_mDef, e_kDefR, e_kDefN, e_kDO, e_mOu0, e_mOuF, e_mOuS, e_mOuL, e_kOu, e_mChain, e_sApp, e_sPut, e_kAndV, e_kOrV, e_kCh3, List.getElem?_cons_zero, List.getElem?_cons_succ, List.set_cons_zero, List.set_cons_succ, List.map_cons, List.map_nil, List.length_cons, List.length_nil, List.cons_append, List.nil_append, List.replicate_succ, List.replicate_zero, Option.getD_some, Option.getD_none, decide_eq_true_eq, Bool.false_eq_true, Bool.true_eq_false, Bool.not_true, Bool.not_false, Bool.not_eq_true', decide_eq_false_iff_not, if_true, if_false, Nat.zero_add, Nat.reduceAdd, Nat.reduceSub, Nat.sub_self, Nat.sub_zero, Nat.add_zero, Nat.reduceEqDiff, List.isEmpty_nil, List.isEmpty_cons, o_add, o_sub, o_neg, o_lt, o_le, o_gt, o_ge, o_eqI, o_neI, o_eqB, o_neB, o_isN, o_isNotN, o_isB, n_non, n_bool, n_int, n_str, n_list, n_tuple, t_non, t_bool, t_int, t_list, t_tuple, o_ixT0, o_ixT1, o_ixT2, o_ixT3, o_ixT4, o_ixL0, o_ixL1, o_ixL2, o_ixL3, ix0, ix1, ix2, ix3, b_lenL, b_lenT, b_abs, b_int, b_tupL, b_tupT, b_lstL, b_lstT, b_gcd, b_max2, b_min2]) t1
  simp only [e_mVar, e_kVar, e_mMov, e_kMov, e_mCst, e_kO, e_kOb, e_kOl, e_mBin, e_kB1, e_kB2, e_mUn, e_kU, e_mTb, e_kTb, e_mTru, e_kTru, e_mNot, e_kNot, e_mAnd, e_kAnd, e_mOr, e_kOr, e_mAndV, e_kAndVt, e_kAndVf, e_mOrV, e_kOrVt, e_kOrVf, e_mNotV, e_kNotV, e_mNotB, e_kNotB, e_kNB, e_mIf, e_kIf, e_kIfS, e_mNil, e_mCons, e_kC1, e_kC2, e_mTup, e_kTup, e_mLst, e_kLst, e_mCall, e_mRng, e_kCall, e_kCallR, e_mNoP, e_mP, e_kPI, e_mSl, e_kS1, e_kS2, e_kS3, e_kCh1, e_kCh2, e_kCh3t, e_kCh3f, e_mYes, e_mItems, e_kItL, e_kItT, e_mIsi, e_kIsi, e_mNol, e_kNolN, e_kNolI, e_kNolB, e_kNolS, e_kNolT, e_kNolD, e_mListS, e_kLS, e_gSet, e_gsNil, e_gsCons, e_kG, e_gTupM, e_aNil, e_aVal, e_kA1, e_kA2, e_aLent, e_kL1, e_kL2, e_mCallU, e_kU1, e_kU2, e_kU3, e_mFill0, e_mFill1, e_mFill2, e_kF, e_kFl, e_mBack0, e_mBack1, e_mBack2, e_sNil, e_sCons, e_kSeqN, e_kSeqB, e_kSeqC, e_kSeqR, e_sIf, e_sBk, e_sCt, e_sRet, e_kRet, e_sDrop, e_kDrop, e_sSet, e_kSet, e_sTgt, e_kTgt, e_kT2, e_sPar, e_kP1, e_kP2, e_kAp0, e_kAp1, e_kAp2, e_kPu1, e_kPu2, e_kPu3, e_kPu4, e_kPu5, e_mFor, e_kFor, e_sFor0, e_kF1, e_kF2N, e_kF2C, e_kF2B, e_kF2R, e_kW1, e_kW2N, e_kW2C, e_kW2B, e_kW2R, e_mLc, e_kLc, e_kLc2, e_mL0, e_kM1, e_kM2, e_kM3, e_kM4, e_wipe0, e_wipe1, e_res0, e_res1, e_mDef, e_kDefR, e_kDefN, e_kDO, e_mOu0, e_mOuF, e_mOuS, e_mOuL, e_kOu, e_mChain, e_sApp, e_sPut, e_kAndV, e_kOrV, e_kCh3, List.getElem?_cons_zero, List.getElem?_cons_succ, List.set_cons_zero, List.set_cons_succ, List.map_cons, List.map_nil, List.length_cons, List.length_nil, List.cons_append, List.nil_append, List.replicate_succ, List.replicate_zero, Option.getD_some, Option.getD_none, decide_eq_true_eq, Bool.false_eq_true, Bool.true_eq_false, Bool.not_true, Bool.not_false, Bool.not_eq_true', decide_eq_false_iff_not, if_true, if_false, Nat.zero_add, Nat.reduceAdd, Nat.reduceSub, Nat.sub_self, Nat.sub_zero, Nat.add_zero, Nat.reduceEqDiff, List.isEmpty_nil, List.isEmpty_cons, o_add, o_sub, o_neg, o_lt, o_le, o_gt, o_ge, o_eqI, o_neI, o_eqB, o_neB, o_isN, o_isNotN, o_isB, n_non, n_bool, n_int, n_str, n_list, n_tuple, t_non, t_bool, t_int, t_list, t_tuple, o_ixT0, o_ixT1, o_ixT2, o_ixT3, o_ixT4, o_ixL0, o_ixL1, o_ixL2, o_ixL3, ix0, ix1, ix2, ix3, b_lenL, b_lenT, b_abs, b_int, b_tupL, b_tupT, b_lstL, b_lstT, b_gcd, b_max2, b_min2] at L4
  refine seqT (by simp only [e_mVar, e_kVar, e_mMov, e_kMov, e_mCst, e_kO, e_kOb, e_kOl, e_mBin, e_kB1, e_kB2, e_mUn, e_kU, e_mTb, e_kTb, e_mTru, e_kTru, e_mNot, e_kNot, e_mAnd, e_kAnd, e_mOr, e_kOr, e_mAndV, e_kAndVt, e_kAndVf, e_mOrV, e_kOrVt, e_kOrVf, e_mNotV, e_kNotV, e_mNotB, e_kNotB, e_kNB, e_mIf, e_kIf, e_kIfS, e_mNil, e_mCons, e_kC1, e_kC2, e_mTup, e_kTup, e_mLst, e_kLst, e_mCall, e_mRng, e_kCall, e_kCallR, e_mNoP, e_mP, e_kPI, e_mSl, e_kS1, e_kS2, e_kS3, e_kCh1, e_kCh2, e_kCh3t, e_kCh3f, e_mYes, e_mItems, e_kItL, e_kItT, e_mIsi, e_kIsi, e_mNol, e_kNolN, e_kNolI, e_kNolB, e_kNolS, e_kNolT, e_kNolD, e_mListS, e_kLS, e_gSet, e_gsNil, e_gsCons, e_kG, e_gTupM, e_aNil, e_aVal, e_kA1, e_kA2, e_aLent, e_kL1, e_kL2, e_mCallU, e_kU1, e_kU2, e_kU3, e_mFill0, e_mFill1, e_mFill2, e_kF, e_kFl, e_mBack0, e_mBack1, e_mBack2, e_sNil, e_sCons, e_kSeqN, e_kSeqB, e_kSeqC, e_kSeqR, e_sIf, e_sBk, e_sCt, e_sRet, e_kRet, e_sDrop, e_kDrop, e_sSet, e_kSet, e_sTgt, e_kTgt, e_kT2, e_sPar, e_kP1, e_kP2, e_kAp0, e_kAp1, e_kAp2, e_kPu1, e_kPu2, e_kPu3, e_kPu4, e_kPu5, e_mFor, e_kFor, e_sFor0, e_kF1, e_kF2N, e_kF2C, e_kF2B, e_kF2R, e_kW1, e_kW2N, e_kW2C, e_kW2B, e_kW2R, e_mLc, e_kLc, e_kLc2, e_mL0, e_kM1, e_kM2, e_kM3, e_kM4, e_wipe0, e_wipe1, e_res0, e_res1, e_mDef, e_kDefR, e_kDefN, e_kDO, e_mOu0, e_mOuF, e_mOuS, e_mOuL, e_kOu, e_mChain, e_sApp, e_sPut, e_kAndV, e_kOrV, e_kCh3, List.getElem?_cons_zero, List.getElem?_cons_succ, List.set_cons_zero, List.set_cons_succ, List.map_cons, List.map_nil, List.length_cons, List.length_nil, List.cons_append, List.nil_append, List.replicate_succ, List.replicate_zero, Option.getD_some, Option.getD_none, decide_eq_true_eq, Bool.false_eq_true, Bool.true_eq_false, Bool.not_true, Bool.not_false, Bool.not_eq_true', decide_eq_false_iff_not, if_true, if_false, Nat.zero_add, Nat.reduceAdd, Nat.reduceSub, Nat.sub_self, Nat.sub_zero, Nat.add_zero, Nat.reduceEqDiff, List.isEmpty_nil, List.isEmpty_cons, o_add, o_sub, o_neg, o_lt, o_le, o_gt, o_ge, o_eqI, o_neI, o_eqB, o_neB, o_isN, o_isNotN, o_isB, n_non, n_bool, n_int, n_str, n_list, n_tuple, t_non, t_bool, t_int, t_list, t_tuple, o_ixT0, o_ixT1, o_ixT2, o_ixT3, o_ixT4, o_ixL0, o_ixL1, o_ixL2, o_ixL3, ix0, ix1, ix2, ix3, b_lenL, b_lenT, b_abs, b_int, b_tupL, b_tupT, b_lstL, b_lstT, b_gcd, b_max2, b_min2, r1, r2, L4] <;> rfl) ?_
  refine seqT (by simp only [e_mVar, e_kVar, e_mMov, e_kMov, e_mCst, e_kO, e_kOb, e_kOl, e_mBin, e_kB1, e_kB2, e_mUn, e_kU, e_mTb, e_kTb, e_mTru, e_kTru, e_mNot, e_kNot, e_mAnd, e_kAnd, e_mOr, e_kOr, e_mAndV, e_kAndVt, e_kAndVf, e_mOrV, e_kOrVt, e_kOrVf, e_mNotV, e_kNotV, e_mNotB, e_kNotB, e_kNB, e_mIf, e_kIf, e_kIfS, e_mNil, e_mCons, e_kC1, e_kC2, e_mTup, e_kTup, e_mLst, e_kLst, e_mCall, e_mRng, e_kCall, e_kCallR, e_mNoP, e_mP, e_kPI, e_mSl, e_kS1, e_kS2, e_kS3, e_kCh1, e_kCh2, e_kCh3t, e_kCh3f, e_mYes, e_mItems, e_kItL, e_kItT, e_mIsi, e_kIsi, e_mNol, e_kNolN, e_kNolI, e_kNolB, e_kNolS, e_kNolT, e_kNolD, e_mListS, e_kLS, e_gSet, e_gsNil, e_gsCons, e_kG, e_gTupM, e_aNil, e_aVal, e_kA1, e_kA2, e_aLent, e_kL1, e_kL2, e_mCallU, e_kU1, e_kU2, e_kU3, e_mFill0, e_mFill1, e_mFill2, e_kF, e_kFl, e_mBack0, e_mBack1, e_mBack2, e_sNil, e_sCons, e_kSeqN, e_kSeqB, e_kSeqC, e_kSeqR, e_sIf, e_sBk, e_sCt, e_sRet, e_kRet, e_sDrop, e_kDrop, e_sSet, e_kSet, e_sTgt, e_kTgt, e_kT2, e_sPar, e_kP1, e_kP2, e_kAp0, e_kAp1, e_kAp2, e_kPu1, e_kPu2, e_kPu3, e_kPu4, e_kPu5, e_mFor, e_kFor, e_sFor0, e_kF1, e_kF2N, e_kF2C, e_kF2B, e_kF2R, e_kW1, e_kW2N, e_kW2C, e_kW2B, e_kW2R, e_mLc, e_kLc, e_kLc2, e_mL0, e_kM1, e_kM2, e_kM3, e_kM4, e_wipe0, e_wipe1, e_res0, e_res1, e_mDef, e_kDefR, e_kDefN, e_kDO, e_mOu0, e_mOuF, e_mOuS, e_mOuL, e_kOu, e_mChain, e_sApp, e_sPut, e_kAndV, e_kOrV, e_kCh3, List.getElem?_cons_zero, List.getElem?_cons_succ, List.set_cons_zero, List.set_cons_succ, List.map_cons, List.map_nil, List.length_cons, List.length_nil, List.cons_append, List.nil_append, List.replicate_succ, List.replicate_zero, Option.getD_some, Option.getD_none, decide_eq_true_eq, Bool.false_eq_true, Bool.true_eq_false, Bool.not_true, Bool.not_false, Bool.not_eq_true', decide_eq_false_iff_not, if_true, if_false, Nat.zero_add, Nat.reduceAdd, Nat.reduceSub, Nat.sub_self, Nat.sub_zero, Nat.add_zero, Nat.reduceEqDiff, List.isEmpty_nil, List.isEmpty_cons, o_add, o_sub, o_neg, o_lt, o_le, o_gt, o_ge, o_eqI, o_neI, o_eqB, o_neB, o_isN, o_isNotN, o_isB, n_non, n_bool, n_int, n_str, n_list, n_tuple, t_non, t_bool, t_int, t_list, t_tuple, o_ixT0, o_ixT1, o_ixT2, o_ixT3, o_ixT4, o_ixL0, o_ixL1, o_ixL2, o_ixL3, ix0, ix1, ix2, ix3, b_lenL, b_lenT, b_abs, b_int, b_tupL, b_tupT, b_lstL, b_lstT, b_gcd, b_max2, b_min2, r_lsum t2, o_nePr', decide_true] <;> rfl) ?_
  -- the same by turns
  obtain ⟨ε', L6, j6, rfl⟩ := for_foldO (mt := gSet 6) (mb := (sIf (mOr (mNot (mTru (mCallU (fm__law_same 6) [none, none] (aVal (mCallU fm_chance [none, none, none, none] (aVal (mVar 2) (aVal (mVar 4) (aVal (mVar 3) (aVal (mVar 6) aNil))))) (aVal (mBin opIx (mVar 5) (mVar 6)) aNil))))) (mNot (mTru (mCallU (fm__law_same 6) [none, none] (aVal (mCallU fm_chance [none, none, none, none] (aVal (mVar 2) (aVal (mBin opSub (mVar 2) (mVar 3)) (aVal (mVar 4) (aVal (mBin opSub (mVar 4) (mVar 6)) aNil))))) (aVal (mBin opIx (mVar 5) (mVar 6)) aNil)))))) (sRet (mCst (.bool false))) sNil)) PyData.int (fun (_ : Unit) ε => ∃ j, ε = [some (.list (ns.map .int)), some d3, some (.int B), some (.int h), some (.int s), some (.list (told.map pr)), j, none, none, none, none, none, none, none, none, none, none, none, none, none, none, none]) (fun _ f => chkSame B h s told f) (rg ((if s < h then s else h) + 1)) () u [some (.list (ns.map .int)), some d3, some (.int B), some (.int h), some (.int s), some (.list (told.map pr)), none, none, none, none, none, none, none, none, none, none, none, none, none, none, none, none] (fun _ x _ ε hx hi hc => by
    obtain ⟨j, rfl⟩ := hi
    obtain ⟨y, y1, hc⟩ := bd hc
    obtain ⟨z, y2, hc⟩ := bd hc
    split at hc
    case isFalse => cases hc
    rename_i hyz
    have gi := o_ixLi (xs := told.map pr) (mem_rg hx) (a := pr y) (by rw [List.getElem?_map, hyz.1]; rfl)
    have hz : z = y := by have := hyz.2; rw [hyz.1] at this; cases this; rfl
    subst hz
    refine ⟨_, _, rfl, ?h3, ?j3, rfl⟩
    case h3 => simp only [e_mVar, e_kVar, e_mMov, e_kMov, e_mCst, e_kO, e_kOb, e_kOl, e_mBin, e_kB1, e_kB2, e_mUn, e_kU, e_mTb, e_kTb, e_mTru, e_kTru, e_mNot, e_kNot, e_mAnd, e_kAnd, e_mOr, e_kOr, e_mAndV, e_kAndVt, e_kAndVf, e_mOrV, e_kOrVt, e_kOrVf, e_mNotV, e_kNotV, e_mNotB, e_kNotB, e_kNB, e_mIf, e_kIf, e_kIfS, e_mNil, e_mCons, e_kC1, e_kC2, e_mTup, e_kTup, e_mLst, e_kLst, e_mCall, e_mRng, e_kCall, e_kCallR, e_mNoP, e_mP, e_kPI, e_mSl, e_kS1, e_kS2, e_kS3, e_kCh1, e_kCh2, e_kCh3t, e_kCh3f, e_mYes, e_mItems, e_kItL, e_kItT, e_mIsi, e_kIsi, e_mNol, e_kNolN, e_kNolI, e_kNolB, e_kNolS, e_kNolT, e_kNolD, e_mListS, e_kLS, e_gSet, e_gsNil, e_gsCons, e_kG, e_gTupM, e_aNil, e_aVal, e_kA1, e_kA2, e_aLent, e_kL1, e_kL2, e_mCallU, e_kU1, e_kU2, e_kU3, e_mFill0, e_mFill1, e_mFill2, e_kF, e_kFl, e_mBack0, e_mBack1, e_mBack2, e_sNil, e_sCons, e_kSeqN, e_kSeqB, e_kSeqC, e_kSeqR, e_sIf, e_sBk, e_sCt, e_sRet, e_kRet, e_sDrop, e_kDrop, e_sSet, e_kSet, e_sTgt, e_kTgt, e_kT2, e_sPar, e_kP1, e_kP2, e_kAp0, e_kAp1, e_kAp2, e_kPu1, e_kPu2, e_kPu3, e_kPu4, e_kPu5, e_mFor, e_kFor, e_sFor0, e_kF1, e_kF2N, e_kF2C, e_kF2B, e_kF2R, e_kW1, e_kW2N, e_kW2C, e_kW2B, e_kW2R, e_mLc, e_kLc, e_kLc2, e_mL0, e_kM1, e_kM2, e_kM3, e_kM4, e_wipe0, e_wipe1, e_res0, e_res1, e_mDef, e_kDefR, e_kDefN, e_kDO, e_mOu0, e_mOuF, e_mOuS, e_mOuL, e_kOu, e_mChain, e_sApp, e_sPut, e_kAndV, e_kOrV, e_kCh3, List.getElem?_cons_zero, List.getElem?_cons_succ, List.set_cons_zero, List.set_cons_succ, List.map_cons, List.map_nil, List.length_cons, List.length_nil, List.cons_append, List.nil_append, List.replicate_succ, List.replicate_zero, Option.getD_some, Option.getD_none, decide_eq_true_eq, Bool.false_eq_true, Bool.true_eq_false, Bool.not_true, Bool.not_false, Bool.not_eq_true', decide_eq_false_iff_not, if_true, if_false, Nat.zero_add, Nat.reduceAdd, Nat.reduceSub, Nat.sub_self, Nat.sub_zero, Nat.add_zero, Nat.reduceEqDiff, List.isEmpty_nil, List.isEmpty_cons, o_add, o_sub, o_neg, o_lt, o_le, o_gt, o_ge, o_eqI, o_neI, o_eqB, o_neB, o_isN, o_isNotN, o_isB, n_non, n_bool, n_int, n_str, n_list, n_tuple, t_non, t_bool, t_int, t_list, t_tuple, o_ixT0, o_ixT1, o_ixT2, o_ixT3, o_ixT4, o_ixL0, o_ixL1, o_ixL2, o_ixL3, ix0, ix1, ix2, ix3, b_lenL, b_lenT, b_abs, b_int, b_tupL, b_tupT, b_lstL, b_lstT, b_gcd, b_max2, b_min2, r_chance y1, r_chance y2, gi, sm_pr] <;> rfl) ⟨_, rfl⟩ t3
  refine seqT (by simp only [e_mVar, e_kVar, e_mMov, e_kMov, e_mCst, e_kO, e_kOb, e_kOl, e_mBin, e_kB1, e_kB2, e_mUn, e_kU, e_mTb, e_kTb, e_mTru, e_kTru, e_mNot, e_kNot, e_mAnd, e_kAnd, e_mOr, e_kOr, e_mAndV, e_kAndVt, e_kAndVf, e_mOrV, e_kOrVt, e_kOrVf, e_mNotV, e_kNotV, e_mNotB, e_kNotB, e_kNB, e_mIf, e_kIf, e_kIfS, e_mNil, e_mCons, e_kC1, e_kC2, e_mTup, e_kTup, e_mLst, e_kLst, e_mCall, e_mRng, e_kCall, e_kCallR, e_mNoP, e_mP, e_kPI, e_mSl, e_kS1, e_kS2, e_kS3, e_kCh1, e_kCh2, e_kCh3t, e_kCh3f, e_mYes, e_mItems, e_kItL, e_kItT, e_mIsi, e_kIsi, e_mNol, e_kNolN, e_kNolI, e_kNolB, e_kNolS, e_kNolT, e_kNolD, e_mListS, e_kLS, e_gSet, e_gsNil, e_gsCons, e_kG, e_gTupM, e_aNil, e_aVal, e_kA1, e_kA2, e_aLent, e_kL1, e_kL2, e_mCallU, e_kU1, e_kU2, e_kU3, e_mFill0, e_mFill1, e_mFill2, e_kF, e_kFl, e_mBack0, e_mBack1, e_mBack2, e_sNil, e_sCons, e_kSeqN, e_kSeqB, e_kSeqC, e_kSeqR, e_sIf, e_sBk, e_sCt, e_sRet, e_kRet, e_sDrop, e_kDrop, e_sSet, e_kSet, e_sTgt, e_kTgt, e_kT2, e_sPar, e_kP1, e_kP2, e_kAp0, e_kAp1, e_kAp2, e_kPu1, e_kPu2, e_kPu3, e_kPu4, e_kPu5, e_mFor, e_kFor, e_sFor0, e_kF1, e_kF2N, e_kF2C, e_kF2B, e_kF2R, e_kW1, e_kW2N, e_kW2C, e_kW2B, e_kW2R, e_mLc, e_kLc, e_kLc2, e_mL0, e_kM1, e_kM2, e_kM3, e_kM4, e_wipe0, e_wipe1, e_res0, e_res1, e_mDef, e_kDefR, e_kDefN, e_kDO, e_mOu0, e_mOuF, e_mOuS, e_mOuL, e_kOu, e_mChain, e_sApp, e_sPut, e_kAndV, e_kOrV, e_kCh3, List.getElem?_cons_zero, List.getElem?_cons_succ, List.set_cons_zero, List.set_cons_succ, List.map_cons, List.map_nil, List.length_cons, List.length_nil, List.cons_append, List.nil_append, List.replicate_succ, List.replicate_zero, Option.getD_some, Option.getD_none, decide_eq_true_eq, Bool.false_eq_true, Bool.true_eq_false, Bool.not_true, Bool.not_false, Bool.not_eq_true', decide_eq_false_iff_not, if_true, if_false, Nat.zero_add, Nat.reduceAdd, Nat.reduceSub, Nat.sub_self, Nat.sub_zero, Nat.add_zero, Nat.reduceEqDiff, List.isEmpty_nil, List.isEmpty_cons, o_add, o_sub, o_neg, o_lt, o_le, o_gt, o_ge, o_eqI, o_neI, o_eqB, o_neB, o_isN, o_isNotN, o_isB, n_non, n_bool, n_int, n_str, n_list, n_tuple, t_non, t_bool, t_int, t_list, t_tuple, o_ixT0, o_ixT1, o_ixT2, o_ixT3, o_ixT4, o_ixL0, o_ixL1, o_ixL2, o_ixL3, ix0, ix1, ix2, ix3, b_lenL, b_lenT, b_abs, b_int, b_tupL, b_tupT, b_lstL, b_lstT, b_gcd, b_max2, b_min2, r3, L6] <;> rfl) ?_
  have L7 := lc_mapO (mt := gSet 6) (mk := mYes) (me := (mCallU fm__law_times [none, none] (aVal (mTup (mCons (mVar 6) (mCons (mCst (.int 1)) mNil))) (aVal (mBin opIx (mVar 5) (mVar 6)) aNil)))) PyData.int pr (fun f => (told[f.toNat]?).bind fun x => t_lmul (f, 1) x) [6] [some (.list (ns.map .int)), some d3, some (.int B), some (.int h), some (.int s), some (.list (told.map pr)), j6, none, none, none, none, none, none, none, none, none, none, none, none, none, none, none] (rg (s + 1)) ms (fun x y hx hy => by
    obtain ⟨z, y1, y2⟩ := bd hy
    have gi := o_ixLi (xs := told.map pr) (mem_rg hx) (a := pr z) (by rw [List.getElem?_map, y1]; rfl)
    have y2 := r_lmul y2
    rw [show pr (x, 1) = .tuple [.int x, .int 1] from rfl] at y2
    refine ⟨_, ?e2, rfl, rfl, ?h2, ?g2⟩
    case h2 => simp only [e_mVar, e_kVar, e_mMov, e_kMov, e_mCst, e_kO, e_kOb, e_kOl, e_mBin, e_kB1, e_kB2, e_mUn, e_kU, e_mTb, e_kTb, e_mTru, e_kTru, e_mNot, e_kNot, e_mAnd, e_kAnd, e_mOr, e_kOr, e_mAndV, e_kAndVt, e_kAndVf, e_mOrV, e_kOrVt, e_kOrVf, e_mNotV, e_kNotV, e_mNotB, e_kNotB, e_kNB, e_mIf, e_kIf, e_kIfS, e_mNil, e_mCons, e_kC1, e_kC2, e_mTup, e_kTup, e_mLst, e_kLst, e_mCall, e_mRng, e_kCall, e_kCallR, e_mNoP, e_mP, e_kPI, e_mSl, e_kS1, e_kS2, e_kS3, e_kCh1, e_kCh2, e_kCh3t, e_kCh3f, e_mYes, e_mItems, e_kItL, e_kItT, e_mIsi, e_kIsi, e_mNol, e_kNolN, e_kNolI, e_kNolB, e_kNolS, e_kNolT, e_kNolD, e_mListS, e_kLS, e_gSet, e_gsNil, e_gsCons, e_kG, e_gTupM, e_aNil, e_aVal, e_kA1, e_kA2, e_aLent, e_kL1, e_kL2, e_mCallU, e_kU1, e_kU2, e_kU3, e_mFill0, e_mFill1, e_mFill2, e_kF, e_kFl, e_mBack0, e_mBack1, e_mBack2, e_sNil, e_sCons, e_kSeqN, e_kSeqB, e_kSeqC, e_kSeqR, e_sIf, e_sBk, e_sCt, e_sRet, e_kRet, e_sDrop, e_kDrop, e_sSet, e_kSet, e_sTgt, e_kTgt, e_kT2, e_sPar, e_kP1, e_kP2, e_kAp0, e_kAp1, e_kAp2, e_kPu1, e_kPu2, e_kPu3, e_kPu4, e_kPu5, e_mFor, e_kFor, e_sFor0, e_kF1, e_kF2N, e_kF2C, e_kF2B, e_kF2R, e_kW1, e_kW2N, e_kW2C, e_kW2B, e_kW2R, e_mLc, e_kLc, e_kLc2, e_mL0, e_kM1, e_kM2, e_kM3, e_kM4, e_wipe0, e_wipe1, e_res0, e_res1, e_mDef, e_kDefR, e_kDefN, e_kDO, e_mOu0, e_mOuF, e_mOuS, e_mOuL, e_kOu, e_mChain, e_sApp, e_sPut, e_kAndV, e_kOrV, e_kCh3, List.getElem?_cons_zero, List.getElem?_cons_succ, List.set_cons_zero, List.set_cons_succ, List.map_cons, List.map_nil, List.length_cons, List.length_nil, List.cons_append, List.nil_append, List.replicate_succ, List.replicate_zero, Option.getD_some, Option.getD_none, decide_eq_true_eq, Bool.false_eq_true, Bool.true_eq_false, Bool.not_true, Bool.not_false, Bool.not_eq_true', decide_eq_false_iff_not, if_true, if_false, Nat.zero_add, Nat.reduceAdd, Nat.reduceSub, Nat.sub_self, Nat.sub_zero, Nat.add_zero, Nat.reduceEqDiff, List.isEmpty_nil, List.isEmpty_cons, o_add, o_sub, o_neg, o_lt, o_le, o_gt, o_ge, o_eqI, o_neI, o_eqB, o_neB, o_isN, o_isNotN, o_isB, n_non, n_bool, n_int, n_str, n_list, n_tuple, t_non, t_bool, t_int, t_list, t_tuple, o_ixT0, o_ixT1, o_ixT2, o_ixT3, o_ixT4, o_ixL0, o_ixL1, o_ixL2, o_ixL3, ix0, ix1, ix2, ix3, b_lenL, b_lenT, b_abs, b_int, b_tupL, b_tupT, b_lstL, b_lstT, b_gcd, b_max2, b_min2, gi, y2] <;> rfl
    case g2 => simp only [e_mVar, e_kVar, e_mMov, e_kMov, e_mCst, e_kO, e_kOb, e_kOl, e_mBin, e_kB1, e_kB2, e_mUn, e_kU, e_mTb, e_kTb, e_mTru, e_kTru, e_mNot, e_kNot, e_mAnd, e_kAnd, e_mOr, e_kOr, e_mAndV, e_kAndVt, e_kAndVf, e_mOrV, e_kOrVt, e_kOrVf, e_mNotV, e_kNotV, e_mNotB, e_kNotB, e_kNB, e_mIf, e_kIf, e_kIfS, e_mNil, e_mCons, e_kC1, e_kC2, e_mTup, e_kTup, e_mLst, e_kLst, e_mCall, e_mRng, e_kCall, e_kCallR, e_mNoP, e_mP, e_kPI, e_mSl, e_kS1, e_kS2, e_kS3, e_kCh1, e_kCh2, e_kCh3t, e_kCh3f, e_mYes, e_mItems, e_kItL, e_kItT, e_mIsi, e_kIsi, e_mNol, e_kNolN, e_kNolI, e_kNolB, e_kNolS, e_kNolT, e_kNolD, e_mListS, e_kLS, e_gSet, e_gsNil, e_gsCons, e_kG, e_gTupM, e_aNil, e_aVal, e_kA1, e_kA2, e_aLent, e_kL1, e_kL2, e_mCallU, e_kU1, e_kU2, e_kU3, e_mFill0, e_mFill1, e_mFill2, e_kF, e_kFl, e_mBack0, e_mBack1, e_mBack2, e_sNil, e_sCons, e_kSeqN, e_kSeqB, e_kSeqC, e_kSeqR, e_sIf, e_sBk, e_sCt, e_sRet, e_kRet, e_sDrop, e_kDrop, e_sSet, e_kSet, e_sTgt, e_kTgt, e_kT2, e_sPar, e_kP1, e_kP2, e_kAp0, e_kAp1, e_kAp2, e_kPu1, e_kPu2, e_kPu3, e_kPu4, e_kPu5, e_mFor, e_kFor, e_sFor0, e_kF1, e_kF2N, e_kF2C, e_kF2B, e_kF2R, e_kW1, e_kW2N, e_kW2C, e_kW2B, e_kW2R, e_mLc, e_kLc, e_kLc2, e_mL0, e_kM1, e_kM2, e_kM3, e_kM4, e_wipe0, e_wipe1, e_res0, e_res1, e_mDef, e_kDefR, e_kDefN, e_kDO, e_mOu0, e_mOuF, e_mOuS, e_mOuL, e_kOu, e_mChain, e_sApp, e_sPut, e_kAndV, e_kOrV, e_kCh3, List.getElem?_cons_zero, List.getElem?_cons_succ, List.set_cons_zero, List.set_cons_succ, List.map_cons, List.map_nil, List.length_cons, List.length_nil, List.cons_append, List.nil_append, List.replicate_succ, List.replicate_zero, Option.getD_some, Option.getD_none, decide_eq_true_eq, Bool.false_eq_true, Bool.true_eq_false, Bool.not_true, Bool.not_false, Bool.not_eq_true', decide_eq_false_iff_not, if_true, if_false, Nat.zero_add, Nat.reduceAdd, Nat.reduceSub, Nat.sub_self, Nat.sub_zero, Nat.add_zero, Nat.reduceEqDiff, List.isEmpty_nil, List.isEmpty_cons, o_add, o_sub, o_neg, o_lt, o_le, o_gt, o_ge, o_eqI, o_neI, o_eqB, o_neB, o_isN, o_isNotN, o_isB, n_non, n_bool, n_int, n_str, n_list, n_tuple, t_non, t_bool, t_int, t_list, t_tuple, o_ixT0, o_ixT1, o_ixT2, o_ixT3, o_ixT4, o_ixL0, o_ixL1, o_ixL2, o_ixL3, ix0, ix1, ix2, ix3, b_lenL, b_lenT, b_abs, b_int, b_tupL, b_tupT, b_lstL, b_lstT, b_gcd, b_max2, b_min2]) t4
  simp only [e_mVar, e_kVar, e_mMov, e_kMov, e_mCst, e_kO, e_kOb, e_kOl, e_mBin, e_kB1, e_kB2, e_mUn, e_kU, e_mTb, e_kTb, e_mTru, e_kTru, e_mNot, e_kNot, e_mAnd, e_kAnd, e_mOr, e_kOr, e_mAndV, e_kAndVt, e_kAndVf, e_mOrV, e_kOrVt, e_kOrVf, e_mNotV, e_kNotV, e_mNotB, e_kNotB, e_kNB, e_mIf, e_kIf, e_kIfS, e_mNil, e_mCons, e_kC1, e_kC2, e_mTup, e_kTup, e_mLst, e_kLst, e_mCall, e_mRng, e_kCall, e_kCallR, e_mNoP, e_mP, e_kPI, e_mSl, e_kS1, e_kS2, e_kS3, e_kCh1, e_kCh2, e_kCh3t, e_kCh3f, e_mYes, e_mItems, e_kItL, e_kItT, e_mIsi, e_kIsi, e_mNol, e_kNolN, e_kNolI, e_kNolB, e_kNolS, e_kNolT, e_kNolD, e_mListS, e_kLS, e_gSet, e_gsNil, e_gsCons, e_kG, e_gTupM, e_aNil, e_aVal, e_kA1, e_kA2, e_aLent, e_kL1, e_kL2, e_mCallU, e_kU1, e_kU2, e_kU3, e_mFill0, e_mFill1, e_mFill2, e_kF, e_kFl, e_mBack0, e_mBack1, e_mBack2, e_sNil, e_sCons, e_kSeqN, e_kSeqB, e_kSeqC, e_kSeqR, e_sIf, e_sBk, e_sCt, e_sRet, e_kRet, e_sDrop, e_kDrop, e_sSet, e_kSet, e_sTgt, e_kTgt, e_kT2, e_sPar, e_kP1, e_kP2, e_kAp0, e_kAp1, e_kAp2, e_kPu1, e_kPu2, e_kPu3, e_kPu4, e_kPu5, e_mFor, e_kFor, e_sFor0, e_kF1, e_kF2N, e_kF2C, e_kF2B, e_kF2R, e_kW1, e_kW2N, e_kW2C, e_kW2B, e_kW2R, e_mLc, e_kLc, e_kLc2, e_mL0, e_kM1, e_kM2, e_kM3, e_kM4, e_wipe0, e_wipe1, e_res0, e_res1, e_mDef, e_kDefR, e_kDefN, e_kDO, e_mOu0, e_mOuF, e_mOuS, e_mOuL, e_kOu, e_mChain, e_sApp, e_sPut, e_kAndV, e_kOrV, e_kCh3, List.getElem?_cons_zero, List.getElem?_cons_succ, List.set_cons_zero, List.set_cons_succ, List.map_cons, List.map_nil, List.length_cons, List.length_nil, List.cons_append, List.nil_append, List.replicate_succ, List.replicate_zero, Option.getD_some, Option.getD_none, decide_eq_true_eq, Bool.false_eq_true, Bool.true_eq_false, Bool.not_true, Bool.not_false, Bool.not_eq_true', decide_eq_false_iff_not, if_true, if_false, Nat.zero_add, Nat.reduceAdd, Nat.reduceSub, Nat.sub_self, Nat.sub_zero, Nat.add_zero, Nat.reduceEqDiff, List.isEmpty_nil, List.isEmpty_cons, o_add, o_sub, o_neg, o_lt, o_le, o_gt, o_ge, o_eqI, o_neI, o_eqB, o_neB, o_isN, o_isNotN, o_isB, n_non, n_bool, n_int, n_str, n_list, n_tuple, t_non, t_bool, t_int, t_list, t_tuple, o_ixT0, o_ixT1, o_ixT2, o_ixT3, o_ixT4, o_ixL0, o_ixL1, o_ixL2, o_ixL3, ix0, ix1, ix2, ix3, b_lenL, b_lenT, b_abs, b_int, b_tupL, b_tupT, b_lstL, b_lstT, b_gcd, b_max2, b_min2] at L7
  refine seqT (by simp only [e_mVar, e_kVar, e_mMov, e_kMov, e_mCst, e_kO, e_kOb, e_kOl, e_mBin, e_kB1, e_kB2, e_mUn, e_kU, e_mTb, e_kTb, e_mTru, e_kTru, e_mNot, e_kNot, e_mAnd, e_kAnd, e_mOr, e_kOr, e_mAndV, e_kAndVt, e_kAndVf, e_mOrV, e_kOrVt, e_kOrVf, e_mNotV, e_kNotV, e_mNotB, e_kNotB, e_kNB, e_mIf, e_kIf, e_kIfS, e_mNil, e_mCons, e_kC1, e_kC2, e_mTup, e_kTup, e_mLst, e_kLst, e_mCall, e_mRng, e_kCall, e_kCallR, e_mNoP, e_mP, e_kPI, e_mSl, e_kS1, e_kS2, e_kS3, e_kCh1, e_kCh2, e_kCh3t, e_kCh3f, e_mYes, e_mItems, e_kItL, e_kItT, e_mIsi, e_kIsi, e_mNol, e_kNolN, e_kNolI, e_kNolB, e_kNolS, e_kNolT, e_kNolD, e_mListS, e_kLS, e_gSet, e_gsNil, e_gsCons, e_kG, e_gTupM, e_aNil, e_aVal, e_kA1, e_kA2, e_aLent, e_kL1, e_kL2, e_mCallU, e_kU1, e_kU2, e_kU3, e_mFill0, e_mFill1, e_mFill2, e_kF, e_kFl, e_mBack0, e_mBack1, e_mBack2, e_sNil, e_sCons, e_kSeqN, e_kSeqB, e_kSeqC, e_kSeqR, e_sIf, e_sBk, e_sCt, e_sRet, e_kRet, e_sDrop, e_kDrop, e_sSet, e_kSet, e_sTgt, e_kTgt, e_kT2, e_sPar, e_kP1, e_kP2, e_kAp0, e_kAp1, e_kAp2, e_kPu1, e_kPu2, e_kPu3, e_kPu4, e_kPu5, e_mFor, e_kFor, e_sFor0, e_kF1, e_kF2N, e_kF2C, e_kF2B, e_kF2R, e_kW1, e_kW2N, e_kW2C, e_kW2B, e_kW2R, e_mLc, e_kLc, e_kLc2, e_mL0, e_kM1, e_kM2, e_kM3, e_kM4, e_wipe0, e_wipe1, e_res0, e_res1, e_mDef, e_kDefR, e_kDefN, e_kDO, e_mOu0, e_mOuF, e_mOuS, e_mOuL, e_kOu, e_mChain, e_sApp, e_sPut, e_kAndV, e_kOrV, e_kCh3, List.getElem?_cons_zero, List.getElem?_cons_succ, List.set_cons_zero, List.set_cons_succ, List.map_cons, List.map_nil, List.length_cons, List.length_nil, List.cons_append, List.nil_append, List.replicate_succ, List.replicate_zero, Option.getD_some, Option.getD_none, decide_eq_true_eq, Bool.false_eq_true, Bool.true_eq_false, Bool.not_true, Bool.not_false, Bool.not_eq_true', decide_eq_false_iff_not, if_true, if_false, Nat.zero_add, Nat.reduceAdd, Nat.reduceSub, Nat.sub_self, Nat.sub_zero, Nat.add_zero, Nat.reduceEqDiff, List.isEmpty_nil, List.isEmpty_cons, o_add, o_sub, o_neg, o_lt, o_le, o_gt, o_ge, o_eqI, o_neI, o_eqB, o_neB, o_isN, o_isNotN, o_isB, n_non, n_bool, n_int, n_str, n_list, n_tuple, t_non, t_bool, t_int, t_list, t_tuple, o_ixT0, o_ixT1, o_ixT2, o_ixT3, o_ixT4, o_ixL0, o_ixL1, o_ixL2, o_ixL3, ix0, ix1, ix2, ix3, b_lenL, b_lenT, b_abs, b_int, b_tupL, b_tupT, b_lstL, b_lstT, b_gcd, b_max2, b_min2, r1, r2, L7, r_lsum t5] <;> rfl) ?_
  refine seqT (by simp only [e_mVar, e_kVar, e_mMov, e_kMov, e_mCst, e_kO, e_kOb, e_kOl, e_mBin, e_kB1, e_kB2, e_mUn, e_kU, e_mTb, e_kTb, e_mTru, e_kTru, e_mNot, e_kNot, e_mAnd, e_kAnd, e_mOr, e_kOr, e_mAndV, e_kAndVt, e_kAndVf, e_mOrV, e_kOrVt, e_kOrVf, e_mNotV, e_kNotV, e_mNotB, e_kNotB, e_kNB, e_mIf, e_kIf, e_kIfS, e_mNil, e_mCons, e_kC1, e_kC2, e_mTup, e_kTup, e_mLst, e_kLst, e_mCall, e_mRng, e_kCall, e_kCallR, e_mNoP, e_mP, e_kPI, e_mSl, e_kS1, e_kS2, e_kS3, e_kCh1, e_kCh2, e_kCh3t, e_kCh3f, e_mYes, e_mItems, e_kItL, e_kItT, e_mIsi, e_kIsi, e_mNol, e_kNolN, e_kNolI, e_kNolB, e_kNolS, e_kNolT, e_kNolD, e_mListS, e_kLS, e_gSet, e_gsNil, e_gsCons, e_kG, e_gTupM, e_aNil, e_aVal, e_kA1, e_kA2, e_aLent, e_kL1, e_kL2, e_mCallU, e_kU1, e_kU2, e_kU3, e_mFill0, e_mFill1, e_mFill2, e_kF, e_kFl, e_mBack0, e_mBack1, e_mBack2, e_sNil, e_sCons, e_kSeqN, e_kSeqB, e_kSeqC, e_kSeqR, e_sIf, e_sBk, e_sCt, e_sRet, e_kRet, e_sDrop, e_kDrop, e_sSet, e_kSet, e_sTgt, e_kTgt, e_kT2, e_sPar, e_kP1, e_kP2, e_kAp0, e_kAp1, e_kAp2, e_kPu1, e_kPu2, e_kPu3, e_kPu4, e_kPu5, e_mFor, e_kFor, e_sFor0, e_kF1, e_kF2N, e_kF2C, e_kF2B, e_kF2R, e_kW1, e_kW2N, e_kW2C, e_kW2B, e_kW2R, e_mLc, e_kLc, e_kLc2, e_mL0, e_kM1, e_kM2, e_kM3, e_kM4, e_wipe0, e_wipe1, e_res0, e_res1, e_mDef, e_kDefR, e_kDefN, e_kDO, e_mOu0, e_mOuF, e_mOuS, e_mOuL, e_kOu, e_mChain, e_sApp, e_sPut, e_kAndV, e_kOrV, e_kCh3, List.getElem?_cons_zero, List.getElem?_cons_succ, List.set_cons_zero, List.set_cons_succ, List.map_cons, List.map_nil, List.length_cons, List.length_nil, List.cons_append, List.nil_append, List.replicate_succ, List.replicate_zero, Option.getD_some, Option.getD_none, decide_eq_true_eq, Bool.false_eq_true, Bool.true_eq_false, Bool.not_true, Bool.not_false, Bool.not_eq_true', decide_eq_false_iff_not, if_true, if_false, Nat.zero_add, Nat.reduceAdd, Nat.reduceSub, Nat.sub_self, Nat.sub_zero, Nat.add_zero, Nat.reduceEqDiff, List.isEmpty_nil, List.isEmpty_cons, o_add, o_sub, o_neg, o_lt, o_le, o_gt, o_ge, o_eqI, o_neI, o_eqB, o_neB, o_isN, o_isNotN, o_isB, n_non, n_bool, n_int, n_str, n_list, n_tuple, t_non, t_bool, t_int, t_list, t_tuple, o_ixT0, o_ixT1, o_ixT2, o_ixT3, o_ixT4, o_ixL0, o_ixL1, o_ixL2, o_ixL3, ix0, ix1, ix2, ix3, b_lenL, b_lenT, b_abs, b_int, b_tupL, b_tupT, b_lstL, b_lstT, b_gcd, b_max2, b_min2, o_mu t6, r_low t7, o_nePr, decide_true] <;> rfl) ?_
  obtain ⟨part, v1, c2⟩ := bd c2
  refine seqT (by simp only [e_mVar, e_kVar, e_mMov, e_kMov, e_mCst, e_kO, e_kOb, e_kOl, e_mBin, e_kB1, e_kB2, e_mUn, e_kU, e_mTb, e_kTb, e_mTru, e_kTru, e_mNot, e_kNot, e_mAnd, e_kAnd, e_mOr, e_kOr, e_mAndV, e_kAndVt, e_kAndVf, e_mOrV, e_kOrVt, e_kOrVf, e_mNotV, e_kNotV, e_mNotB, e_kNotB, e_kNB, e_mIf, e_kIf, e_kIfS, e_mNil, e_mCons, e_kC1, e_kC2, e_mTup, e_kTup, e_mLst, e_kLst, e_mCall, e_mRng, e_kCall, e_kCallR, e_mNoP, e_mP, e_kPI, e_mSl, e_kS1, e_kS2, e_kS3, e_kCh1, e_kCh2, e_kCh3t, e_kCh3f, e_mYes, e_mItems, e_kItL, e_kItT, e_mIsi, e_kIsi, e_mNol, e_kNolN, e_kNolI, e_kNolB, e_kNolS, e_kNolT, e_kNolD, e_mListS, e_kLS, e_gSet, e_gsNil, e_gsCons, e_kG, e_gTupM, e_aNil, e_aVal, e_kA1, e_kA2, e_aLent, e_kL1, e_kL2, e_mCallU, e_kU1, e_kU2, e_kU3, e_mFill0, e_mFill1, e_mFill2, e_kF, e_kFl, e_mBack0, e_mBack1, e_mBack2, e_sNil, e_sCons, e_kSeqN, e_kSeqB, e_kSeqC, e_kSeqR, e_sIf, e_sBk, e_sCt, e_sRet, e_kRet, e_sDrop, e_kDrop, e_sSet, e_kSet, e_sTgt, e_kTgt, e_kT2, e_sPar, e_kP1, e_kP2, e_kAp0, e_kAp1, e_kAp2, e_kPu1, e_kPu2, e_kPu3, e_kPu4, e_kPu5, e_mFor, e_kFor, e_sFor0, e_kF1, e_kF2N, e_kF2C, e_kF2B, e_kF2R, e_kW1, e_kW2N, e_kW2C, e_kW2B, e_kW2R, e_mLc, e_kLc, e_kLc2, e_mL0, e_kM1, e_kM2, e_kM3, e_kM4, e_wipe0, e_wipe1, e_res0, e_res1, e_mDef, e_kDefR, e_kDefN, e_kDO, e_mOu0, e_mOuF, e_mOuS, e_mOuL, e_kOu, e_mChain, e_sApp, e_sPut, e_kAndV, e_kOrV, e_kCh3, List.getElem?_cons_zero, List.getElem?_cons_succ, List.set_cons_zero, List.set_cons_succ, List.map_cons, List.map_nil, List.length_cons, List.length_nil, List.cons_append, List.nil_append, List.replicate_succ, List.replicate_zero, Option.getD_some, Option.getD_none, decide_eq_true_eq, Bool.false_eq_true, Bool.true_eq_false, Bool.not_true, Bool.not_false, Bool.not_eq_true', decide_eq_false_iff_not, if_true, if_false, Nat.zero_add, Nat.reduceAdd, Nat.reduceSub, Nat.sub_self, Nat.sub_zero, Nat.add_zero, Nat.reduceEqDiff, List.isEmpty_nil, List.isEmpty_cons, o_add, o_sub, o_neg, o_lt, o_le, o_gt, o_ge, o_eqI, o_neI, o_eqB, o_neB, o_isN, o_isNotN, o_isB, n_non, n_bool, n_int, n_str, n_list, n_tuple, t_non, t_bool, t_int, t_list, t_tuple, o_ixT0, o_ixT1, o_ixT2, o_ixT3, o_ixT4, o_ixL0, o_ixL1, o_ixL2, o_ixL3, ix0, ix1, ix2, ix3, b_lenL, b_lenT, b_abs, b_int, b_tupL, b_tupT, b_lstL, b_lstT, b_gcd, b_max2, b_min2, nx_eq, e4, r_low v1] <;> rfl) ?_
  have S10 : ∃ k9, (sIf (mTb (mBin opGt (mVar 3) (mCst (.int 0)))) (sCons (sSet 9 (mCallU fm_enough [none, none, none] (aVal (mVar 2) (aVal (mVar 3) (aVal (mVar 8) aNil))))) (sCons (sIf (mOr (mTru (mCallU fm__law_below [none, none] (aVal (mCallU fm__law_less_by [none, none] (aVal (mTup (mCons (mCst (.int 1)) (mCons (mCst (.int 1)) mNil))) (aVal (mCallU fm_chance [none, none, none, none] (aVal (mVar 2) (aVal (mVar 3) (aVal (mVar 9) (aVal (mCst (.int 0)) aNil))))) aNil))) (aVal (mVar 8) aNil)))) (mAnd (mTb (mBin opGt (mVar 9) (mCst (.int 0)))) (mNot (mTru (mCallU fm__law_below [none, none] (aVal (mCallU fm__law_less_by [none, none] (aVal (mTup (mCons (mCst (.int 1)) (mCons (mCst (.int 1)) mNil))) (aVal (mCallU fm_chance [none, none, none, none] (aVal (mVar 2) (aVal (mVar 3) (aVal (mBin opSub (mVar 9) (mCst (.int 1))) (aVal (mCst (.int 0)) aNil))))) aNil))) (aVal (mVar 8) aNil))))))) (sRet (mCst (.bool false))) sNil) (sIf (mAnd (mTb (mBin opLt (mVar 3) (mVar 2))) (mTb (mBin opGt (mCallU fm_enough [none, none, none] (aVal (mVar 2) (aVal (mBin opAdd (mVar 3) (mCst (.int 1))) (aVal (mVar 8) aNil)))) (mVar 9)))) (sRet (mCst (.bool false))) sNil))) sNil) [some (.list (ns.map .int)), some d4, some (.int B), some (.int h), some (.int s), some (.list (told.map pr)), j6, some (pr mean), some (pr part), none, none, none, none, none, none, none, none, none, none, none, none, none] = some (.nx, [some (.list (ns.map .int)), some d4, some (.int B), some (.int h), some (.int s), some (.list (told.map pr)), j6, some (pr mean), some (pr part), k9, none, none, none, none, none, none, none, none, none, none, none, none]) := by
    have w : pr (1, 1) = .tuple [.int 1, .int 1] := rfl
    split at c2
    · rename_i h0
      obtain ⟨few, v2, c2⟩ := bd c2
      obtain ⟨c, v3, c2⟩ := bd c2
      obtain ⟨u, v4, c2⟩ := bd c2
      obtain ⟨z, v5, c2⟩ := bd c2
      split at c2
      · cases c2
      · rename_i hz
        have hz : z = false := by simpa using hz
        subst hz
        obtain ⟨z2, v6, c2⟩ := bd c2
        split at c2
        · cases c2
        · rename_i hz2
          have hz2 : z2 = true := by simpa using hz2
          subst hz2
          have v4 := r_lsub v4
          rw [w] at v4
          have P : ∃ e, (e = true ∨ e = false) ∧ (if 0 < few then ∃ c u, t_chance B h (few - 1) 0 = some c ∧ t_lsub (1, 1) c = some u ∧ t_less u part = some true else True) := by
            refine ⟨true, .inl rfl, ?_⟩
            split
            · rename_i hf
              rw [if_pos hf] at v6
              obtain ⟨c, w1, v6⟩ := bd v6
              obtain ⟨u, w2, v6⟩ := bd v6
              exact ⟨c, u, w1, w2, v6⟩
            · trivial
          obtain ⟨_, _, P⟩ := P
          by_cases hf : 0 < few
          · rw [if_pos hf] at P
            obtain ⟨c', u', w1, w2, w3⟩ := P
            have w2 := r_lsub w2
            rw [w] at w2
            split at c2
            · rename_i hb2
              obtain ⟨few2, x1, c2⟩ := bd c2
              split at c2
              · cases c2
              · rename_i hx
                exact ⟨_, by simp only [e_mVar, e_kVar, e_mMov, e_kMov, e_mCst, e_kO, e_kOb, e_kOl, e_mBin, e_kB1, e_kB2, e_mUn, e_kU, e_mTb, e_kTb, e_mTru, e_kTru, e_mNot, e_kNot, e_mAnd, e_kAnd, e_mOr, e_kOr, e_mAndV, e_kAndVt, e_kAndVf, e_mOrV, e_kOrVt, e_kOrVf, e_mNotV, e_kNotV, e_mNotB, e_kNotB, e_kNB, e_mIf, e_kIf, e_kIfS, e_mNil, e_mCons, e_kC1, e_kC2, e_mTup, e_kTup, e_mLst, e_kLst, e_mCall, e_mRng, e_kCall, e_kCallR, e_mNoP, e_mP, e_kPI, e_mSl, e_kS1, e_kS2, e_kS3, e_kCh1, e_kCh2, e_kCh3t, e_kCh3f, e_mYes, e_mItems, e_kItL, e_kItT, e_mIsi, e_kIsi, e_mNol, e_kNolN, e_kNolI, e_kNolB, e_kNolS, e_kNolT, e_kNolD, e_mListS, e_kLS, e_gSet, e_gsNil, e_gsCons, e_kG, e_gTupM, e_aNil, e_aVal, e_kA1, e_kA2, e_aLent, e_kL1, e_kL2, e_mCallU, e_kU1, e_kU2, e_kU3, e_mFill0, e_mFill1, e_mFill2, e_kF, e_kFl, e_mBack0, e_mBack1, e_mBack2, e_sNil, e_sCons, e_kSeqN, e_kSeqB, e_kSeqC, e_kSeqR, e_sIf, e_sBk, e_sCt, e_sRet, e_kRet, e_sDrop, e_kDrop, e_sSet, e_kSet, e_sTgt, e_kTgt, e_kT2, e_sPar, e_kP1, e_kP2, e_kAp0, e_kAp1, e_kAp2, e_kPu1, e_kPu2, e_kPu3, e_kPu4, e_kPu5, e_mFor, e_kFor, e_sFor0, e_kF1, e_kF2N, e_kF2C, e_kF2B, e_kF2R, e_kW1, e_kW2N, e_kW2C, e_kW2B, e_kW2R, e_mLc, e_kLc, e_kLc2, e_mL0, e_kM1, e_kM2, e_kM3, e_kM4, e_wipe0, e_wipe1, e_res0, e_res1, e_mDef, e_kDefR, e_kDefN, e_kDO, e_mOu0, e_mOuF, e_mOuS, e_mOuL, e_kOu, e_mChain, e_sApp, e_sPut, e_kAndV, e_kOrV, e_kCh3, List.getElem?_cons_zero, List.getElem?_cons_succ, List.set_cons_zero, List.set_cons_succ, List.map_cons, List.map_nil, List.length_cons, List.length_nil, List.cons_append, List.nil_append, List.replicate_succ, List.replicate_zero, Option.getD_some, Option.getD_none, decide_eq_true_eq, Bool.false_eq_true, Bool.true_eq_false, Bool.not_true, Bool.not_false, Bool.not_eq_true', decide_eq_false_iff_not, if_true, if_false, Nat.zero_add, Nat.reduceAdd, Nat.reduceSub, Nat.sub_self, Nat.sub_zero, Nat.add_zero, Nat.reduceEqDiff, List.isEmpty_nil, List.isEmpty_cons, o_add, o_sub, o_neg, o_lt, o_le, o_gt, o_ge, o_eqI, o_neI, o_eqB, o_neB, o_isN, o_isNotN, o_isB, n_non, n_bool, n_int, n_str, n_list, n_tuple, t_non, t_bool, t_int, t_list, t_tuple, o_ixT0, o_ixT1, o_ixT2, o_ixT3, o_ixT4, o_ixL0, o_ixL1, o_ixL2, o_ixL3, ix0, ix1, ix2, ix3, b_lenL, b_lenT, b_abs, b_int, b_tupL, b_tupT, b_lstL, b_lstT, b_gcd, b_max2, b_min2, h0, r_enough v2, r_chance v3, v4, r_lbel v5, hf, r_chance w1, w2, r_lbel w3, hb2, r_enough x1, hx] <;> rfl⟩
            · rename_i hb2
              exact ⟨_, by simp only [e_mVar, e_kVar, e_mMov, e_kMov, e_mCst, e_kO, e_kOb, e_kOl, e_mBin, e_kB1, e_kB2, e_mUn, e_kU, e_mTb, e_kTb, e_mTru, e_kTru, e_mNot, e_kNot, e_mAnd, e_kAnd, e_mOr, e_kOr, e_mAndV, e_kAndVt, e_kAndVf, e_mOrV, e_kOrVt, e_kOrVf, e_mNotV, e_kNotV, e_mNotB, e_kNotB, e_kNB, e_mIf, e_kIf, e_kIfS, e_mNil, e_mCons, e_kC1, e_kC2, e_mTup, e_kTup, e_mLst, e_kLst, e_mCall, e_mRng, e_kCall, e_kCallR, e_mNoP, e_mP, e_kPI, e_mSl, e_kS1, e_kS2, e_kS3, e_kCh1, e_kCh2, e_kCh3t, e_kCh3f, e_mYes, e_mItems, e_kItL, e_kItT, e_mIsi, e_kIsi, e_mNol, e_kNolN, e_kNolI, e_kNolB, e_kNolS, e_kNolT, e_kNolD, e_mListS, e_kLS, e_gSet, e_gsNil, e_gsCons, e_kG, e_gTupM, e_aNil, e_aVal, e_kA1, e_kA2, e_aLent, e_kL1, e_kL2, e_mCallU, e_kU1, e_kU2, e_kU3, e_mFill0, e_mFill1, e_mFill2, e_kF, e_kFl, e_mBack0, e_mBack1, e_mBack2, e_sNil, e_sCons, e_kSeqN, e_kSeqB, e_kSeqC, e_kSeqR, e_sIf, e_sBk, e_sCt, e_sRet, e_kRet, e_sDrop, e_kDrop, e_sSet, e_kSet, e_sTgt, e_kTgt, e_kT2, e_sPar, e_kP1, e_kP2, e_kAp0, e_kAp1, e_kAp2, e_kPu1, e_kPu2, e_kPu3, e_kPu4, e_kPu5, e_mFor, e_kFor, e_sFor0, e_kF1, e_kF2N, e_kF2C, e_kF2B, e_kF2R, e_kW1, e_kW2N, e_kW2C, e_kW2B, e_kW2R, e_mLc, e_kLc, e_kLc2, e_mL0, e_kM1, e_kM2, e_kM3, e_kM4, e_wipe0, e_wipe1, e_res0, e_res1, e_mDef, e_kDefR, e_kDefN, e_kDO, e_mOu0, e_mOuF, e_mOuS, e_mOuL, e_kOu, e_mChain, e_sApp, e_sPut, e_kAndV, e_kOrV, e_kCh3, List.getElem?_cons_zero, List.getElem?_cons_succ, List.set_cons_zero, List.set_cons_succ, List.map_cons, List.map_nil, List.length_cons, List.length_nil, List.cons_append, List.nil_append, List.replicate_succ, List.replicate_zero, Option.getD_some, Option.getD_none, decide_eq_true_eq, Bool.false_eq_true, Bool.true_eq_false, Bool.not_true, Bool.not_false, Bool.not_eq_true', decide_eq_false_iff_not, if_true, if_false, Nat.zero_add, Nat.reduceAdd, Nat.reduceSub, Nat.sub_self, Nat.sub_zero, Nat.add_zero, Nat.reduceEqDiff, List.isEmpty_nil, List.isEmpty_cons, o_add, o_sub, o_neg, o_lt, o_le, o_gt, o_ge, o_eqI, o_neI, o_eqB, o_neB, o_isN, o_isNotN, o_isB, n_non, n_bool, n_int, n_str, n_list, n_tuple, t_non, t_bool, t_int, t_list, t_tuple, o_ixT0, o_ixT1, o_ixT2, o_ixT3, o_ixT4, o_ixL0, o_ixL1, o_ixL2, o_ixL3, ix0, ix1, ix2, ix3, b_lenL, b_lenT, b_abs, b_int, b_tupL, b_tupT, b_lstL, b_lstT, b_gcd, b_max2, b_min2, h0, r_enough v2, r_chance v3, v4, r_lbel v5, hf, r_chance w1, w2, r_lbel w3, hb2] <;> rfl⟩
          · split at c2
            · rename_i hb2
              obtain ⟨few2, x1, c2⟩ := bd c2
              split at c2
              · cases c2
              · rename_i hx
                exact ⟨_, by simp only [e_mVar, e_kVar, e_mMov, e_kMov, e_mCst, e_kO, e_kOb, e_kOl, e_mBin, e_kB1, e_kB2, e_mUn, e_kU, e_mTb, e_kTb, e_mTru, e_kTru, e_mNot, e_kNot, e_mAnd, e_kAnd, e_mOr, e_kOr, e_mAndV, e_kAndVt, e_kAndVf, e_mOrV, e_kOrVt, e_kOrVf, e_mNotV, e_kNotV, e_mNotB, e_kNotB, e_kNB, e_mIf, e_kIf, e_kIfS, e_mNil, e_mCons, e_kC1, e_kC2, e_mTup, e_kTup, e_mLst, e_kLst, e_mCall, e_mRng, e_kCall, e_kCallR, e_mNoP, e_mP, e_kPI, e_mSl, e_kS1, e_kS2, e_kS3, e_kCh1, e_kCh2, e_kCh3t, e_kCh3f, e_mYes, e_mItems, e_kItL, e_kItT, e_mIsi, e_kIsi, e_mNol, e_kNolN, e_kNolI, e_kNolB, e_kNolS, e_kNolT, e_kNolD, e_mListS, e_kLS, e_gSet, e_gsNil, e_gsCons, e_kG, e_gTupM, e_aNil, e_aVal, e_kA1, e_kA2, e_aLent, e_kL1, e_kL2, e_mCallU, e_kU1, e_kU2, e_kU3, e_mFill0, e_mFill1, e_mFill2, e_kF, e_kFl, e_mBack0, e_mBack1, e_mBack2, e_sNil, e_sCons, e_kSeqN, e_kSeqB, e_kSeqC, e_kSeqR, e_sIf, e_sBk, e_sCt, e_sRet, e_kRet, e_sDrop, e_kDrop, e_sSet, e_kSet, e_sTgt, e_kTgt, e_kT2, e_sPar, e_kP1, e_kP2, e_kAp0, e_kAp1, e_kAp2, e_kPu1, e_kPu2, e_kPu3, e_kPu4, e_kPu5, e_mFor, e_kFor, e_sFor0, e_kF1, e_kF2N, e_kF2C, e_kF2B, e_kF2R, e_kW1, e_kW2N, e_kW2C, e_kW2B, e_kW2R, e_mLc, e_kLc, e_kLc2, e_mL0, e_kM1, e_kM2, e_kM3, e_kM4, e_wipe0, e_wipe1, e_res0, e_res1, e_mDef, e_kDefR, e_kDefN, e_kDO, e_mOu0, e_mOuF, e_mOuS, e_mOuL, e_kOu, e_mChain, e_sApp, e_sPut, e_kAndV, e_kOrV, e_kCh3, List.getElem?_cons_zero, List.getElem?_cons_succ, List.set_cons_zero, List.set_cons_succ, List.map_cons, List.map_nil, List.length_cons, List.length_nil, List.cons_append, List.nil_append, List.replicate_succ, List.replicate_zero, Option.getD_some, Option.getD_none, decide_eq_true_eq, Bool.false_eq_true, Bool.true_eq_false, Bool.not_true, Bool.not_false, Bool.not_eq_true', decide_eq_false_iff_not, if_true, if_false, Nat.zero_add, Nat.reduceAdd, Nat.reduceSub, Nat.sub_self, Nat.sub_zero, Nat.add_zero, Nat.reduceEqDiff, List.isEmpty_nil, List.isEmpty_cons, o_add, o_sub, o_neg, o_lt, o_le, o_gt, o_ge, o_eqI, o_neI, o_eqB, o_neB, o_isN, o_isNotN, o_isB, n_non, n_bool, n_int, n_str, n_list, n_tuple, t_non, t_bool, t_int, t_list, t_tuple, o_ixT0, o_ixT1, o_ixT2, o_ixT3, o_ixT4, o_ixL0, o_ixL1, o_ixL2, o_ixL3, ix0, ix1, ix2, ix3, b_lenL, b_lenT, b_abs, b_int, b_tupL, b_tupT, b_lstL, b_lstT, b_gcd, b_max2, b_min2, h0, r_enough v2, r_chance v3, v4, r_lbel v5, hf, hb2, r_enough x1, hx] <;> rfl⟩
            · rename_i hb2
              exact ⟨_, by simp only [e_mVar, e_kVar, e_mMov, e_kMov, e_mCst, e_kO, e_kOb, e_kOl, e_mBin, e_kB1, e_kB2, e_mUn, e_kU, e_mTb, e_kTb, e_mTru, e_kTru, e_mNot, e_kNot, e_mAnd, e_kAnd, e_mOr, e_kOr, e_mAndV, e_kAndVt, e_kAndVf, e_mOrV, e_kOrVt, e_kOrVf, e_mNotV, e_kNotV, e_mNotB, e_kNotB, e_kNB, e_mIf, e_kIf, e_kIfS, e_mNil, e_mCons, e_kC1, e_kC2, e_mTup, e_kTup, e_mLst, e_kLst, e_mCall, e_mRng, e_kCall, e_kCallR, e_mNoP, e_mP, e_kPI, e_mSl, e_kS1, e_kS2, e_kS3, e_kCh1, e_kCh2, e_kCh3t, e_kCh3f, e_mYes, e_mItems, e_kItL, e_kItT, e_mIsi, e_kIsi, e_mNol, e_kNolN, e_kNolI, e_kNolB, e_kNolS, e_kNolT, e_kNolD, e_mListS, e_kLS, e_gSet, e_gsNil, e_gsCons, e_kG, e_gTupM, e_aNil, e_aVal, e_kA1, e_kA2, e_aLent, e_kL1, e_kL2, e_mCallU, e_kU1, e_kU2, e_kU3, e_mFill0, e_mFill1, e_mFill2, e_kF, e_kFl, e_mBack0, e_mBack1, e_mBack2, e_sNil, e_sCons, e_kSeqN, e_kSeqB, e_kSeqC, e_kSeqR, e_sIf, e_sBk, e_sCt, e_sRet, e_kRet, e_sDrop, e_kDrop, e_sSet, e_kSet, e_sTgt, e_kTgt, e_kT2, e_sPar, e_kP1, e_kP2, e_kAp0, e_kAp1, e_kAp2, e_kPu1, e_kPu2, e_kPu3, e_kPu4, e_kPu5, e_mFor, e_kFor, e_sFor0, e_kF1, e_kF2N, e_kF2C, e_kF2B, e_kF2R, e_kW1, e_kW2N, e_kW2C, e_kW2B, e_kW2R, e_mLc, e_kLc, e_kLc2, e_mL0, e_kM1, e_kM2, e_kM3, e_kM4, e_wipe0, e_wipe1, e_res0, e_res1, e_mDef, e_kDefR, e_kDefN, e_kDO, e_mOu0, e_mOuF, e_mOuS, e_mOuL, e_kOu, e_mChain, e_sApp, e_sPut, e_kAndV, e_kOrV, e_kCh3, List.getElem?_cons_zero, List.getElem?_cons_succ, List.set_cons_zero, List.set_cons_succ, List.map_cons, List.map_nil, List.length_cons, List.length_nil, List.cons_append, List.nil_append, List.replicate_succ, List.replicate_zero, Option.getD_some, Option.getD_none, decide_eq_true_eq, Bool.false_eq_true, Bool.true_eq_false, Bool.not_true, Bool.not_false, Bool.not_eq_true', decide_eq_false_iff_not, if_true, if_false, Nat.zero_add, Nat.reduceAdd, Nat.reduceSub, Nat.sub_self, Nat.sub_zero, Nat.add_zero, Nat.reduceEqDiff, List.isEmpty_nil, List.isEmpty_cons, o_add, o_sub, o_neg, o_lt, o_le, o_gt, o_ge, o_eqI, o_neI, o_eqB, o_neB, o_isN, o_isNotN, o_isB, n_non, n_bool, n_int, n_str, n_list, n_tuple, t_non, t_bool, t_int, t_list, t_tuple, o_ixT0, o_ixT1, o_ixT2, o_ixT3, o_ixT4, o_ixL0, o_ixL1, o_ixL2, o_ixL3, ix0, ix1, ix2, ix3, b_lenL, b_lenT, b_abs, b_int, b_tupL, b_tupT, b_lstL, b_lstT, b_gcd, b_max2, b_min2, h0, r_enough v2, r_chance v3, v4, r_lbel v5, hf, hb2] <;> rfl⟩
    · rename_i h0
      exact ⟨none, by simp only [e_mVar, e_kVar, e_mMov, e_kMov, e_mCst, e_kO, e_kOb, e_kOl, e_mBin, e_kB1, e_kB2, e_mUn, e_kU, e_mTb, e_kTb, e_mTru, e_kTru, e_mNot, e_kNot, e_mAnd, e_kAnd, e_mOr, e_kOr, e_mAndV, e_kAndVt, e_kAndVf, e_mOrV, e_kOrVt, e_kOrVf, e_mNotV, e_kNotV, e_mNotB, e_kNotB, e_kNB, e_mIf, e_kIf, e_kIfS, e_mNil, e_mCons, e_kC1, e_kC2, e_mTup, e_kTup, e_mLst, e_kLst, e_mCall, e_mRng, e_kCall, e_kCallR, e_mNoP, e_mP, e_kPI, e_mSl, e_kS1, e_kS2, e_kS3, e_kCh1, e_kCh2, e_kCh3t, e_kCh3f, e_mYes, e_mItems, e_kItL, e_kItT, e_mIsi, e_kIsi, e_mNol, e_kNolN, e_kNolI, e_kNolB, e_kNolS, e_kNolT, e_kNolD, e_mListS, e_kLS, e_gSet, e_gsNil, e_gsCons, e_kG, e_gTupM, e_aNil, e_aVal, e_kA1, e_kA2, e_aLent, e_kL1, e_kL2, e_mCallU, e_kU1, e_kU2, e_kU3, e_mFill0, e_mFill1, e_mFill2, e_kF, e_kFl, e_mBack0, e_mBack1, e_mBack2, e_sNil, e_sCons, e_kSeqN, e_kSeqB, e_kSeqC, e_kSeqR, e_sIf, e_sBk, e_sCt, e_sRet, e_kRet, e_sDrop, e_kDrop, e_sSet, e_kSet, e_sTgt, e_kTgt, e_kT2, e_sPar, e_kP1, e_kP2, e_kAp0, e_kAp1, e_kAp2, e_kPu1, e_kPu2, e_kPu3, e_kPu4, e_kPu5, e_mFor, e_kFor, e_sFor0, e_kF1, e_kF2N, e_kF2C, e_kF2B, e_kF2R, e_kW1, e_kW2N, e_kW2C, e_kW2B, e_kW2R, e_mLc, e_kLc, e_kLc2, e_mL0, e_kM1, e_kM2, e_kM3, e_kM4, e_wipe0, e_wipe1, e_res0, e_res1, e_mDef, e_kDefR, e_kDefN, e_kDO, e_mOu0, e_mOuF, e_mOuS, e_mOuL, e_kOu, e_mChain, e_sApp, e_sPut, e_kAndV, e_kOrV, e_kCh3, List.getElem?_cons_zero, List.getElem?_cons_succ, List.set_cons_zero, List.set_cons_succ, List.map_cons, List.map_nil, List.length_cons, List.length_nil, List.cons_append, List.nil_append, List.replicate_succ, List.replicate_zero, Option.getD_some, Option.getD_none, decide_eq_true_eq, Bool.false_eq_true, Bool.true_eq_false, Bool.not_true, Bool.not_false, Bool.not_eq_true', decide_eq_false_iff_not, if_true, if_false, Nat.zero_add, Nat.reduceAdd, Nat.reduceSub, Nat.sub_self, Nat.sub_zero, Nat.add_zero, Nat.reduceEqDiff, List.isEmpty_nil, List.isEmpty_cons, o_add, o_sub, o_neg, o_lt, o_le, o_gt, o_ge, o_eqI, o_neI, o_eqB, o_neB, o_isN, o_isNotN, o_isB, n_non, n_bool, n_int, n_str, n_list, n_tuple, t_non, t_bool, t_int, t_list, t_tuple, o_ixT0, o_ixT1, o_ixT2, o_ixT3, o_ixT4, o_ixL0, o_ixL1, o_ixL2, o_ixL3, ix0, ix1, ix2, ix3, b_lenL, b_lenT, b_abs, b_int, b_tupL, b_tupT, b_lstL, b_lstT, b_gcd, b_max2, b_min2, h0]⟩
  obtain ⟨k9, S10⟩ := S10
  refine seqT S10 ?_
  refine seqT (by simp only [e_mVar, e_kVar, e_mMov, e_kMov, e_mCst, e_kO, e_kOb, e_kOl, e_mBin, e_kB1, e_kB2, e_mUn, e_kU, e_mTb, e_kTb, e_mTru, e_kTru, e_mNot, e_kNot, e_mAnd, e_kAnd, e_mOr, e_kOr, e_mAndV, e_kAndVt, e_kAndVf, e_mOrV, e_kOrVt, e_kOrVf, e_mNotV, e_kNotV, e_mNotB, e_kNotB, e_kNB, e_mIf, e_kIf, e_kIfS, e_mNil, e_mCons, e_kC1, e_kC2, e_mTup, e_kTup, e_mLst, e_kLst, e_mCall, e_mRng, e_kCall, e_kCallR, e_mNoP, e_mP, e_kPI, e_mSl, e_kS1, e_kS2, e_kS3, e_kCh1, e_kCh2, e_kCh3t, e_kCh3f, e_mYes, e_mItems, e_kItL, e_kItT, e_mIsi, e_kIsi, e_mNol, e_kNolN, e_kNolI, e_kNolB, e_kNolS, e_kNolT, e_kNolD, e_mListS, e_kLS, e_gSet, e_gsNil, e_gsCons, e_kG, e_gTupM, e_aNil, e_aVal, e_kA1, e_kA2, e_aLent, e_kL1, e_kL2, e_mCallU, e_kU1, e_kU2, e_kU3, e_mFill0, e_mFill1, e_mFill2, e_kF, e_kFl, e_mBack0, e_mBack1, e_mBack2, e_sNil, e_sCons, e_kSeqN, e_kSeqB, e_kSeqC, e_kSeqR, e_sIf, e_sBk, e_sCt, e_sRet, e_kRet, e_sDrop, e_kDrop, e_sSet, e_kSet, e_sTgt, e_kTgt, e_kT2, e_sPar, e_kP1, e_kP2, e_kAp0, e_kAp1, e_kAp2, e_kPu1, e_kPu2, e_kPu3, e_kPu4, e_kPu5, e_mFor, e_kFor, e_sFor0, e_kF1, e_kF2N, e_kF2C, e_kF2B, e_kF2R, e_kW1, e_kW2N, e_kW2C, e_kW2B, e_kW2R, e_mLc, e_kLc, e_kLc2, e_mL0, e_kM1, e_kM2, e_kM3, e_kM4, e_wipe0, e_wipe1, e_res0, e_res1, e_mDef, e_kDefR, e_kDefN, e_kDO, e_mOu0, e_mOuF, e_mOuS, e_mOuL, e_kOu, e_mChain, e_sApp, e_sPut, e_kAndV, e_kOrV, e_kCh3, List.getElem?_cons_zero, List.getElem?_cons_succ, List.set_cons_zero, List.set_cons_succ, List.map_cons, List.map_nil, List.length_cons, List.length_nil, List.cons_append, List.nil_append, List.replicate_succ, List.replicate_zero, Option.getD_some, Option.getD_none, decide_eq_true_eq, Bool.false_eq_true, Bool.true_eq_false, Bool.not_true, Bool.not_false, Bool.not_eq_true', decide_eq_false_iff_not, if_true, if_false, Nat.zero_add, Nat.reduceAdd, Nat.reduceSub, Nat.sub_self, Nat.sub_zero, Nat.add_zero, Nat.reduceEqDiff, List.isEmpty_nil, List.isEmpty_cons, o_add, o_sub, o_neg, o_lt, o_le, o_gt, o_ge, o_eqI, o_neI, o_eqB, o_neB, o_isN, o_isNotN, o_isB, n_non, n_bool, n_int, n_str, n_list, n_tuple, t_non, t_bool, t_int, t_list, t_tuple, o_ixT0, o_ixT1, o_ixT2, o_ixT3, o_ixT4, o_ixL0, o_ixL1, o_ixL2, o_ixL3, ix0, ix1, ix2, ix3, b_lenL, b_lenT, b_abs, b_int, b_tupL, b_tupT, b_lstL, b_lstT, b_gcd, b_max2, b_min2, nx_eq, e5] <;> rfl) ?_
  obtain ⟨span, v9, c3⟩ := bd c3
  split at c3
  case isFalse => cases c3
  rename_i hsp
  subst hsp
  have v9 := r_fitting v9
  rw [show pr (0, 1) = .tuple [.int 0, .int 1] from rfl] at v9
  refine seqT (by simp only [e_mVar, e_kVar, e_mMov, e_kMov, e_mCst, e_kO, e_kOb, e_kOl, e_mBin, e_kB1, e_kB2, e_mUn, e_kU, e_mTb, e_kTb, e_mTru, e_kTru, e_mNot, e_kNot, e_mAnd, e_kAnd, e_mOr, e_kOr, e_mAndV, e_kAndVt, e_kAndVf, e_mOrV, e_kOrVt, e_kOrVf, e_mNotV, e_kNotV, e_mNotB, e_kNotB, e_kNB, e_mIf, e_kIf, e_kIfS, e_mNil, e_mCons, e_kC1, e_kC2, e_mTup, e_kTup, e_mLst, e_kLst, e_mCall, e_mRng, e_kCall, e_kCallR, e_mNoP, e_mP, e_kPI, e_mSl, e_kS1, e_kS2, e_kS3, e_kCh1, e_kCh2, e_kCh3t, e_kCh3f, e_mYes, e_mItems, e_kItL, e_kItT, e_mIsi, e_kIsi, e_mNol, e_kNolN, e_kNolI, e_kNolB, e_kNolS, e_kNolT, e_kNolD, e_mListS, e_kLS, e_gSet, e_gsNil, e_gsCons, e_kG, e_gTupM, e_aNil, e_aVal, e_kA1, e_kA2, e_aLent, e_kL1, e_kL2, e_mCallU, e_kU1, e_kU2, e_kU3, e_mFill0, e_mFill1, e_mFill2, e_kF, e_kFl, e_mBack0, e_mBack1, e_mBack2, e_sNil, e_sCons, e_kSeqN, e_kSeqB, e_kSeqC, e_kSeqR, e_sIf, e_sBk, e_sCt, e_sRet, e_kRet, e_sDrop, e_kDrop, e_sSet, e_kSet, e_sTgt, e_kTgt, e_kT2, e_sPar, e_kP1, e_kP2, e_kAp0, e_kAp1, e_kAp2, e_kPu1, e_kPu2, e_kPu3, e_kPu4, e_kPu5, e_mFor, e_kFor, e_sFor0, e_kF1, e_kF2N, e_kF2C, e_kF2B, e_kF2R, e_kW1, e_kW2N, e_kW2C, e_kW2B, e_kW2R, e_mLc, e_kLc, e_kLc2, e_mL0, e_kM1, e_kM2, e_kM3, e_kM4, e_wipe0, e_wipe1, e_res0, e_res1, e_mDef, e_kDefR, e_kDefN, e_kDO, e_mOu0, e_mOuF, e_mOuS, e_mOuL, e_kOu, e_mChain, e_sApp, e_sPut, e_kAndV, e_kOrV, e_kCh3, List.getElem?_cons_zero, List.getElem?_cons_succ, List.set_cons_zero, List.set_cons_succ, List.map_cons, List.map_nil, List.length_cons, List.length_nil, List.cons_append, List.nil_append, List.replicate_succ, List.replicate_zero, Option.getD_some, Option.getD_none, decide_eq_true_eq, Bool.false_eq_true, Bool.true_eq_false, Bool.not_true, Bool.not_false, Bool.not_eq_true', decide_eq_false_iff_not, if_true, if_false, Nat.zero_add, Nat.reduceAdd, Nat.reduceSub, Nat.sub_self, Nat.sub_zero, Nat.add_zero, Nat.reduceEqDiff, List.isEmpty_nil, List.isEmpty_cons, o_add, o_sub, o_neg, o_lt, o_le, o_gt, o_ge, o_eqI, o_neI, o_eqB, o_neB, o_isN, o_isNotN, o_isB, n_non, n_bool, n_int, n_str, n_list, n_tuple, t_non, t_bool, t_int, t_list, t_tuple, o_ixT0, o_ixT1, o_ixT2, o_ixT3, o_ixT4, o_ixL0, o_ixL1, o_ixL2, o_ixL3, ix0, ix1, ix2, ix3, b_lenL, b_lenT, b_abs, b_int, b_tupL, b_tupT, b_lstL, b_lstT, b_gcd, b_max2, b_min2, v9] <;> rfl) ?_
  refine seqT (by simp only [e_mVar, e_kVar, e_mMov, e_kMov, e_mCst, e_kO, e_kOb, e_kOl, e_mBin, e_kB1, e_kB2, e_mUn, e_kU, e_mTb, e_kTb, e_mTru, e_kTru, e_mNot, e_kNot, e_mAnd, e_kAnd, e_mOr, e_kOr, e_mAndV, e_kAndVt, e_kAndVf, e_mOrV, e_kOrVt, e_kOrVf, e_mNotV, e_kNotV, e_mNotB, e_kNotB, e_kNB, e_mIf, e_kIf, e_kIfS, e_mNil, e_mCons, e_kC1, e_kC2, e_mTup, e_kTup, e_mLst, e_kLst, e_mCall, e_mRng, e_kCall, e_kCallR, e_mNoP, e_mP, e_kPI, e_mSl, e_kS1, e_kS2, e_kS3, e_kCh1, e_kCh2, e_kCh3t, e_kCh3f, e_mYes, e_mItems, e_kItL, e_kItT, e_mIsi, e_kIsi, e_mNol, e_kNolN, e_kNolI, e_kNolB, e_kNolS, e_kNolT, e_kNolD, e_mListS, e_kLS, e_gSet, e_gsNil, e_gsCons, e_kG, e_gTupM, e_aNil, e_aVal, e_kA1, e_kA2, e_aLent, e_kL1, e_kL2, e_mCallU, e_kU1, e_kU2, e_kU3, e_mFill0, e_mFill1, e_mFill2, e_kF, e_kFl, e_mBack0, e_mBack1, e_mBack2, e_sNil, e_sCons, e_kSeqN, e_kSeqB, e_kSeqC, e_kSeqR, e_sIf, e_sBk, e_sCt, e_sRet, e_kRet, e_sDrop, e_kDrop, e_sSet, e_kSet, e_sTgt, e_kTgt, e_kT2, e_sPar, e_kP1, e_kP2, e_kAp0, e_kAp1, e_kAp2, e_kPu1, e_kPu2, e_kPu3, e_kPu4, e_kPu5, e_mFor, e_kFor, e_sFor0, e_kF1, e_kF2N, e_kF2C, e_kF2B, e_kF2R, e_kW1, e_kW2N, e_kW2C, e_kW2B, e_kW2R, e_mLc, e_kLc, e_kLc2, e_mL0, e_kM1, e_kM2, e_kM3, e_kM4, e_wipe0, e_wipe1, e_res0, e_res1, e_mDef, e_kDefR, e_kDefN, e_kDO, e_mOu0, e_mOuF, e_mOuS, e_mOuL, e_kOu, e_mChain, e_sApp, e_sPut, e_kAndV, e_kOrV, e_kCh3, List.getElem?_cons_zero, List.getElem?_cons_succ, List.set_cons_zero, List.set_cons_succ, List.map_cons, List.map_nil, List.length_cons, List.length_nil, List.cons_append, List.nil_append, List.replicate_succ, List.replicate_zero, Option.getD_some, Option.getD_none, decide_eq_true_eq, Bool.false_eq_true, Bool.true_eq_false, Bool.not_true, Bool.not_false, Bool.not_eq_true', decide_eq_false_iff_not, if_true, if_false, Nat.zero_add, Nat.reduceAdd, Nat.reduceSub, Nat.sub_self, Nat.sub_zero, Nat.add_zero, Nat.reduceEqDiff, List.isEmpty_nil, List.isEmpty_cons, o_add, o_sub, o_neg, o_lt, o_le, o_gt, o_ge, o_eqI, o_neI, o_eqB, o_neB, o_isN, o_isNotN, o_isB, n_non, n_bool, n_int, n_str, n_list, n_tuple, t_non, t_bool, t_int, t_list, t_tuple, o_ixT0, o_ixT1, o_ixT2, o_ixT3, o_ixT4, o_ixL0, o_ixL1, o_ixL2, o_ixL3, ix0, ix1, ix2, ix3, b_lenL, b_lenT, b_abs, b_int, b_tupL, b_tupT, b_lstL, b_lstT, b_gcd, b_max2, b_min2, oP, o_nePr', decide_true] <;> rfl) ?_
  refine seqT (ε1 := [some (.list (ns.map .int)), some d9, some (.int B), some (.int h), some (.int s), some (.list (told.map pr)), some (.int f), some (pr mean), some (pr part), k9, some (oP (some (f, B - s + f))), some (pr (1 + g1, 1 + g2)), some (pr (1 + s1, 1 + s2)), none, none, none, none, none, none, none, none, none]) (by simp only [e_mVar, e_kVar, e_mMov, e_kMov, e_mCst, e_kO, e_kOb, e_kOl, e_mBin, e_kB1, e_kB2, e_mUn, e_kU, e_mTb, e_kTb, e_mTru, e_kTru, e_mNot, e_kNot, e_mAnd, e_kAnd, e_mOr, e_kOr, e_mAndV, e_kAndVt, e_kAndVf, e_mOrV, e_kOrVt, e_kOrVf, e_mNotV, e_kNotV, e_mNotB, e_kNotB, e_kNB, e_mIf, e_kIf, e_kIfS, e_mNil, e_mCons, e_kC1, e_kC2, e_mTup, e_kTup, e_mLst, e_kLst, e_mCall, e_mRng, e_kCall, e_kCallR, e_mNoP, e_mP, e_kPI, e_mSl, e_kS1, e_kS2, e_kS3, e_kCh1, e_kCh2, e_kCh3t, e_kCh3f, e_mYes, e_mItems, e_kItL, e_kItT, e_mIsi, e_kIsi, e_mNol, e_kNolN, e_kNolI, e_kNolB, e_kNolS, e_kNolT, e_kNolD, e_mListS, e_kLS, e_gSet, e_gsNil, e_gsCons, e_kG, e_gTupM, e_aNil, e_aVal, e_kA1, e_kA2, e_aLent, e_kL1, e_kL2, e_mCallU, e_kU1, e_kU2, e_kU3, e_mFill0, e_mFill1, e_mFill2, e_kF, e_kFl, e_mBack0, e_mBack1, e_mBack2, e_sNil, e_sCons, e_kSeqN, e_kSeqB, e_kSeqC, e_kSeqR, e_sIf, e_sBk, e_sCt, e_sRet, e_kRet, e_sDrop, e_kDrop, e_sSet, e_kSet, e_sTgt, e_kTgt, e_kT2, e_sPar, e_kP1, e_kP2, e_kAp0, e_kAp1, e_kAp2, e_kPu1, e_kPu2, e_kPu3, e_kPu4, e_kPu5, e_mFor, e_kFor, e_sFor0, e_kF1, e_kF2N, e_kF2C, e_kF2B, e_kF2R, e_kW1, e_kW2N, e_kW2C, e_kW2B, e_kW2R, e_mLc, e_kLc, e_kLc2, e_mL0, e_kM1, e_kM2, e_kM3, e_kM4, e_wipe0, e_wipe1, e_res0, e_res1, e_mDef, e_kDefR, e_kDefN, e_kDO, e_mOu0, e_mOuF, e_mOuS, e_mOuL, e_kOu, e_mChain, e_sApp, e_sPut, e_kAndV, e_kOrV, e_kCh3, List.getElem?_cons_zero, List.getElem?_cons_succ, List.set_cons_zero, List.set_cons_succ, List.map_cons, List.map_nil, List.length_cons, List.length_nil, List.cons_append, List.nil_append, List.replicate_succ, List.replicate_zero, Option.getD_some, Option.getD_none, decide_eq_true_eq, Bool.false_eq_true, Bool.true_eq_false, Bool.not_true, Bool.not_false, Bool.not_eq_true', decide_eq_false_iff_not, if_true, if_false, Nat.zero_add, Nat.reduceAdd, Nat.reduceSub, Nat.sub_self, Nat.sub_zero, Nat.add_zero, Nat.reduceEqDiff, List.isEmpty_nil, List.isEmpty_cons, o_add, o_sub, o_neg, o_lt, o_le, o_gt, o_ge, o_eqI, o_neI, o_eqB, o_neB, o_isN, o_isNotN, o_isB, n_non, n_bool, n_int, n_str, n_list, n_tuple, t_non, t_bool, t_int, t_list, t_tuple, o_ixT0, o_ixT1, o_ixT2, o_ixT3, o_ixT4, o_ixL0, o_ixL1, o_ixL2, o_ixL3, ix0, ix1, ix2, ix3, b_lenL, b_lenT, b_abs, b_int, b_tupL, b_tupT, b_lstL, b_lstT, b_gcd, b_max2, b_min2, nx_eq, e6, e7, e8, e9] <;> rfl) ?_
  clear hB c3 t1 t2 t3 t4 t5 t6 t7 L4 L6 L7 S10 r1 r2 r3 r4 v1 v9
  generalize (1 + g1, 1 + g2) = G at *
  generalize (1 + s1, 1 + s2) = Z at *
  obtain ⟨p1, w1, c4⟩ := bd c4
  obtain ⟨p2, w2, c4⟩ := bd c4
  obtain ⟨p3, w3, c4⟩ := bd c4
  refine seqT (by simp only [e_mVar, e_kVar, e_mMov, e_kMov, e_mCst, e_kO, e_kOb, e_kOl, e_mBin, e_kB1, e_kB2, e_mUn, e_kU, e_mTb, e_kTb, e_mTru, e_kTru, e_mNot, e_kNot, e_mAnd, e_kAnd, e_mOr, e_kOr, e_mAndV, e_kAndVt, e_kAndVf, e_mOrV, e_kOrVt, e_kOrVf, e_mNotV, e_kNotV, e_mNotB, e_kNotB, e_kNB, e_mIf, e_kIf, e_kIfS, e_mNil, e_mCons, e_kC1, e_kC2, e_mTup, e_kTup, e_mLst, e_kLst, e_mCall, e_mRng, e_kCall, e_kCallR, e_mNoP, e_mP, e_kPI, e_mSl, e_kS1, e_kS2, e_kS3, e_kCh1, e_kCh2, e_kCh3t, e_kCh3f, e_mYes, e_mItems, e_kItL, e_kItT, e_mIsi, e_kIsi, e_mNol, e_kNolN, e_kNolI, e_kNolB, e_kNolS, e_kNolT, e_kNolD, e_mListS, e_kLS, e_gSet, e_gsNil, e_gsCons, e_kG, e_gTupM, e_aNil, e_aVal, e_kA1, e_kA2, e_aLent, e_kL1, e_kL2, e_mCallU, e_kU1, e_kU2, e_kU3, e_mFill0, e_mFill1, e_mFill2, e_kF, e_kFl, e_mBack0, e_mBack1, e_mBack2, e_sNil, e_sCons, e_kSeqN, e_kSeqB, e_kSeqC, e_kSeqR, e_sIf, e_sBk, e_sCt, e_sRet, e_kRet, e_sDrop, e_kDrop, e_sSet, e_kSet, e_sTgt, e_kTgt, e_kT2, e_sPar, e_kP1, e_kP2, e_kAp0, e_kAp1, e_kAp2, e_kPu1, e_kPu2, e_kPu3, e_kPu4, e_kPu5, e_mFor, e_kFor, e_sFor0, e_kF1, e_kF2N, e_kF2C, e_kF2B, e_kF2R, e_kW1, e_kW2N, e_kW2C, e_kW2B, e_kW2R, e_mLc, e_kLc, e_kLc2, e_mL0, e_kM1, e_kM2, e_kM3, e_kM4, e_wipe0, e_wipe1, e_res0, e_res1, e_mDef, e_kDefR, e_kDefN, e_kDO, e_mOu0, e_mOuF, e_mOuS, e_mOuL, e_kOu, e_mChain, e_sApp, e_sPut, e_kAndV, e_kOrV, e_kCh3, List.getElem?_cons_zero, List.getElem?_cons_succ, List.set_cons_zero, List.set_cons_succ, List.map_cons, List.map_nil, List.length_cons, List.length_nil, List.cons_append, List.nil_append, List.replicate_succ, List.replicate_zero, Option.getD_some, Option.getD_none, decide_eq_true_eq, Bool.false_eq_true, Bool.true_eq_false, Bool.not_true, Bool.not_false, Bool.not_eq_true', decide_eq_false_iff_not, if_true, if_false, Nat.zero_add, Nat.reduceAdd, Nat.reduceSub, Nat.sub_self, Nat.sub_zero, Nat.add_zero, Nat.reduceEqDiff, List.isEmpty_nil, List.isEmpty_cons, o_add, o_sub, o_neg, o_lt, o_le, o_gt, o_ge, o_eqI, o_neI, o_eqB, o_neB, o_isN, o_isNotN, o_isB, n_non, n_bool, n_int, n_str, n_list, n_tuple, t_non, t_bool, t_int, t_list, t_tuple, o_ixT0, o_ixT1, o_ixT2, o_ixT3, o_ixT4, o_ixL0, o_ixL1, o_ixL2, o_ixL3, ix0, ix1, ix2, ix3, b_lenL, b_lenT, b_abs, b_int, b_tupL, b_tupT, b_lstL, b_lstT, b_gcd, b_max2, b_min2] <;> rfl) ?_
  obtain ⟨ε', L16, j14, j15, j16, rfl⟩ := for_foldO (mt := gSet 14) (mb := (sCons (sPar 15 16 (mCallU fm_next_pit [none, none, none] (aVal (mVar 11) (aVal (mVar 13) (aVal (mVar 12) aNil)))) (mCallU fm_share [none, none, none] (aVal (mVar 11) (aVal (mVar 13) (aVal (mVar 12) aNil))))) (sCons (sIf (mOr (mTb (mBin opNe (mBin opIs (mVar 15) (mCst .none)) (mBin opIs (mCallU fm_missed [none, none, none] (aVal (mVar 11) (aVal (mVar 13) (aVal (mVar 12) aNil)))) (mCst .none)))) (mTb (mBin opNe (mBin opIs (mVar 15) (mCst .none)) (mBin opEq (mVar 16) (mTup (mCons (mCst (.int 1)) (mCons (mCst (.int 1)) mNil))))))) (sRet (mCst (.bool false))) sNil) (sIf (mTb (mBin opIsNot (mVar 15) (mCst .none))) (sCons (sSet 13 (mCall bTuple (mCons (mCall bSorted (mCons (mBin opAdd (mVar 13) (mTup (mCons (mVar 15) mNil))) mNil)) mNil))) (sIf (mNot (mTru (mCallU fm__law_below [none, none] (aVal (mVar 16) (aVal (mCallU fm_share [none, none, none] (aVal (mVar 11) (aVal (mVar 13) (aVal (mVar 12) aNil)))) aNil))))) (sRet (mCst (.bool false))) sNil)) sNil)))) PyData.int (fun (ps : List (Int × Int)) ε => ∃ j14 j15 j16, ε = [some (.list (ns.map .int)), some d9, some (.int B), some (.int h), some (.int s), some (.list (told.map pr)), some (.int f), some (pr mean), some (pr part), k9, some (oP (some (f, B - s + f))), some (pr G), some (pr Z), some (.tuple (ps.map pr)), j14, j15, j16, none, none, none, none, none]) (fun ps _ => t_turn G Z ps) [0, 1, 2] [] p3 [some (.list (ns.map .int)), some d9, some (.int B), some (.int h), some (.int s), some (.list (told.map pr)), some (.int f), some (pr mean), some (pr part), k9, some (oP (some (f, B - s + f))), some (pr G), some (pr Z), some (.tuple []), none, none, none, none, none, none, none, none] (fun ps x ps' ε _ hi hs => by
    obtain ⟨j14, j15, j16, rfl⟩ := hi
    obtain ⟨k15, k16, e⟩ := pit1 hs
    exact ⟨_, _, rfl, e, _, _, _, rfl⟩) ⟨_, _, _, rfl⟩ (by
      show (t_turn G Z []).bind _ = _
      rw [w1]
      show (t_turn G Z p1).bind _ = _
      rw [w2]
      show (t_turn G Z p2).bind _ = _
      rw [w3]; rfl)
  have r3 : rng1 [.int 3] = some (([0, 1, 2] : List Int).map PyData.int) := rng1_i (by decide)
  generalize ([0, 1, 2] : List Int).map PyData.int = l3 at L16 r3
  refine seqT (by simp only [e_mVar, e_kVar, e_mMov, e_kMov, e_mCst, e_kO, e_kOb, e_kOl, e_mBin, e_kB1, e_kB2, e_mUn, e_kU, e_mTb, e_kTb, e_mTru, e_kTru, e_mNot, e_kNot, e_mAnd, e_kAnd, e_mOr, e_kOr, e_mAndV, e_kAndVt, e_kAndVf, e_mOrV, e_kOrVt, e_kOrVf, e_mNotV, e_kNotV, e_mNotB, e_kNotB, e_kNB, e_mIf, e_kIf, e_kIfS, e_mNil, e_mCons, e_kC1, e_kC2, e_mTup, e_kTup, e_mLst, e_kLst, e_mCall, e_mRng, e_kCall, e_kCallR, e_mNoP, e_mP, e_kPI, e_mSl, e_kS1, e_kS2, e_kS3, e_kCh1, e_kCh2, e_kCh3t, e_kCh3f, e_mYes, e_mItems, e_kItL, e_kItT, e_mIsi, e_kIsi, e_mNol, e_kNolN, e_kNolI, e_kNolB, e_kNolS, e_kNolT, e_kNolD, e_mListS, e_kLS, e_gSet, e_gsNil, e_gsCons, e_kG, e_gTupM, e_aNil, e_aVal, e_kA1, e_kA2, e_aLent, e_kL1, e_kL2, e_mCallU, e_kU1, e_kU2, e_kU3, e_mFill0, e_mFill1, e_mFill2, e_kF, e_kFl, e_mBack0, e_mBack1, e_mBack2, e_sNil, e_sCons, e_kSeqN, e_kSeqB, e_kSeqC, e_kSeqR, e_sIf, e_sBk, e_sCt, e_sRet, e_kRet, e_sDrop, e_kDrop, e_sSet, e_kSet, e_sTgt, e_kTgt, e_kT2, e_sPar, e_kP1, e_kP2, e_kAp0, e_kAp1, e_kAp2, e_kPu1, e_kPu2, e_kPu3, e_kPu4, e_kPu5, e_mFor, e_kFor, e_sFor0, e_kF1, e_kF2N, e_kF2C, e_kF2B, e_kF2R, e_kW1, e_kW2N, e_kW2C, e_kW2B, e_kW2R, e_mLc, e_kLc, e_kLc2, e_mL0, e_kM1, e_kM2, e_kM3, e_kM4, e_wipe0, e_wipe1, e_res0, e_res1, e_mDef, e_kDefR, e_kDefN, e_kDO, e_mOu0, e_mOuF, e_mOuS, e_mOuL, e_kOu, e_mChain, e_sApp, e_sPut, e_kAndV, e_kOrV, e_kCh3, List.getElem?_cons_zero, List.getElem?_cons_succ, List.set_cons_zero, List.set_cons_succ, List.map_cons, List.map_nil, List.length_cons, List.length_nil, List.cons_append, List.nil_append, List.replicate_succ, List.replicate_zero, Option.getD_some, Option.getD_none, decide_eq_true_eq, Bool.false_eq_true, Bool.true_eq_false, Bool.not_true, Bool.not_false, Bool.not_eq_true', decide_eq_false_iff_not, if_true, if_false, Nat.zero_add, Nat.reduceAdd, Nat.reduceSub, Nat.sub_self, Nat.sub_zero, Nat.add_zero, Nat.reduceEqDiff, List.isEmpty_nil, List.isEmpty_cons, o_add, o_sub, o_neg, o_lt, o_le, o_gt, o_ge, o_eqI, o_neI, o_eqB, o_neB, o_isN, o_isNotN, o_isB, n_non, n_bool, n_int, n_str, n_list, n_tuple, t_non, t_bool, t_int, t_list, t_tuple, o_ixT0, o_ixT1, o_ixT2, o_ixT3, o_ixT4, o_ixL0, o_ixL1, o_ixL2, o_ixL3, ix0, ix1, ix2, ix3, b_lenL, b_lenT, b_abs, b_int, b_tupL, b_tupT, b_lstL, b_lstT, b_gcd, b_max2, b_min2, r3, L16] <;> rfl) ?_
  obtain ⟨ap, a1, c4⟩ := bd c4
  split at c4
  case isFalse => cases c4
  rename_i hap
  obtain ⟨row, a2, c4⟩ := bd c4
  obtain ⟨ms2, a3, c4⟩ := bd c4
  split at c4
  case isFalse => cases c4
  rename_i hrow
  obtain ⟨hm, hrow⟩ := hrow
  subst hm
  obtain ⟨ss, a4, c4⟩ := bd c4
  split at c4
  case isFalse => cases c4
  rename_i hem
  obtain ⟨ap2, a5, c4⟩ := bd c4
  obtain ⟨ss2, a6, c4⟩ := bd c4
  split at c4
  case isFalse => cases c4
  rename_i hln
  obtain ⟨w, a7, c4⟩ := bd c4
  obtain ⟨bs, a8, c4⟩ := bd c4
  split at c4
  case isFalse => cases c4
  rename_i hbs
  have a1' := r_few a1 hap
  have hap2 : ap2.length < sizeLine := by rw [hln.1]; exact hap
  have a5' := r_few a5 hap2
  have lm2 : ∀ (l : List (Int × Int)) (u v : Int), (l.map fun p => pr (p.1 + u - 1, p.2 + v - 1)).length = l.length := fun l u v => List.length_map ..
  refine seqT (by simp only [e_mVar, e_kVar, e_mMov, e_kMov, e_mCst, e_kO, e_kOb, e_kOl, e_mBin, e_kB1, e_kB2, e_mUn, e_kU, e_mTb, e_kTb, e_mTru, e_kTru, e_mNot, e_kNot, e_mAnd, e_kAnd, e_mOr, e_kOr, e_mAndV, e_kAndVt, e_kAndVf, e_mOrV, e_kOrVt, e_kOrVf, e_mNotV, e_kNotV, e_mNotB, e_kNotB, e_kNB, e_mIf, e_kIf, e_kIfS, e_mNil, e_mCons, e_kC1, e_kC2, e_mTup, e_kTup, e_mLst, e_kLst, e_mCall, e_mRng, e_kCall, e_kCallR, e_mNoP, e_mP, e_kPI, e_mSl, e_kS1, e_kS2, e_kS3, e_kCh1, e_kCh2, e_kCh3t, e_kCh3f, e_mYes, e_mItems, e_kItL, e_kItT, e_mIsi, e_kIsi, e_mNol, e_kNolN, e_kNolI, e_kNolB, e_kNolS, e_kNolT, e_kNolD, e_mListS, e_kLS, e_gSet, e_gsNil, e_gsCons, e_kG, e_gTupM, e_aNil, e_aVal, e_kA1, e_kA2, e_aLent, e_kL1, e_kL2, e_mCallU, e_kU1, e_kU2, e_kU3, e_mFill0, e_mFill1, e_mFill2, e_kF, e_kFl, e_mBack0, e_mBack1, e_mBack2, e_sNil, e_sCons, e_kSeqN, e_kSeqB, e_kSeqC, e_kSeqR, e_sIf, e_sBk, e_sCt, e_sRet, e_kRet, e_sDrop, e_kDrop, e_sSet, e_kSet, e_sTgt, e_kTgt, e_kT2, e_sPar, e_kP1, e_kP2, e_kAp0, e_kAp1, e_kAp2, e_kPu1, e_kPu2, e_kPu3, e_kPu4, e_kPu5, e_mFor, e_kFor, e_sFor0, e_kF1, e_kF2N, e_kF2C, e_kF2B, e_kF2R, e_kW1, e_kW2N, e_kW2C, e_kW2B, e_kW2R, e_mLc, e_kLc, e_kLc2, e_mL0, e_kM1, e_kM2, e_kM3, e_kM4, e_wipe0, e_wipe1, e_res0, e_res1, e_mDef, e_kDefR, e_kDefN, e_kDO, e_mOu0, e_mOuF, e_mOuS, e_mOuL, e_kOu, e_mChain, e_sApp, e_sPut, e_kAndV, e_kOrV, e_kCh3, List.getElem?_cons_zero, List.getElem?_cons_succ, List.set_cons_zero, List.set_cons_succ, List.map_cons, List.map_nil, List.length_cons, List.length_nil, List.cons_append, List.nil_append, List.replicate_succ, List.replicate_zero, Option.getD_some, Option.getD_none, decide_eq_true_eq, Bool.false_eq_true, Bool.true_eq_false, Bool.not_true, Bool.not_false, Bool.not_eq_true', decide_eq_false_iff_not, if_true, if_false, Nat.zero_add, Nat.reduceAdd, Nat.reduceSub, Nat.sub_self, Nat.sub_zero, Nat.add_zero, Nat.reduceEqDiff, List.isEmpty_nil, List.isEmpty_cons, o_add, o_sub, o_neg, o_lt, o_le, o_gt, o_ge, o_eqI, o_neI, o_eqB, o_neB, o_isN, o_isNotN, o_isB, n_non, n_bool, n_int, n_str, n_list, n_tuple, t_non, t_bool, t_int, t_list, t_tuple, o_ixT0, o_ixT1, o_ixT2, o_ixT3, o_ixT4, o_ixL0, o_ixL1, o_ixL2, o_ixL3, ix0, ix1, ix2, ix3, b_lenL, b_lenT, b_abs, b_int, b_tupL, b_tupT, b_lstL, b_lstT, b_gcd, b_max2, b_min2, a1'] <;> rfl) ?_
  refine seqT (by simp only [e_mVar, e_kVar, e_mMov, e_kMov, e_mCst, e_kO, e_kOb, e_kOl, e_mBin, e_kB1, e_kB2, e_mUn, e_kU, e_mTb, e_kTb, e_mTru, e_kTru, e_mNot, e_kNot, e_mAnd, e_kAnd, e_mOr, e_kOr, e_mAndV, e_kAndVt, e_kAndVf, e_mOrV, e_kOrVt, e_kOrVf, e_mNotV, e_kNotV, e_mNotB, e_kNotB, e_kNB, e_mIf, e_kIf, e_kIfS, e_mNil, e_mCons, e_kC1, e_kC2, e_mTup, e_kTup, e_mLst, e_kLst, e_mCall, e_mRng, e_kCall, e_kCallR, e_mNoP, e_mP, e_kPI, e_mSl, e_kS1, e_kS2, e_kS3, e_kCh1, e_kCh2, e_kCh3t, e_kCh3f, e_mYes, e_mItems, e_kItL, e_kItT, e_mIsi, e_kIsi, e_mNol, e_kNolN, e_kNolI, e_kNolB, e_kNolS, e_kNolT, e_kNolD, e_mListS, e_kLS, e_gSet, e_gsNil, e_gsCons, e_kG, e_gTupM, e_aNil, e_aVal, e_kA1, e_kA2, e_aLent, e_kL1, e_kL2, e_mCallU, e_kU1, e_kU2, e_kU3, e_mFill0, e_mFill1, e_mFill2, e_kF, e_kFl, e_mBack0, e_mBack1, e_mBack2, e_sNil, e_sCons, e_kSeqN, e_kSeqB, e_kSeqC, e_kSeqR, e_sIf, e_sBk, e_sCt, e_sRet, e_kRet, e_sDrop, e_kDrop, e_sSet, e_kSet, e_sTgt, e_kTgt, e_kT2, e_sPar, e_kP1, e_kP2, e_kAp0, e_kAp1, e_kAp2, e_kPu1, e_kPu2, e_kPu3, e_kPu4, e_kPu5, e_mFor, e_kFor, e_sFor0, e_kF1, e_kF2N, e_kF2C, e_kF2B, e_kF2R, e_kW1, e_kW2N, e_kW2C, e_kW2B, e_kW2R, e_mLc, e_kLc, e_kLc2, e_mL0, e_kM1, e_kM2, e_kM3, e_kM4, e_wipe0, e_wipe1, e_res0, e_res1, e_mDef, e_kDefR, e_kDefN, e_kDO, e_mOu0, e_mOuF, e_mOuS, e_mOuL, e_kOu, e_mChain, e_sApp, e_sPut, e_kAndV, e_kOrV, e_kCh3, List.getElem?_cons_zero, List.getElem?_cons_succ, List.set_cons_zero, List.set_cons_succ, List.map_cons, List.map_nil, List.length_cons, List.length_nil, List.cons_append, List.nil_append, List.replicate_succ, List.replicate_zero, Option.getD_some, Option.getD_none, decide_eq_true_eq, Bool.false_eq_true, Bool.true_eq_false, Bool.not_true, Bool.not_false, Bool.not_eq_true', decide_eq_false_iff_not, if_true, if_false, Nat.zero_add, Nat.reduceAdd, Nat.reduceSub, Nat.sub_self, Nat.sub_zero, Nat.add_zero, Nat.reduceEqDiff, List.isEmpty_nil, List.isEmpty_cons, o_add, o_sub, o_neg, o_lt, o_le, o_gt, o_ge, o_eqI, o_neI, o_eqB, o_neB, o_isN, o_isNotN, o_isB, n_non, n_bool, n_int, n_str, n_list, n_tuple, t_non, t_bool, t_int, t_list, t_tuple, o_ixT0, o_ixT1, o_ixT2, o_ixT3, o_ixT4, o_ixL0, o_ixL1, o_ixL2, o_ixL3, ix0, ix1, ix2, ix3, b_lenL, b_lenT, b_abs, b_int, b_tupL, b_tupT, b_lstL, b_lstT, b_gcd, b_max2, b_min2, lm2, r_plan a2] <;> rfl) ?_
  have hrow' : ¬ ((row.length : Nat) : Int) < (ap.length : Nat) := by omega
  have hemd : decide (ap.isEmpty = ss.isEmpty) = true := decide_eq_true hem
  refine seqT (by simp only [e_mVar, e_kVar, e_mMov, e_kMov, e_mCst, e_kO, e_kOb, e_kOl, e_mBin, e_kB1, e_kB2, e_mUn, e_kU, e_mTb, e_kTb, e_mTru, e_kTru, e_mNot, e_kNot, e_mAnd, e_kAnd, e_mOr, e_kOr, e_mAndV, e_kAndVt, e_kAndVf, e_mOrV, e_kOrVt, e_kOrVf, e_mNotV, e_kNotV, e_mNotB, e_kNotB, e_kNB, e_mIf, e_kIf, e_kIfS, e_mNil, e_mCons, e_kC1, e_kC2, e_mTup, e_kTup, e_mLst, e_kLst, e_mCall, e_mRng, e_kCall, e_kCallR, e_mNoP, e_mP, e_kPI, e_mSl, e_kS1, e_kS2, e_kS3, e_kCh1, e_kCh2, e_kCh3t, e_kCh3f, e_mYes, e_mItems, e_kItL, e_kItT, e_mIsi, e_kIsi, e_mNol, e_kNolN, e_kNolI, e_kNolB, e_kNolS, e_kNolT, e_kNolD, e_mListS, e_kLS, e_gSet, e_gsNil, e_gsCons, e_kG, e_gTupM, e_aNil, e_aVal, e_kA1, e_kA2, e_aLent, e_kL1, e_kL2, e_mCallU, e_kU1, e_kU2, e_kU3, e_mFill0, e_mFill1, e_mFill2, e_kF, e_kFl, e_mBack0, e_mBack1, e_mBack2, e_sNil, e_sCons, e_kSeqN, e_kSeqB, e_kSeqC, e_kSeqR, e_sIf, e_sBk, e_sCt, e_sRet, e_kRet, e_sDrop, e_kDrop, e_sSet, e_kSet, e_sTgt, e_kTgt, e_kT2, e_sPar, e_kP1, e_kP2, e_kAp0, e_kAp1, e_kAp2, e_kPu1, e_kPu2, e_kPu3, e_kPu4, e_kPu5, e_mFor, e_kFor, e_sFor0, e_kF1, e_kF2N, e_kF2C, e_kF2B, e_kF2R, e_kW1, e_kW2N, e_kW2C, e_kW2B, e_kW2R, e_mLc, e_kLc, e_kLc2, e_mL0, e_kM1, e_kM2, e_kM3, e_kM4, e_wipe0, e_wipe1, e_res0, e_res1, e_mDef, e_kDefR, e_kDefN, e_kDO, e_mOu0, e_mOuF, e_mOuS, e_mOuL, e_kOu, e_mChain, e_sApp, e_sPut, e_kAndV, e_kOrV, e_kCh3, List.getElem?_cons_zero, List.getElem?_cons_succ, List.set_cons_zero, List.set_cons_succ, List.map_cons, List.map_nil, List.length_cons, List.length_nil, List.cons_append, List.nil_append, List.replicate_succ, List.replicate_zero, Option.getD_some, Option.getD_none, decide_eq_true_eq, Bool.false_eq_true, Bool.true_eq_false, Bool.not_true, Bool.not_false, Bool.not_eq_true', decide_eq_false_iff_not, if_true, if_false, Nat.zero_add, Nat.reduceAdd, Nat.reduceSub, Nat.sub_self, Nat.sub_zero, Nat.add_zero, Nat.reduceEqDiff, List.isEmpty_nil, List.isEmpty_cons, o_add, o_sub, o_neg, o_lt, o_le, o_gt, o_ge, o_eqI, o_neI, o_eqB, o_neB, o_isN, o_isNotN, o_isB, n_non, n_bool, n_int, n_str, n_list, n_tuple, t_non, t_bool, t_int, t_list, t_tuple, o_ixT0, o_ixT1, o_ixT2, o_ixT3, o_ixT4, o_ixL0, o_ixL1, o_ixL2, o_ixL3, ix0, ix1, ix2, ix3, b_lenL, b_lenT, b_abs, b_int, b_tupL, b_tupT, b_lstL, b_lstT, b_gcd, b_max2, b_min2, b_sortPT, r_missed a3, n_oP, Option.isNone_none, lm, hrow', r_sites a4, o_eqTn, o_eqLn, hem, decide_true] <;> rfl) ?_
  refine seqT (by simp only [e_mVar, e_kVar, e_mMov, e_kMov, e_mCst, e_kO, e_kOb, e_kOl, e_mBin, e_kB1, e_kB2, e_mUn, e_kU, e_mTb, e_kTb, e_mTru, e_kTru, e_mNot, e_kNot, e_mAnd, e_kAnd, e_mOr, e_kOr, e_mAndV, e_kAndVt, e_kAndVf, e_mOrV, e_kOrVt, e_kOrVf, e_mNotV, e_kNotV, e_mNotB, e_kNotB, e_kNB, e_mIf, e_kIf, e_kIfS, e_mNil, e_mCons, e_kC1, e_kC2, e_mTup, e_kTup, e_mLst, e_kLst, e_mCall, e_mRng, e_kCall, e_kCallR, e_mNoP, e_mP, e_kPI, e_mSl, e_kS1, e_kS2, e_kS3, e_kCh1, e_kCh2, e_kCh3t, e_kCh3f, e_mYes, e_mItems, e_kItL, e_kItT, e_mIsi, e_kIsi, e_mNol, e_kNolN, e_kNolI, e_kNolB, e_kNolS, e_kNolT, e_kNolD, e_mListS, e_kLS, e_gSet, e_gsNil, e_gsCons, e_kG, e_gTupM, e_aNil, e_aVal, e_kA1, e_kA2, e_aLent, e_kL1, e_kL2, e_mCallU, e_kU1, e_kU2, e_kU3, e_mFill0, e_mFill1, e_mFill2, e_kF, e_kFl, e_mBack0, e_mBack1, e_mBack2, e_sNil, e_sCons, e_kSeqN, e_kSeqB, e_kSeqC, e_kSeqR, e_sIf, e_sBk, e_sCt, e_sRet, e_kRet, e_sDrop, e_kDrop, e_sSet, e_kSet, e_sTgt, e_kTgt, e_kT2, e_sPar, e_kP1, e_kP2, e_kAp0, e_kAp1, e_kAp2, e_kPu1, e_kPu2, e_kPu3, e_kPu4, e_kPu5, e_mFor, e_kFor, e_sFor0, e_kF1, e_kF2N, e_kF2C, e_kF2B, e_kF2R, e_kW1, e_kW2N, e_kW2C, e_kW2B, e_kW2R, e_mLc, e_kLc, e_kLc2, e_mL0, e_kM1, e_kM2, e_kM3, e_kM4, e_wipe0, e_wipe1, e_res0, e_res1, e_mDef, e_kDefR, e_kDefN, e_kDO, e_mOu0, e_mOuF, e_mOuS, e_mOuL, e_kOu, e_mChain, e_sApp, e_sPut, e_kAndV, e_kOrV, e_kCh3, List.getElem?_cons_zero, List.getElem?_cons_succ, List.set_cons_zero, List.set_cons_succ, List.map_cons, List.map_nil, List.length_cons, List.length_nil, List.cons_append, List.nil_append, List.replicate_succ, List.replicate_zero, Option.getD_some, Option.getD_none, decide_eq_true_eq, Bool.false_eq_true, Bool.true_eq_false, Bool.not_true, Bool.not_false, Bool.not_eq_true', decide_eq_false_iff_not, if_true, if_false, Nat.zero_add, Nat.reduceAdd, Nat.reduceSub, Nat.sub_self, Nat.sub_zero, Nat.add_zero, Nat.reduceEqDiff, List.isEmpty_nil, List.isEmpty_cons, o_add, o_sub, o_neg, o_lt, o_le, o_gt, o_ge, o_eqI, o_neI, o_eqB, o_neB, o_isN, o_isNotN, o_isB, n_non, n_bool, n_int, n_str, n_list, n_tuple, t_non, t_bool, t_int, t_list, t_tuple, o_ixT0, o_ixT1, o_ixT2, o_ixT3, o_ixT4, o_ixL0, o_ixL1, o_ixL2, o_ixL3, ix0, ix1, ix2, ix3, b_lenL, b_lenT, b_abs, b_int, b_tupL, b_tupT, b_lstL, b_lstT, b_gcd, b_max2, b_min2, o_rev] <;> rfl) ?_
  refine seqT (by simp only [e_mVar, e_kVar, e_mMov, e_kMov, e_mCst, e_kO, e_kOb, e_kOl, e_mBin, e_kB1, e_kB2, e_mUn, e_kU, e_mTb, e_kTb, e_mTru, e_kTru, e_mNot, e_kNot, e_mAnd, e_kAnd, e_mOr, e_kOr, e_mAndV, e_kAndVt, e_kAndVf, e_mOrV, e_kOrVt, e_kOrVf, e_mNotV, e_kNotV, e_mNotB, e_kNotB, e_kNB, e_mIf, e_kIf, e_kIfS, e_mNil, e_mCons, e_kC1, e_kC2, e_mTup, e_kTup, e_mLst, e_kLst, e_mCall, e_mRng, e_kCall, e_kCallR, e_mNoP, e_mP, e_kPI, e_mSl, e_kS1, e_kS2, e_kS3, e_kCh1, e_kCh2, e_kCh3t, e_kCh3f, e_mYes, e_mItems, e_kItL, e_kItT, e_mIsi, e_kIsi, e_mNol, e_kNolN, e_kNolI, e_kNolB, e_kNolS, e_kNolT, e_kNolD, e_mListS, e_kLS, e_gSet, e_gsNil, e_gsCons, e_kG, e_gTupM, e_aNil, e_aVal, e_kA1, e_kA2, e_aLent, e_kL1, e_kL2, e_mCallU, e_kU1, e_kU2, e_kU3, e_mFill0, e_mFill1, e_mFill2, e_kF, e_kFl, e_mBack0, e_mBack1, e_mBack2, e_sNil, e_sCons, e_kSeqN, e_kSeqB, e_kSeqC, e_kSeqR, e_sIf, e_sBk, e_sCt, e_sRet, e_kRet, e_sDrop, e_kDrop, e_sSet, e_kSet, e_sTgt, e_kTgt, e_kT2, e_sPar, e_kP1, e_kP2, e_kAp0, e_kAp1, e_kAp2, e_kPu1, e_kPu2, e_kPu3, e_kPu4, e_kPu5, e_mFor, e_kFor, e_sFor0, e_kF1, e_kF2N, e_kF2C, e_kF2B, e_kF2R, e_kW1, e_kW2N, e_kW2C, e_kW2B, e_kW2R, e_mLc, e_kLc, e_kLc2, e_mL0, e_kM1, e_kM2, e_kM3, e_kM4, e_wipe0, e_wipe1, e_res0, e_res1, e_mDef, e_kDefR, e_kDefN, e_kDO, e_mOu0, e_mOuF, e_mOuS, e_mOuL, e_kOu, e_mChain, e_sApp, e_sPut, e_kAndV, e_kOrV, e_kCh3, List.getElem?_cons_zero, List.getElem?_cons_succ, List.set_cons_zero, List.set_cons_succ, List.map_cons, List.map_nil, List.length_cons, List.length_nil, List.cons_append, List.nil_append, List.replicate_succ, List.replicate_zero, Option.getD_some, Option.getD_none, decide_eq_true_eq, Bool.false_eq_true, Bool.true_eq_false, Bool.not_true, Bool.not_false, Bool.not_eq_true', decide_eq_false_iff_not, if_true, if_false, Nat.zero_add, Nat.reduceAdd, Nat.reduceSub, Nat.sub_self, Nat.sub_zero, Nat.add_zero, Nat.reduceEqDiff, List.isEmpty_nil, List.isEmpty_cons, o_add, o_sub, o_neg, o_lt, o_le, o_gt, o_ge, o_eqI, o_neI, o_eqB, o_neB, o_isN, o_isNotN, o_isB, n_non, n_bool, n_int, n_str, n_list, n_tuple, t_non, t_bool, t_int, t_list, t_tuple, o_ixT0, o_ixT1, o_ixT2, o_ixT3, o_ixT4, o_ixL0, o_ixL1, o_ixL2, o_ixL3, ix0, ix1, ix2, ix3, b_lenL, b_lenT, b_abs, b_int, b_tupL, b_tupT, b_lstL, b_lstT, b_gcd, b_max2, b_min2, a5', r_sites a6, r_sites a4, lm, lm2, hln.1, hln.2, decide_true] <;> rfl) ?_
  refine seqT (by simp only [e_mVar, e_kVar, e_mMov, e_kMov, e_mCst, e_kO, e_kOb, e_kOl, e_mBin, e_kB1, e_kB2, e_mUn, e_kU, e_mTb, e_kTb, e_mTru, e_kTru, e_mNot, e_kNot, e_mAnd, e_kAnd, e_mOr, e_kOr, e_mAndV, e_kAndVt, e_kAndVf, e_mOrV, e_kOrVt, e_kOrVf, e_mNotV, e_kNotV, e_mNotB, e_kNotB, e_kNB, e_mIf, e_kIf, e_kIfS, e_mNil, e_mCons, e_kC1, e_kC2, e_mTup, e_kTup, e_mLst, e_kLst, e_mCall, e_mRng, e_kCall, e_kCallR, e_mNoP, e_mP, e_kPI, e_mSl, e_kS1, e_kS2, e_kS3, e_kCh1, e_kCh2, e_kCh3t, e_kCh3f, e_mYes, e_mItems, e_kItL, e_kItT, e_mIsi, e_kIsi, e_mNol, e_kNolN, e_kNolI, e_kNolB, e_kNolS, e_kNolT, e_kNolD, e_mListS, e_kLS, e_gSet, e_gsNil, e_gsCons, e_kG, e_gTupM, e_aNil, e_aVal, e_kA1, e_kA2, e_aLent, e_kL1, e_kL2, e_mCallU, e_kU1, e_kU2, e_kU3, e_mFill0, e_mFill1, e_mFill2, e_kF, e_kFl, e_mBack0, e_mBack1, e_mBack2, e_sNil, e_sCons, e_kSeqN, e_kSeqB, e_kSeqC, e_kSeqR, e_sIf, e_sBk, e_sCt, e_sRet, e_kRet, e_sDrop, e_kDrop, e_sSet, e_kSet, e_sTgt, e_kTgt, e_kT2, e_sPar, e_kP1, e_kP2, e_kAp0, e_kAp1, e_kAp2, e_kPu1, e_kPu2, e_kPu3, e_kPu4, e_kPu5, e_mFor, e_kFor, e_sFor0, e_kF1, e_kF2N, e_kF2C, e_kF2B, e_kF2R, e_kW1, e_kW2N, e_kW2C, e_kW2B, e_kW2R, e_mLc, e_kLc, e_kLc2, e_mL0, e_kM1, e_kM2, e_kM3, e_kM4, e_wipe0, e_wipe1, e_res0, e_res1, e_mDef, e_kDefR, e_kDefN, e_kDO, e_mOu0, e_mOuF, e_mOuS, e_mOuL, e_kOu, e_mChain, e_sApp, e_sPut, e_kAndV, e_kOrV, e_kCh3, List.getElem?_cons_zero, List.getElem?_cons_succ, List.set_cons_zero, List.set_cons_succ, List.map_cons, List.map_nil, List.length_cons, List.length_nil, List.cons_append, List.nil_append, List.replicate_succ, List.replicate_zero, Option.getD_some, Option.getD_none, decide_eq_true_eq, Bool.false_eq_true, Bool.true_eq_false, Bool.not_true, Bool.not_false, Bool.not_eq_true', decide_eq_false_iff_not, if_true, if_false, Nat.zero_add, Nat.reduceAdd, Nat.reduceSub, Nat.sub_self, Nat.sub_zero, Nat.add_zero, Nat.reduceEqDiff, List.isEmpty_nil, List.isEmpty_cons, o_add, o_sub, o_neg, o_lt, o_le, o_gt, o_ge, o_eqI, o_neI, o_eqB, o_neB, o_isN, o_isNotN, o_isB, n_non, n_bool, n_int, n_str, n_list, n_tuple, t_non, t_bool, t_int, t_list, t_tuple, o_ixT0, o_ixT1, o_ixT2, o_ixT3, o_ixT4, o_ixL0, o_ixL1, o_ixL2, o_ixL3, ix0, ix1, ix2, ix3, b_lenL, b_lenT, b_abs, b_int, b_tupL, b_tupT, b_lstL, b_lstT, b_gcd, b_max2, b_min2, r_wide a7] <;> rfl) ?_
  have L23 := lc_mapO (mt := gSet 21) (mk := mYes) (me := (mOrV (mBin opIs (mCallU fm_missed_round [none, none, none] (aVal (mVar 11) (aVal (mVar 13) (aVal (mVar 21) aNil)))) (mCst .none)) (mAndV (mBin opIsNot (mVar 20) (mCst .none)) (mBin opLe (mVar 21) (mVar 20))))) PyData.int PyData.bool (fun r => (t_mr G p3 r).map fun m => m.isNone || (match w with | none => false | some w => decide (r ≤ w))) [21] [some (.list (ns.map .int)), some d9, some (.int B), some (.int h), some (.int s), some (.list (told.map pr)), some (.int f), some (pr mean), some (pr part), some (.tuple (ap.map fun p => pr (p.1 + Z.1 - 1, p.2 + Z.2 - 1))), some (oP (some (f, B - s + f))), some (pr G), some (pr Z), some (.tuple (p3.map pr)), j14, j15, j16, some (.tuple (ap.map pr)), some (.tuple (row.map pr)), some (.tuple [pr (G.2, G.1), pr (Z.2, Z.1)]), some (oI w), none] [0, 1, 2, 3, 4, 5] bs (fun x y _ hx => by
    obtain ⟨m, m1, m2⟩ := map_of hx
    subst m2
    refine ⟨_, ?e4, rfl, rfl, ?h4, ?g4⟩
    case h4 =>
      cases hm : m.isNone with
      | true => simp only [e_mVar, e_kVar, e_mMov, e_kMov, e_mCst, e_kO, e_kOb, e_kOl, e_mBin, e_kB1, e_kB2, e_mUn, e_kU, e_mTb, e_kTb, e_mTru, e_kTru, e_mNot, e_kNot, e_mAnd, e_kAnd, e_mOr, e_kOr, e_mAndV, e_kAndVt, e_kAndVf, e_mOrV, e_kOrVt, e_kOrVf, e_mNotV, e_kNotV, e_mNotB, e_kNotB, e_kNB, e_mIf, e_kIf, e_kIfS, e_mNil, e_mCons, e_kC1, e_kC2, e_mTup, e_kTup, e_mLst, e_kLst, e_mCall, e_mRng, e_kCall, e_kCallR, e_mNoP, e_mP, e_kPI, e_mSl, e_kS1, e_kS2, e_kS3, e_kCh1, e_kCh2, e_kCh3t, e_kCh3f, e_mYes, e_mItems, e_kItL, e_kItT, e_mIsi, e_kIsi, e_mNol, e_kNolN, e_kNolI, e_kNolB, e_kNolS, e_kNolT, e_kNolD, e_mListS, e_kLS, e_gSet, e_gsNil, e_gsCons, e_kG, e_gTupM, e_aNil, e_aVal, e_kA1, e_kA2, e_aLent, e_kL1, e_kL2, e_mCallU, e_kU1, e_kU2, e_kU3, e_mFill0, e_mFill1, e_mFill2, e_kF, e_kFl, e_mBack0, e_mBack1, e_mBack2, e_sNil, e_sCons, e_kSeqN, e_kSeqB, e_kSeqC, e_kSeqR, e_sIf, e_sBk, e_sCt, e_sRet, e_kRet, e_sDrop, e_kDrop, e_sSet, e_kSet, e_sTgt, e_kTgt, e_kT2, e_sPar, e_kP1, e_kP2, e_kAp0, e_kAp1, e_kAp2, e_kPu1, e_kPu2, e_kPu3, e_kPu4, e_kPu5, e_mFor, e_kFor, e_sFor0, e_kF1, e_kF2N, e_kF2C, e_kF2B, e_kF2R, e_kW1, e_kW2N, e_kW2C, e_kW2B, e_kW2R, e_mLc, e_kLc, e_kLc2, e_mL0, e_kM1, e_kM2, e_kM3, e_kM4, e_wipe0, e_wipe1, e_res0, e_res1, e_mDef, e_kDefR, e_kDefN, e_kDO, e_mOu0, e_mOuF, e_mOuS, e_mOuL, e_kOu, e_mChain, e_sApp, e_sPut, e_kAndV, e_kOrV, e_kCh3, List.getElem?_cons_zero, List.getElem?_cons_succ, List.set_cons_zero, List.set_cons_succ, List.map_cons, List.map_nil, List.length_cons, List.length_nil, List.cons_append, List.nil_append, List.replicate_succ, List.replicate_zero, Option.getD_some, Option.getD_none, decide_eq_true_eq, Bool.false_eq_true, Bool.true_eq_false, Bool.not_true, Bool.not_false, Bool.not_eq_true', decide_eq_false_iff_not, if_true, if_false, Nat.zero_add, Nat.reduceAdd, Nat.reduceSub, Nat.sub_self, Nat.sub_zero, Nat.add_zero, Nat.reduceEqDiff, List.isEmpty_nil, List.isEmpty_cons, o_add, o_sub, o_neg, o_lt, o_le, o_gt, o_ge, o_eqI, o_neI, o_eqB, o_neB, o_isN, o_isNotN, o_isB, n_non, n_bool, n_int, n_str, n_list, n_tuple, t_non, t_bool, t_int, t_list, t_tuple, o_ixT0, o_ixT1, o_ixT2, o_ixT3, o_ixT4, o_ixL0, o_ixL1, o_ixL2, o_ixL3, ix0, ix1, ix2, ix3, b_lenL, b_lenT, b_abs, b_int, b_tupL, b_tupT, b_lstL, b_lstT, b_gcd, b_max2, b_min2, r_mr m1, n_oP, hm, Bool.true_or] <;> rfl
      | false =>
        cases w with
        | none => simp only [e_mVar, e_kVar, e_mMov, e_kMov, e_mCst, e_kO, e_kOb, e_kOl, e_mBin, e_kB1, e_kB2, e_mUn, e_kU, e_mTb, e_kTb, e_mTru, e_kTru, e_mNot, e_kNot, e_mAnd, e_kAnd, e_mOr, e_kOr, e_mAndV, e_kAndVt, e_kAndVf, e_mOrV, e_kOrVt, e_kOrVf, e_mNotV, e_kNotV, e_mNotB, e_kNotB, e_kNB, e_mIf, e_kIf, e_kIfS, e_mNil, e_mCons, e_kC1, e_kC2, e_mTup, e_kTup, e_mLst, e_kLst, e_mCall, e_mRng, e_kCall, e_kCallR, e_mNoP, e_mP, e_kPI, e_mSl, e_kS1, e_kS2, e_kS3, e_kCh1, e_kCh2, e_kCh3t, e_kCh3f, e_mYes, e_mItems, e_kItL, e_kItT, e_mIsi, e_kIsi, e_mNol, e_kNolN, e_kNolI, e_kNolB, e_kNolS, e_kNolT, e_kNolD, e_mListS, e_kLS, e_gSet, e_gsNil, e_gsCons, e_kG, e_gTupM, e_aNil, e_aVal, e_kA1, e_kA2, e_aLent, e_kL1, e_kL2, e_mCallU, e_kU1, e_kU2, e_kU3, e_mFill0, e_mFill1, e_mFill2, e_kF, e_kFl, e_mBack0, e_mBack1, e_mBack2, e_sNil, e_sCons, e_kSeqN, e_kSeqB, e_kSeqC, e_kSeqR, e_sIf, e_sBk, e_sCt, e_sRet, e_kRet, e_sDrop, e_kDrop, e_sSet, e_kSet, e_sTgt, e_kTgt, e_kT2, e_sPar, e_kP1, e_kP2, e_kAp0, e_kAp1, e_kAp2, e_kPu1, e_kPu2, e_kPu3, e_kPu4, e_kPu5, e_mFor, e_kFor, e_sFor0, e_kF1, e_kF2N, e_kF2C, e_kF2B, e_kF2R, e_kW1, e_kW2N, e_kW2C, e_kW2B, e_kW2R, e_mLc, e_kLc, e_kLc2, e_mL0, e_kM1, e_kM2, e_kM3, e_kM4, e_wipe0, e_wipe1, e_res0, e_res1, e_mDef, e_kDefR, e_kDefN, e_kDO, e_mOu0, e_mOuF, e_mOuS, e_mOuL, e_kOu, e_mChain, e_sApp, e_sPut, e_kAndV, e_kOrV, e_kCh3, List.getElem?_cons_zero, List.getElem?_cons_succ, List.set_cons_zero, List.set_cons_succ, List.map_cons, List.map_nil, List.length_cons, List.length_nil, List.cons_append, List.nil_append, List.replicate_succ, List.replicate_zero, Option.getD_some, Option.getD_none, decide_eq_true_eq, Bool.false_eq_true, Bool.true_eq_false, Bool.not_true, Bool.not_false, Bool.not_eq_true', decide_eq_false_iff_not, if_true, if_false, Nat.zero_add, Nat.reduceAdd, Nat.reduceSub, Nat.sub_self, Nat.sub_zero, Nat.add_zero, Nat.reduceEqDiff, List.isEmpty_nil, List.isEmpty_cons, o_add, o_sub, o_neg, o_lt, o_le, o_gt, o_ge, o_eqI, o_neI, o_eqB, o_neB, o_isN, o_isNotN, o_isB, n_non, n_bool, n_int, n_str, n_list, n_tuple, t_non, t_bool, t_int, t_list, t_tuple, o_ixT0, o_ixT1, o_ixT2, o_ixT3, o_ixT4, o_ixL0, o_ixL1, o_ixL2, o_ixL3, ix0, ix1, ix2, ix3, b_lenL, b_lenT, b_abs, b_int, b_tupL, b_tupT, b_lstL, b_lstT, b_gcd, b_max2, b_min2, r_mr m1, n_oP, hm, oI_non, Option.isNone_none, Bool.false_or] <;> rfl
        | some w => simp only [e_mVar, e_kVar, e_mMov, e_kMov, e_mCst, e_kO, e_kOb, e_kOl, e_mBin, e_kB1, e_kB2, e_mUn, e_kU, e_mTb, e_kTb, e_mTru, e_kTru, e_mNot, e_kNot, e_mAnd, e_kAnd, e_mOr, e_kOr, e_mAndV, e_kAndVt, e_kAndVf, e_mOrV, e_kOrVt, e_kOrVf, e_mNotV, e_kNotV, e_mNotB, e_kNotB, e_kNB, e_mIf, e_kIf, e_kIfS, e_mNil, e_mCons, e_kC1, e_kC2, e_mTup, e_kTup, e_mLst, e_kLst, e_mCall, e_mRng, e_kCall, e_kCallR, e_mNoP, e_mP, e_kPI, e_mSl, e_kS1, e_kS2, e_kS3, e_kCh1, e_kCh2, e_kCh3t, e_kCh3f, e_mYes, e_mItems, e_kItL, e_kItT, e_mIsi, e_kIsi, e_mNol, e_kNolN, e_kNolI, e_kNolB, e_kNolS, e_kNolT, e_kNolD, e_mListS, e_kLS, e_gSet, e_gsNil, e_gsCons, e_kG, e_gTupM, e_aNil, e_aVal, e_kA1, e_kA2, e_aLent, e_kL1, e_kL2, e_mCallU, e_kU1, e_kU2, e_kU3, e_mFill0, e_mFill1, e_mFill2, e_kF, e_kFl, e_mBack0, e_mBack1, e_mBack2, e_sNil, e_sCons, e_kSeqN, e_kSeqB, e_kSeqC, e_kSeqR, e_sIf, e_sBk, e_sCt, e_sRet, e_kRet, e_sDrop, e_kDrop, e_sSet, e_kSet, e_sTgt, e_kTgt, e_kT2, e_sPar, e_kP1, e_kP2, e_kAp0, e_kAp1, e_kAp2, e_kPu1, e_kPu2, e_kPu3, e_kPu4, e_kPu5, e_mFor, e_kFor, e_sFor0, e_kF1, e_kF2N, e_kF2C, e_kF2B, e_kF2R, e_kW1, e_kW2N, e_kW2C, e_kW2B, e_kW2R, e_mLc, e_kLc, e_kLc2, e_mL0, e_kM1, e_kM2, e_kM3, e_kM4, e_wipe0, e_wipe1, e_res0, e_res1, e_mDef, e_kDefR, e_kDefN, e_kDO, e_mOu0, e_mOuF, e_mOuS, e_mOuL, e_kOu, e_mChain, e_sApp, e_sPut, e_kAndV, e_kOrV, e_kCh3, List.getElem?_cons_zero, List.getElem?_cons_succ, List.set_cons_zero, List.set_cons_succ, List.map_cons, List.map_nil, List.length_cons, List.length_nil, List.cons_append, List.nil_append, List.replicate_succ, List.replicate_zero, Option.getD_some, Option.getD_none, decide_eq_true_eq, Bool.false_eq_true, Bool.true_eq_false, Bool.not_true, Bool.not_false, Bool.not_eq_true', decide_eq_false_iff_not, if_true, if_false, Nat.zero_add, Nat.reduceAdd, Nat.reduceSub, Nat.sub_self, Nat.sub_zero, Nat.add_zero, Nat.reduceEqDiff, List.isEmpty_nil, List.isEmpty_cons, o_add, o_sub, o_neg, o_lt, o_le, o_gt, o_ge, o_eqI, o_neI, o_eqB, o_neB, o_isN, o_isNotN, o_isB, n_non, n_bool, n_int, n_str, n_list, n_tuple, t_non, t_bool, t_int, t_list, t_tuple, o_ixT0, o_ixT1, o_ixT2, o_ixT3, o_ixT4, o_ixL0, o_ixL1, o_ixL2, o_ixL3, ix0, ix1, ix2, ix3, b_lenL, b_lenT, b_abs, b_int, b_tupL, b_tupT, b_lstL, b_lstT, b_gcd, b_max2, b_min2, r_mr m1, n_oP, hm, oI_non, Option.isNone_some, Bool.false_or, oI] <;> rfl
    case g4 => simp only [e_mVar, e_kVar, e_mMov, e_kMov, e_mCst, e_kO, e_kOb, e_kOl, e_mBin, e_kB1, e_kB2, e_mUn, e_kU, e_mTb, e_kTb, e_mTru, e_kTru, e_mNot, e_kNot, e_mAnd, e_kAnd, e_mOr, e_kOr, e_mAndV, e_kAndVt, e_kAndVf, e_mOrV, e_kOrVt, e_kOrVf, e_mNotV, e_kNotV, e_mNotB, e_kNotB, e_kNB, e_mIf, e_kIf, e_kIfS, e_mNil, e_mCons, e_kC1, e_kC2, e_mTup, e_kTup, e_mLst, e_kLst, e_mCall, e_mRng, e_kCall, e_kCallR, e_mNoP, e_mP, e_kPI, e_mSl, e_kS1, e_kS2, e_kS3, e_kCh1, e_kCh2, e_kCh3t, e_kCh3f, e_mYes, e_mItems, e_kItL, e_kItT, e_mIsi, e_kIsi, e_mNol, e_kNolN, e_kNolI, e_kNolB, e_kNolS, e_kNolT, e_kNolD, e_mListS, e_kLS, e_gSet, e_gsNil, e_gsCons, e_kG, e_gTupM, e_aNil, e_aVal, e_kA1, e_kA2, e_aLent, e_kL1, e_kL2, e_mCallU, e_kU1, e_kU2, e_kU3, e_mFill0, e_mFill1, e_mFill2, e_kF, e_kFl, e_mBack0, e_mBack1, e_mBack2, e_sNil, e_sCons, e_kSeqN, e_kSeqB, e_kSeqC, e_kSeqR, e_sIf, e_sBk, e_sCt, e_sRet, e_kRet, e_sDrop, e_kDrop, e_sSet, e_kSet, e_sTgt, e_kTgt, e_kT2, e_sPar, e_kP1, e_kP2, e_kAp0, e_kAp1, e_kAp2, e_kPu1, e_kPu2, e_kPu3, e_kPu4, e_kPu5, e_mFor, e_kFor, e_sFor0, e_kF1, e_kF2N, e_kF2C, e_kF2B, e_kF2R, e_kW1, e_kW2N, e_kW2C, e_kW2B, e_kW2R, e_mLc, e_kLc, e_kLc2, e_mL0, e_kM1, e_kM2, e_kM3, e_kM4, e_wipe0, e_wipe1, e_res0, e_res1, e_mDef, e_kDefR, e_kDefN, e_kDO, e_mOu0, e_mOuF, e_mOuS, e_mOuL, e_kOu, e_mChain, e_sApp, e_sPut, e_kAndV, e_kOrV, e_kCh3, List.getElem?_cons_zero, List.getElem?_cons_succ, List.set_cons_zero, List.set_cons_succ, List.map_cons, List.map_nil, List.length_cons, List.length_nil, List.cons_append, List.nil_append, List.replicate_succ, List.replicate_zero, Option.getD_some, Option.getD_none, decide_eq_true_eq, Bool.false_eq_true, Bool.true_eq_false, Bool.not_true, Bool.not_false, Bool.not_eq_true', decide_eq_false_iff_not, if_true, if_false, Nat.zero_add, Nat.reduceAdd, Nat.reduceSub, Nat.sub_self, Nat.sub_zero, Nat.add_zero, Nat.reduceEqDiff, List.isEmpty_nil, List.isEmpty_cons, o_add, o_sub, o_neg, o_lt, o_le, o_gt, o_ge, o_eqI, o_neI, o_eqB, o_neB, o_isN, o_isNotN, o_isB, n_non, n_bool, n_int, n_str, n_list, n_tuple, t_non, t_bool, t_int, t_list, t_tuple, o_ixT0, o_ixT1, o_ixT2, o_ixT3, o_ixT4, o_ixL0, o_ixL1, o_ixL2, o_ixL3, ix0, ix1, ix2, ix3, b_lenL, b_lenT, b_abs, b_int, b_tupL, b_tupT, b_lstL, b_lstT, b_gcd, b_max2, b_min2]) a8
  simp only [e_mVar, e_kVar, e_mMov, e_kMov, e_mCst, e_kO, e_kOb, e_kOl, e_mBin, e_kB1, e_kB2, e_mUn, e_kU, e_mTb, e_kTb, e_mTru, e_kTru, e_mNot, e_kNot, e_mAnd, e_kAnd, e_mOr, e_kOr, e_mAndV, e_kAndVt, e_kAndVf, e_mOrV, e_kOrVt, e_kOrVf, e_mNotV, e_kNotV, e_mNotB, e_kNotB, e_kNB, e_mIf, e_kIf, e_kIfS, e_mNil, e_mCons, e_kC1, e_kC2, e_mTup, e_kTup, e_mLst, e_kLst, e_mCall, e_mRng, e_kCall, e_kCallR, e_mNoP, e_mP, e_kPI, e_mSl, e_kS1, e_kS2, e_kS3, e_kCh1, e_kCh2, e_kCh3t, e_kCh3f, e_mYes, e_mItems, e_kItL, e_kItT, e_mIsi, e_kIsi, e_mNol, e_kNolN, e_kNolI, e_kNolB, e_kNolS, e_kNolT, e_kNolD, e_mListS, e_kLS, e_gSet, e_gsNil, e_gsCons, e_kG, e_gTupM, e_aNil, e_aVal, e_kA1, e_kA2, e_aLent, e_kL1, e_kL2, e_mCallU, e_kU1, e_kU2, e_kU3, e_mFill0, e_mFill1, e_mFill2, e_kF, e_kFl, e_mBack0, e_mBack1, e_mBack2, e_sNil, e_sCons, e_kSeqN, e_kSeqB, e_kSeqC, e_kSeqR, e_sIf, e_sBk, e_sCt, e_sRet, e_kRet, e_sDrop, e_kDrop, e_sSet, e_kSet, e_sTgt, e_kTgt, e_kT2, e_sPar, e_kP1, e_kP2, e_kAp0, e_kAp1, e_kAp2, e_kPu1, e_kPu2, e_kPu3, e_kPu4, e_kPu5, e_mFor, e_kFor, e_sFor0, e_kF1, e_kF2N, e_kF2C, e_kF2B, e_kF2R, e_kW1, e_kW2N, e_kW2C, e_kW2B, e_kW2R, e_mLc, e_kLc, e_kLc2, e_mL0, e_kM1, e_kM2, e_kM3, e_kM4, e_wipe0, e_wipe1, e_res0, e_res1, e_mDef, e_kDefR, e_kDefN, e_kDO, e_mOu0, e_mOuF, e_mOuS, e_mOuL, e_kOu, e_mChain, e_sApp, e_sPut, e_kAndV, e_kOrV, e_kCh3, List.getElem?_cons_zero, List.getElem?_cons_succ, List.set_cons_zero, List.set_cons_succ, List.map_cons, List.map_nil, List.length_cons, List.length_nil, List.cons_append, List.nil_append, List.replicate_succ, List.replicate_zero, Option.getD_some, Option.getD_none, decide_eq_true_eq, Bool.false_eq_true, Bool.true_eq_false, Bool.not_true, Bool.not_false, Bool.not_eq_true', decide_eq_false_iff_not, if_true, if_false, Nat.zero_add, Nat.reduceAdd, Nat.reduceSub, Nat.sub_self, Nat.sub_zero, Nat.add_zero, Nat.reduceEqDiff, List.isEmpty_nil, List.isEmpty_cons, o_add, o_sub, o_neg, o_lt, o_le, o_gt, o_ge, o_eqI, o_neI, o_eqB, o_neB, o_isN, o_isNotN, o_isB, n_non, n_bool, n_int, n_str, n_list, n_tuple, t_non, t_bool, t_int, t_list, t_tuple, o_ixT0, o_ixT1, o_ixT2, o_ixT3, o_ixT4, o_ixL0, o_ixL1, o_ixL2, o_ixL3, ix0, ix1, ix2, ix3, b_lenL, b_lenT, b_abs, b_int, b_tupL, b_tupT, b_lstL, b_lstT, b_gcd, b_max2, b_min2] at L23
  have r3 : rng1 [.int 6] = some (([0, 1, 2, 3, 4, 5] : List Int).map PyData.int) := rng1_i (by decide)
  have r4 : (([0, 1, 2, 3, 4, 5] : List Int).map PyData.int).length < sizeLine := by show 6 < sizeLine; decide
  simp only [List.map_cons, List.map_nil] at r3 r4
  generalize ([PyData.int 0, PyData.int 1, PyData.int 2, PyData.int 3, PyData.int 4, PyData.int 5] : List T) = l3 at L23 r3 r4
  exact ⟨_, _, by simp only [e_mVar, e_kVar, e_mMov, e_kMov, e_mCst, e_kO, e_kOb, e_kOl, e_mBin, e_kB1, e_kB2, e_mUn, e_kU, e_mTb, e_kTb, e_mTru, e_kTru, e_mNot, e_kNot, e_mAnd, e_kAnd, e_mOr, e_kOr, e_mAndV, e_kAndVt, e_kAndVf, e_mOrV, e_kOrVt, e_kOrVf, e_mNotV, e_kNotV, e_mNotB, e_kNotB, e_kNB, e_mIf, e_kIf, e_kIfS, e_mNil, e_mCons, e_kC1, e_kC2, e_mTup, e_kTup, e_mLst, e_kLst, e_mCall, e_mRng, e_kCall, e_kCallR, e_mNoP, e_mP, e_kPI, e_mSl, e_kS1, e_kS2, e_kS3, e_kCh1, e_kCh2, e_kCh3t, e_kCh3f, e_mYes, e_mItems, e_kItL, e_kItT, e_mIsi, e_kIsi, e_mNol, e_kNolN, e_kNolI, e_kNolB, e_kNolS, e_kNolT, e_kNolD, e_mListS, e_kLS, e_gSet, e_gsNil, e_gsCons, e_kG, e_gTupM, e_aNil, e_aVal, e_kA1, e_kA2, e_aLent, e_kL1, e_kL2, e_mCallU, e_kU1, e_kU2, e_kU3, e_mFill0, e_mFill1, e_mFill2, e_kF, e_kFl, e_mBack0, e_mBack1, e_mBack2, e_sNil, e_sCons, e_kSeqN, e_kSeqB, e_kSeqC, e_kSeqR, e_sIf, e_sBk, e_sCt, e_sRet, e_kRet, e_sDrop, e_kDrop, e_sSet, e_kSet, e_sTgt, e_kTgt, e_kT2, e_sPar, e_kP1, e_kP2, e_kAp0, e_kAp1, e_kAp2, e_kPu1, e_kPu2, e_kPu3, e_kPu4, e_kPu5, e_mFor, e_kFor, e_sFor0, e_kF1, e_kF2N, e_kF2C, e_kF2B, e_kF2R, e_kW1, e_kW2N, e_kW2C, e_kW2B, e_kW2R, e_mLc, e_kLc, e_kLc2, e_mL0, e_kM1, e_kM2, e_kM3, e_kM4, e_wipe0, e_wipe1, e_res0, e_res1, e_mDef, e_kDefR, e_kDefN, e_kDO, e_mOu0, e_mOuF, e_mOuS, e_mOuL, e_kOu, e_mChain, e_sApp, e_sPut, e_kAndV, e_kOrV, e_kCh3, List.getElem?_cons_zero, List.getElem?_cons_succ, List.set_cons_zero, List.set_cons_succ, List.map_cons, List.map_nil, List.length_cons, List.length_nil, List.cons_append, List.nil_append, List.replicate_succ, List.replicate_zero, Option.getD_some, Option.getD_none, decide_eq_true_eq, Bool.false_eq_true, Bool.true_eq_false, Bool.not_true, Bool.not_false, Bool.not_eq_true', decide_eq_false_iff_not, if_true, if_false, Nat.zero_add, Nat.reduceAdd, Nat.reduceSub, Nat.sub_self, Nat.sub_zero, Nat.add_zero, Nat.reduceEqDiff, List.isEmpty_nil, List.isEmpty_cons, o_add, o_sub, o_neg, o_lt, o_le, o_gt, o_ge, o_eqI, o_neI, o_eqB, o_neB, o_isN, o_isNotN, o_isB, n_non, n_bool, n_int, n_str, n_list, n_tuple, t_non, t_bool, t_int, t_list, t_tuple, o_ixT0, o_ixT1, o_ixT2, o_ixT3, o_ixT4, o_ixL0, o_ixL1, o_ixL2, o_ixL3, ix0, ix1, ix2, ix3, b_lenL, b_lenT, b_abs, b_int, b_tupL, b_tupT, b_lstL, b_lstT, b_gcd, b_max2, b_min2, r3, r4, L23, b_all, hbs] <;> rfl⟩
end K86

set_option Elab.async false
set_option linter.all false
set_option maxRecDepth 100000
namespace K86
open PySem PySem.Spec PyProof.Rows L2 Dg
theorem all_mk {l : PySem.W.OpenLaw} {w : World} {K : PySem.W.Frag} {h : Heap} {mg : Str → Option Value} {fa : Addr} (X : K.In h) (G : h.Ns mainGlobals mg) (hfa : mg "law" = some (.ref fa))
    {f0 : Addr} {od0 an0 : Option Addr} {sl0 : Array (Option Value)} {oc0 kV0 dc0 pm0 cd0 ct0 : Value}
    {f1 : Addr} {od1 an1 : Option Addr} {sl1 : Array (Option Value)} {oc1 kV1 dc1 pm1 cd1 ct1 : Value}
    {f2 : Addr} {od2 an2 : Option Addr} {sl2 : Array (Option Value)} {oc2 kV2 dc2 pm2 cd2 ct2 : Value}
    {f3 : Addr} {od3 an3 : Option Addr} {sl3 : Array (Option Value)} {oc3 kV3 dc3 pm3 cd3 ct3 : Value}
    {f4 : Addr} {od4 an4 : Option Addr} {sl4 : Array (Option Value)} {oc4 kV4 dc4 pm4 cd4 ct4 : Value}
    {f5 : Addr} {od5 an5 : Option Addr} {sl5 : Array (Option Value)} {oc5 kV5 dc5 pm5 cd5 ct5 : Value}
    {f6 : Addr} {od6 an6 : Option Addr} {sl6 : Array (Option Value)} {oc6 kV6 dc6 pm6 cd6 ct6 : Value}
    {f7 : Addr} {od7 an7 : Option Addr} {sl7 : Array (Option Value)} {oc7 kV7 dc7 pm7 cd7 ct7 : Value}
    {f8 : Addr} {od8 an8 : Option Addr} {sl8 : Array (Option Value)} {oc8 kV8 dc8 pm8 cd8 ct8 : Value}
    {f9 : Addr} {od9 an9 : Option Addr} {sl9 : Array (Option Value)} {oc9 kV9 dc9 pm9 cd9 ct9 : Value}
    {f10 : Addr} {od10 an10 : Option Addr} {sl10 : Array (Option Value)} {oc10 kV10 dc10 pm10 cd10 ct10 : Value}
    {f11 : Addr} {od11 an11 : Option Addr} {sl11 : Array (Option Value)} {oc11 kV11 dc11 pm11 cd11 ct11 : Value}
    {f12 : Addr} {od12 an12 : Option Addr} {sl12 : Array (Option Value)} {oc12 kV12 dc12 pm12 cd12 ct12 : Value}
    {f13 : Addr} {od13 an13 : Option Addr} {sl13 : Array (Option Value)} {oc13 kV13 dc13 pm13 cd13 ct13 : Value}
    {f14 : Addr} {od14 an14 : Option Addr} {sl14 : Array (Option Value)} {oc14 kV14 dc14 pm14 cd14 ct14 : Value}
    {f15 : Addr} {od15 an15 : Option Addr} {sl15 : Array (Option Value)} {oc15 kV15 dc15 pm15 cd15 ct15 : Value}
    {f16 : Addr} {od16 an16 : Option Addr} {sl16 : Array (Option Value)} {oc16 kV16 dc16 pm16 cd16 ct16 : Value}
    {f17 : Addr} {od17 an17 : Option Addr} {sl17 : Array (Option Value)} {oc17 kV17 dc17 pm17 cd17 ct17 : Value}
    {f18 : Addr} {od18 an18 : Option Addr} {sl18 : Array (Option Value)} {oc18 kV18 dc18 pm18 cd18 ct18 : Value}
    {f19 : Addr} {od19 an19 : Option Addr} {sl19 : Array (Option Value)} {oc19 kV19 dc19 pm19 cd19 ct19 : Value}
    {f20 : Addr} {od20 an20 : Option Addr} {sl20 : Array (Option Value)} {oc20 kV20 dc20 pm20 cd20 ct20 : Value}
    {f21 : Addr} {od21 an21 : Option Addr} {sl21 : Array (Option Value)} {oc21 kV21 dc21 pm21 cd21 ct21 : Value}
    {f22 : Addr} {od22 an22 : Option Addr} {sl22 : Array (Option Value)} {oc22 kV22 dc22 pm22 cd22 ct22 : Value}
    {f23 : Addr} {od23 an23 : Option Addr} {sl23 : Array (Option Value)} {oc23 kV23 dc23 pm23 cd23 ct23 : Value}
    {f24 : Addr} {od24 an24 : Option Addr} {sl24 : Array (Option Value)} {oc24 kV24 dc24 pm24 cd24 ct24 : Value}
    {f25 : Addr} {od25 an25 : Option Addr} {sl25 : Array (Option Value)} {oc25 kV25 dc25 pm25 cd25 ct25 : Value}
    {f26 : Addr} {od26 an26 : Option Addr} {sl26 : Array (Option Value)} {oc26 kV26 dc26 pm26 cd26 ct26 : Value}
    {f27 : Addr} {od27 an27 : Option Addr} {sl27 : Array (Option Value)} {oc27 kV27 dc27 pm27 cd27 ct27 : Value}
    {f28 : Addr} {od28 an28 : Option Addr} {sl28 : Array (Option Value)} {oc28 kV28 dc28 pm28 cd28 ct28 : Value}
    {f29 : Addr} {od29 an29 : Option Addr} {sl29 : Array (Option Value)} {oc29 kV29 dc29 pm29 cd29 ct29 : Value}
    (a0 : PySem.W.nsIn K mainGlobals "ratio" = some (some (.ref f0)))
    (l0 : K.lookup f0 = some ⟨oc0, od0, .func (PySem.W.fnOf "ratio" "ratio" (defArgs s_ratio) (defBody s_ratio) (defScope s_ratio) .none kV0 dc0 pm0 an0 cd0 ct0), sl0⟩)
    (c0 : PySem.W.codeIn K cd0 "ratio" = true)
    (k0 : PySem.W.keepIn K (.ref f0) = true)
    (a1 : PySem.W.nsIn K mainGlobals "add" = some (some (.ref f1)))
    (l1 : K.lookup f1 = some ⟨oc1, od1, .func (PySem.W.fnOf "add" "add" (defArgs s_add) (defBody s_add) (defScope s_add) .none kV1 dc1 pm1 an1 cd1 ct1), sl1⟩)
    (c1 : PySem.W.codeIn K cd1 "add" = true)
    (k1 : PySem.W.keepIn K (.ref f1) = true)
    (a2 : PySem.W.nsIn K mainGlobals "less" = some (some (.ref f2)))
    (l2 : K.lookup f2 = some ⟨oc2, od2, .func (PySem.W.fnOf "less" "less" (defArgs s_less) (defBody s_less) (defScope s_less) .none kV2 dc2 pm2 an2 cd2 ct2), sl2⟩)
    (c2 : PySem.W.codeIn K cd2 "less" = true)
    (k2 : PySem.W.keepIn K (.ref f2) = true)
    (a3 : PySem.W.nsIn K mainGlobals "choose" = some (some (.ref f3)))
    (l3 : K.lookup f3 = some ⟨oc3, od3, .func (PySem.W.fnOf "choose" "choose" (defArgs s_choose) (defBody s_choose) (defScope s_choose) .none kV3 dc3 pm3 an3 cd3 ct3), sl3⟩)
    (c3 : PySem.W.codeIn K cd3 "choose" = true)
    (k3 : PySem.W.keepIn K (.ref f3) = true)
    (a4 : PySem.W.nsIn K mainGlobals "chance" = some (some (.ref f4)))
    (l4 : K.lookup f4 = some ⟨oc4, od4, .func (PySem.W.fnOf "chance" "chance" (defArgs s_chance) (defBody s_chance) (defScope s_chance) .none kV4 dc4 pm4 an4 cd4 ct4), sl4⟩)
    (c4 : PySem.W.codeIn K cd4 "chance" = true)
    (k4 : PySem.W.keepIn K (.ref f4) = true)
    (a5 : PySem.W.nsIn K mainGlobals "chance_from" = some (some (.ref f5)))
    (l5 : K.lookup f5 = some ⟨oc5, od5, .func (PySem.W.fnOf "chance_from" "chance_from" (defArgs s_chance_from) (defBody s_chance_from) (defScope s_chance_from) .none kV5 dc5 pm5 an5 cd5 ct5), sl5⟩)
    (c5 : PySem.W.codeIn K cd5 "chance_from" = true)
    (k5 : PySem.W.keepIn K (.ref f5) = true)
    (a6 : PySem.W.nsIn K mainGlobals "enough" = some (some (.ref f6)))
    (l6 : K.lookup f6 = some ⟨oc6, od6, .func (PySem.W.fnOf "enough" "enough" (defArgs s_enough) (defBody s_enough) (defScope s_enough) .none kV6 dc6 pm6 an6 cd6 ct6), sl6⟩)
    (c6 : PySem.W.codeIn K cd6 "enough" = true)
    (k6 : PySem.W.keepIn K (.ref f6) = true)
    (a7 : PySem.W.nsIn K mainGlobals "fits" = some (some (.ref f7)))
    (l7 : K.lookup f7 = some ⟨oc7, od7, .func (PySem.W.fnOf "fits" "fits" (defArgs s_fits) (defBody s_fits) (defScope s_fits) .none kV7 dc7 pm7 an7 cd7 ct7), sl7⟩)
    (c7 : PySem.W.codeIn K cd7 "fits" = true)
    (k7 : PySem.W.keepIn K (.ref f7) = true)
    (a8 : PySem.W.nsIn K mainGlobals "fitting" = some (some (.ref f8)))
    (l8 : K.lookup f8 = some ⟨oc8, od8, .func (PySem.W.fnOf "fitting" "fitting" (defArgs s_fitting) (defBody s_fitting) (defScope s_fitting) .none kV8 dc8 pm8 an8 cd8 ct8), sl8⟩)
    (c8 : PySem.W.codeIn K cd8 "fitting" = true)
    (k8 : PySem.W.keepIn K (.ref f8) = true)
    (a9 : PySem.W.nsIn K mainGlobals "sites" = some (some (.ref f9)))
    (l9 : K.lookup f9 = some ⟨oc9, od9, .func (PySem.W.fnOf "sites" "sites" (defArgs s_sites) (defBody s_sites) (defScope s_sites) .none kV9 dc9 pm9 an9 cd9 ct9), sl9⟩)
    (c9 : PySem.W.codeIn K cd9 "sites" = true)
    (k9 : PySem.W.keepIn K (.ref f9) = true)
    (a10 : PySem.W.nsIn K mainGlobals "is_hit" = some (some (.ref f10)))
    (l10 : K.lookup f10 = some ⟨oc10, od10, .func (PySem.W.fnOf "is_hit" "is_hit" (defArgs s_is_hit) (defBody s_is_hit) (defScope s_is_hit) .none kV10 dc10 pm10 an10 cd10 ct10), sl10⟩)
    (c10 : PySem.W.codeIn K cd10 "is_hit" = true)
    (k10 : PySem.W.keepIn K (.ref f10) = true)
    (a11 : PySem.W.nsIn K mainGlobals "missed" = some (some (.ref f11)))
    (l11 : K.lookup f11 = some ⟨oc11, od11, .func (PySem.W.fnOf "missed" "missed" (defArgs s_missed) (defBody s_missed) (defScope s_missed) .none kV11 dc11 pm11 an11 cd11 ct11), sl11⟩)
    (c11 : PySem.W.codeIn K cd11 "missed" = true)
    (k11 : PySem.W.keepIn K (.ref f11) = true)
    (a12 : PySem.W.nsIn K mainGlobals "fewest_pits" = some (some (.ref f12)))
    (l12 : K.lookup f12 = some ⟨oc12, od12, .func (PySem.W.fnOf "fewest_pits" "fewest_pits" (defArgs s_fewest_pits) (defBody s_fewest_pits) (defScope s_fewest_pits) .none kV12 dc12 pm12 an12 cd12 ct12), sl12⟩)
    (c12 : PySem.W.codeIn K cd12 "fewest_pits" = true)
    (k12 : PySem.W.keepIn K (.ref f12) = true)
    (a13 : PySem.W.nsIn K mainGlobals "share" = some (some (.ref f13)))
    (l13 : K.lookup f13 = some ⟨oc13, od13, .func (PySem.W.fnOf "share" "share" (defArgs s_share) (defBody s_share) (defScope s_share) .none kV13 dc13 pm13 an13 cd13 ct13), sl13⟩)
    (c13 : PySem.W.codeIn K cd13 "share" = true)
    (k13 : PySem.W.keepIn K (.ref f13) = true)
    (a14 : PySem.W.nsIn K mainGlobals "next_pit" = some (some (.ref f14)))
    (l14 : K.lookup f14 = some ⟨oc14, od14, .func (PySem.W.fnOf "next_pit" "next_pit" (defArgs s_next_pit) (defBody s_next_pit) (defScope s_next_pit) .none kV14 dc14 pm14 an14 cd14 ct14), sl14⟩)
    (c14 : PySem.W.codeIn K cd14 "next_pit" = true)
    (k14 : PySem.W.keepIn K (.ref f14) = true)
    (a15 : PySem.W.nsIn K mainGlobals "plan" = some (some (.ref f15)))
    (l15 : K.lookup f15 = some ⟨oc15, od15, .func (PySem.W.fnOf "plan" "plan" (defArgs s_plan) (defBody s_plan) (defScope s_plan) .none kV15 dc15 pm15 an15 cd15 ct15), sl15⟩)
    (c15 : PySem.W.codeIn K cd15 "plan" = true)
    (k15 : PySem.W.keepIn K (.ref f15) = true)
    (a16 : PySem.W.nsIn K mainGlobals "round_sites" = some (some (.ref f16)))
    (l16 : K.lookup f16 = some ⟨oc16, od16, .func (PySem.W.fnOf "round_sites" "round_sites" (defArgs s_round_sites) (defBody s_round_sites) (defScope s_round_sites) .none kV16 dc16 pm16 an16 cd16 ct16), sl16⟩)
    (c16 : PySem.W.codeIn K cd16 "round_sites" = true)
    (k16 : PySem.W.keepIn K (.ref f16) = true)
    (a17 : PySem.W.nsIn K mainGlobals "is_in_round" = some (some (.ref f17)))
    (l17 : K.lookup f17 = some ⟨oc17, od17, .func (PySem.W.fnOf "is_in_round" "is_in_round" (defArgs s_is_in_round) (defBody s_is_in_round) (defScope s_is_in_round) .none kV17 dc17 pm17 an17 cd17 ct17), sl17⟩)
    (c17 : PySem.W.codeIn K cd17 "is_in_round" = true)
    (k17 : PySem.W.keepIn K (.ref f17) = true)
    (a18 : PySem.W.nsIn K mainGlobals "missed_round" = some (some (.ref f18)))
    (l18 : K.lookup f18 = some ⟨oc18, od18, .func (PySem.W.fnOf "missed_round" "missed_round" (defArgs s_missed_round) (defBody s_missed_round) (defScope s_missed_round) .none kV18 dc18 pm18 an18 cd18 ct18), sl18⟩)
    (c18 : PySem.W.codeIn K cd18 "missed_round" = true)
    (k18 : PySem.W.keepIn K (.ref f18) = true)
    (a19 : PySem.W.nsIn K mainGlobals "widest_missed" = some (some (.ref f19)))
    (l19 : K.lookup f19 = some ⟨oc19, od19, .func (PySem.W.fnOf "widest_missed" "widest_missed" (defArgs s_widest_missed) (defBody s_widest_missed) (defScope s_widest_missed) .none kV19 dc19 pm19 an19 cd19 ct19), sl19⟩)
    (c19 : PySem.W.codeIn K cd19 "widest_missed" = true)
    (k19 : PySem.W.keepIn K (.ref f19) = true)
    (a20 : PySem.W.nsIn K mainGlobals "_law_draw" = some (some (.ref f20)))
    (l20 : K.lookup f20 = some ⟨oc20, od20, .func (PySem.W.fnOf "_law_draw" "_law_draw" (defArgs s__law_draw) (defBody s__law_draw) (defScope s__law_draw) .none kV20 dc20 pm20 an20 cd20 ct20), sl20⟩)
    (c20 : PySem.W.codeIn K cd20 "_law_draw" = true)
    (k20 : PySem.W.keepIn K (.ref f20) = true)
    (a21 : PySem.W.nsIn K mainGlobals "_law_next" = some (some (.ref f21)))
    (l21 : K.lookup f21 = some ⟨oc21, od21, .func (PySem.W.fnOf "_law_next" "_law_next" (defArgs s__law_next) (defBody s__law_next) (defScope s__law_next) .none kV21 dc21 pm21 an21 cd21 ct21), sl21⟩)
    (c21 : PySem.W.codeIn K cd21 "_law_next" = true)
    (k21 : PySem.W.keepIn K (.ref f21) = true)
    (a22 : PySem.W.nsIn K mainGlobals "_law_same" = some (some (.ref f22)))
    (l22 : K.lookup f22 = some ⟨oc22, od22, .func (PySem.W.fnOf "_law_same" "_law_same" (defArgs s__law_same) (defBody s__law_same) (defScope s__law_same) .none kV22 dc22 pm22 an22 cd22 ct22), sl22⟩)
    (c22 : PySem.W.codeIn K cd22 "_law_same" = true)
    (k22 : PySem.W.keepIn K (.ref f22) = true)
    (a23 : PySem.W.nsIn K mainGlobals "_law_low" = some (some (.ref f23)))
    (l23 : K.lookup f23 = some ⟨oc23, od23, .func (PySem.W.fnOf "_law_low" "_law_low" (defArgs s__law_low) (defBody s__law_low) (defScope s__law_low) .none kV23 dc23 pm23 an23 cd23 ct23), sl23⟩)
    (c23 : PySem.W.codeIn K cd23 "_law_low" = true)
    (k23 : PySem.W.keepIn K (.ref f23) = true)
    (a24 : PySem.W.nsIn K mainGlobals "_law_add" = some (some (.ref f24)))
    (l24 : K.lookup f24 = some ⟨oc24, od24, .func (PySem.W.fnOf "_law_add" "_law_add" (defArgs s__law_add) (defBody s__law_add) (defScope s__law_add) .none kV24 dc24 pm24 an24 cd24 ct24), sl24⟩)
    (c24 : PySem.W.codeIn K cd24 "_law_add" = true)
    (k24 : PySem.W.keepIn K (.ref f24) = true)
    (a25 : PySem.W.nsIn K mainGlobals "_law_less_by" = some (some (.ref f25)))
    (l25 : K.lookup f25 = some ⟨oc25, od25, .func (PySem.W.fnOf "_law_less_by" "_law_less_by" (defArgs s__law_less_by) (defBody s__law_less_by) (defScope s__law_less_by) .none kV25 dc25 pm25 an25 cd25 ct25), sl25⟩)
    (c25 : PySem.W.codeIn K cd25 "_law_less_by" = true)
    (k25 : PySem.W.keepIn K (.ref f25) = true)
    (a26 : PySem.W.nsIn K mainGlobals "_law_times" = some (some (.ref f26)))
    (l26 : K.lookup f26 = some ⟨oc26, od26, .func (PySem.W.fnOf "_law_times" "_law_times" (defArgs s__law_times) (defBody s__law_times) (defScope s__law_times) .none kV26 dc26 pm26 an26 cd26 ct26), sl26⟩)
    (c26 : PySem.W.codeIn K cd26 "_law_times" = true)
    (k26 : PySem.W.keepIn K (.ref f26) = true)
    (a27 : PySem.W.nsIn K mainGlobals "_law_below" = some (some (.ref f27)))
    (l27 : K.lookup f27 = some ⟨oc27, od27, .func (PySem.W.fnOf "_law_below" "_law_below" (defArgs s__law_below) (defBody s__law_below) (defScope s__law_below) .none kV27 dc27 pm27 an27 cd27 ct27), sl27⟩)
    (c27 : PySem.W.codeIn K cd27 "_law_below" = true)
    (k27 : PySem.W.keepIn K (.ref f27) = true)
    (a28 : PySem.W.nsIn K mainGlobals "_law_sum" = some (some (.ref f28)))
    (l28 : K.lookup f28 = some ⟨oc28, od28, .func (PySem.W.fnOf "_law_sum" "_law_sum" (defArgs s__law_sum) (defBody s__law_sum) (defScope s__law_sum) .none kV28 dc28 pm28 an28 cd28 ct28), sl28⟩)
    (c28 : PySem.W.codeIn K cd28 "_law_sum" = true)
    (k28 : PySem.W.keepIn K (.ref f28) = true)
    (a29 : PySem.W.nsIn K mainGlobals "law" = some (some (.ref f29)))
    (l29 : K.lookup f29 = some ⟨oc29, od29, .func (PySem.W.fnOf "law" "law" (defArgs s_law) (defBody s_law) (defScope s_law) .none kV29 dc29 pm29 an29 cd29 ct29), sl29⟩)
    (c29 : PySem.W.codeIn K cd29 "law" = true)
    (k29 : PySem.W.keepIn K (.ref f29) = true)
    (z0 : PySem.W.nsIn K mainGlobals "abs" = some none)
    (z1 : PySem.W.nsIn K mainGlobals "all" = some none)
    (z2 : PySem.W.nsIn K mainGlobals "any" = some none)
    (z3 : PySem.W.nsIn K mainGlobals "bool" = some none)
    (z4 : PySem.W.nsIn K mainGlobals "gcd" = some (some (.builtin "math.gcd")))
    (z5 : PySem.W.nsIn K mainGlobals "int" = some none)
    (z6 : PySem.W.nsIn K mainGlobals "isinstance" = some none)
    (z7 : PySem.W.nsIn K mainGlobals "len" = some none)
    (z8 : PySem.W.nsIn K mainGlobals "list" = some none)
    (z9 : PySem.W.nsIn K mainGlobals "min" = some none)
    (z10 : PySem.W.nsIn K mainGlobals "range" = some none)
    (z11 : PySem.W.nsIn K mainGlobals "sorted" = some none)
    (z12 : PySem.W.nsIn K mainGlobals "str" = some none)
    (z13 : PySem.W.nsIn K mainGlobals "tuple" = some none) :
    ∃ fd : FuncData, (∀ (s : Shared) (v : Value), BindsTo s fd ⟨[v], []⟩ [("script", v)]) ∧ ∀ base : Heap, K.In base → base.Ns mainGlobals mg → FnOk l.prog w K mg base CX0 8 fa fd ["script"] (spLaw K fm_law) := by
  have e := hfa.symm.trans (PySem.W.mg_of X G a29)
  cases e
  have F0 := fun_mk (st := s_ratio) l0 c0 k0
  have b0 := F0.binds (ps := ["number", "by"]) fun _ _ _ _ _ _ us hl => match us, hl with | [_, _], _ => rfl
  have F1 := fun_mk (st := s_add) l1 c1 k1
  have b1 := F1.binds (ps := ["one", "other"]) fun _ _ _ _ _ _ us hl => match us, hl with | [_, _], _ => rfl
  have F2 := fun_mk (st := s_less) l2 c2 k2
  have b2 := F2.binds (ps := ["one", "other"]) fun _ _ _ _ _ _ us hl => match us, hl with | [_, _], _ => rfl
  have F3 := fun_mk (st := s_choose) l3 c3 k3
  have b3 := F3.binds (ps := ["n", "k"]) fun _ _ _ _ _ _ us hl => match us, hl with | [_, _], _ => rfl
  have F4 := fun_mk (st := s_chance) l4 c4 k4
  have b4 := F4.binds (ps := ["buckets", "held", "sieved", "found"]) fun _ _ _ _ _ _ us hl => match us, hl with | [_, _, _, _], _ => rfl
  have F5 := fun_mk (st := s_chance_from) l5 c5 k5
  have b5 := F5.binds (ps := ["buckets", "held", "sieved", "low", "high"]) fun _ _ _ _ _ _ us hl => match us, hl with | [_, _, _, _, _], _ => rfl
  have F6 := fun_mk (st := s_enough) l6 c6 k6
  have b6 := F6.binds (ps := ["buckets", "held", "share"]) fun _ _ _ _ _ _ us hl => match us, hl with | [_, _, _], _ => rfl
  have F7 := fun_mk (st := s_fits) l7 c7 k7
  have b7 := F7.binds (ps := ["buckets", "held", "sieved", "found", "share"]) fun _ _ _ _ _ _ us hl => match us, hl with | [_, _, _, _, _], _ => rfl
  have F8 := fun_mk (st := s_fitting) l8 c8 k8
  have b8 := F8.binds (ps := ["buckets", "sieved", "found", "share"]) fun _ _ _ _ _ _ us hl => match us, hl with | [_, _, _, _], _ => rfl
  have F9 := fun_mk (st := s_sites) l9 c9 k9
  have b9 := F9.binds (ps := ["ground", "shape"]) fun _ _ _ _ _ _ us hl => match us, hl with | [_, _], _ => rfl
  have F10 := fun_mk (st := s_is_hit) l10 c10 k10
  have b10 := F10.binds (ps := ["pits", "site", "shape"]) fun _ _ _ _ _ _ us hl => match us, hl with | [_, _, _], _ => rfl
  have F11 := fun_mk (st := s_missed) l11 c11 k11
  have b11 := F11.binds (ps := ["ground", "pits", "shape"]) fun _ _ _ _ _ _ us hl => match us, hl with | [_, _, _], _ => rfl
  have F12 := fun_mk (st := s_fewest_pits) l12 c12 k12
  have b12 := F12.binds (ps := ["ground", "shape"]) fun _ _ _ _ _ _ us hl => match us, hl with | [_, _], _ => rfl
  have F13 := fun_mk (st := s_share) l13 c13 k13
  have b13 := F13.binds (ps := ["ground", "pits", "shape"]) fun _ _ _ _ _ _ us hl => match us, hl with | [_, _, _], _ => rfl
  have F14 := fun_mk (st := s_next_pit) l14 c14 k14
  have b14 := F14.binds (ps := ["ground", "pits", "shape"]) fun _ _ _ _ _ _ us hl => match us, hl with | [_, _, _], _ => rfl
  have F15 := fun_mk (st := s_plan) l15 c15 k15
  have b15 := F15.binds (ps := ["ground", "shape", "many"]) fun _ _ _ _ _ _ us hl => match us, hl with | [_, _, _], _ => rfl
  have F16 := fun_mk (st := s_round_sites) l16 c16 k16
  have b16 := F16.binds (ps := ["ground", "r"]) fun _ _ _ _ _ _ us hl => match us, hl with | [_, _], _ => rfl
  have F17 := fun_mk (st := s_is_in_round) l17 c17 k17
  have b17 := F17.binds (ps := ["cell", "middle", "r"]) fun _ _ _ _ _ _ us hl => match us, hl with | [_, _, _], _ => rfl
  have F18 := fun_mk (st := s_missed_round) l18 c18 k18
  have b18 := F18.binds (ps := ["ground", "pits", "r"]) fun _ _ _ _ _ _ us hl => match us, hl with | [_, _, _], _ => rfl
  have F19 := fun_mk (st := s_widest_missed) l19 c19 k19
  have b19 := F19.binds (ps := ["ground", "pits"]) fun _ _ _ _ _ _ us hl => match us, hl with | [_, _], _ => rfl
  have F20 := fun_mk (st := s__law_draw) l20 c20 k20
  have b20 := F20.binds (ps := ["script"]) fun _ _ _ _ _ _ us hl => match us, hl with | [_], _ => rfl
  have F21 := fun_mk (st := s__law_next) l21 c21 k21
  have b21 := F21.binds (ps := ["draw", "many"]) fun _ _ _ _ _ _ us hl => match us, hl with | [_, _], _ => rfl
  have F22 := fun_mk (st := s__law_same) l22 c22 k22
  have b22 := F22.binds (ps := ["actual", "due"]) fun _ _ _ _ _ _ us hl => match us, hl with | [_, _], _ => rfl
  have F23 := fun_mk (st := s__law_low) l23 c23 k23
  have b23 := F23.binds (ps := ["number", "by"]) fun _ _ _ _ _ _ us hl => match us, hl with | [_, _], _ => rfl
  have F24 := fun_mk (st := s__law_add) l24 c24 k24
  have b24 := F24.binds (ps := ["one", "two"]) fun _ _ _ _ _ _ us hl => match us, hl with | [_, _], _ => rfl
  have F25 := fun_mk (st := s__law_less_by) l25 c25 k25
  have b25 := F25.binds (ps := ["one", "two"]) fun _ _ _ _ _ _ us hl => match us, hl with | [_, _], _ => rfl
  have F26 := fun_mk (st := s__law_times) l26 c26 k26
  have b26 := F26.binds (ps := ["one", "two"]) fun _ _ _ _ _ _ us hl => match us, hl with | [_, _], _ => rfl
  have F27 := fun_mk (st := s__law_below) l27 c27 k27
  have b27 := F27.binds (ps := ["one", "two"]) fun _ _ _ _ _ _ us hl => match us, hl with | [_, _], _ => rfl
  have F28 := fun_mk (st := s__law_sum) l28 c28 k28
  have b28 := F28.binds (ps := ["values"]) fun _ _ _ _ _ _ us hl => match us, hl with | [_], _ => rfl
  have F29 := fun_mk (st := s_law) l29 c29 k29
  have b29 := F29.binds (ps := ["script"]) fun _ _ _ _ _ _ us hl => match us, hl with | [_], _ => rfl
  let R : PR K mg := { f_ratio := f0, fd_ratio := _, F_ratio := F0, g_ratio := PySem.W.mg_of X G a0, bd_ratio := b0, f_add := f1, fd_add := _, F_add := F1, g_add := PySem.W.mg_of X G a1, bd_add := b1, f_less := f2, fd_less := _, F_less := F2, g_less := PySem.W.mg_of X G a2, bd_less := b2, f_choose := f3, fd_choose := _, F_choose := F3, g_choose := PySem.W.mg_of X G a3, bd_choose := b3, f_chance := f4, fd_chance := _, F_chance := F4, g_chance := PySem.W.mg_of X G a4, bd_chance := b4, f_chance_from := f5, fd_chance_from := _, F_chance_from := F5, g_chance_from := PySem.W.mg_of X G a5, bd_chance_from := b5, f_enough := f6, fd_enough := _, F_enough := F6, g_enough := PySem.W.mg_of X G a6, bd_enough := b6, f_fits := f7, fd_fits := _, F_fits := F7, g_fits := PySem.W.mg_of X G a7, bd_fits := b7, f_fitting := f8, fd_fitting := _, F_fitting := F8, g_fitting := PySem.W.mg_of X G a8, bd_fitting := b8, f_sites := f9, fd_sites := _, F_sites := F9, g_sites := PySem.W.mg_of X G a9, bd_sites := b9, f_is_hit := f10, fd_is_hit := _, F_is_hit := F10, g_is_hit := PySem.W.mg_of X G a10, bd_is_hit := b10, f_missed := f11, fd_missed := _, F_missed := F11, g_missed := PySem.W.mg_of X G a11, bd_missed := b11, f_fewest_pits := f12, fd_fewest_pits := _, F_fewest_pits := F12, g_fewest_pits := PySem.W.mg_of X G a12, bd_fewest_pits := b12, f_share := f13, fd_share := _, F_share := F13, g_share := PySem.W.mg_of X G a13, bd_share := b13, f_next_pit := f14, fd_next_pit := _, F_next_pit := F14, g_next_pit := PySem.W.mg_of X G a14, bd_next_pit := b14, f_plan := f15, fd_plan := _, F_plan := F15, g_plan := PySem.W.mg_of X G a15, bd_plan := b15, f_round_sites := f16, fd_round_sites := _, F_round_sites := F16, g_round_sites := PySem.W.mg_of X G a16, bd_round_sites := b16, f_is_in_round := f17, fd_is_in_round := _, F_is_in_round := F17, g_is_in_round := PySem.W.mg_of X G a17, bd_is_in_round := b17, f_missed_round := f18, fd_missed_round := _, F_missed_round := F18, g_missed_round := PySem.W.mg_of X G a18, bd_missed_round := b18, f_widest_missed := f19, fd_widest_missed := _, F_widest_missed := F19, g_widest_missed := PySem.W.mg_of X G a19, bd_widest_missed := b19, f__law_draw := f20, fd__law_draw := _, F__law_draw := F20, g__law_draw := PySem.W.mg_of X G a20, bd__law_draw := b20, f__law_next := f21, fd__law_next := _, F__law_next := F21, g__law_next := PySem.W.mg_of X G a21, bd__law_next := b21, f__law_same := f22, fd__law_same := _, F__law_same := F22, g__law_same := PySem.W.mg_of X G a22, bd__law_same := b22, f__law_low := f23, fd__law_low := _, F__law_low := F23, g__law_low := PySem.W.mg_of X G a23, bd__law_low := b23, f__law_add := f24, fd__law_add := _, F__law_add := F24, g__law_add := PySem.W.mg_of X G a24, bd__law_add := b24, f__law_less_by := f25, fd__law_less_by := _, F__law_less_by := F25, g__law_less_by := PySem.W.mg_of X G a25, bd__law_less_by := b25, f__law_times := f26, fd__law_times := _, F__law_times := F26, g__law_times := PySem.W.mg_of X G a26, bd__law_times := b26, f__law_below := f27, fd__law_below := _, F__law_below := F27, g__law_below := PySem.W.mg_of X G a27, bd__law_below := b27, f__law_sum := f28, fd__law_sum := _, F__law_sum := F28, g__law_sum := PySem.W.mg_of X G a28, bd__law_sum := b28, f_law := fa, fd_law := _, F_law := F29, g_law := PySem.W.mg_of X G a29, bd_law := b29, b_abs := PySem.W.mg_none_of X G z0, b_all := PySem.W.mg_none_of X G z1, b_any := PySem.W.mg_none_of X G z2, b_bool := PySem.W.mg_none_of X G z3, b_gcd := PySem.W.mg_of X G z4, b_int := PySem.W.mg_none_of X G z5, b_isinstance := PySem.W.mg_none_of X G z6, b_len := PySem.W.mg_none_of X G z7, b_list := PySem.W.mg_none_of X G z8, b_min := PySem.W.mg_none_of X G z9, b_range := PySem.W.mg_none_of X G z10, b_sorted := PySem.W.mg_none_of X G z11, b_str := PySem.W.mg_none_of X G z12, b_tuple := PySem.W.mg_none_of X G z13 }
  exact ⟨_, fun s v => .of_eq rfl, fun base _ _ => (ok_law R).imp spLaw_imp⟩
end K86
open PySem PySem.W PyProof.Rows
set_option maxHeartbeats 0 in
theorem PySem.Challenge.cw_digworks_k86_chances_and_pits_holds : PySem.Challenge.rw_digworks_k86_chances_and_pits.Holds := by
  w_on; o_law; k_head; (case hw => w_witness2)
  k_fill
  refine L2.walk_of (l := PySem.Challenge.rw_digworks_k86_chances_and_pits) (n := 63) (k := 8) (x := "script") (CX := fun _ => L2.CX0) (sp := fun w => Dg.spLaw _ K86.fm_law) rfl (by decide) rfl ⟨rfl, by decide, by decide⟩ (fun w h Y => PySem.W.kIn_of Y) ?F (fun w H a ns hl ho hS => Dg.law_start K86.plain hl hS _) (fun _ _ _ _ _ h => h)
  case F =>
    intro w mg fa h KX G hmg
    refine' K86.all_mk KX G hmg ?a0 ?l0 ?c0 ?k0 ?a1 ?l1 ?c1 ?k1 ?a2 ?l2 ?c2 ?k2 ?a3 ?l3 ?c3 ?k3 ?a4 ?l4 ?c4 ?k4 ?a5 ?l5 ?c5 ?k5 ?a6 ?l6 ?c6 ?k6 ?a7 ?l7 ?c7 ?k7 ?a8 ?l8 ?c8 ?k8 ?a9 ?l9 ?c9 ?k9 ?a10 ?l10 ?c10 ?k10 ?a11 ?l11 ?c11 ?k11 ?a12 ?l12 ?c12 ?k12 ?a13 ?l13 ?c13 ?k13 ?a14 ?l14 ?c14 ?k14 ?a15 ?l15 ?c15 ?k15 ?a16 ?l16 ?c16 ?k16 ?a17 ?l17 ?c17 ?k17 ?a18 ?l18 ?c18 ?k18 ?a19 ?l19 ?c19 ?k19 ?a20 ?l20 ?c20 ?k20 ?a21 ?l21 ?c21 ?k21 ?a22 ?l22 ?c22 ?k22 ?a23 ?l23 ?c23 ?k23 ?a24 ?l24 ?c24 ?k24 ?a25 ?l25 ?c25 ?k25 ?a26 ?l26 ?c26 ?k26 ?a27 ?l27 ?c27 ?k27 ?a28 ?l28 ?c28 ?k28 ?a29 ?l29 ?c29 ?k29 ?z0 ?z1 ?z2 ?z3 ?z4 ?z5 ?z6 ?z7 ?z8 ?z9 ?z10 ?z11 ?z12 ?z13
    (case a0 => k_is); (case l0 => k_is); (case c0 => k_is); (case k0 => k_is); (case a1 => k_is); (case l1 => k_is); (case c1 => k_is); (case k1 => k_is); (case a2 => k_is); (case l2 => k_is); (case c2 => k_is); (case k2 => k_is); (case a3 => k_is); (case l3 => k_is); (case c3 => k_is); (case k3 => k_is); (case a4 => k_is); (case l4 => k_is); (case c4 => k_is); (case k4 => k_is); (case a5 => k_is); (case l5 => k_is); (case c5 => k_is); (case k5 => k_is); (case a6 => k_is); (case l6 => k_is); (case c6 => k_is); (case k6 => k_is); (case a7 => k_is); (case l7 => k_is); (case c7 => k_is); (case k7 => k_is); (case a8 => k_is); (case l8 => k_is); (case c8 => k_is); (case k8 => k_is); (case a9 => k_is); (case l9 => k_is); (case c9 => k_is); (case k9 => k_is); (case a10 => k_is); (case l10 => k_is); (case c10 => k_is); (case k10 => k_is); (case a11 => k_is); (case l11 => k_is); (case c11 => k_is); (case k11 => k_is); (case a12 => k_is); (case l12 => k_is); (case c12 => k_is); (case k12 => k_is); (case a13 => k_is); (case l13 => k_is); (case c13 => k_is); (case k13 => k_is); (case a14 => k_is); (case l14 => k_is); (case c14 => k_is); (case k14 => k_is); (case a15 => k_is); (case l15 => k_is); (case c15 => k_is); (case k15 => k_is); (case a16 => k_is); (case l16 => k_is); (case c16 => k_is); (case k16 => k_is); (case a17 => k_is); (case l17 => k_is); (case c17 => k_is); (case k17 => k_is); (case a18 => k_is); (case l18 => k_is); (case c18 => k_is); (case k18 => k_is); (case a19 => k_is); (case l19 => k_is); (case c19 => k_is); (case k19 => k_is); (case a20 => k_is); (case l20 => k_is); (case c20 => k_is); (case k20 => k_is); (case a21 => k_is); (case l21 => k_is); (case c21 => k_is); (case k21 => k_is); (case a22 => k_is); (case l22 => k_is); (case c22 => k_is); (case k22 => k_is); (case a23 => k_is); (case l23 => k_is); (case c23 => k_is); (case k23 => k_is); (case a24 => k_is); (case l24 => k_is); (case c24 => k_is); (case k24 => k_is); (case a25 => k_is); (case l25 => k_is); (case c25 => k_is); (case k25 => k_is); (case a26 => k_is); (case l26 => k_is); (case c26 => k_is); (case k26 => k_is); (case a27 => k_is); (case l27 => k_is); (case c27 => k_is); (case k27 => k_is); (case a28 => k_is); (case l28 => k_is); (case c28 => k_is); (case k28 => k_is); (case a29 => k_is); (case l29 => k_is); (case c29 => k_is); (case k29 => k_is); (case z0 => k_is); (case z1 => k_is); (case z2 => k_is); (case z3 => k_is); (case z4 => k_is); (case z5 => k_is); (case z6 => k_is); (case z7 => k_is); (case z8 => k_is); (case z9 => k_is); (case z10 => k_is); (case z11 => k_is); (case z12 => k_is); (case z13 => k_is)
