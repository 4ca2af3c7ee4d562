import PyProof.Rows.All
import Wide.All
import OpenK.AllK
import Wide.FinOn
import HandS.ForMost
import HandS.ForExc
import HandS.Deep
import HandS.TupAny
import HandS.CallSlots
import HandS.Conv
import HandS.Codes
import HandS.NoneIn
import HandS.IsInst
import HandS.Replace
import HandS.Ends
import HandS.ExcInit
import HandS.TupLen
import HandS.More
import HandS.EndTab
import KE.SortData
import HandS.Text
import HandS.WordsDict
import HandS.Iter
import HandS.SetFor
import HandS.DictTup
import HandS.SetKeys
import KE.KDictLaws
import PyProof.DictMoreH
import KE.KEqNest
import KE.KEqDict
import KE.KDictPairs
import KE.KDictCopyH
import HandS.Finally
import HandS.RevTup
import HandS.Rev
import KE.KDictDisplayH
import KE.DataMinMax
import KE.KMinKey
import KE.SortKeyHeap
import HandS.Lambda
import KE.DataFind
import KE.DataCmp
import PySem.Challenge.RW_pourhall_k77_whole_poured_turned
set_option Elab.async false
set_option linter.all false
set_option maxRecDepth 100000
set_option maxHeartbeats 4000000
/-! Ev, part A: data as trees, what represents them on the abstract heap. -/
namespace Ev
open PySem PySem.Spec L2
open PyProof.Rows hiding St

abbrev Ky := Sum Key (List Key)
inductive Tag where
  | tup
  | lst (o : Bool)
  | dct (o t : Bool) (ks : List Ky)
  | ins (o : Bool) (c : Str) (ns : List Str)
  /-- a dict that is changed for the caller, at this address -/
  | io (a : Addr) (t : Bool) (ks : List Ky)
  /-- an exception, its dict -/
  | exc (c : Str)
  | xd (ns : List Str)
def Tag.own : Tag → Bool
  | .tup => false
  | .lst o => o
  | .dct o _ _ => o
  | .ins o _ _ => o
  | .io _ _ _ => true
  | .exc _ => false
  | .xd _ => false
def Tag.frz : Tag → Tag
  | .tup => .tup
  | .lst _ => .lst false
  | .dct _ t ks => .dct false t ks
  | .ins _ c ns => .ins false c ns
  | .io _ t ks => .dct false t ks
  | .exc c => .exc c
  | .xd ns => .xd ns
theorem Tag.frz_own (t : Tag) : t.frz.own = false := by cases t <;> rfl
theorem Tag.frz_frz (t : Tag) : t.frz.frz = t.frz := by cases t <;> rfl
/-- a value as a tree -/
inductive D where
  | non
  | bl (b : Bool)
  | int (i : Int)
  | str (x : Str)
  | node (t : Tag) (xs : List D)
abbrev D.tup (xs : List D) : D := .node .tup xs
abbrev D.lst (o : Bool) (xs : List D) : D := .node (.lst o) xs
/-- a dict by its pairs -/
abbrev D.dct (o t : Bool) (kvs : List (Ky × D)) : D := .node (.dct o t (kvs.map (·.1))) (kvs.map (·.2))
mutual
def D.frz : D → D
  | .node t xs => .node t.frz (frzs xs)
  | .non => .non
  | .bl b => .bl b
  | .int i => .int i
  | .str x => .str x
def frzs : List D → List D
  | [] => []
  | x :: xs => x.frz :: frzs xs
end
theorem frzs_map : ∀ xs : List D, frzs xs = xs.map D.frz
  | [] => rfl
  | x :: xs => by rw [frzs, frzs_map xs]; rfl
mutual
theorem D.frz_frz : ∀ d : D, d.frz.frz = d.frz
  | .node t xs => by rw [D.frz, D.frz, Tag.frz_frz, frzs_frzs xs]
  | .non => rfl
  | .bl _ => rfl
  | .int _ => rfl
  | .str _ => rfl
theorem frzs_frzs : ∀ xs : List D, frzs (frzs xs) = frzs xs
  | [] => rfl
  | x :: xs => by rw [frzs, frzs, D.frz_frz x, frzs_frzs xs]
end
mutual
/-- some list, dict or instance within is not one's own -/
def D.shr : D → Bool
  | .node .tup xs => shrs xs
  | .node t xs => !t.own || shrs xs
  | _ => false
def shrs : List D → Bool
  | [] => false
  | x :: xs => x.shr || shrs xs
end
mutual
/-- nothing within can be changed -/
def D.pure : D → Bool
  | .node .tup xs => pures xs
  | .node _ _ => false
  | _ => true
def pures : List D → Bool
  | [] => true
  | x :: xs => x.pure && pures xs
end
mutual
theorem D.pure_frz : ∀ d : D, d.pure = true → d.frz = d
  | .node .tup xs, h => by
    rw [D.pure] at h
    rw [D.frz, pures_frz xs h]; rfl
  | .node (.lst _) xs, h => by simp [D.pure] at h
  | .node (.dct _ _ _) xs, h => by simp [D.pure] at h
  | .node (.ins _ _ _) xs, h => by simp [D.pure] at h
  | .node (.io _ _ _) xs, h => by simp [D.pure] at h
  | .node (.exc _) xs, h => by simp [D.pure] at h
  | .node (.xd _) xs, h => by simp [D.pure] at h
  | .non, _ => rfl
  | .bl _, _ => rfl
  | .int _, _ => rfl
  | .str _, _ => rfl
theorem pures_frz : ∀ xs : List D, pures xs = true → frzs xs = xs
  | [], _ => rfl
  | x :: xs, h => by
    rw [pures, Bool.and_eq_true] at h
    rw [frzs, D.pure_frz x h.1, pures_frz xs h.2]
end
mutual
theorem D.pure_shr : ∀ d : D, d.pure = true → d.shr = false
  | .node .tup xs, h => by
    rw [D.pure] at h
    rw [D.shr, pures_shr xs h]
  | .node (.lst _) xs, h => by simp [D.pure] at h
  | .node (.dct _ _ _) xs, h => by simp [D.pure] at h
  | .node (.ins _ _ _) xs, h => by simp [D.pure] at h
  | .node (.io _ _ _) xs, h => by simp [D.pure] at h
  | .node (.exc _) xs, h => by simp [D.pure] at h
  | .node (.xd _) xs, h => by simp [D.pure] at h
  | .non, _ => rfl
  | .bl _, _ => rfl
  | .int _, _ => rfl
  | .str _, _ => rfl
theorem pures_shr : ∀ xs : List D, pures xs = true → shrs xs = false
  | [], _ => rfl
  | x :: xs, h => by
    rw [pures, Bool.and_eq_true] at h
    rw [shrs, D.pure_shr x h.1, pures_shr xs h.2]; rfl
end
theorem pures_all (xs : List D) : pures xs = xs.all D.pure := by
  induction xs with
  | nil => rfl
  | cons x xs ih => rw [pures, ih]; rfl
theorem shrs_any (xs : List D) : shrs xs = xs.any D.shr := by
  induction xs with
  | nil => rfl
  | cons x xs ih => rw [shrs, ih]; rfl

/-! ### dicts by pairs -/
section
variable {κ α β : Type} [DecidableEq κ]
def lkp (kvs : List (κ × α)) (k : κ) : Option α := (kvs.find? fun p => decide (p.1 = k)).map (·.2)
def put (kvs : List (κ × α)) (k : κ) (v : α) : List (κ × α) :=
  if (kvs.any fun p => decide (p.1 = k)) = true then kvs.map (fun p => if p.1 = k then (p.1, v) else p) else kvs ++ [(k, v)]
def drp (kvs : List (κ × α)) (k : κ) : List (κ × α) := kvs.filter fun p => decide (p.1 ≠ k)
@[simp] theorem lkp_nil (k : κ) : lkp ([] : List (κ × α)) k = none := rfl
theorem lkp_cons (p : κ × α) (r : List (κ × α)) (k : κ) : lkp (p :: r) k = if p.1 = k then some p.2 else lkp r k := by
  unfold lkp
  by_cases h : p.1 = k
  · simp [h]
  · simp [h]
end

/-! ### the heap -/
section
variable (mg : Str → Option Value)
/-- what stands at a for a node with the children vs -/
def Dobj (u : HO) (ks : List Ky) (vs : List V) : Bool → Prop
  | false => ∃ k' : List Key, ks = k'.map Sum.inl ∧ u = .dK (k'.zip vs)
  | true => ∃ k' : List (List Key), ks = k'.map Sum.inr ∧ u = .dT (k'.zip vs)
/-- an exception object at a, of the class at C, its own dict (or none) -/
def excHO (a C : Addr) (od : Option Addr) : HO := .ext fun h => ∃ oe, h.get? a = some oe ∧ oe.cls = .ref C ∧ oe.dict = od ∧ ∃ vs, oe.data = .fields vs
def Head (H : Hp) (a : Addr) (vs : List V) : Tag → Prop
  | .tup => H a = some (.tup vs)
  | .lst true => H a = some (.lst vs)
  | .lst false => Rd H a (.lst vs)
  | .dct true t ks => vs.length = ks.length ∧ ∃ u, Dobj u ks vs t ∧ H a = some u
  | .dct false t ks => vs.length = ks.length ∧ ∃ u, Dobj u ks vs t ∧ Rd H a u
  | .ins _ c ns => vs.length = ns.length ∧ ∃ C dx, mg c = some (.ref C) ∧ H a = some (.ins C dx (ns.zip vs))
  | .io b t ks => a = b ∧ vs.length = ks.length ∧ ∃ u, Dobj u ks vs t ∧ H a = some u
  | .exc c => ∃ C, mg c = some (.ref C) ∧ ((vs = [] ∧ H a = some (excHO a C none)) ∨ ∃ d, vs = [.ref d] ∧ H a = some (excHO a C (some d)))
  | .xd ns => vs.length = ns.length ∧ H a = some (.xd (ns.zip vs))
mutual
/-- v is the tree d on the heap H; B: what no node but one's own may stand at; the last: the addresses of one's own nodes -/
def Rep (H : Hp) (B : Addr → Prop) : D → V → List Addr → Prop
  | .non, v, as => v = .non ∧ as = []
  | .bl b, v, as => v = .bl b ∧ as = []
  | .int i, v, as => v = .int i ∧ as = []
  | .str x, v, as => v = .str x ∧ as = []
  | .node t xs, v, as => ∃ a vs bs, v = .ref a ∧ Head mg H a vs t ∧ Reps H B xs vs bs ∧ ((t.own = true ∧ as = a :: bs) ∨ (t.own = false ∧ ¬ B a ∧ as = bs))
def Reps (H : Hp) (B : Addr → Prop) : List D → List V → List Addr → Prop
  | [], vs, as => vs = [] ∧ as = []
  | x :: xs, vs, as => ∃ v ws a1 a2, vs = v :: ws ∧ as = a1 ++ a2 ∧ Rep H B x v a1 ∧ Reps H B xs ws a2
end
variable {mg}
theorem Head.there {H : Hp} {a : Addr} {vs : List V} {t : Tag} (h : Head mg H a vs t) : H a ≠ none := by
  cases t with
  | tup => intro e; rw [Head, e] at h; cases h
  | lst o =>
    cases o with
    | true => intro e; rw [Head, e] at h; cases h
    | false =>
      rcases h with h | ⟨o, h⟩ <;> · intro e; rw [e] at h; cases h
  | dct o t ks =>
    cases o with
    | true => obtain ⟨_, u, _, h⟩ := h; intro e; rw [e] at h; cases h
    | false =>
      obtain ⟨_, u, _, h | ⟨o, h⟩⟩ := h <;> · intro e; rw [e] at h; cases h
  | ins o c ns => obtain ⟨_, C, dx, _, h⟩ := h; intro e; rw [e] at h; cases h
  | io b t ks => obtain ⟨_, _, u, _, h⟩ := h; intro e; rw [e] at h; cases h
  | exc c =>
    obtain ⟨C, _, ⟨_, h⟩ | ⟨d, _, h⟩⟩ := h <;> · intro e; rw [e] at h; cases h
  | xd ns => obtain ⟨_, h⟩ := h; intro e; rw [e] at h; cases h
/-- no table of code objects -/
def NTb (o : HO) : Prop := ∀ ps, o ≠ .tbl ps
theorem NTb.dobj {u : HO} {ks : List Ky} {vs : List V} {t : Bool} (h : Dobj u ks vs t) : NTb u := fun ps z => by
  subst z
  cases t with
  | true => obtain ⟨_, _, e⟩ := h; cases e
  | false => obtain ⟨_, _, e⟩ := h; cases e
theorem Rd.imp {H H' : Hp} {a : Addr} {u : HO} (n : NTb u) (k : ∀ o, H a = some o → NTb o → H' a = some o) (h : Rd H a u) : Rd H' a u := by
  rcases h with h | ⟨o, h⟩
  · exact .inl (k _ h n)
  · exact .inr ⟨o, k _ h fun _ z => by cases z⟩
theorem Head.imp {H H' : Hp} {a : Addr} {vs : List V} {t : Tag} (k : ∀ o, H a = some o → NTb o → H' a = some o) (h : Head mg H a vs t) : Head mg H' a vs t := by
  cases t with
  | tup => exact k _ h fun _ z => by cases z
  | lst o =>
    cases o with
    | true => exact k _ h fun _ z => by cases z
    | false => exact Rd.imp (fun _ z => by cases z) k h
  | dct o t ks =>
    cases o with
    | true => obtain ⟨l, u, d, h⟩ := h; exact ⟨l, u, d, k _ h (NTb.dobj d)⟩
    | false => obtain ⟨l, u, d, h⟩ := h; exact ⟨l, u, d, Rd.imp (NTb.dobj d) k h⟩
  | ins o c ns => obtain ⟨l, C, dx, m, h⟩ := h; exact ⟨l, C, dx, m, k _ h fun _ z => by cases z⟩
  | io b t ks => obtain ⟨e, l, u, d, h⟩ := h; exact ⟨e, l, u, d, k _ h (NTb.dobj d)⟩
  | exc c => obtain ⟨C, m, h⟩ := h; exact ⟨C, m, h.imp (fun z => ⟨z.1, k _ z.2 fun _ q => by unfold excHO at q; cases q⟩) fun ⟨d, z⟩ => ⟨d, z.1, k _ z.2 fun _ q => by unfold excHO at q; cases q⟩⟩
  | xd ns => exact ⟨h.1, k _ h.2 fun _ z => by cases z⟩
theorem Head.frz {H : Hp} {a : Addr} {vs : List V} {t : Tag} (h : Head mg H a vs t) : Head mg H a vs t.frz := by
  cases t with
  | tup => exact h
  | lst o =>
    cases o with
    | true => exact .inl h
    | false => exact h
  | dct o t ks =>
    cases o with
    | true => obtain ⟨l, u, d, h⟩ := h; exact ⟨l, u, d, .inl h⟩
    | false => exact h
  | ins o c ns => exact h
  | io b t ks => obtain ⟨_, l, u, d, h⟩ := h; exact ⟨l, u, d, .inl h⟩
  | exc c => exact h
  | xd ns => exact h
mutual
/-- the general step: where the nodes of d stand, H' has what H has; B' is avoided where B is -/
theorem Rep.stepN {H H' : Hp} {B B' : Addr → Prop} : ∀ {d : D} {v : V} {as : List Addr}, Rep mg H B d v as → (∀ a o, H a = some o → NTb o → (a ∈ as ∨ ¬ B a) → H' a = some o) → (∀ a, H a ≠ none → ¬ B a → ¬ B' a) → Rep mg H' B' d v as
  | .non, _, _, h, _, _ => h
  | .bl _, _, _, h, _, _ => h
  | .int _, _, _, h, _, _ => h
  | .str _, _, _, h, _, _ => h
  | .node t xs, v, as, h, k, b => by
    rw [Rep] at h ⊢
    obtain ⟨a, vs, bs, e, hd, hr, q⟩ := h
    have hsub : ∀ c, c ∈ bs → c ∈ as := fun c hc => by
      rcases q with ⟨_, q⟩ | ⟨_, _, q⟩
      · rw [q]; exact List.mem_cons_of_mem _ hc
      · rw [q]; exact hc
    refine ⟨a, vs, bs, e, hd.imp fun o ho n => k a o ho n ?_, Reps.stepN hr (fun c o ho n hc => k c o ho n (hc.imp_left (hsub c))) b, ?_⟩
    · rcases q with ⟨_, q⟩ | ⟨_, q, _⟩
      · left; rw [q]; exact List.mem_cons_self
      · exact .inr q
    · rcases q with q | ⟨q1, q2, q3⟩
      · exact .inl q
      · exact .inr ⟨q1, b a hd.there q2, q3⟩
theorem Reps.stepN {H H' : Hp} {B B' : Addr → Prop} : ∀ {xs : List D} {vs : List V} {as : List Addr}, Reps mg H B xs vs as → (∀ a o, H a = some o → NTb o → (a ∈ as ∨ ¬ B a) → H' a = some o) → (∀ a, H a ≠ none → ¬ B a → ¬ B' a) → Reps mg H' B' xs vs as
  | [], _, _, h, _, _ => by rw [Reps] at h ⊢; exact h
  | x :: xs, vs, as, h, k, b => by
    rw [Reps] at h ⊢
    obtain ⟨v, ws, a1, a2, e1, e2, h1, h2⟩ := h
    exact ⟨v, ws, a1, a2, e1, e2, Rep.stepN h1 (fun c o ho n hc => k c o ho n (hc.imp_left fun z => by rw [e2]; exact List.mem_append_left _ z)) b,
      Reps.stepN h2 (fun c o ho n hc => k c o ho n (hc.imp_left fun z => by rw [e2]; exact List.mem_append_right _ z)) b⟩
end
theorem Rep.step {H H' : Hp} {B B' : Addr → Prop} {d : D} {v : V} {as : List Addr} (h : Rep mg H B d v as) (k : ∀ a o, H a = some o → (a ∈ as ∨ ¬ B a) → H' a = some o) (b : ∀ a, H a ≠ none → ¬ B a → ¬ B' a) : Rep mg H' B' d v as :=
  h.stepN (fun a o e _ z => k a o e z) b
theorem Reps.step {H H' : Hp} {B B' : Addr → Prop} {d : List D} {v : List V} {as : List Addr} (h : Reps mg H B d v as) (k : ∀ a o, H a = some o → (a ∈ as ∨ ¬ B a) → H' a = some o) (b : ∀ a, H a ≠ none → ¬ B a → ¬ B' a) : Reps mg H' B' d v as :=
  h.stepN (fun a o e _ z => k a o e z) b
mutual
/-- frozen: its own nodes are no more one's own -/
theorem Rep.frz {H : Hp} {B B' : Addr → Prop} : ∀ {d : D} {v : V} {as : List Addr}, Rep mg H B d v as → (∀ a, H a ≠ none → ¬ B a → ¬ B' a) → (∀ a ∈ as, ¬ B' a) → Rep mg H B' d.frz v []
  | .non, _, _, h, _, _ => ⟨h.1, rfl⟩
  | .bl _, _, _, h, _, _ => ⟨h.1, rfl⟩
  | .int _, _, _, h, _, _ => ⟨h.1, rfl⟩
  | .str _, _, _, h, _, _ => ⟨h.1, rfl⟩
  | .node t xs, v, as, h, b, n => by
    rw [Rep] at h
    rw [D.frz, Rep]
    obtain ⟨a, vs, bs, e, hd, hr, q⟩ := h
    have hsub : ∀ c, c ∈ bs → c ∈ as := fun c hc => by
      rcases q with ⟨_, q⟩ | ⟨_, _, q⟩
      · rw [q]; exact List.mem_cons_of_mem _ hc
      · rw [q]; exact hc
    refine ⟨a, vs, [], e, hd.frz, Reps.frz hr b fun c hc => n c (hsub c hc), .inr ⟨t.frz_own, ?_, rfl⟩⟩
    rcases q with ⟨_, q⟩ | ⟨_, q, _⟩
    · exact n a (by rw [q]; exact List.mem_cons_self)
    · exact b a hd.there q
theorem Reps.frz {H : Hp} {B B' : Addr → Prop} : ∀ {xs : List D} {vs : List V} {as : List Addr}, Reps mg H B xs vs as → (∀ a, H a ≠ none → ¬ B a → ¬ B' a) → (∀ a ∈ as, ¬ B' a) → Reps mg H B' (frzs xs) vs []
  | [], _, _, h, _, _ => by rw [Reps] at h; rw [frzs, Reps]; exact ⟨h.1, rfl⟩
  | x :: xs, vs, as, h, b, n => by
    rw [Reps] at h
    rw [frzs, Reps]
    obtain ⟨v, ws, a1, a2, e1, e2, h1, h2⟩ := h
    exact ⟨v, ws, [], [], e1, rfl, Rep.frz h1 b fun c hc => n c (by rw [e2]; exact List.mem_append_left _ hc), Reps.frz h2 b fun c hc => n c (by rw [e2]; exact List.mem_append_right _ hc)⟩
end
mutual
/-- one's own nodes stand on the heap -/
theorem Rep.there {H : Hp} {B : Addr → Prop} : ∀ {d : D} {v : V} {as : List Addr}, Rep mg H B d v as → ∀ a ∈ as, H a ≠ none
  | .non, _, _, h, a, ha => by rw [h.2] at ha; cases ha
  | .bl _, _, _, h, a, ha => by rw [h.2] at ha; cases ha
  | .int _, _, _, h, a, ha => by rw [h.2] at ha; cases ha
  | .str _, _, _, h, a, ha => by rw [h.2] at ha; cases ha
  | .node t xs, v, as, h, a, ha => by
    rw [Rep] at h
    obtain ⟨b, vs, bs, e, hd, hr, q⟩ := h
    rcases q with ⟨_, q⟩ | ⟨_, _, q⟩
    · rw [q] at ha
      rcases List.mem_cons.mp ha with e | ha
      · rw [e]; exact hd.there
      · exact Reps.there hr a ha
    · rw [q] at ha
      exact Reps.there hr a ha
theorem Reps.there {H : Hp} {B : Addr → Prop} : ∀ {xs : List D} {vs : List V} {as : List Addr}, Reps mg H B xs vs as → ∀ a ∈ as, H a ≠ none
  | [], _, _, h, a, ha => by rw [Reps] at h; rw [h.2] at ha; cases ha
  | x :: xs, vs, as, h, a, ha => by
    rw [Reps] at h
    obtain ⟨v, ws, a1, a2, e1, e2, h1, h2⟩ := h
    rw [e2] at ha
    rcases List.mem_append.mp ha with z | z
    · exact Rep.there h1 a z
    · exact Reps.there h2 a z
end
mutual
/-- where no node is one's own -/
theorem Rep.noown {H : Hp} {B : Addr → Prop} : ∀ {d : D} {v : V} {as : List Addr}, Rep mg H B d.frz v as → as = []
  | .non, _, _, h => h.2
  | .bl _, _, _, h => h.2
  | .int _, _, _, h => h.2
  | .str _, _, _, h => h.2
  | .node t xs, v, as, h => by
    rw [D.frz, Rep] at h
    obtain ⟨b, vs, bs, e, hd, hr, q⟩ := h
    rcases q with ⟨q, _⟩ | ⟨_, _, q⟩
    · rw [t.frz_own] at q; cases q
    · rw [q]; exact Reps.noown hr
theorem Reps.noown {H : Hp} {B : Addr → Prop} : ∀ {xs : List D} {vs : List V} {as : List Addr}, Reps mg H B (frzs xs) vs as → as = []
  | [], _, _, h => by rw [frzs, Reps] at h; exact h.2
  | x :: xs, vs, as, h => by
    rw [frzs, Reps] at h
    obtain ⟨v, ws, a1, a2, e1, e2, h1, h2⟩ := h
    rw [e2, Rep.noown h1, Reps.noown h2]; rfl
end
mutual
/-- a value without lists and dicts stays whatever is avoided -/
theorem Rep.purev {H : Hp} {B : Addr → Prop} : ∀ {d : D} {v : V} {as : List Addr}, d.pure = true → Rep mg H B d v as → as = []
  | .non, _, _, _, h => h.2
  | .bl _, _, _, _, h => h.2
  | .int _, _, _, _, h => h.2
  | .str _, _, _, _, h => h.2
  | .node .tup xs, v, as, p, h => by
    rw [Rep] at h
    rw [D.pure] at p
    obtain ⟨b, vs, bs, e, hd, hr, q⟩ := h
    rcases q with ⟨q, _⟩ | ⟨_, _, q⟩
    · cases q
    · rw [q]; exact Reps.purev p hr
  | .node (.lst _) xs, v, as, p, h => by simp [D.pure] at p
  | .node (.dct _ _ _) xs, v, as, p, h => by simp [D.pure] at p
  | .node (.ins _ _ _) xs, v, as, p, h => by simp [D.pure] at p
  | .node (.io _ _ _) xs, v, as, p, h => by simp [D.pure] at p
  | .node (.exc _) xs, v, as, p, h => by simp [D.pure] at p
  | .node (.xd _) xs, v, as, p, h => by simp [D.pure] at p
theorem Reps.purev {H : Hp} {B : Addr → Prop} : ∀ {xs : List D} {vs : List V} {as : List Addr}, pures xs = true → Reps mg H B xs vs as → as = []
  | [], _, _, _, h => by rw [Reps] at h; exact h.2
  | x :: xs, vs, as, p, h => by
    rw [Reps] at h
    rw [pures, Bool.and_eq_true] at p
    obtain ⟨v, ws, a1, a2, e1, e2, h1, h2⟩ := h
    rw [e2, Rep.purev p.1 h1, Reps.purev p.2 h2]; rfl
end
/-! ### lists of trees -/
theorem Reps.length {H : Hp} {B : Addr → Prop} : ∀ {xs : List D} {vs : List V} {as : List Addr}, Reps mg H B xs vs as → xs.length = vs.length
  | [], _, _, h => by rw [Reps] at h; rw [h.1]; rfl
  | x :: xs, vs, as, h => by
    rw [Reps] at h
    obtain ⟨v, ws, a1, a2, e1, e2, h1, h2⟩ := h
    rw [e1, List.length_cons, List.length_cons, Reps.length h2]
theorem Reps.nil {H : Hp} {B : Addr → Prop} : Reps mg H B [] [] [] := by rw [Reps]; exact ⟨rfl, rfl⟩
theorem Reps.cons {H : Hp} {B : Addr → Prop} {x : D} {xs : List D} {v : V} {vs : List V} {as bs : List Addr} (h : Rep mg H B x v as) (t : Reps mg H B xs vs bs) : Reps mg H B (x :: xs) (v :: vs) (as ++ bs) := by
  rw [Reps]; exact ⟨v, vs, as, bs, rfl, rfl, h, t⟩
theorem Reps.append {H : Hp} {B : Addr → Prop} : ∀ {xs ys : List D} {vs ws : List V} {as bs : List Addr}, Reps mg H B xs vs as → Reps mg H B ys ws bs → Reps mg H B (xs ++ ys) (vs ++ ws) (as ++ bs)
  | [], ys, vs, ws, as, bs, h, t => by rw [Reps] at h; rw [h.1, h.2]; exact t
  | x :: xs, ys, vs, ws, as, bs, h, t => by
    rw [Reps] at h
    obtain ⟨v, vs', a1, a2, e1, e2, h1, h2⟩ := h
    rw [e1, e2, List.append_assoc]
    exact Reps.cons h1 (Reps.append h2 t)
/-- frozen lists by their places -/
theorem Reps.get {H : Hp} {B : Addr → Prop} : ∀ {xs : List D} {vs : List V} {i : Nat} {x : D}, Reps mg H B xs vs [] → xs[i]? = some x → ∃ v, vs[i]? = some v ∧ Rep mg H B x v []
  | [], _, _, _, _, e => by simp at e
  | x :: xs, vs, i, y, h, e => by
    rw [Reps] at h
    obtain ⟨v, ws, a1, a2, e1, e2, h1, h2⟩ := h
    obtain ⟨z1, z2⟩ := List.append_eq_nil_iff.mp e2.symm
    subst z1 z2 e1
    cases i with
    | zero =>
      have e' : x = y := by simpa using e
      subst e'
      exact ⟨v, rfl, h1⟩
    | succ i => exact Reps.get (i := i) h2 (by simpa using e)
theorem Reps.get' {H : Hp} {B : Addr → Prop} {xs : List D} {vs : List V} {i : Nat} {v : V} (h : Reps mg H B xs vs []) (e : vs[i]? = some v) : ∃ x, xs[i]? = some x ∧ Rep mg H B x v [] := by
  have hl := h.length
  have hi : i < xs.length := by
    have := (List.getElem?_eq_some_iff.mp e).1
    omega
  obtain ⟨u, hu, r⟩ := h.get (List.getElem?_eq_getElem hi)
  rw [e] at hu
  cases hu
  exact ⟨_, List.getElem?_eq_getElem hi, r⟩
theorem Reps.of_get {H : Hp} {B : Addr → Prop} : ∀ {xs : List D} {vs : List V}, xs.length = vs.length → (∀ (i : Nat) (x : D) (v : V), xs[i]? = some x → vs[i]? = some v → Rep mg H B x v []) → Reps mg H B xs vs []
  | [], [], _, _ => Reps.nil
  | [], _ :: _, l, _ => by simp at l
  | _ :: _, [], l, _ => by simp at l
  | x :: xs, v :: vs, l, h => Reps.cons (bs := []) (as := []) (h 0 x v rfl rfl) (Reps.of_get (by simpa using l) fun i y w a b => h (i + 1) y w (by simpa using a) (by simpa using b))
theorem Reps.take {H : Hp} {B : Addr → Prop} {xs : List D} {vs : List V} (n : Nat) (h : Reps mg H B xs vs []) : Reps mg H B (xs.take n) (vs.take n) [] := by
  refine Reps.of_get (by simp [h.length]) fun i x v e1 e2 => ?_
  rw [List.getElem?_take] at e1 e2
  split at e1
  · rename_i hi
    rw [if_pos hi] at e2
    obtain ⟨u, hu, r⟩ := h.get e1
    rw [e2] at hu; cases hu
    exact r
  · cases e1
theorem Reps.drop {H : Hp} {B : Addr → Prop} {xs : List D} {vs : List V} (n : Nat) (h : Reps mg H B xs vs []) : Reps mg H B (xs.drop n) (vs.drop n) [] := by
  refine Reps.of_get (by simp [h.length]) fun i x v e1 e2 => ?_
  rw [List.getElem?_drop] at e1 e2
  obtain ⟨u, hu, r⟩ := h.get e1
  rw [e2] at hu; cases hu
  exact r
end
end Ev

/-! Ev, part A0: the tables of the code objects whose defs make functions. -/
namespace Ev
open PySem
def tabsT : List Addr := [86, 58]
end Ev

/-! Ev, part B: what an expression is worth, as a function of the slots' trees. -/
namespace Ev
open PySem PySem.Spec L2
open PyProof.Rows hiding St

structure Ex where
  cls : Str
  fs : List (Str × D)
inductive Res (α : Type) where
  | ok (a : α)
  | ex (x : Ex)
  | no
def Res.bind {α β : Type} (r : Res α) (f : α → Res β) : Res β := match r with
  | .ok a => f a
  | .ex x => .ex x
  | .no => .no
def Res.of {α : Type} : Option α → Res α
  | some a => .ok a
  | none => .no
@[simp] theorem Res.bind_ok {α β : Type} (a : α) (f : α → Res β) : (Res.ok a).bind f = f a := rfl
@[simp] theorem Res.bind_ex {α β : Type} (x : Ex) (f : α → Res β) : (Res.ex x).bind f = .ex x := rfl
@[simp] theorem Res.bind_no {α β : Type} (f : α → Res β) : (Res.no : Res α).bind f = .no := rfl
@[simp] theorem Res.of_some {α : Type} (a : α) : Res.of (some a) = .ok a := rfl
@[simp] theorem Res.of_none {α : Type} : Res.of (none : Option α) = .no := rfl
abbrev En := List (Option D)

def Bnd (H : Hp) : Prop :=
  (∀ a xs, Rd H a (.lst xs) → xs.length ≤ sizeLine) ∧ (∀ a xs, Rd H a (.tup xs) → xs.length ≤ sizeLine) ∧
  (∀ a kvs, Rd H a (.dK kvs) → kvs.length ≤ sizeLine ∧ (kvs.map (·.1)).Nodup) ∧ (∀ a kvs, Rd H a (.dT kvs) → kvs.length ≤ sizeLine ∧ (kvs.map (·.1)).Nodup)
theorem pairedKeys {α β γ : Type} {G : α × β → α × γ → Prop} (g : ∀ p q, G p q → p.1 = q.1) : ∀ {xs : List (α × β)} {ys : List (α × γ)}, Paired G xs ys → xs.map (·.1) = ys.map (·.1)
  | _, _, .nil => rfl
  | _, _, .cons h t => by rw [List.map_cons, List.map_cons, g _ _ h, pairedKeys g t]
theorem bnd_of {X : Cx} {pins : List (Addr × Obj)} {σ : St} {H : Hp} {s : Shared} (I : Inv X pins σ H s) : Bnd H :=
  ⟨fun a xs h => (I.list (a := a) (xs := xs) (.inl h)).elim fun _ z => z.2.2, fun a xs h => (I.tuple (a := a) (xs := xs) (.inl h)).elim fun _ z => z.2.2,
   fun a kvs h => by
    obtain ⟨h1, _, vs, h2, o, es, ep, _, _, _, _, _, h3⟩ := dk_rd I.hok h
    exact ⟨h1, by rw [KV.keys h2]; exact h3⟩,
   fun a kvs h => by
    obtain ⟨h1, _, xs, h2, o, es, ep, _, _, _, _, _, h3⟩ := dt_rd I.hok h
    exact ⟨h1, by rw [pairedKeys (fun p q (z : p.1 = q.1 ∧ _) => z.1) h2]; exact h3⟩⟩
/-- a code object -/
def CodeR (c : Addr) : HO := .ext fun h => ∃ (oc : Obj) (vs : Array Value) (q : Str) (t : Tok), h.get? c = some oc ∧ oc.data = .fields vs ∧ vs[1]? = some (.str q t)
theorem codeR_nt (c : Addr) : NTb (CodeR c) := fun _ z => by unfold CodeR at z; cases z
/-- a table of code objects -/
def TblAt (H : Hp) (P : Addr) : Prop := ∃ ps : Array Value, H P = some (.tbl ps) ∧ TriplesOk ps.toList ∧ ∀ (pos : Pos) (cv : Value), codeAmong pos ps.toList = some cv → ∃ c, cv = .ref c ∧ H c = some (CodeR c)
/-- all but tables stays, and tables stay tables -/
structure Same (H H' : Hp) : Prop where
  kp : ∀ a o, H a = some o → (n : NTb o := by first | assumption | (intro _ z; cases z; done) | exact NTb.dobj (by assumption) | exact codeR_nt _) → H' a = some o
  tb : ∀ a ps, H a = some (.tbl ps) → ∃ ps', H' a = some (.tbl ps')
  tt : ∀ P, TblAt H P → TblAt H' P
instance {H H' : Hp} : CoeFun (Same H H') (fun _ => ∀ a o, H a = some o → (n : NTb o := by first | assumption | (intro _ z; cases z; done) | exact NTb.dobj (by assumption) | exact codeR_nt _) → H' a = some o) := ⟨fun s => @Same.kp _ _ s⟩
theorem Same.of {H H' : Hp} (s : L2.Same H H') : Same H H' := ⟨fun a o e _ => s a o e, fun a ps e => ⟨ps, s a _ e⟩, fun P ⟨ps, h1, h2, h3⟩ => ⟨ps, s _ _ h1, h2, fun pos cv e => let ⟨c, e1, e2⟩ := h3 pos cv e; ⟨c, e1, s _ _ e2⟩⟩⟩
instance {H H' : Hp} : Coe (L2.Same H H') (Same H H') := ⟨Same.of⟩
theorem Same.refl (H : Hp) : Same H H := .of (L2.Same.refl H)
theorem Same.trans {H H1 H2 : Hp} (a : Same H H1) (b : Same H1 H2) : Same H H2 := ⟨fun c o h n => b.kp c o (a.kp c o h n) n, fun c ps h => let ⟨ps', e⟩ := a.tb c ps h; b.tb c ps' e, fun P h => b.tt P (a.tt P h)⟩
/-- whatever stood there, something stands there -/
theorem Same.stay {H H' : Hp} (s : Same H H') {a : Addr} {o : HO} (h : H a = some o) : ∃ o', H' a = some o' ∧ (NTb o → o' = o) ∧ (¬ NTb o → ¬ NTb o') := by
  by_cases n : NTb o
  · exact ⟨o, s.kp a o h n, fun _ => rfl, fun z => absurd n z⟩
  · unfold NTb at n
    have n' := Classical.not_forall.mp n
    obtain ⟨ps, e⟩ := n'
    have e' : o = .tbl ps := Classical.not_not.mp e
    subst e'
    obtain ⟨ps', h'⟩ := s.tb a ps h
    exact ⟨_, h', fun z => absurd rfl (z ps), fun _ z => z ps' rfl⟩
theorem Same.free {H H' : Hp} (e : Same H H') {l : Addr} (h : H' l = Option.none) : H l = Option.none := by
  cases q : H l with
  | none => rfl
  | some o => obtain ⟨o', h', _⟩ := e.stay q; rw [h] at h'; cases h'
theorem Same.there {H H' : Hp} (s : Same H H') {a : Addr} (h : H a ≠ none) : H' a ≠ none := fun z => h (s.free z)
theorem Same.nt {H H' : Hp} (s : Same H H') {a : Addr} {o : HO} (h : H a = some o) (t : ∀ xs, o ≠ .tup xs) : ∃ o', H' a = some o' ∧ ∀ xs, o' ≠ .tup xs := by
  obtain ⟨o', h', h1, h2⟩ := s.stay h
  refine ⟨o', h', ?_⟩
  by_cases n : NTb o
  · rw [h1 n]; exact t
  · exact fun xs z => h2 n (by rw [z]; exact fun _ q => by cases q)
structure BDom (B : Addr → Prop) (H : Hp) : Prop where
  dom : ∀ a, B a → ∃ o, H a = some o ∧ ∀ xs, o ≠ .tup xs
  tab : ∀ P ∈ tabsT, TblAt H P
instance {B : Addr → Prop} {H : Hp} : CoeFun (BDom B H) (fun _ => ∀ a, B a → ∃ o, H a = some o ∧ ∀ xs, o ≠ .tup xs) := ⟨fun s => s.dom⟩
theorem BDom.same {B : Addr → Prop} {H H' : Hp} (b : BDom B H) (s : Same H H') : BDom B H' := ⟨fun a h => let ⟨o, e, t⟩ := b.dom a h; s.nt e t, fun P h => s.tt P (b.tab P h)⟩
theorem BDom.of {B B' : Addr → Prop} {H : Hp} (b : BDom B H) (h : ∀ a, B' a → ∃ o, H a = some o ∧ ∀ xs, o ≠ .tup xs) : BDom B' H := ⟨h, b.tab⟩
theorem BDom.new {B : Addr → Prop} {H : Hp} (b : BDom B H) {a : Addr} (h : H a = none) : ¬ B a := fun z => by obtain ⟨o, e, _⟩ := b a z; rw [h] at e; cases e
section
variable {mg : Str → Option Value}
theorem Rep.same {H H' : Hp} {B : Addr → Prop} {d : D} {v : V} {as : List Addr} (h : Rep mg H B d v as) (s : Same H H') : Rep mg H' B d v as := Rep.stepN h (fun a o e n _ => s.kp a o e n) fun _ _ z => z
theorem Reps.same {H H' : Hp} {B : Addr → Prop} {d : List D} {v : List V} {as : List Addr} (h : Reps mg H B d v as) (s : Same H H') : Reps mg H' B d v as := Reps.stepN h (fun a o e n _ => s.kp a o e n) fun _ _ z => z
/-- a new value as it is seen -/
theorem Rep.view {H H' : Hp} {B : Addr → Prop} {d : D} {v : V} {as : List Addr} (h : Rep mg H' B d v as) (b : BDom B H) (f : ∀ a ∈ as, H a = none) : Rep mg H' B d.frz v [] := Rep.frz h (fun _ _ z => z) fun a ha => b.new (f a ha)
theorem Reps.view {H H' : Hp} {B : Addr → Prop} {d : List D} {v : List V} {as : List Addr} (h : Reps mg H' B d v as) (b : BDom B H) (f : ∀ a ∈ as, H a = none) : Reps mg H' B (frzs d) v [] := Reps.frz h (fun _ _ z => z) fun a ha => b.new (f a ha)
end
def EnOn (mg : Str → Option Value) (fv : List Nat) (ρ : En) (σ : St) (H : Hp) (B : Addr → Prop) : Prop := ∀ i ∈ fv, ∀ d, ρ[i]? = some (some d) → ∃ v, σ[i]? = some (some v) ∧ Rep mg H B d v []
section
variable {mg : Str → Option Value} {fv fv' fa fb : List Nat} {ρ : En} {σ : St} {H H' : Hp} {B : Addr → Prop}
theorem EnOn.same (e : EnOn mg fv ρ σ H B) (s : Same H H') : EnOn mg fv ρ σ H' B := fun i hi d hd => let ⟨v, a, r⟩ := e i hi d hd; ⟨v, a, r.same s⟩
theorem EnOn.sub (e : EnOn mg fv ρ σ H B) (s : ∀ i ∈ fv', i ∈ fv) : EnOn mg fv' ρ σ H B := fun i hi d hd => e i (s i hi) d hd
theorem EnOn.l (e : EnOn mg (fa ++ fb) ρ σ H B) : EnOn mg fa ρ σ H B := e.sub fun _ h => List.mem_append_left _ h
theorem EnOn.r (e : EnOn mg (fa ++ fb) ρ σ H B) : EnOn mg fb ρ σ H B := e.sub fun _ h => List.mem_append_right _ h
end
/-- an exception on the heap, its dict newer than H0 -/
def ExR (mg : Str → Option Value) (H0 H : Hp) (B : Addr → Prop) (x : Ex) (c : Value) (od : Option Addr) : Prop :=
  ∃ C, mg x.cls = some (.ref C) ∧ c = .ref C ∧ pures (x.fs.map (·.2)) = true ∧ ((x.fs = [] ∧ od = none) ∨ (x.fs ≠ [] ∧ ∃ d vs, od = some d ∧ (H0 d = none ∧ ¬ B d) ∧ H d = some (.xd ((x.fs.map (·.1)).zip vs)) ∧ Reps mg H B (x.fs.map (·.2)) vs []))
theorem ExR.back {mg : Str → Option Value} {H0 H0' H : Hp} {B : Addr → Prop} {x : Ex} {c : Value} {od : Option Addr} (h : ExR mg H0 H B x c od) (f : ∀ d, H0 d = none → H0' d = none) : ExR mg H0' H B x c od := by
  obtain ⟨C, h1, h2, hp, h3⟩ := h
  exact ⟨C, h1, h2, hp, h3.imp id fun ⟨hn, d, vs, h4, h5, h6⟩ => ⟨hn, d, vs, h4, ⟨f d h5.1, h5.2⟩, h6⟩⟩

abbrev RpT (α β : Type) := Hp → (Addr → Prop) → α → β → List Addr → Prop
def RpB : RpT Bool Bool := fun _ _ b c as => c = b ∧ as = []
section
variable {α β γ δ : Type} (Rp : RpT α β) (W : WX) (mg : Str → Option Value)
def Post (B : Addr → Prop) (σ : St) (H : Hp) (r : Res α) (Q : β → Hp → Prop) : Prop := match r with
  | .ok d => ∀ v H' as, Bnd H' → Same H H' → Rp H' B d v as → (∀ a ∈ as, H a = none) → as.Nodup → Q v H'
  | .ex x => ∀ c od H', Same H H' → ExR mg H H' B x c od → W c od σ H'
  | .no => False
def Tv (fv : List Nat) (m : En → Res α) : St → Hp → (β → Hp → Prop) → Prop := fun σ H Q => ∃ ρ B, EnOn mg fv ρ σ H B ∧ BDom B H ∧ Post Rp W mg B σ H (m ρ) Q
variable {Rp W mg}
theorem Post.same {B : Addr → Prop} {σ : St} {H H' : Hp} {r : Res α} {Q : β → Hp → Prop} (h : Post Rp W mg B σ H r Q) (s : Same H H') : Post Rp W mg B σ H' r Q := by
  cases r with
  | ok d => exact fun v H2 as b s2 r f n => h v H2 as b (s.trans s2) r (fun a ha => s.free (f a ha)) n
  | ex x => exact fun c od H2 s2 e => h c od H2 (s.trans s2) (e.back fun d z => s.free z)
  | no => exact h
/-- a first part, then what leans on it -/
theorem Tv.bind {Rq : RpT γ δ} {B : Addr → Prop} {σ : St} {H : Hp} {fa : List Nat} {ma : En → Res α} {ρ : En} {k : α → Res γ} {Q : δ → Hp → Prop} {Q' : β → Hp → Prop} (en : EnOn mg fa ρ σ H B) (bd : BDom B H) (hp : Post Rq W mg B σ H ((ma ρ).bind k) Q)
    (hc : ∀ d, ma ρ = .ok d → ∀ v H1 as, Bnd H1 → Same H H1 → Rp H1 B d v as → (∀ a ∈ as, H a = none) → as.Nodup → Post Rq W mg B σ H1 (k d) Q → Q' v H1) : Tv Rp W mg fa ma σ H Q' := by
  refine ⟨ρ, B, en, bd, ?_⟩
  cases e : ma ρ with
  | ok d =>
    rw [e] at hp
    exact fun v H1 as b s r f n => hc d e v H1 as b s r f n (Post.same (r := k d) hp s)
  | ex x =>
    rw [e] at hp
    exact hp
  | no =>
    rw [e] at hp
    exact hp
end
section
variable (X : Cx) (W : WX)
abbrev DE (e : Expr) (fv : List Nat) (m : En → Res D) : Prop := PE X e (Tv (Rep X.mg) W X.mg fv m)
abbrev DA (es : List Expr) (fv : List Nat) (m : En → Res (List D)) : Prop := PA X es (Tv (Reps X.mg) W X.mg fv m)
abbrev DT (e : Expr) (fv : List Nat) (m : En → Res Bool) : Prop := PT X e (Tv RpB W X.mg fv m)
abbrev DW (e : Expr) (fv : List Nat) (m : En → Res Bool) : Prop := PW X e (Tv RpB W X.mg fv m)
end
section
variable {X : Cx} {W : WX} {e a b c : Expr} {es : List Expr} {fv fa fb fc : List Nat} {m ma mb mc : En → Res D} {pos : Pos}
theorem PE.mk {t t' : TE} (h : PE X e t) (hh : ∀ σ H Q, Bnd H → t' σ H Q → t σ H fun v H' => Bnd H' → Q v H') : PE X e t' := ⟨fun pins s σ H Q I q => by
  refine thn (h.run pins s σ H _ I (hh σ H Q (bnd_of I) q)) fun v s1 ⟨x, H1, I1, r1, q1⟩ => ⟨x, H1, I1, r1, q1 (bnd_of I1)⟩⟩
theorem PT.mk {t t' : TT} (h : PT X e t) (hh : ∀ σ H Q, Bnd H → t' σ H Q → t σ H fun v H' => Bnd H' → Q v H') : PT X e t' := ⟨fun pins s σ H Q I q => by
  refine thn (h.run pins s σ H _ I (hh σ H Q (bnd_of I) q)) fun v s1 ⟨H1, I1, q1⟩ => ⟨H1, I1, q1 (bnd_of I1)⟩⟩
theorem PW.mk {t t' : TT} (h : PW X e t) (hh : ∀ σ H Q, Bnd H → t' σ H Q → t σ H fun v H' => Bnd H' → Q v H') : PW X e t' := ⟨fun wh pins s σ H Q I q => by
  refine thn (h.run wh pins s σ H _ I (hh σ H Q (bnd_of I) q)) fun v s1 ⟨H1, I1, q1⟩ => ⟨H1, I1, q1 (bnd_of I1)⟩⟩
theorem PA.mk {t t' : TA} (h : PA X es t) (hh : ∀ σ H Q, Bnd H → t' σ H Q → t σ H fun v H' => Bnd H' → Q v H') : PA X es t' := ⟨fun pos pins s σ H Q I q => by
  refine thn (h.run pos pins s σ H _ I (hh σ H Q (bnd_of I) q)) fun v s1 ⟨x, H1, I1, r1, q1⟩ => ⟨x, H1, I1, r1, q1 (bnd_of I1)⟩⟩

/-! ### names, constants -/
def mvar (i : Nat) : En → Res D := fun ρ => match ρ[i]? with
  | some (some d) => .ok d
  | _ => .no
def mk (d : D) : En → Res D := fun _ => .ok d
theorem mvar_some {i : Nat} {ρ : En} {d : D} (h : ρ[i]? = some (some d)) : mvar i ρ = .ok d := by unfold mvar; rw [h]
theorem de_var {i : Nat} {x : Str} (hN : X.N[i]? = some x := by rfl) (hv : Vis X.env.scope x := by first | exact Or.inl rfl | exact Or.inr (Or.inl rfl) | exact Or.inr (Or.inr rfl)) (hd : (x == ("__debug__" : Str)) = false := by decide)
    (hcd : (x == ("__classdict__" : Str)) = false := by decide) : DE X W (.Name x pos) [i] (mvar i) := by
  refine PE.mk (pe_var hN hv hd hcd) fun σ H Q bn ⟨ρ, B, en, bd, hp⟩ => ?_
  unfold mvar at hp
  split at hp
  · rename_i d hd
    obtain ⟨v, hv, r⟩ := en i (by simp) d hd
    exact ⟨v, hv, fun bn' => hp v H [] bn' (Same.refl _) r (fun _ z => nomatch z) List.nodup_nil⟩
  · exact hp.elim
theorem de_scal {d : D} {v : V} (h : PE X e (tC v)) (hd : ∀ H B, Rep X.mg H B d v []) : DE X W e [] (mk d) := by
  refine PE.mk h fun σ H Q bn ⟨ρ, B, en, bd, hp⟩ => ?_
  exact fun bn' => hp v H [] bn' (Same.refl _) (hd _ _) (fun _ z => nomatch z) List.nodup_nil
theorem rep_int {mg : Str → Option Value} {i : Int} {H : Hp} {B : Addr → Prop} : Rep mg H B (.int i) (.int i) [] := ⟨rfl, rfl⟩
theorem rep_str {mg : Str → Option Value} {i : Str} {H : Hp} {B : Addr → Prop} : Rep mg H B (.str i) (.str i) [] := ⟨rfl, rfl⟩
theorem rep_bl {mg : Str → Option Value} {i : Bool} {H : Hp} {B : Addr → Prop} : Rep mg H B (.bl i) (.bl i) [] := ⟨rfl, rfl⟩
theorem rep_non {mg : Str → Option Value} {H : Hp} {B : Addr → Prop} : Rep mg H B .non .non [] := ⟨rfl, rfl⟩
theorem de_int {i : Int} {j} : DE X W (.Constant (.int i) j pos) [] (mk (.int i)) := de_scal pe_int fun _ _ => rep_int
theorem de_bl {i : Bool} {j} : DE X W (.Constant (.bool i) j pos) [] (mk (.bl i)) := de_scal pe_bl fun _ _ => rep_bl
theorem de_non {j} : DE X W (.Constant .none j pos) [] (mk .non) := de_scal pe_non fun _ _ => rep_non
theorem de_str {i : Str} {j} : DE X W (.Constant (.str i) j pos) [] (mk (.str i)) := de_scal pe_str fun _ _ => rep_str
/-- a module's whole number, text -/
theorem de_gint {x : Str} {i : Int} {t : Tok} (hm : X.mg x = some (.int i t)) (hg : Gl X x := by rfl) (hd : (x == ("__debug__" : Str)) = false := by decide) : DE X W (.Name x pos) [] (mk (.int i)) := de_scal (pe_glob (v := .int i) hg hm ⟨t, rfl⟩ hd) fun _ _ => rep_int
theorem de_gstr {x : Str} {i : Str} {t : Tok} (hm : X.mg x = some (.str i t)) (hg : Gl X x := by rfl) (hd : (x == ("__debug__" : Str)) = false := by decide) : DE X W (.Name x pos) [] (mk (.str i)) := de_scal (pe_glob (v := .str i) hg hm ⟨t, rfl⟩ hd) fun _ _ => rep_str

/-! ### operators by values -/
/-- what comes of views -/
def Out1 (mg : Str → Option Value) (B : Addr → Prop) (H : Hp) (o : Option D) (Q : VK) : Prop := ∃ d, o = some d ∧ ∀ u H' as, Same H H' → Rep mg H' B d u as → (∀ a ∈ as, H a = none) → as.Nodup → Q u H'
def rOp (mg : Str → Option Value) (g : D → D → Option D) : R2 := fun v w H Q => ∃ x y B, Rep mg H B x v [] ∧ Rep mg H B y w [] ∧ BDom B H ∧ Bnd H ∧ Out1 mg B H (g x y) Q
abbrev OpD (X : Cx) (f : Value → Value → Sem Value) (g : D → D → Option D) : Prop := OpR X f (rOp X.mg g)
def rUn (mg : Str → Option Value) (g : D → Option D) : V → Hp → VK → Prop := fun v H Q => ∃ x B, Rep mg H B x v [] ∧ BDom B H ∧ Bnd H ∧ Out1 mg B H (g x) Q
abbrev UnD (X : Cx) (f : Value → Sem Value) (g : D → Option D) : Prop := UnR X f (rUn X.mg g)
def rCall (mg : Str → Option Value) (g : List D → Option D) : List V → Hp → VK → Prop := fun vs H Q => ∃ xs B, Reps mg H B xs vs [] ∧ BDom B H ∧ Bnd H ∧ Out1 mg B H (g xs) Q
abbrev CallD (X : Cx) (f : Value) (g : List D → Option D) : Prop := CallR X f (rCall X.mg g)
def bin (g : D → D → Option D) (ma mb : En → Res D) : En → Res D := fun ρ => (ma ρ).bind fun x => (mb ρ).bind fun y => Res.of (g x.frz y.frz)
def un (g : D → Option D) (ma : En → Res D) : En → Res D := fun ρ => (ma ρ).bind fun x => Res.of (g x.frz)
theorem out_of {mg : Str → Option Value} {B : Addr → Prop} {H : Hp} {o : Option D} {Q : VK} {σ : St} (hp : Post (Rep mg) W mg B σ H (Res.of o) Q) : Out1 mg B H o fun v H' => Bnd H' → Q v H' := by
  cases o with
  | none => exact hp.elim
  | some d => exact ⟨d, rfl, fun u H' as s r f n bn => hp u H' as bn s r f n⟩
/-- the reading of two operands -/
theorem two {g : D → D → Option D} {σ : St} {H : Hp} {Q : VK} (bn : Bnd H) (q : Tv (Rep X.mg) W X.mg (fa ++ fb) (bin g ma mb) σ H Q) : tOp (rOp X.mg g) (Tv (Rep X.mg) W X.mg fa ma) (Tv (Rep X.mg) W X.mg fb mb) σ H fun v H' => Bnd H' → Q v H' := by
  obtain ⟨ρ, B, en, bd, hp⟩ := q
  refine Tv.bind en.l bd hp fun x _ v H1 as bn1 s1 r1 f1 n1 hp1 => ?_
  refine Tv.bind (en.r.same s1) (bd.same s1) hp1 fun y _ w H2 bs bn2 s2 r2 f2 n2 hp2 => ?_
  exact ⟨x.frz, y.frz, B, (r1.view bd f1).same s2, r2.view (bd.same s1) f2, (bd.same s1).same s2, bn2, out_of hp2⟩
theorem de_bin {op : Operator} {g : D → D → Option D} (ho : OpD X (binaryOp op) g) (ha : DE X W a fa ma) (hb : DE X W b fb mb) : DE X W (.BinOp a op b pos) (fa ++ fb) (bin g ma mb) :=
  PE.mk (pe_op ho ha hb) fun _ _ _ bn q => two bn q
theorem de_cmp {op : CmpOp} {g : D → D → Option D} (ho : OpD X (compareOp op) g) (ha : DE X W a fa ma) (hb : DE X W b fb mb) (hm : behindInMarks op b = false) : DE X W (.Compare a [op] [b] pos) (fa ++ fb) (bin g ma mb) :=
  PE.mk (pe_cmpR ho ha hb hm) fun _ _ _ bn q => two bn q
theorem de_un {op : UnaryOp} {g : D → Option D} (ho : UnD X (unaryOp op) g) (ha : DE X W a fa ma) : DE X W (.UnaryOp op a pos) fa (un g ma) := by
  refine PE.mk (pe_un ho ha) fun σ H Q bn ⟨ρ, B, en, bd, hp⟩ => ?_
  refine Tv.bind en bd hp fun x _ v H1 as bn1 s1 r1 f1 n1 hp1 => ?_
  exact ⟨x.frz, B, r1.view bd f1, bd.same s1, bn1, out_of hp1⟩
/-- a chain of two comparisons -/
def chain (g g' : D → D → Option D) (ma mb mc : En → Res D) : En → Res D := fun ρ => (ma ρ).bind fun x => (mb ρ).bind fun y => (Res.of (g x.frz y.frz)).bind fun z => match z with
  | .bl true => (mc ρ).bind fun w => Res.of (g' y.frz w.frz)
  | .bl false => .ok (.bl false)
  | _ => .no
end
end Ev

/-! Ev, part C: tests, chains, arguments, displays, subscripts, slices, calls. -/
namespace Ev
open PySem PySem.Spec L2
open PyProof.Rows hiding St
theorem Res.bind_assoc {α β γ : Type} (r : Res α) (f : α → Res β) (g : β → Res γ) : (r.bind f).bind g = r.bind fun x => (f x).bind g := by cases r <;> rfl
theorem Res.bind_eta {α : Type} (r : Res α) : r.bind .ok = r := by cases r <;> rfl
section
variable {X : Cx} {W : WX} {e a b c : Expr} {es : List Expr} {fv fa fb fc : List Nat} {m ma mb mc : En → Res D} {pos : Pos} {γ δ : Type} {Rq : RpT γ δ} {B : Addr → Prop} {σ : St} {H : Hp} {ρ : En}
/-- the reading of two operands, and what follows -/
theorem twoK {g : D → D → Option D} {k : D → Res γ} {Q : δ → Hp → Prop} {Q' : V → Hp → Prop} (en : EnOn X.mg (fa ++ fb) ρ σ H B) (bd : BDom B H) (hp : Post Rq W X.mg B σ H ((bin g ma mb ρ).bind k) Q)
    (hc : ∀ d u H' as, Same H H' → Rep X.mg H' B d u as → (∀ a ∈ as, H a = none) → as.Nodup → Post Rq W X.mg B σ H' (k d) Q → Q' u H') :
    tOp (rOp X.mg g) (Tv (Rep X.mg) W X.mg fa ma) (Tv (Rep X.mg) W X.mg fb mb) σ H Q' := by
  unfold bin at hp
  rw [Res.bind_assoc] at hp
  refine Tv.bind en.l bd hp fun x _ v H1 as bn1 s1 r1 f1 n1 hp1 => ?_
  rw [Res.bind_assoc] at hp1
  refine Tv.bind (en.r.same s1) (bd.same s1) hp1 fun y _ w H2 bs bn2 s2 r2 f2 n2 hp2 => ?_
  refine ⟨x.frz, y.frz, B, (r1.view bd f1).same s2, r2.view (bd.same s1) f2, (bd.same s1).same s2, bn2, ?_⟩
  cases eg : g x.frz y.frz with
  | none => rw [eg] at hp2; exact hp2.elim
  | some d =>
    rw [eg] at hp2
    refine ⟨d, rfl, fun u H' as s r f n => ?_⟩
    have s' := s1.trans (s2.trans s)
    exact hc d u H' as s' r (fun a ha => (s1.trans s2).free (f a ha)) n (Post.same (r := k d) hp2 s)

/-! ### tests -/
def truD : D → Option Bool
  | .bl b => some b
  | _ => none
def tst (m : En → Res D) : En → Res Bool := fun ρ => (m ρ).bind fun x => Res.of (truD x)
theorem truD_some {x : D} {k : Bool} (h : truD x = some k) : x = .bl k := by
  cases x <;> simp [truD] at h
  rw [h]
theorem post_bool {Q : Bool → Hp → Prop} {k : Bool} (hp : Post RpB W X.mg B σ H (.ok k) Q) (bn : Bnd H) : Q k H := hp k H [] bn (Same.refl _) ⟨rfl, rfl⟩ (fun _ z => nomatch z) List.nodup_nil
theorem post_tst {Q : Bool → Hp → Prop} {d : D} (hp : Post RpB W X.mg B σ H (Res.of (truD d)) Q) : ∃ k, d = .bl k ∧ (Bnd H → Q k H) := by
  cases et : truD d with
  | none => rw [et] at hp; exact hp.elim
  | some k =>
    rw [et] at hp
    exact ⟨k, truD_some et, fun bn => post_bool hp bn⟩
theorem dt_of (ha : DE X W a fa ma) (he : ∀ whole, isTrue a X.env whole = (do let v ← whole; standAt a.pos; holding [v] (truthy v)) := by intro _; rfl) : DT X W a fa (tst ma) := by
  refine PT.mk (pt_val ha he) fun σ H Q bn ⟨ρ, B, en, bd, hp⟩ => ?_
  refine Tv.bind en bd hp fun x _ v H1 as bn1 s1 r1 f1 n1 hp1 => ?_
  obtain ⟨k, rfl, q⟩ := post_tst hp1
  exact ⟨k, r1.1, q⟩
theorem dt_cmp {op : CmpOp} {g : D → D → Option D} (ho : OpD X (compareOp op) g) (ha : DE X W a fa ma) (hb : DE X W b fb mb) (hm : behindInMarks op b = false) : DT X W (.Compare a [op] [b] pos) (fa ++ fb) (tst (bin g ma mb)) := by
  refine PT.mk (pt_cmpR ho ha hb hm) fun σ H Q bn ⟨ρ, B, en, bd, hp⟩ => ?_
  refine twoK en bd hp fun d u H' as s r f n hp' => ?_
  obtain ⟨k, rfl, q⟩ := post_tst hp'
  exact ⟨k, r.1, q⟩
variable {ta tb : En → Res Bool} {rest : List Expr}
def mand (ta tb : En → Res Bool) : En → Res Bool := fun ρ => (ta ρ).bind fun c => if c = true then tb ρ else .ok false
def mor (ta tb : En → Res Bool) : En → Res Bool := fun ρ => (ta ρ).bind fun c => if c = true then .ok true else tb ρ
def mnot (ta : En → Res Bool) : En → Res Bool := fun ρ => (ta ρ).bind fun c => .ok (!c)
theorem dw_and1 (ha : DT X W a fa ta) : DW X W (.BoolOp .And [a] pos) fa ta := pw_and1 ha
theorem dw_or1 (ha : DT X W a fa ta) : DW X W (.BoolOp .Or [a] pos) fa ta := pw_or1 ha
theorem dw_and (ha : DT X W a fa ta) (hb : DW X W (.BoolOp .And (b :: rest) pos) fb tb) : DW X W (.BoolOp .And (a :: b :: rest) pos) (fa ++ fb) (mand ta tb) := by
  refine PW.mk (pw_and ha hb) fun σ H Q bn ⟨ρ, B, en, bd, hp⟩ => ?_
  refine Tv.bind en.l bd hp fun x _ v H1 as bn1 s1 r1 f1 n1 hp1 => ?_
  obtain ⟨rfl, _⟩ := r1
  cases v with
  | true =>
    rw [if_pos rfl] at hp1 ⊢
    have h2 : Post RpB W X.mg B σ H1 ((tb ρ).bind .ok) Q := by rw [Res.bind_eta]; exact hp1
    refine Tv.bind (en.r.same s1) (bd.same s1) h2 fun y _ w H2 bs bn2 s2 r2 f2 n2 hp2 => ?_
    obtain ⟨rfl, _⟩ := r2
    exact fun bn => post_bool hp2 bn
  | false =>
    rw [if_neg Bool.false_ne_true] at hp1 ⊢
    exact fun bn => post_bool hp1 bn
theorem dw_or (ha : DT X W a fa ta) (hb : DW X W (.BoolOp .Or (b :: rest) pos) fb tb) : DW X W (.BoolOp .Or (a :: b :: rest) pos) (fa ++ fb) (mor ta tb) := by
  refine PW.mk (pw_or ha hb) fun σ H Q bn ⟨ρ, B, en, bd, hp⟩ => ?_
  refine Tv.bind en.l bd hp fun x _ v H1 as bn1 s1 r1 f1 n1 hp1 => ?_
  obtain ⟨rfl, _⟩ := r1
  cases v with
  | false =>
    rw [if_neg Bool.false_ne_true] at hp1 ⊢
    have h2 : Post RpB W X.mg B σ H1 ((tb ρ).bind .ok) Q := by rw [Res.bind_eta]; exact hp1
    refine Tv.bind (en.r.same s1) (bd.same s1) h2 fun y _ w H2 bs bn2 s2 r2 f2 n2 hp2 => ?_
    obtain ⟨rfl, _⟩ := r2
    exact fun bn => post_bool hp2 bn
  | true =>
    rw [if_pos rfl] at hp1 ⊢
    exact fun bn => post_bool hp1 bn
theorem dt_w (h : DW X W e fa ta) : DT X W e fa ta := h.pt
theorem dt_not (ha : DT X W a fa ta) : DT X W (.UnaryOp .Not a pos) fa (mnot ta) := by
  refine PT.mk (pt_not ha) fun σ H Q bn ⟨ρ, B, en, bd, hp⟩ => ?_
  refine Tv.bind en bd hp fun x _ v H1 as bn1 s1 r1 f1 n1 hp1 => ?_
  obtain ⟨rfl, _⟩ := r1
  exact fun bn => post_bool hp1 bn
/-- .. as values -/
def vb (t : En → Res Bool) : En → Res D := fun ρ => (t ρ).bind fun c => .ok (.bl c)
def vand (ma mb : En → Res D) : En → Res D := fun ρ => (ma ρ).bind fun x => (Res.of (truD x)).bind fun c => if c = true then mb ρ else .ok (.bl false)
def vor (ma mb : En → Res D) : En → Res D := fun ρ => (ma ρ).bind fun x => (Res.of (truD x)).bind fun c => if c = true then .ok (.bl true) else mb ρ
def vnot (ma : En → Res D) : En → Res D := fun ρ => (ma ρ).bind fun x => (Res.of (truD x)).bind fun c => .ok (.bl (!c))
theorem post_tru {Q : δ → Hp → Prop} {d : D} {k : Bool → Res γ} (hp : Post Rq W X.mg B σ H ((Res.of (truD d)).bind k) Q) : ∃ c, d = .bl c ∧ Post Rq W X.mg B σ H (k c) Q := by
  cases et : truD d with
  | none => rw [et] at hp; exact hp.elim
  | some c =>
    rw [et] at hp
    exact ⟨c, truD_some et, hp⟩
theorem post_val {Q : VK} {d : D} {v : V} (hp : Post (Rep X.mg) W X.mg B σ H (.ok d) Q) (r : Rep X.mg H B d v []) (bn : Bnd H) : Q v H := hp v H [] bn (Same.refl _) r (fun _ z => nomatch z) List.nodup_nil
/-- the last part as it is -/
theorem Tv.last {Q : VK} (en : EnOn X.mg fa ρ σ H B) (bd : BDom B H) (hp : Post (Rep X.mg) W X.mg B σ H (ma ρ) Q) : Tv (Rep X.mg) W X.mg fa ma σ H fun v H' => Bnd H' → Q v H' := by
  have h2 : Post (Rep X.mg) W X.mg B σ H ((ma ρ).bind .ok) Q := by rw [Res.bind_eta]; exact hp
  refine ⟨ρ, B, en, bd, ?_⟩
  cases e : ma ρ with
  | ok d =>
    rw [e] at hp
    exact fun v H1 as b s r f n _ => hp v H1 as b s r f n
  | ex x => rw [e] at hp; exact hp
  | no => rw [e] at hp; exact hp
theorem de_one {op} (h : DE X W a fa ma) : DE X W (.BoolOp op [a] pos) fa ma := pe_one h
theorem de_and (ha : DE X W a fa ma) (hb : DE X W (.BoolOp .And (b :: rest) pos) fb mb) : DE X W (.BoolOp .And (a :: b :: rest) pos) (fa ++ fb) (vand ma mb) := by
  refine PE.mk (pe_and ha hb) fun σ H Q bn ⟨ρ, B, en, bd, hp⟩ => ?_
  refine Tv.bind en.l bd hp fun x _ v H1 as bn1 s1 r1 f1 n1 hp1 => ?_
  obtain ⟨c, rfl, hp2⟩ := post_tru hp1
  refine ⟨c, r1.1, ?_⟩
  cases c with
  | true => rw [if_pos rfl] at hp2 ⊢; exact Tv.last (en.r.same s1) (bd.same s1) hp2
  | false => rw [if_neg Bool.false_ne_true] at hp2 ⊢; exact fun bn => post_val hp2 rep_bl bn
theorem de_or (ha : DE X W a fa ma) (hb : DE X W (.BoolOp .Or (b :: rest) pos) fb mb) : DE X W (.BoolOp .Or (a :: b :: rest) pos) (fa ++ fb) (vor ma mb) := by
  refine PE.mk (pe_or ha hb) fun σ H Q bn ⟨ρ, B, en, bd, hp⟩ => ?_
  refine Tv.bind en.l bd hp fun x _ v H1 as bn1 s1 r1 f1 n1 hp1 => ?_
  obtain ⟨c, rfl, hp2⟩ := post_tru hp1
  refine ⟨c, r1.1, ?_⟩
  cases c with
  | false => rw [if_neg Bool.false_ne_true] at hp2 ⊢; exact Tv.last (en.r.same s1) (bd.same s1) hp2
  | true => rw [if_pos rfl] at hp2 ⊢; exact fun bn => post_val hp2 rep_bl bn
theorem de_not (ha : DE X W a fa ma) : DE X W (.UnaryOp .Not a pos) fa (vnot ma) := by
  refine PE.mk (pe_not ha) fun σ H Q bn ⟨ρ, B, en, bd, hp⟩ => ?_
  refine Tv.bind en bd hp fun x _ v H1 as bn1 s1 r1 f1 n1 hp1 => ?_
  obtain ⟨c, rfl, hp2⟩ := post_tru hp1
  exact ⟨c, r1.1, fun bn => post_val hp2 rep_bl bn⟩
def mif (t : En → Res Bool) (ma mb : En → Res D) : En → Res D := fun ρ => (t ρ).bind fun c => if c = true then ma ρ else mb ρ
theorem de_if (hc : DT X W c fc ta) (ha : DE X W a fa ma) (hb : DE X W b fb mb) : DE X W (.IfExp c a b pos) (fc ++ (fa ++ fb)) (mif ta ma mb) := by
  refine PE.mk (pe_ifExp hc ha hb) fun σ H Q bn ⟨ρ, B, en, bd, hp⟩ => ?_
  refine Tv.bind en.l bd hp fun x _ v H1 as bn1 s1 r1 f1 n1 hp1 => ?_
  obtain ⟨rfl, _⟩ := r1
  cases v with
  | true => rw [if_pos rfl] at hp1 ⊢; exact Tv.last (en.r.l.same s1) (bd.same s1) hp1
  | false => rw [if_neg Bool.false_ne_true] at hp1 ⊢; exact Tv.last (en.r.r.same s1) (bd.same s1) hp1
/-- a chain of two comparisons -/
def mchain (g g' : D → D → Option D) (ma mb mc : En → Res D) : En → Res D := fun ρ => (ma ρ).bind fun x => (mb ρ).bind fun y => (Res.of (g x.frz y.frz)).bind fun z => (Res.of (truD z)).bind fun k =>
  if k = true then (mc ρ).bind fun w => Res.of (g' y.frz w.frz) else .ok (.bl false)
theorem chain_core {op op' : CmpOp} {g g' : D → D → Option D} {k : D → Res γ} {Q : δ → Hp → Prop} {Q' : V → Hp → Prop} (en : EnOn X.mg (fa ++ (fb ++ fc)) ρ σ H B) (bd : BDom B H) (hp : Post Rq W X.mg B σ H ((mchain g g' ma mb mc ρ).bind k) Q)
    (hc : ∀ d u H' as, Same H H' → Rep X.mg H' B d u as → (∀ a ∈ as, H a = none) → as.Nodup → Post Rq W X.mg B σ H (k d) Q → Q' u H') :
    tChain (rOp X.mg g) (rOp X.mg g') (Tv (Rep X.mg) W X.mg fa ma) (Tv (Rep X.mg) W X.mg fb mb) (Tv (Rep X.mg) W X.mg fc mc) σ H Q' := by
  unfold mchain at hp
  have hp0 := hp
  rw [Res.bind_assoc] at hp
  refine Tv.bind en.l bd hp fun x ex v H1 as bn1 s1 r1 f1 n1 hp1 => ?_
  rw [Res.bind_assoc] at hp1
  refine Tv.bind (en.r.l.same s1) (bd.same s1) hp1 fun y ey w H2 bs bn2 s2 r2 f2 n2 hp2 => ?_
  rw [Res.bind_assoc] at hp2
  rw [ex, Res.bind_ok, ey, Res.bind_ok] at hp0
  have bd2 := (bd.same s1).same s2
  have vy := r2.view (bd.same s1) f2
  refine ⟨x.frz, y.frz, B, (r1.view bd f1).same s2, vy, bd2, bn2, ?_⟩
  cases eg : g x.frz y.frz with
  | none => rw [eg] at hp2; exact hp2.elim
  | some z =>
    rw [eg] at hp2 hp0
    refine ⟨z, rfl, fun u H3 as' s3 r3 f3 n3 => ?_⟩
    rw [Res.of_some, Res.bind_ok, Res.bind_assoc] at hp2
    obtain ⟨c, rfl, hp3⟩ := post_tru hp2
    refine ⟨c, r3.1, ?_⟩
    have s' := s1.trans (s2.trans s3)
    cases c with
    | false =>
      rw [if_neg Bool.false_ne_true]
      exact hc (.bl false) _ H3 [] s' rep_bl (fun _ z => nomatch z) List.nodup_nil hp0
    | true =>
      rw [if_pos rfl] at hp3 ⊢
      rw [Res.bind_assoc] at hp3
      refine Tv.bind (en.r.r.same s') (bd.same s') (hp3.same s3) fun d ed w4 H4 as4 bn4 s4 r4 f4 n4 hp4 => ?_
      refine ⟨y.frz, d.frz, B, (vy.same s3).same s4, r4.view (bd.same s') f4, (bd.same s').same s4, bn4, ?_⟩
      have hp5 : Post Rq W X.mg B σ H (((mc ρ).bind fun w => Res.of (g' y.frz w.frz)).bind k) Q := hp0
      rw [ed, Res.bind_ok] at hp5
      cases eg' : g' y.frz d.frz with
      | none => rw [eg'] at hp5; exact hp5.elim
      | some d5 =>
        rw [eg'] at hp5
        exact ⟨d5, rfl, fun u5 H5 as5 s5 r5 f5 n5 => hc d5 u5 H5 as5 ((s'.trans s4).trans s5) r5 (fun a ha => (s'.trans s4).free (f5 a ha)) n5 hp5⟩
theorem de_chain {op op' : CmpOp} {g g' : D → D → Option D} (ho : OpD X (compareOp op) g) (ho' : OpD X (compareOp op') g') (ha : DE X W a fa ma) (hb : DE X W b fb mb) (hc : DE X W c fc mc)
    (hm : lastMarks [op, op'] [b, c] = false := by with_unfolding_all rfl) : DE X W (.Compare a [op, op'] [b, c] pos) (fa ++ (fb ++ fc)) (mchain g g' ma mb mc) := by
  refine PE.mk (pe_chain ho ho' ha hb hc hm) fun σ H Q bn ⟨ρ, B, en, bd, hp⟩ => ?_
  have h2 : Post (Rep X.mg) W X.mg B σ H ((mchain g g' ma mb mc ρ).bind .ok) Q := by rw [Res.bind_eta]; exact hp
  exact chain_core (op := op) (op' := op') en bd h2 fun d u H' as s r f n hp' bn => hp' u H' as bn s r f n
theorem dt_chain {op op' : CmpOp} {g g' : D → D → Option D} (ho : OpD X (compareOp op) g) (ho' : OpD X (compareOp op') g') (ha : DE X W a fa ma) (hb : DE X W b fb mb) (hc : DE X W c fc mc)
    (hm : lastMarks [op, op'] [b, c] = false := by with_unfolding_all rfl) : DT X W (.Compare a [op, op'] [b, c] pos) (fa ++ (fb ++ fc)) (tst (mchain g g' ma mb mc)) := by
  refine PT.mk (pt_chain ho ho' ha hb hc hm) fun σ H Q bn ⟨ρ, B, en, bd, hp⟩ => ?_
  exact chain_core (op := op) (op' := op') en bd hp fun d u H' as s r f n hp' => by
    obtain ⟨k, rfl, q⟩ := post_tst (hp'.same s)
    exact ⟨k, r.1, q⟩

/-! ### arguments, displays -/
def seqs : List (En → Res D) → En → Res (List D)
  | [], _ => .ok []
  | m :: ms, ρ => (m ρ).bind fun x => (seqs ms ρ).bind fun xs => .ok (x :: xs)
theorem seqs_len : ∀ {ms : List (En → Res D)} {ρ : En} {ds : List D}, seqs ms ρ = .ok ds → ds.length = ms.length
  | [], ρ, ds, h => by
    rw [seqs] at h
    cases h; rfl
  | m :: ms, ρ, ds, h => by
    rw [seqs] at h
    cases e : m ρ with
    | ok x =>
      rw [e, Res.bind_ok] at h
      cases e2 : seqs ms ρ with
      | ok xs =>
        rw [e2, Res.bind_ok] at h
        cases h
        rw [List.length_cons, List.length_cons, seqs_len e2]
      | ex x => rw [e2] at h; cases h
      | no => rw [e2] at h; cases h
    | ex x => rw [e] at h; cases h
    | no => rw [e] at h; cases h
variable {ms : List (En → Res D)}
theorem nodup_cat {as bs : List Addr} {H1 : Hp} (n1 : as.Nodup) (n2 : bs.Nodup) (t : ∀ a ∈ as, H1 a ≠ none) (f : ∀ a ∈ bs, H1 a = none) : (as ++ bs).Nodup :=
  List.nodup_append.mpr ⟨n1, n2, fun a ha b hb e => t a ha (by rw [e]; exact f b hb)⟩
theorem da_nil : DA X W [] [] (seqs []) := by
  refine PA.mk pa_nil fun σ H Q bn ⟨ρ, B, en, bd, hp⟩ => ?_
  exact fun bn' => hp [] H [] bn' (Same.refl _) Reps.nil (fun _ z => nomatch z) List.nodup_nil
theorem da_cons (ha : DE X W e fa ma) (hr : DA X W es fb (seqs ms)) (hs : starEach (e :: es) X.env = (false, eval e X.env) :: starEach es X.env := by rfl) : DA X W (e :: es) (fa ++ fb) (seqs (ma :: ms)) := by
  refine PA.mk (pa_cons ha hr hs) fun σ H Q bn ⟨ρ, B, en, bd, hp⟩ => ?_
  refine Tv.bind en.l bd hp fun x ex v H1 as bn1 s1 r1 f1 n1 hp1 => ?_
  refine Tv.bind (en.r.same s1) (bd.same s1) hp1 fun xs exs vs H2 bs bn2 s2 r2 f2 n2 hp2 => ?_
  have hp0 : Post (Reps X.mg) W X.mg B σ H ((ma ρ).bind fun x => (seqs ms ρ).bind fun xs => .ok (x :: xs)) Q := hp
  rw [ex, Res.bind_ok, exs, Res.bind_ok] at hp0
  refine fun bn => hp0 (v :: vs) H2 (as ++ bs) bn (s1.trans s2) (Reps.cons (r1.same s2) r2) (fun a ha => ?_) (nodup_cat n1 n2 r1.there f2)
  rcases List.mem_append.mp ha with z | z
  · exact f1 a z
  · exact s1.free (f2 a z)
def mtup (ms : List (En → Res D)) : En → Res D := fun ρ => (seqs ms ρ).bind fun xs => .ok (.tup xs)
def mlst (ms : List (En → Res D)) : En → Res D := fun ρ => (seqs ms ρ).bind fun xs => .ok (.lst true xs)
/-- what is new may be changed -/
theorem Same.put {H H' : Hp} {l : Addr} {o u : HO} (s : Same H H') (n : H l = none) (e : H' l = some o) (x : ∀ φ, o ≠ .ext φ := by first | assumption | (intro _ z; cases z; done)) : Same H (upd H' l u) where
  kp := fun a o' h n' => by rw [upd_ne (ne_of_none h n)]; exact s.kp a o' h n'
  tb := fun a ps h => by rw [upd_ne (ne_of_none h n)]; exact s.tb a ps h
  tt := fun P h => by
    obtain ⟨ps0, h0, _⟩ := id h
    obtain ⟨ps, h1, h2, h3⟩ := s.tt P h
    refine ⟨ps, by rw [upd_ne (ne_of_none h0 n)]; exact h1, h2, fun pos cv hc => ?_⟩
    obtain ⟨c, e1, e2⟩ := h3 pos cv hc
    refine ⟨c, e1, ?_⟩
    rw [upd_ne]
    · exact e2
    · rintro rfl
      rw [e] at e2
      exact x _ (Option.some.inj e2)
theorem same_new {H : Hp} {p : Addr} {o : HO} (h : H p = none) : Same H (upd H p o) := .of fun b x e => by
  rw [upd_ne (ne_of_none e h)]
  exact e
theorem de_tup {k} (h : DA X W es fa (seqs ms)) (hl : ms.length ≤ 1000 := by decide) : DE X W (.Tuple es k pos) fa (mtup ms) := by
  refine PE.mk (pe_tup h) fun σ H Q bn ⟨ρ, B, en, bd, hp⟩ => ?_
  refine Tv.bind en bd hp fun xs exs vs H1 as bn1 s1 r1 f1 n1 hp1 => ?_
  have hv : vs.length ≤ 1000 := by rw [← r1.length, seqs_len exs]; exact hl
  refine ⟨Nat.le_of_lt (small1000 hv), fun p np bn => ?_⟩
  have hp0 : Post (Rep X.mg) W X.mg B σ H ((seqs ms ρ).bind fun xs => .ok (.tup xs)) Q := hp
  rw [exs, Res.bind_ok] at hp0
  refine hp0 _ _ as bn (s1.trans (same_new np)) ?_ f1 n1
  rw [Rep]
  exact ⟨p, vs, as, rfl, upd_same, r1.same (same_new np), .inr ⟨rfl, (bd.same s1).new np, rfl⟩⟩
theorem de_lst (h : DA X W es fa (seqs ms)) (hl : ms.length ≤ 1000 := by decide) : DE X W (.List es pos) fa (mlst ms) := by
  refine PE.mk (pe_lst h) fun σ H Q bn ⟨ρ, B, en, bd, hp⟩ => ?_
  refine Tv.bind en bd hp fun xs exs vs H1 as bn1 s1 r1 f1 n1 hp1 => ?_
  have hv : vs.length ≤ 1000 := by rw [← r1.length, seqs_len exs]; exact hl
  refine ⟨Nat.le_of_lt (small1000 hv), fun p np bn => ?_⟩
  have hp0 : Post (Rep X.mg) W X.mg B σ H ((seqs ms ρ).bind fun xs => .ok (.lst true xs)) Q := hp
  rw [exs, Res.bind_ok] at hp0
  refine hp0 _ _ (p :: as) bn (s1.trans (same_new np)) ?_ (fun a ha => ?_) (List.nodup_cons.mpr ⟨fun z => r1.there p z np, n1⟩)
  · rw [Rep]
    exact ⟨p, vs, as, rfl, upd_same, r1.same (same_new np), .inl ⟨rfl, rfl⟩⟩
  · rcases List.mem_cons.mp ha with rfl | z
    · exact s1.free np
    · exact f1 a z
def mdct (t : Bool) : En → Res D := fun _ => .ok (.dct true t [])
theorem de_dctK : DE X W (.Dict [] [] pos) [] (mdct false) := by
  refine PE.mk pe_dnewK fun σ H Q bn ⟨ρ, B, en, bd, hp⟩ p np bn => ?_
  refine hp _ _ [p] bn (same_new np) ?_ (fun a ha => ?_) (by simp)
  · rw [D.dct, Rep]
    exact ⟨p, [], [], rfl, ⟨rfl, _, ⟨[], rfl, rfl⟩, upd_same⟩, Reps.nil, .inl ⟨rfl, rfl⟩⟩
  · have : a = p := by simpa using ha
    rw [this]; exact np
theorem de_dctT : DE X W (.Dict [] [] pos) [] (mdct true) := by
  refine PE.mk pe_dnewT fun σ H Q bn ⟨ρ, B, en, bd, hp⟩ p np bn => ?_
  refine hp _ _ [p] bn (same_new np) ?_ (fun a ha => ?_) (by simp)
  · rw [D.dct, Rep]
    exact ⟨p, [], [], rfl, ⟨rfl, _, ⟨[], rfl, rfl⟩, upd_same⟩, Reps.nil, .inl ⟨rfl, rfl⟩⟩
  · have : a = p := by simpa using ha
    rw [this]; exact np

/-! ### calls of what the language has -/
def mcall (g : List D → Option D) (ms : List (En → Res D)) : En → Res D := fun ρ => (seqs ms ρ).bind fun xs => Res.of (g (frzs xs))
variable {x : Str} {p : Pos} {id T : String} {g : List D → Option D}
theorem callK (hp : Post (Rep X.mg) W X.mg B σ H ((seqs ms ρ).bind fun xs => Res.of (g (frzs xs))) Q) (en : EnOn X.mg fa ρ σ H B) (bd : BDom B H) : tCB (rCall X.mg g) (Tv (Reps X.mg) W X.mg fa (seqs ms)) σ H fun v H' => Bnd H' → Q v H' := by
  refine Tv.bind en bd hp fun xs exs vs H1 as bn1 s1 r1 f1 n1 hp1 => ?_
  exact ⟨frzs xs, B, r1.view bd f1, bd.same s1, bn1, out_of hp1⟩
theorem de_callB (hc : CallD X (.builtin id) g) (hm : X.mg x = none) (hv : bootBuiltins x = some (.builtin id)) (ha : DA X W (e :: es) fa (seqs ms)) (hg : Gl X x := by rfl) (hn : x ≠ "__name__" := by decide) (hdb : (x == ("__debug__" : Str)) = false := by decide)
    (he : starEach (e :: es) X.env = (false, eval e X.env) :: starEach es X.env := by rfl) (hpl : (backTo pos (starEach es X.env)).any (·.1) = false := by rfl) : DE X W (.Call (.Name x p) (e :: es) [] pos) fa (mcall g ms) :=
  PE.mk (pe_callB hc hg hm hv ha hn hdb he hpl) fun σ H Q bn ⟨ρ, B, en, bd, hp⟩ => callK hp en bd
theorem de_callTy (hc : CallD X (.type T) g) (hm : X.mg x = none) (hv : bootBuiltins x = some (.type T)) (ha : DA X W (e :: es) fa (seqs ms)) (hg : Gl X x := by rfl) (hn : x ≠ "__name__" := by decide) (hdb : (x == ("__debug__" : Str)) = false := by decide)
    (he : starEach (e :: es) X.env = (false, eval e X.env) :: starEach es X.env := by rfl) (hpl : (backTo pos (starEach es X.env)).any (·.1) = false := by rfl) : DE X W (.Call (.Name x p) (e :: es) [] pos) fa (mcall g ms) :=
  PE.mk (pe_callTy hc hg hm hv ha hn hdb he hpl) fun σ H Q bn ⟨ρ, B, en, bd, hp⟩ => callK hp en bd

/-! ### defs -/
/-- the promise of a def whose value is f of its arguments, which stay -/
def spD (mg : Str → Option Value) (n : Nat) (f : List D → Res D) : Sp := fun vs H Q E => ∃ xs B, xs.length = n ∧ Reps mg H B (frzs xs) vs [] ∧ BDom B H ∧ match f (frzs xs) with
  | .ok d => ∀ v H' as, Same H H' → Rep mg H' B d v as → (∀ a ∈ as, H a = none) → as.Nodup → Q v H'
  | .ex x => ∀ c od H', Same H H' → ExR mg H H' B x c od → E c od H'
  | .no => False
def mfn (f : List D → Res D) (ms : List (En → Res D)) : En → Res D := fun ρ => (seqs ms ρ).bind fun xs => f (frzs xs)
variable {f : List D → Res D} {k n : Nat} {fA : Addr} {fd : FuncData} {ps : List Str}
theorem fnK (hn : ms.length = n) (hp : Post (Rep X.mg) W X.mg B σ H ((seqs ms ρ).bind fun xs => f (frzs xs)) Q) (en : EnOn X.mg fa ρ σ H B) (bd : BDom B H) :
    tCall (spD X.mg n f) [] (fun c od H' => W c od σ H') (Tv (Reps X.mg) W X.mg fa (seqs ms)) σ H fun v H' => Bnd H' → Q v H' := by
  refine Tv.bind en bd hp fun xs exs vs H1 as bn1 s1 r1 f1 n1 hp1 => ?_
  rw [List.append_nil]
  refine ⟨xs, B, (seqs_len exs).trans hn, r1.view bd f1, bd.same s1, ?_⟩
  cases e : f (frzs xs) with
  | ok d => rw [e] at hp1; exact fun v H' as s r f n bn => hp1 v H' as bn s r f n
  | ex x => rw [e] at hp1; exact hp1
  | no => rw [e] at hp1; exact hp1
end
end Ev

/-! Ev, part D: the operations by values. -/
namespace Ev
open PySem PySem.Spec L2
open PyProof.Rows hiding St
section
variable {mg : Str → Option Value} {H : Hp} {B : Addr → Prop} {xs : List D} {v : V} {as : List Addr}
theorem Rep.tupE (h : Rep mg H B (.node .tup xs) v as) : ∃ a vs, v = .ref a ∧ H a = some (.tup vs) ∧ Reps mg H B xs vs as := by
  rw [Rep] at h
  obtain ⟨a, vs, bs, e, hd, hr, q⟩ := h
  rcases q with ⟨q, _⟩ | ⟨_, _, q⟩
  · cases q
  · rw [q]; exact ⟨a, vs, e, hd, hr⟩
theorem Rep.lstE {o : Bool} (h : Rep mg H B (.node (.lst o) xs) v []) : ∃ a vs, v = .ref a ∧ Rd H a (.lst vs) ∧ Reps mg H B xs vs [] ∧ ¬ B a := by
  rw [Rep] at h
  obtain ⟨a, vs, bs, e, hd, hr, q⟩ := h
  rcases q with ⟨_, q⟩ | ⟨q1, q2, q⟩
  · cases q
  · have : o = false := q1
    subst this
    rw [q]; exact ⟨a, vs, e, hd, hr, q2⟩
theorem rep_newlst {p : Addr} {vs : List V} (np : H p = none) (hr : Reps mg H B xs vs []) : Rep mg (upd H p (.lst vs)) B (.lst true xs) (.ref p) [p] := by
  rw [Rep]
  exact ⟨p, vs, [], rfl, upd_same, hr.same (same_new np), .inl ⟨rfl, rfl⟩⟩
theorem rep_newtup {p : Addr} {vs : List V} (np : H p = none) (bd : BDom B H) (hr : Reps mg H B xs vs []) : Rep mg (upd H p (.tup vs)) B (.tup xs) (.ref p) [] := by
  rw [Rep]
  exact ⟨p, vs, [], rfl, upd_same, hr.same (same_new np), .inr ⟨rfl, bd.new np, rfl⟩⟩
end
theorem nodup1 {p : Addr} : [p].Nodup := by simp
theorem fresh1 {H : Hp} {p : Addr} (np : H p = none) : ∀ a ∈ [p], H a = none := fun a ha => by
  have : a = p := by simpa using ha
  rw [this]; exact np
theorem fresh0 {H : Hp} : ∀ a ∈ ([] : List Addr), H a = none := fun _ z => nomatch z
/-- a list that is read -/
theorem rd_list {X : Cx} {pins : List (Addr × Obj)} {σ : St} {H : Hp} {s : Shared} (I : Inv X pins σ H s) {l : Addr} {xs : List V} (h : Rd H l (.lst xs)) :
    xs.length ≤ sizeLine ∧ ∃ (its : List Value) (n : Nat), Vals xs its ∧ xs.length = its.length ∧ s.heap.get? l = some { cls := .type "list", data := .seq its.toArray n } := by
  obtain ⟨z, its, n, r, e⟩ := h.ok I.hok
  exact ⟨z, its, n, r, r.length, e⟩
theorem nil_of {xs : List D} (h : xs.length = ([] : List V).length) : xs = [] := List.eq_nil_of_length_eq_zero h
section
variable {X : Cx}
theorem op_catR : OpR X (binaryOp .Add) (fun x y H Q => ∃ l b xs zs, x = .ref l ∧ y = .ref b ∧ Rd H l (.lst xs) ∧ Rd H b (.lst zs) ∧ xs.length + zs.length ≤ sizeLine ∧ ∀ p, H p = none → Q (.ref p) (upd H p (.lst (xs ++ zs)))) := by
  intro pins s σ H x y v u Q I rx ry h
  obtain ⟨l, b, xs, zs, rfl, rfl, hH, hB, hz, q⟩ := h
  cases rx
  cases ry
  obtain ⟨z, its, n, r, hl, e⟩ := rd_list I hH
  obtain ⟨z2, its2, n2, r2, hl2, e2⟩ := rd_list I hB
  refine PySem.P.add_list e e2 ?_ (by rw [List.size_toArray, List.size_toArray]; omega)
  have ea : its.toArray ++ its2.toArray = (its ++ its2).toArray := by simp
  rw [ea]
  exact ⟨.ref _, _, I.lnew (t' := s.toks) (r.append r2) (by rw [List.length_append]; omega), rfl, q _ I.fresh⟩
/-- x + y -/
def addD : D → D → Option D
  | .int i, .int j => some (.int (i + j))
  | .str x, .str y => if x.length + y.length ≤ sizeLine then some (.str (x ++ y)) else none
  | .node .tup xs, .node .tup ys => if xs.length + ys.length ≤ sizeLine then some (.tup (xs ++ ys)) else none
  | .node (.lst _) xs, .node (.lst _) ys => if xs.length + ys.length ≤ sizeLine then some (.lst true (xs ++ ys)) else none
  | _, _ => none
theorem od_add : OpD X (binaryOp .Add) addD := by
  intro pins s σ H v w vv ww Q I rv rw' h
  obtain ⟨x, y, B, rx, ry, bd, bn, d, e, q⟩ := h
  unfold addD at e
  split at e
  · obtain ⟨rfl, _⟩ := rx; obtain ⟨rfl, _⟩ := ry; cases e
    exact op_add pins s σ H _ _ _ _ _ I rv rw' ⟨_, _, rfl, rfl, q _ _ [] (Same.refl _) rep_int fresh0 List.nodup_nil⟩
  · obtain ⟨rfl, _⟩ := rx; obtain ⟨rfl, _⟩ := ry
    split at e
    · rename_i hl; cases e
      exact op_add_str pins s σ H _ _ _ _ _ I rv rw' ⟨_, _, rfl, rfl, hl, q _ _ [] (Same.refl _) rep_str fresh0 List.nodup_nil⟩
    · cases e
  · obtain ⟨a, vs, rfl, ha, hr⟩ := rx.tupE; obtain ⟨b, ws, rfl, hb, hs⟩ := ry.tupE
    split at e
    · rename_i hl; cases e
      rw [hr.length, hs.length] at hl
      refine op_catA pins s σ H _ _ _ _ _ I rv rw' ⟨a, b, vs, ws, rfl, rfl, .of ha, .of hb, hl, fun z => ?_, fun _ z => ?_, fun _ _ p np => ?_⟩
      · subst z
        exact q _ _ [] (Same.refl _) (by rw [nil_of hr.length, List.nil_append]; exact ry) fresh0 List.nodup_nil
      · subst z
        exact q _ _ [] (Same.refl _) (by rw [nil_of hs.length, List.append_nil]; exact rx) fresh0 List.nodup_nil
      · exact q _ _ [] (same_new np) (rep_newtup np bd (Reps.append (bs := []) (as := []) hr hs)) fresh0 List.nodup_nil
    · cases e
  · obtain ⟨a, vs, rfl, ha, hr, _⟩ := rx.lstE; obtain ⟨b, ws, rfl, hb, hs, _⟩ := ry.lstE
    split at e
    · rename_i hl; cases e
      rw [hr.length, hs.length] at hl
      refine op_catR pins s σ H _ _ _ _ _ I rv rw' ⟨a, b, vs, ws, rfl, rfl, ha, hb, hl, fun p np => ?_⟩
      exact q _ _ [p] (same_new np) (rep_newlst np (Reps.append (bs := []) (as := []) hr hs)) (fresh1 np) nodup1
    · cases e
  · cases e
/-- operations on whole numbers -/
def intD (C : Int → Int → Prop) [∀ i j, Decidable (C i j)] (g : Int → Int → Int) : D → D → Option D
  | .int i, .int j => if C i j then some (.int (g i j)) else none
  | _, _ => none
theorem od_int {f : Value → Value → Sem Value} {C : Int → Int → Prop} [∀ i j, Decidable (C i j)] {g : Int → Int → Int} (h : OpR X f (rI C fun i j => .int (g i j))) : OpD X f (intD C g) := by
  intro pins s σ H v w vv ww Q I rv rw' hh
  obtain ⟨x, y, B, rx, ry, bd, bn, d, e, q⟩ := hh
  unfold intD at e
  split at e
  · obtain ⟨rfl, _⟩ := rx; obtain ⟨rfl, _⟩ := ry
    split at e
    · rename_i hc; cases e
      exact h pins s σ H _ _ _ _ _ I rv rw' ⟨_, _, rfl, rfl, hc, q _ _ [] (Same.refl _) rep_int fresh0 List.nodup_nil⟩
    · cases e
  · cases e
theorem opI0C {f : Value → Value → Sem Value} {g : Int → Int → V} (h : OpR X f (rI0 g)) : OpR X f (rI (fun _ _ => True) g) := fun pins s σ H v w vv ww Q I rv rw' ⟨i, j, a, b, _, q⟩ => h pins s σ H v w vv ww Q I rv rw' ⟨i, j, a, b, q⟩
def mulOk (i j : Int) : Bool := (decide (-(2 ^ 64) < j) && decide (j < 2 ^ 64)) || (decide (-(2 ^ 64) < i) && decide (i < 2 ^ 64))
theorem mulOk_iff {i j : Int} (h : mulOk i j = true) : CMul i j := by
  unfold mulOk at h
  rw [Bool.or_eq_true, Bool.and_eq_true, Bool.and_eq_true] at h
  exact h.elim (fun z => .inr ⟨of_decide_eq_true z.1, of_decide_eq_true z.2⟩) fun z => .inl ⟨of_decide_eq_true z.1, of_decide_eq_true z.2⟩
theorem op_mulB : OpR X (binaryOp .Mult) (rI (fun i j => mulOk i j = true) fun i j => .int (i * j)) := fun pins s σ H v w vv ww Q I rv rw' ⟨i, j, a, b, h, q⟩ => op_mul pins s σ H v w vv ww Q I rv rw' ⟨i, j, a, b, mulOk_iff h, q⟩
instance (i j : Int) : Decidable (CDiv i j) := by unfold CDiv; infer_instance
instance (i j : Int) : Decidable (CPow i j) := by unfold CPow; infer_instance
def subD : D → D → Option D := intD (fun _ _ => True) fun i j => i - j
def mulD : D → D → Option D := intD (fun i j => mulOk i j = true) fun i j => i * j
def fdivD : D → D → Option D := intD CDiv fun i j => i / j
def modD : D → D → Option D := intD (fun _ j => 0 < j) fun i j => i % j
def powD : D → D → Option D := intD CPow fun i j => i ^ j.toNat
theorem od_sub : OpD X (binaryOp .Sub) subD := od_int (opI0C op_sub)
theorem od_mul : OpD X (binaryOp .Mult) mulD := od_int op_mulB
theorem od_fdiv : OpD X (binaryOp .FloorDiv) fdivD := od_int op_fdiv
theorem od_mod : OpD X (binaryOp .Mod) modD := od_int op_mod
theorem od_pow : OpD X (binaryOp .Pow) powD := od_int op_pow
def negD : D → Option D
  | .int i => some (.int (-i))
  | _ => none
theorem ud_neg : UnD X (unaryOp .USub) negD := by
  intro pins s σ H v vv Q I rv h
  obtain ⟨x, B, rx, bd, bn, d, e, q⟩ := h
  unfold negD at e
  split at e
  · obtain ⟨rfl, _⟩ := rx; cases e
    exact un_neg pins s σ H _ _ _ I rv ⟨_, rfl, q _ _ [] (Same.refl _) rep_int fresh0 List.nodup_nil⟩
  · cases e
/-! ### comparisons -/
def cmpD (p : Int → Int → Bool) : D → D → Option D
  | .int i, .int j => some (.bl (p i j))
  | _, _ => none
theorem od_cmp {f : Value → Value → Sem Value} {p : Int → Int → Bool} (h : OpR X f (rI0 fun i j => .bl (p i j))) : OpD X f (cmpD p) := by
  intro pins s σ H v w vv ww Q I rv rw' hh
  obtain ⟨x, y, B, rx, ry, bd, bn, d, e, q⟩ := hh
  unfold cmpD at e
  split at e
  · obtain ⟨rfl, _⟩ := rx; obtain ⟨rfl, _⟩ := ry
    cases e
    exact h pins s σ H _ _ _ _ _ I rv rw' ⟨_, _, rfl, rfl, q _ _ [] (Same.refl _) rep_bl fresh0 List.nodup_nil⟩
  · cases e
def ltD : D → D → Option D := cmpD fun i j => decide (i < j)
def leD : D → D → Option D := cmpD fun i j => decide (i ≤ j)
def gtD : D → D → Option D := cmpD fun i j => decide (j < i)
def geD : D → D → Option D := cmpD fun i j => decide (j ≤ i)
theorem od_lt : OpD X (compareOp .Lt) ltD := od_cmp op_lt
theorem od_le : OpD X (compareOp .LtE) leD := od_cmp op_le
theorem od_gt : OpD X (compareOp .Gt) gtD := od_cmp op_gt
theorem od_ge : OpD X (compareOp .GtE) geD := od_cmp op_ge
end
mutual
/-- a == b -/
def eqT : D → D → Bool
  | .non, .non => true
  | .bl a, .bl b => a == b
  | .bl a, .int j => (if a then 1 else 0) == j
  | .int i, .bl b => i == (if b then 1 else 0)
  | .int i, .int j => i == j
  | .str x, .str y => x == y
  | .node .tup xs, .node .tup ys => eqTs xs ys
  | .node (.lst _) xs, .node (.lst _) ys => eqTs xs ys
  | _, _ => false
def eqTs : List D → List D → Bool
  | [], [] => true
  | x :: xs, y :: ys => eqT x y && eqTs xs ys
  | _, _ => false
end
mutual
/-- data of no more than n levels: none, truths, whole numbers, texts, lists, tuples -/
def D.dep : Nat → D → Bool
  | _, .str x => PyData.strOk x
  | n + 1, .node .tup xs => deps n xs
  | n + 1, .node (.lst _) xs => deps n xs
  | _, .node _ _ => false
  | _, _ => true
def deps : Nat → List D → Bool
  | _, [] => true
  | n, x :: xs => x.dep n && deps n xs
end
mutual
def D.py : D → PyData
  | .non => .none
  | .bl b => .bool b
  | .int i => .int i
  | .str x => .str x
  | .node .tup xs => .tuple (pys xs)
  | .node (.lst _) xs => .list (pys xs)
  | .node _ _ => .dict []
def pys : List D → List PyData
  | [] => []
  | x :: xs => x.py :: pys xs
end
mutual
theorem eqv_py : ∀ (x y : D), PyData.eqv x.py y.py = eqT x y
  | .non, y => by cases y with
    | node t ys => cases t <;> simp [D.py, PyData.eqv, eqT]
    | _ => simp [D.py, PyData.eqv, eqT]
  | .bl _, y => by cases y with
    | node t ys => cases t <;> simp [D.py, PyData.eqv, eqT]
    | _ => simp [D.py, PyData.eqv, eqT]
  | .int _, y => by cases y with
    | node t ys => cases t <;> simp [D.py, PyData.eqv, eqT]
    | _ => simp [D.py, PyData.eqv, eqT]
  | .str _, y => by cases y with
    | node t ys => cases t <;> simp [D.py, PyData.eqv, eqT]
    | _ => simp [D.py, PyData.eqv, eqT]
  | .node .tup xs, y => by cases y with
    | node t ys => cases t <;> simp [D.py, PyData.eqv, eqT, eqvAll_py xs]
    | _ => simp [D.py, PyData.eqv, eqT]
  | .node (.lst _) xs, y => by cases y with
    | node t ys => cases t <;> simp [D.py, PyData.eqv, eqT, eqvAll_py xs]
    | _ => simp [D.py, PyData.eqv, eqT]
  | .node (.dct _ _ _) xs, y => by cases y with
    | node t ys => cases t <;> simp [D.py, PyData.eqv, eqT]
    | _ => simp [D.py, PyData.eqv, eqT]
  | .node (.ins _ _ _) xs, y => by cases y with
    | node t ys => cases t <;> simp [D.py, PyData.eqv, eqT]
    | _ => simp [D.py, PyData.eqv, eqT]
  | .node (.io _ _ _) xs, y => by cases y with
    | node t ys => cases t <;> simp [D.py, PyData.eqv, eqT]
    | _ => simp [D.py, PyData.eqv, eqT]
  | .node (.exc _) xs, y => by cases y with
    | node t ys => cases t <;> simp [D.py, PyData.eqv, eqT]
    | _ => simp [D.py, PyData.eqv, eqT]
  | .node (.xd _) xs, y => by cases y with
    | node t ys => cases t <;> simp [D.py, PyData.eqv, eqT]
    | _ => simp [D.py, PyData.eqv, eqT]
theorem eqvAll_py : ∀ (xs ys : List D), PyData.eqvAll (pys xs) (pys ys) = eqTs xs ys
  | [], ys => by cases ys <;> simp [pys, PyData.eqvAll, eqTs]
  | x :: xs, ys => by
    cases ys with
    | nil => simp [pys, PyData.eqvAll, eqTs]
    | cons y ys => rw [pys, pys, PyData.eqvAll, eqTs, eqv_py x y, eqvAll_py xs ys]
end
mutual
theorem dep_py : ∀ (n : Nat) (x : D), x.dep n = true → x.py.canLay0 = true ∧ x.py.depth ≤ n
  | n, .non, _ => by simp [D.py, PyData.canLay0, PyData.depth]
  | n, .bl _, _ => by simp [D.py, PyData.canLay0, PyData.depth]
  | n, .int _, _ => by simp [D.py, PyData.canLay0, PyData.depth]
  | n, .str x, h => by
    have h' : PyData.strOk x = true := by cases n <;> simpa [D.dep] using h
    simp [D.py, PyData.canLay0, PyData.depth, h']
  | 0, .node t xs, h => by cases t <;> simp [D.dep] at h
  | n + 1, .node .tup xs, h => by
    have q := deps_py n xs (by simpa [D.dep] using h)
    simp only [D.py, PyData.canLay0, PyData.depth]
    exact ⟨q.1, by omega⟩
  | n + 1, .node (.lst _) xs, h => by
    have q := deps_py n xs (by simpa [D.dep] using h)
    simp only [D.py, PyData.canLay0, PyData.depth]
    exact ⟨q.1, by omega⟩
  | n + 1, .node (.dct _ _ _) xs, h => by simp [D.dep] at h
  | n + 1, .node (.ins _ _ _) xs, h => by simp [D.dep] at h
  | n + 1, .node (.io _ _ _) xs, h => by simp [D.dep] at h
  | n + 1, .node (.exc _) xs, h => by simp [D.dep] at h
  | n + 1, .node (.xd _) xs, h => by simp [D.dep] at h
theorem deps_py : ∀ (n : Nat) (xs : List D), deps n xs = true → PyData.canLayAll0 (pys xs) = true ∧ PyData.depthAll (pys xs) ≤ n
  | n, [], _ => by simp [pys, PyData.canLayAll0, PyData.depthAll]
  | n, x :: xs, h => by
    rw [deps, Bool.and_eq_true] at h
    have a := dep_py n x h.1
    have b := deps_py n xs h.2
    simp only [pys, PyData.canLayAll0, PyData.depthAll, Bool.and_eq_true]
    exact ⟨⟨a.1, b.1⟩, by omega⟩
end
theorem shaped_py {x : D} (h : x.dep 20 = true) : SeqAt.shaped x.py = true := by
  have q := dep_py 20 x h
  show (x.py.canLay0 && decide (x.py.depth ≤ 64)) = true
  rw [q.1, decide_eq_true (by omega)]; rfl
mutual
theorem dp_of {K : PySem.W.Frag} {mg : Str → Option Value} {H : Hp} {B : Addr → Prop} : ∀ (n : Nat) (x : D) (v : V) (as : List Addr), x.dep n = true → Rep mg H B x v as → Dp K H v x.py
  | n, .non, v, as, _, h => by rw [h.1]; exact .non
  | n, .bl b, v, as, _, h => by rw [h.1]; exact .bl b
  | n, .int i, v, as, _, h => by rw [h.1]; exact .int i
  | n, .str x, v, as, _, h => by rw [h.1]; exact .str x
  | 0, .node t xs, v, as, h, _ => by cases t <;> simp [D.dep] at h
  | n + 1, .node .tup xs, v, as, h, r => by
    rw [Rep] at r
    obtain ⟨a, vs, bs, rfl, hd, hr, _⟩ := r
    exact .tup (.of hd) (dps_of n xs vs bs (by simpa [D.dep] using h) hr)
  | n + 1, .node (.lst o) xs, v, as, h, r => by
    rw [Rep] at r
    obtain ⟨a, vs, bs, rfl, hd, hr, _⟩ := r
    refine .lst (.inl ?_) (dps_of n xs vs bs (by simpa [D.dep] using h) hr)
    cases o
    · exact hd
    · exact .inl hd
  | n + 1, .node (.dct _ _ _) xs, v, as, h, _ => by simp [D.dep] at h
  | n + 1, .node (.ins _ _ _) xs, v, as, h, _ => by simp [D.dep] at h
  | n + 1, .node (.io _ _ _) xs, v, as, h, _ => by simp [D.dep] at h
  | n + 1, .node (.exc _) xs, v, as, h, _ => by simp [D.dep] at h
  | n + 1, .node (.xd _) xs, v, as, h, _ => by simp [D.dep] at h
theorem dps_of {K : PySem.W.Frag} {mg : Str → Option Value} {H : Hp} {B : Addr → Prop} : ∀ (n : Nat) (xs : List D) (vs : List V) (as : List Addr), deps n xs = true → Reps mg H B xs vs as → DpAll K H vs (pys xs)
  | n, [], vs, as, _, h => by rw [Reps] at h; rw [h.1]; exact .nil
  | n, x :: xs, vs, as, h, r => by
    rw [Reps] at r
    rw [deps, Bool.and_eq_true] at h
    obtain ⟨v, ws, a1, a2, rfl, _, h1, h2⟩ := r
    exact .cons (dp_of n x v a1 h.1 h1) (dps_of n xs ws a2 h.2 h2)
end
section
variable {X : Cx}
/-- ==, != of data; of dicts where one is empty -/
def eqD : D → D → Option D := fun x y => if x.dep 20 = true ∧ y.dep 20 = true then some (.bl (eqT x y)) else none
def neD : D → D → Option D := fun x y => if x.dep 20 = true ∧ y.dep 20 = true then some (.bl (!eqT x y)) else none
theorem od_eq (hu : X.A.units + 64 < cLine) : OpD X (compareOp .Eq) eqD := by
  intro pins s σ H v w vv ww Q I rv rw' h
  obtain ⟨x, y, B, rx, ry, bd, bn, d, e, q⟩ := h
  unfold eqD at e
  split at e
  · rename_i hh; cases e
    refine op_eqD hu pins s σ H _ _ _ _ _ I rv rw' ⟨x.py, y.py, dp_of 20 x v [] hh.1 rx, dp_of 20 y w [] hh.2 ry, shaped_py hh.1, shaped_py hh.2, ?_⟩
    rw [eqv_py]
    exact q _ _ [] (Same.refl _) rep_bl fresh0 List.nodup_nil
  · cases e
theorem od_ne (hu : X.A.units + 64 < cLine) : OpD X (compareOp .NotEq) neD := by
  intro pins s σ H v w vv ww Q I rv rw' h
  obtain ⟨x, y, B, rx, ry, bd, bn, d, e, q⟩ := h
  unfold neD at e
  split at e
  · rename_i hh; cases e
    refine op_neD hu pins s σ H _ _ _ _ _ I rv rw' ⟨x.py, y.py, dp_of 20 x v [] hh.1 rx, dp_of 20 y w [] hh.2 ry, shaped_py hh.1, shaped_py hh.2, ?_⟩
    rw [eqv_py]
    exact q _ _ [] (Same.refl _) rep_bl fresh0 List.nodup_nil
  · cases e
/-- is None, is not None -/
def D.isNon : D → Bool
  | .non => true
  | _ => false
def isD : D → D → Option D
  | x, .non => some (.bl x.isNon)
  | _, _ => none
def isnD : D → D → Option D
  | x, .non => some (.bl (!x.isNon))
  | _, _ => none
theorem non_iff {mg : Str → Option Value} {H : Hp} {B : Addr → Prop} {v : V} {as : List Addr} : ∀ {x : D}, Rep mg H B x v as → decide (v = .non) = x.isNon
  | .non, r => by rw [r.1]; rfl
  | .bl b, r => by rw [r.1]; rfl
  | .int b, r => by rw [r.1]; rfl
  | .str b, r => by rw [r.1]; rfl
  | .node t xs, r => by
    rw [Rep] at r
    obtain ⟨a, vs, bs, rfl, _⟩ := r
    rfl
theorem od_is : OpD X (compareOp .Is) isD := by
  intro pins s σ H v w vv ww Q I rv rw' h
  obtain ⟨x, y, B, rx, ry, bd, bn, d, e, q⟩ := h
  unfold isD at e
  split at e
  · cases e; obtain ⟨rfl, _⟩ := ry
    refine op_isN pins s σ H _ _ _ _ _ I rv rw' ⟨rfl, ?_⟩
    rw [non_iff rx]
    exact q _ _ [] (Same.refl _) rep_bl fresh0 List.nodup_nil
  · cases e
theorem od_isn : OpD X (compareOp .IsNot) isnD := by
  intro pins s σ H v w vv ww Q I rv rw' h
  obtain ⟨x, y, B, rx, ry, bd, bn, d, e, q⟩ := h
  unfold isnD at e
  split at e
  · cases e; obtain ⟨rfl, _⟩ := ry
    refine op_notN pins s σ H _ _ _ _ _ I rv rw' ⟨rfl, ?_⟩
    rw [non_iff rx]
    exact q _ _ [] (Same.refl _) rep_bl fresh0 List.nodup_nil
  · cases e
end
end Ev

/-! Ev, part E: subscripts, slices, in, calls of built-ins. -/
namespace Ev
open PySem PySem.Spec L2
open PyProof.Rows hiding St
/-! ### keys -/
def keyS : D → Option Key
  | .int i => some (.inl i)
  | .str x => some (.inr x)
  | _ => none
def keysS : List D → Option (List Key)
  | [] => some []
  | x :: xs => (keyS x).bind fun k => (keysS xs).map fun ks => k :: ks
/-- a value as a dict's key -/
def keyD : D → Option Ky
  | .int i => some (.inl (.inl i))
  | .str x => some (.inl (.inr x))
  | .node .tup xs => (keysS xs).map .inr
  | _ => none
def kyS : Key → D
  | .inl i => .int i
  | .inr x => .str x
/-- the value of a key -/
def kyD : Ky → D
  | .inl k => kyS k
  | .inr ks => .tup (ks.map kyS)
section
variable {mg : Str → Option Value} {H : Hp} {B : Addr → Prop}
theorem keyS_rep {d : D} {k : Key} {v : V} {as : List Addr} (h : keyS d = some k) (r : Rep mg H B d v as) : v = kV k := by
  unfold keyS at h
  split at h
  · cases h; exact r.1
  · cases h; exact r.1
  · cases h
theorem keysS_rep : ∀ {ds : List D} {ks : List Key} {vs : List V} {as : List Addr}, keysS ds = some ks → Reps mg H B ds vs as → vs = ks.map kV
  | [], ks, vs, as, h, r => by
    rw [Reps] at r
    cases h
    exact r.1
  | x :: xs, ks, vs, as, h, r => by
    rw [Reps] at r
    obtain ⟨v, ws, a1, a2, rfl, _, h1, h2⟩ := r
    rw [keysS] at h
    cases e : keyS x with
    | none => rw [e] at h; cases h
    | some k =>
      rw [e] at h
      cases e2 : keysS xs with
      | none => rw [e2] at h; cases h
      | some ks' =>
        rw [e2] at h
        cases h
        rw [keyS_rep e h1, keysS_rep e2 h2]
        rfl
theorem keyD_inl {d : D} {k : Key} {v : V} {as : List Addr} (h : keyD d = some (.inl k)) (r : Rep mg H B d v as) : v = kV k := by
  unfold keyD at h
  split at h
  · cases h; exact r.1
  · cases h; exact r.1
  · rename_i xs
    cases e : keysS xs with
    | none => rw [e] at h; cases h
    | some k => rw [e] at h; cases h
  · cases h
theorem keyD_inr {d : D} {ks : List Key} {v : V} {as : List Addr} (h : keyD d = some (.inr ks)) (r : Rep mg H B d v as) : ∃ b, v = .ref b ∧ H b = some (.tup (ks.map kV)) := by
  unfold keyD at h
  split at h
  · cases h
  · cases h
  · rename_i xs
    cases e : keysS xs with
    | none => rw [e] at h; cases h
    | some k =>
      rw [e] at h
      cases h
      obtain ⟨a, vs, rfl, ha, hr⟩ := r.tupE
      rw [keysS_rep e hr] at ha
      exact ⟨a, rfl, ha⟩
  · cases h
def OptR (mg : Str → Option Value) (H : Hp) (B : Addr → Prop) : Option D → Option V → Prop
  | some d, some v => Rep mg H B d v []
  | none, none => True
  | _, _ => False
/-- what a dict holds, and what stands on the heap -/
theorem zip_get {κ : Type} [DecidableEq κ] {f : κ → Ky} (fi : ∀ a b, f a = f b → a = b) : ∀ {ks : List κ} {xs : List D} {vs : List V}, Reps mg H B xs vs [] → ks.length = xs.length → ∀ k, OptR mg H B (lkp ((ks.map f).zip xs) (f k)) (valV (ks.zip vs) k)
  | [], xs, vs, h, l, k => by simp [lkp, valV, OptR]
  | _ :: _, [], vs, h, l, k => by simp at l
  | q :: ks, x :: xs, vs, h, l, k => by
    rw [Reps] at h
    obtain ⟨v, ws, a1, a2, rfl, e2, h1, h2⟩ := h
    obtain ⟨z1, z2⟩ := List.append_eq_nil_iff.mp e2.symm
    subst z1 z2
    rw [List.map_cons, List.zip_cons_cons, List.zip_cons_cons, lkp_cons]
    by_cases e : q = k
    · subst e
      rw [if_pos rfl, valV_pos rfl]
      exact h1
    · rw [if_neg fun z => e (fi _ _ z), valV_neg e]
      exact zip_get fi h2 (by simpa using l) k
theorem Rep.dctE {o t : Bool} {ks : List Ky} {xs : List D} {v : V} (h : Rep mg H B (.node (.dct o t ks) xs) v []) : ∃ a vs u, v = .ref a ∧ ks.length = xs.length ∧ Dobj u ks vs t ∧ Rd H a u ∧ Reps mg H B xs vs [] ∧ ¬ B a := by
  rw [Rep] at h
  obtain ⟨a, vs, bs, e, hd, hr, q⟩ := h
  rcases q with ⟨_, q⟩ | ⟨q1, q2, q⟩
  · cases q
  · have : o = false := q1
    subst this
    rw [q]
    obtain ⟨l, u, d, h⟩ := hd
    exact ⟨a, vs, u, e, by rw [hr.length, l], d, h, hr, q2⟩
/-- keys and dicts are of one kind -/
def Kd : Bool → Ky → Bool
  | false, .inl _ => true
  | true, .inr _ => true
  | _, _ => false
/-- a look-up: a key of the dict's kind, what stands there -/
def lookD : D → D → Option (Option D)
  | .node (.dct _ t ks) xs, k => (keyD k).bind fun q => if Kd t q = true then some (lkp (ks.zip xs) q) else none
  | _, _ => none
theorem look_rep {d kd : D} {v w : V} {o : Option D} {as : List Addr} (h : lookD d kd = some o) (r : Rep mg H B d v []) (rk : Rep mg H B kd w as) : ∃ a ov, v = .ref a ∧ DGet H a w ov ∧ OptR mg H B o ov := by
  cases d with
  | non => cases h
  | bl _ => cases h
  | int _ => cases h
  | str _ => cases h
  | node tg xs =>
   cases tg with
   | tup => cases h
   | lst _ => cases h
   | ins _ _ _ => cases h
   | io _ _ _ => cases h
   | exc _ => cases h
   | xd _ => cases h
   | dct oo t ks =>
    have h : ((keyD kd).bind fun q => if Kd t q = true then some (lkp (ks.zip xs) q) else none) = some o := h
    obtain ⟨a, vs, u, rfl, l, dd, rd, rr, _⟩ := r.dctE
    cases ek : keyD kd with
    | none => rw [ek] at h; cases h
    | some q =>
      rw [ek] at h
      have h' : (if Kd t q = true then some (lkp (ks.zip xs) q) else none) = some o := h
      cases t with
      | false =>
        cases q with
        | inr q => cases h'
        | inl q =>
          obtain rfl : lkp (ks.zip xs) (.inl q) = o := Option.some.inj h'
          obtain ⟨k', rfl, rfl⟩ := dd
          refine ⟨a, valV (k'.zip vs) q, rfl, .inl ⟨_, q, rd, keyD_inl ek rk, rfl⟩, ?_⟩
          exact zip_get (f := Sum.inl) (fun _ _ z => Sum.inl.inj z) rr (by simpa using l) q
      | true =>
        cases q with
        | inl q => cases h'
        | inr q =>
          obtain rfl : lkp (ks.zip xs) (.inr q) = o := Option.some.inj h'
          obtain ⟨k', rfl, rfl⟩ := dd
          obtain ⟨b, rfl, hb⟩ := keyD_inr ek rk
          refine ⟨a, valV (k'.zip vs) q, rfl, .inr ⟨_, q, b, rd, rfl, hb, rfl⟩, ?_⟩
          exact zip_get (f := Sum.inr) (fun _ _ z => Sum.inr.inj z) rr (by simpa using l) q
end
/-! ### subscripts -/
section
variable {X : Cx}
theorem ix_dict (hu : X.A.units + 1 < cLine) : IxR X (fun x y H Q => ∃ a v, x = .ref a ∧ DGet H a y (some v) ∧ Q v H) := by
  intro value slice pins s σ H x y v u Q I rx ry ⟨a, w, e, g, q⟩ hs
  subst e
  cases rx
  exact tail_any (dict_typeIs I g) PySem.F.slot_dict_getitem.lookup (d_getItem hu I g ry fun w' s3 I3 rw' => ⟨w, H, I3, rw', q⟩) hs
def ixD : D → D → Option D
  | .node (.lst _) xs, .int i => atI xs i
  | .node .tup xs, .int i => atI xs i
  | .str z, .int i => if z.length ≤ sizeLine then (atI z.cps.toList i).map fun c => .str ⟨#[c]⟩ else none
  | .node (.dct o t ks) xs, k => (lookD (.node (.dct o t ks) xs) k).bind id
  | _, _ => none
theorem atI_rep {mg : Str → Option Value} {H : Hp} {B : Addr → Prop} {xs : List D} {vs : List V} {i : Int} {d : D} (r : Reps mg H B xs vs []) (h : atI xs i = some d) : ∃ v, atI vs i = some v ∧ Rep mg H B d v [] := by
  unfold atI at h ⊢
  rw [r.length] at h
  cases e : ixN vs.length i with
  | none => rw [e] at h; cases h
  | some j =>
    rw [e] at h
    exact r.get h
abbrev IxD (X : Cx) (g : D → D → Option D) : Prop := IxR X (rOp X.mg g)
theorem id_ix (hu : X.A.units + 1 < cLine) : IxD X ixD := by
  intro value slice pins s σ H v w vv ww Q I rv rw' h hs
  obtain ⟨x, y, B, rx, ry, bd, bn, d, e, q⟩ := h
  unfold ixD at e
  split at e
  · obtain ⟨a, vs, rfl, ha, hr, _⟩ := rx.lstE; obtain ⟨rfl, _⟩ := ry
    obtain ⟨z, hz, rz⟩ := atI_rep hr e
    exact ix_list value slice pins s σ H _ _ _ _ _ I rv rw' ⟨a, vs, _, z, rfl, rfl, .inl ha, hz, q _ _ [] (Same.refl _) rz fresh0 List.nodup_nil⟩ hs
  · obtain ⟨a, vs, rfl, ha, hr⟩ := rx.tupE; obtain ⟨rfl, _⟩ := ry
    obtain ⟨z, hz, rz⟩ := atI_rep hr e
    exact ix_tup value slice pins s σ H _ _ _ _ _ I rv rw' ⟨a, vs, _, z, rfl, rfl, .of ha, hz, q _ _ [] (Same.refl _) rz fresh0 List.nodup_nil⟩ hs
  · rename_i z i
    obtain ⟨rfl, _⟩ := rx; obtain ⟨rfl, _⟩ := ry
    split at e
    · rename_i hz
      cases ec : atI z.cps.toList i with
      | none => rw [ec] at e; cases e
      | some c =>
        rw [ec] at e
        cases e
        exact ix_str value slice pins s σ H _ _ _ _ _ I rv rw' ⟨z, i, c, rfl, rfl, hz, ec, q _ _ [] (Same.refl _) rep_str fresh0 List.nodup_nil⟩ hs
    · cases e
  · rename_i o t ks xs
    cases el : lookD (.node (.dct o t ks) xs) y with
    | none => rw [el] at e; cases e
    | some oo =>
      rw [el] at e
      have e' : oo = some d := e
      subst e'
      obtain ⟨a, ov, rfl, g, m⟩ := look_rep el rx ry
      cases ov with
      | none => exact m.elim
      | some z => exact ix_dict hu value slice pins s σ H _ _ _ _ _ I rv rw' ⟨a, z, rfl, g, q _ _ [] (Same.refl _) m fresh0 List.nodup_nil⟩ hs
  · cases e
variable {W : WX} {e a b : Expr} {fa fb fc : List Nat} {ma mb mc : En → Res D} {pos p2 : Pos}
theorem de_ix (hu : X.A.units + 1 < cLine) (ha : DE X W a fa ma) (hb : DE X W b fb mb) (hs : PlainIx b := by intro _ _; rfl) : DE X W (.Subscript a b pos) (fa ++ fb) (bin ixD ma mb) :=
  PE.mk (pe_ix (id_ix hu) ha hb hs) fun _ _ _ bn q => two bn q
/-! ### slices -/
def cutD {α : Type} (xs : List α) (lo hi : Option Int) : List α := (xs.drop (HT.sIx xs.length 0 lo)).take (HT.sIx xs.length xs.length hi - HT.sIx xs.length 0 lo)
def slD (lo hi : Option Int) : D → Option D
  | .node (.lst _) xs => some (.lst true (cutD xs lo hi))
  | .node .tup xs => some (.tup (cutD xs lo hi))
  | .str z => if z.length ≤ sizeLine then some (.str (cutS z lo hi)) else none
  | _ => none
theorem cut_rep {mg : Str → Option Value} {H : Hp} {B : Addr → Prop} {xs : List D} {vs : List V} {lo hi : Option Int} (r : Reps mg H B xs vs []) : Reps mg H B (cutD xs lo hi) (cutV vs lo hi) [] := by
  unfold cutD cutV
  rw [r.length]
  exact (r.drop _).take _
theorem sl_ok : SlR X (fun v lo hi H Q => ∃ x B, Rep X.mg H B x v [] ∧ BDom B H ∧ Bnd H ∧ Out1 X.mg B H (slD lo hi x) Q) := by
  intro pins s σ H v vv vl vu lo hi sl Q I rv hs pl pu h
  obtain ⟨x, B, rx, bd, bn, d, e, q⟩ := h
  unfold slD at e
  split at e
  · obtain ⟨a, vs, rfl, ha, hr, _⟩ := rx.lstE; cases e
    exact sl_list pins s σ H _ _ _ _ _ _ _ _ I rv hs pl pu ⟨a, vs, rfl, .inl ha, fun p np => q _ _ [p] (same_new np) (rep_newlst np (cut_rep hr)) (fresh1 np) nodup1⟩
  · obtain ⟨a, vs, rfl, ha, hr⟩ := rx.tupE; cases e
    rename_i xs
    refine sl_tupA pins s σ H _ _ _ _ _ _ _ _ I rv hs pl pu ⟨a, vs, rfl, .of ha, fun z => ?_, fun _ p np => q _ _ [] (same_new np) (rep_newtup np bd (cut_rep hr)) fresh0 List.nodup_nil⟩
    have ec : cutD xs lo hi = xs := by
      unfold cutD
      rw [hr.length, z.1, z.2, List.drop_zero, Nat.sub_zero, ← hr.length, List.take_length]
    rw [ec] at q
    exact q _ _ [] (Same.refl _) rx fresh0 List.nodup_nil
  · obtain ⟨rfl, _⟩ := rx
    split at e
    · rename_i hz; cases e
      exact sl_str pins s σ H _ _ _ _ _ _ _ _ I rv hs pl pu ⟨_, rfl, hz, q _ _ [] (Same.refl _) rep_str fresh0 List.nodup_nil⟩
    · cases e
  · cases e
/-- a part of a slice -/
def RpO : RpT (Option Int) (Option Int) := fun _ _ b c as => c = b ∧ as = []
abbrev DO (X : Cx) (W : WX) (e : Option Expr) (fv : List Nat) (m : En → Res (Option Int)) : Prop := PO X e (Tv RpO W X.mg fv m)
def pno : En → Res (Option Int) := fun _ => .ok none
def intO : D → Option (Option Int)
  | .int i => some (some i)
  | _ => none
def psome (m : En → Res D) : En → Res (Option Int) := fun ρ => (m ρ).bind fun x => Res.of (intO x)
theorem PO.mk {e : Option Expr} {t t' : TO} (h : PO X e t) (hh : ∀ σ H Q, Bnd H → t' σ H Q → t σ H fun v H' => Bnd H' → Q v H') : PO X e t' := ⟨fun pins s σ H Q I q => by
  refine thn (h.run pins s σ H _ I (hh σ H Q (bnd_of I) q)) fun v s1 ⟨x, H1, I1, r1, q1⟩ => ⟨x, H1, I1, r1, q1 (bnd_of I1)⟩⟩
theorem do_no : DO X W none [] pno := PO.mk po_none fun σ H Q bn ⟨ρ, B, en, bd, hp⟩ => fun bn => hp none H [] bn (Same.refl _) ⟨rfl, rfl⟩ fresh0 List.nodup_nil
theorem do_some (h : DE X W e fa ma) : DO X W (some e) fa (psome ma) := by
  refine PO.mk (po_some h) fun σ H Q bn ⟨ρ, B, en, bd, hp⟩ => ?_
  refine Tv.bind en bd hp fun x _ v H1 as bn1 s1 r1 f1 n1 hp1 => ?_
  cases x with
  | int i => exact ⟨i, r1.1, fun bn => hp1 _ H1 [] bn (Same.refl _) ⟨rfl, rfl⟩ fresh0 List.nodup_nil⟩
  | non => exact hp1.elim
  | bl _ => exact hp1.elim
  | str _ => exact hp1.elim
  | node _ _ => exact hp1.elim
def msl (m : En → Res D) (ml mh : En → Res (Option Int)) : En → Res D := fun ρ => (m ρ).bind fun x => (ml ρ).bind fun l => (mh ρ).bind fun h => Res.of (slD l h x.frz)
theorem de_sl {lo hi : Option Expr} {ml mh : En → Res (Option Int)} (h : DE X W e fa ma) (hl : DO X W lo fb ml) (hh : DO X W hi fc mh) : DE X W (.Subscript e (.Slice lo hi none p2) pos) (fa ++ (fb ++ fc)) (msl ma ml mh) := by
  refine PE.mk (pe_slice sl_ok h hl hh) fun σ H Q bn ⟨ρ, B, en, bd, hp⟩ => ?_
  refine Tv.bind en.l bd hp fun x _ v H1 as bn1 s1 r1 f1 n1 hp1 => ?_
  refine Tv.bind (en.r.l.same s1) (bd.same s1) hp1 fun l _ lv H2 _ bn2 s2 r2 f2 n2 hp2 => ?_
  refine Tv.bind (en.r.r.same (s1.trans s2)) ((bd.same s1).same s2) hp2 fun u _ uv H3 _ bn3 s3 r3 f3 n3 hp3 => ?_
  obtain ⟨rfl, _⟩ := r2
  obtain ⟨rfl, _⟩ := r3
  exact ⟨x.frz, B, ((r1.view bd f1).same s2).same s3, ((bd.same s1).same s2).same s3, bn3, out_of hp3⟩
/-! ### in -/
def inT (x : D) (xs : List D) : Bool := xs.any fun y => eqT y x
def inD : D → D → Option D := fun x y => match y with
  | .node (.dct o t ks) xs => (lookD (.node (.dct o t ks) xs) x).map fun r => .bl r.isSome
  | .node (.lst _) xs => if x.dep 20 = true ∧ deps 19 xs = true then some (.bl (inT x xs)) else none
  | _ => none
def ninD : D → D → Option D := fun x y => match inD x y with
  | some (.bl b) => some (.bl (!b))
  | _ => none
theorem pys_any (x : D) : ∀ xs : List D, ((pys xs).any fun z => PyData.eqv z x.py) = inT x xs
  | [] => rfl
  | y :: ys => by
    rw [pys, List.any_cons, eqv_py, pys_any x ys]
    rfl
theorem od_in (hu : X.A.units + 65 < cLine) : OpD X (compareOp .In) inD := by
  intro pins s σ H v w vv ww Q I rv rw' h
  obtain ⟨x, y, B, rx, ry, bd, bn, d, e, q⟩ := h
  unfold inD at e
  split at e
  · rename_i o t ks xs
    cases el : lookD (.node (.dct o t ks) xs) x with
    | none => rw [el] at e; cases e
    | some oo =>
      rw [el] at e
      cases e
      obtain ⟨a, ov, rfl, g, m⟩ := look_rep el ry rx
      cases rw'
      have ei : ov.isSome = oo.isSome := by cases oo <;> cases ov <;> first | rfl | exact m.elim
      exact d_in (by omega) I g rv fun s' I' => ⟨.bl ov.isSome, H, I', rfl, by rw [ei]; exact q _ _ [] (Same.refl _) rep_bl fresh0 List.nodup_nil⟩
  · split at e
    · rename_i xs hh; cases e
      have hd : (D.node (.lst false) xs).dep 20 = true := hh.2
      obtain ⟨a, vs, rfl, ha, hr, _⟩ := ry.lstE
      have sy := shaped_py hd
      refine op_inD hu pins s σ H _ _ _ _ _ I rv rw' ⟨x.py, pys xs, dp_of 20 x v [] hh.1 rx, .lst (.inl ha) (dps_of 19 xs vs [] hh.2 hr), shaped_py hh.1, sy, ?_⟩
      rw [pys_any]
      exact q _ _ [] (Same.refl _) rep_bl fresh0 List.nodup_nil
    · cases e
  · cases e
theorem od_nin (hu : X.A.units + 65 < cLine) : OpD X (compareOp .NotIn) ninD := by
  intro pins s σ H v w vv ww Q I rv rw' h
  obtain ⟨x, y, B, rx, ry, bd, bn, d, e, q⟩ := h
  unfold ninD inD at e
  cases y with
  | node t xs =>
    cases t with
    | dct o t ks =>
      have e1 : (match (lookD (.node (.dct o t ks) xs) x).map fun r => D.bl r.isSome with | some (.bl b) => some (D.bl (!b)) | _ => none) = some d := e
      cases el : lookD (.node (.dct o t ks) xs) x with
      | none => rw [el] at e1; cases e1
      | some oo =>
        rw [el] at e1
        cases e1
        obtain ⟨a, ov, rfl, g, m⟩ := look_rep el ry rx
        cases rw'
        have ei : ov.isSome = oo.isSome := by cases oo <;> cases ov <;> first | rfl | exact m.elim
        exact d_notIn (by omega) I g rv fun s' I' => ⟨.bl (!ov.isSome), H, I', rfl, by rw [ei]; exact q _ _ [] (Same.refl _) rep_bl fresh0 List.nodup_nil⟩
    | lst o =>
      have e1 : (match (if x.dep 20 = true ∧ deps 19 xs = true then some (D.bl (inT x xs)) else none) with | some (.bl b) => some (D.bl (!b)) | _ => none) = some d := e
      split at e1
      · rename_i b eb
        split at eb
        · rename_i hh; cases eb; cases e1
          have hd : (D.node (.lst false) xs).dep 20 = true := hh.2
          obtain ⟨a, vs, rfl, ha, hr, _⟩ := ry.lstE
          refine op_notInD hu pins s σ H _ _ _ _ _ I rv rw' ⟨x.py, pys xs, dp_of 20 x v [] hh.1 rx, .lst (.inl ha) (dps_of 19 xs vs [] hh.2 hr), shaped_py hh.1, shaped_py hd, ?_⟩
          rw [pys_any]
          exact q _ _ [] (Same.refl _) rep_bl fresh0 List.nodup_nil
        · cases eb
      · cases e1
    | tup => cases e
    | ins _ _ _ => cases e
    | io _ _ _ => cases e
    | exc _ => cases e
    | xd _ => cases e
  | non => cases e
  | bl _ => cases e
  | int _ => cases e
  | str _ => cases e
/-! ### built-in functions -/
def lenD : List D → Option D
  | [.node (.lst _) xs] => some (.int xs.length)
  | [.node .tup xs] => some (.int xs.length)
  | [.str z] => if z.length ≤ sizeLine then some (.int z.length) else none
  | [.node (.dct _ _ _) xs] => some (.int xs.length)
  | _ => none
theorem reps1 {mg : Str → Option Value} {H : Hp} {B : Addr → Prop} {x : D} {vs : List V} (r : Reps mg H B [x] vs []) : ∃ v, vs = [v] ∧ Rep mg H B x v [] := by
  rw [Reps] at r
  obtain ⟨v, ws, a1, a2, rfl, e2, h1, h2⟩ := r
  rw [Reps] at h2
  obtain ⟨z1, z2⟩ := List.append_eq_nil_iff.mp e2.symm
  subst z1
  exact ⟨v, by rw [h2.1], h1⟩
theorem reps2 {mg : Str → Option Value} {H : Hp} {B : Addr → Prop} {x y : D} {vs : List V} (r : Reps mg H B [x, y] vs []) : ∃ v w, vs = [v, w] ∧ Rep mg H B x v [] ∧ Rep mg H B y w [] := by
  rw [Reps] at r
  obtain ⟨v, ws, a1, a2, rfl, e2, h1, h2⟩ := r
  obtain ⟨z1, z2⟩ := List.append_eq_nil_iff.mp e2.symm
  subst z1 z2
  obtain ⟨w, rfl, h3⟩ := reps1 h2
  exact ⟨v, w, rfl, h1, h3⟩
theorem cd_len : CallD X (.builtin "len") lenD := by
  intro pins s σ H vs us Q I r h
  obtain ⟨xs, B, rx, bd, bn, d, e, q⟩ := h
  unfold lenD at e
  split at e
  · obtain ⟨v, rfl, r1⟩ := reps1 rx; cases e
    obtain ⟨a, ws, rfl, ha, hr, _⟩ := r1.lstE
    exact call_len_seq pins s σ H _ _ _ I r ⟨a, ws, rfl, .inl (.inl ha), by rw [← hr.length]; exact q _ _ [] (Same.refl _) rep_int fresh0 List.nodup_nil⟩
  · obtain ⟨v, rfl, r1⟩ := reps1 rx; cases e
    obtain ⟨a, ws, rfl, ha, hr⟩ := r1.tupE
    exact call_len_seq pins s σ H _ _ _ I r ⟨a, ws, rfl, .inr (.of ha), by rw [← hr.length]; exact q _ _ [] (Same.refl _) rep_int fresh0 List.nodup_nil⟩
  · obtain ⟨v, rfl, r1⟩ := reps1 rx
    obtain ⟨rfl, _⟩ := r1
    split at e
    · rename_i hz; cases e
      exact call_len_str pins s σ H _ _ _ I r ⟨_, rfl, hz, q _ _ [] (Same.refl _) rep_int fresh0 List.nodup_nil⟩
    · cases e
  · rename_i o t ks ys
    obtain ⟨v, rfl, r1⟩ := reps1 rx; cases e
    obtain ⟨a, ws, uo, rfl, l, dd, rd, rr, _⟩ := r1.dctE
    obtain ⟨u, rfl, ru⟩ := vals1 r
    obtain rfl : u = .ref a := ru
    cases t with
    | false =>
      obtain ⟨k', rfl, rfl⟩ := dd
      rw [List.length_map] at l
      have el : (k'.zip ws).length = ys.length := by rw [List.length_zip, ← rr.length]; omega
      refine d_len I rd fun t s' I' => ⟨.int (k'.zip ws).length, H, I', ⟨t, rfl⟩, ?_⟩
      rw [el]
      exact q _ _ [] (Same.refl _) rep_int fresh0 List.nodup_nil
    | true =>
      obtain ⟨k', rfl, rfl⟩ := dd
      rw [List.length_map] at l
      have el : (k'.zip ws).length = ys.length := by rw [List.length_zip, ← rr.length]; omega
      obtain ⟨z, hd, zs, rel, dd⟩ := dt_rd I.hok rd
      have hl : (k'.zip ws).length = zs.length := Paired.length rel
      refine call_len_dictH hd dd (by rw [← hl]; rw [sizeLine_eq] at z; omega) ?_
      rw [← hl, el]
      exact ⟨.int ys.length, H, I.tok _, ⟨_, rfl⟩, q _ _ [] (Same.refl _) rep_int fresh0 List.nodup_nil⟩
  · cases e
def absD : List D → Option D
  | [.int i] => some (.int (if i < 0 then -i else i))
  | _ => none
theorem cd_abs : CallD X (.builtin "abs") absD := by
  intro pins s σ H vs us Q I r h
  obtain ⟨xs, B, rx, bd, bn, d, e, q⟩ := h
  unfold absD at e
  split at e
  · obtain ⟨v, rfl, r1⟩ := reps1 rx; cases e; obtain ⟨rfl, _⟩ := r1
    exact call_abs pins s σ H _ _ _ I r ⟨_, rfl, q _ _ [] (Same.refl _) rep_int fresh0 List.nodup_nil⟩
  · cases e
def int1D : List D → Option D
  | [.int i] => some (.int i)
  | [.bl b] => some (.int (if b then 1 else 0))
  | _ => none
theorem cd_int1 : CallD X (.type "int") int1D := by
  intro pins s σ H vs us Q I r h
  obtain ⟨xs, B, rx, bd, bn, d, e, q⟩ := h
  unfold int1D at e
  split at e
  · obtain ⟨v, rfl, r1⟩ := reps1 rx; cases e; obtain ⟨rfl, _⟩ := r1
    exact call_int1 pins s σ H _ _ _ I r (.inl ⟨_, rfl, q _ _ [] (Same.refl _) rep_int fresh0 List.nodup_nil⟩)
  · obtain ⟨v, rfl, r1⟩ := reps1 rx; cases e; obtain ⟨rfl, _⟩ := r1
    exact call_int1 pins s σ H _ _ _ I r (.inr ⟨_, rfl, q _ _ [] (Same.refl _) rep_int fresh0 List.nodup_nil⟩)
  · cases e
/-- the greatest, the least of a list, of two -/
def maxI : List D → Option (List Int)
  | [] => some []
  | .int i :: xs => (maxI xs).map fun l => i :: l
  | _ => none
theorem maxI_rep {mg : Str → Option Value} {H : Hp} {B : Addr → Prop} : ∀ {xs : List D} {ns : List Int} {vs : List V} {as : List Addr}, maxI xs = some ns → Reps mg H B xs vs as → vs = ns.map V.int
  | [], ns, vs, as, h, r => by
    rw [Reps] at r
    cases h; exact r.1
  | .int i :: xs, ns, vs, as, h, r => by
    rw [Reps] at r
    obtain ⟨v, ws, a1, a2, rfl, _, h1, h2⟩ := r
    rw [maxI] at h
    cases e : maxI xs with
    | none => rw [e] at h; cases h
    | some l =>
      rw [e] at h
      cases h
      rw [h1.1, maxI_rep e h2]
      rfl
  | .non :: xs, ns, vs, as, h, r => by cases h
  | .bl _ :: xs, ns, vs, as, h, r => by cases h
  | .str _ :: xs, ns, vs, as, h, r => by cases h
  | .node _ _ :: xs, ns, vs, as, h, r => by cases h
def maxD : List D → Option D
  | [.int i, .int j] => some (.int (max i j))
  | [.node (.lst _) xs] => (maxI xs).bind fun ns => ns.max?.map .int
  | _ => none
def minD : List D → Option D
  | [.int i, .int j] => some (.int (min i j))
  | [.node (.lst _) xs] => (maxI xs).bind fun ns => ns.min?.map .int
  | _ => none
theorem cd_max (hc : X.calm = true) : CallD X (.builtin "max") maxD := by
  intro pins s σ H vs us Q I r h
  obtain ⟨xs, B, rx, bd, bn, d, e, q⟩ := h
  unfold maxD at e
  split at e
  · rename_i i j
    obtain ⟨v, w, rfl, r1, r2⟩ := reps2 rx; cases e; obtain ⟨rfl, _⟩ := r1; obtain ⟨rfl, _⟩ := r2
    refine call_max2 hc pins s σ H _ _ _ I r ⟨i, j, rfl, ?_⟩
    have : (if j > i then j else i) = max i j := by rw [Int.max_def]; split <;> split <;> omega
    rw [this]
    exact q _ _ [] (Same.refl _) rep_int fresh0 List.nodup_nil
  · rename_i o xs
    obtain ⟨v, rfl, r1⟩ := reps1 rx
    obtain ⟨a, ws, rfl, ha, hr, _⟩ := r1.lstE
    cases em : maxI xs with
    | none => rw [em] at e; cases e
    | some ns =>
      rw [em] at e
      cases ex : ns.max? with
      | none => rw [show (some ns).bind (fun ns => ns.max?.map D.int) = ns.max?.map D.int from rfl, ex] at e; cases e
      | some m =>
        rw [show (some ns).bind (fun ns => ns.max?.map D.int) = ns.max?.map D.int from rfl, ex] at e
        cases e
        have ew := maxI_rep em hr
        subst ew
        obtain ⟨q1, q2⟩ := List.max?_eq_some_iff.mp ex
        refine cr_max hc pins s σ H _ _ _ I r ⟨a, ns, rfl, .inl ha, List.length_pos_of_mem q1, fun m' h1 h2 => ?_⟩
        have : m' = m := Int.le_antisymm (q2 m' h1) (h2 m q1)
        rw [this]
        exact q _ _ [] (Same.refl _) rep_int fresh0 List.nodup_nil
  · cases e
theorem cd_min (hc : X.calm = true) : CallD X (.builtin "min") minD := by
  intro pins s σ H vs us Q I r h
  obtain ⟨xs, B, rx, bd, bn, d, e, q⟩ := h
  unfold minD at e
  split at e
  · rename_i i j
    obtain ⟨v, w, rfl, r1, r2⟩ := reps2 rx; cases e; obtain ⟨rfl, _⟩ := r1; obtain ⟨rfl, _⟩ := r2
    refine call_min2 hc pins s σ H _ _ _ I r ⟨i, j, rfl, ?_⟩
    have : (if j < i then j else i) = min i j := by rw [Int.min_def]; split <;> split <;> omega
    rw [this]
    exact q _ _ [] (Same.refl _) rep_int fresh0 List.nodup_nil
  · rename_i o xs
    obtain ⟨v, rfl, r1⟩ := reps1 rx
    obtain ⟨a, ws, rfl, ha, hr, _⟩ := r1.lstE
    cases em : maxI xs with
    | none => rw [em] at e; cases e
    | some ns =>
      rw [em] at e
      cases ex : ns.min? with
      | none => rw [show (some ns).bind (fun ns => ns.min?.map D.int) = ns.min?.map D.int from rfl, ex] at e; cases e
      | some m =>
        rw [show (some ns).bind (fun ns => ns.min?.map D.int) = ns.min?.map D.int from rfl, ex] at e
        cases e
        have ew := maxI_rep em hr
        subst ew
        obtain ⟨q1, q2⟩ := List.min?_eq_some_iff.mp ex
        refine cr_min hc pins s σ H _ _ _ I r ⟨a, ns, rfl, .inl ha, List.length_pos_of_mem q1, fun m' h1 h2 => ?_⟩
        have : m' = m := Int.le_antisymm (h2 m q1) (q2 m' h1)
        rw [this]
        exact q _ _ [] (Same.refl _) rep_int fresh0 List.nodup_nil
  · cases e
/-- list(x), tuple(x) of a list or tuple -/
def listD : List D → Option D
  | [.node (.lst _) xs] => some (.lst true xs)
  | [.node .tup xs] => some (.lst true xs)
  | [.node (.dct _ _ ks) _] => some (.lst true (ks.map kyD))
  | _ => none
/-- the keys of a dict, as they stand on the heap -/
theorem rep_kyS {mg : Str → Option Value} {H : Hp} {B : Addr → Prop} : ∀ k : Key, Rep mg H B (kyS k) (kV k) []
  | .inl _ => rep_int
  | .inr _ => rep_str
theorem reps_kyS {mg : Str → Option Value} {H : Hp} {B : Addr → Prop} : ∀ ks : List Key, Reps mg H B (ks.map kyS) (ks.map kV) []
  | [] => Reps.nil
  | k :: ks => Reps.cons (as := []) (rep_kyS k) (reps_kyS ks)
theorem reps_keysK {mg : Str → Option Value} {H : Hp} {B : Addr → Prop} : ∀ ks : List Key, Reps mg H B ((ks.map Sum.inl).map kyD) (ks.map kV) []
  | [] => Reps.nil
  | k :: ks => Reps.cons (as := []) (rep_kyS k) (reps_keysK ks)
theorem reps_keysT {mg : Str → Option Value} {H : Hp} {B : Addr → Prop} (bd : BDom B H) : ∀ {ks : List (List Key)} {vs : List V} {bs : List Addr}, ks.length = vs.length → IsKeys H (ks.zip vs) bs → Reps mg H B ((ks.map Sum.inr).map kyD) (bs.map V.ref) []
  | [], [], bs, _, h => by
    cases h; exact Reps.nil
  | [], _ :: _, bs, l, h => by simp at l
  | _ :: _, [], bs, l, h => by simp at l
  | k :: ks, v :: vs, bs, l, h => by
    rw [List.zip_cons_cons] at h
    cases h with
    | @cons _ b _ bs hb t =>
      refine Reps.cons (as := []) (bs := []) ?_ (reps_keysT bd (by simpa using l) t)
      show Rep mg H B (.node .tup (k.map kyS)) (.ref b) []
      rw [Rep]
      refine ⟨b, k.map kV, [], rfl, hb, reps_kyS k, .inr ⟨rfl, fun z => ?_, rfl⟩⟩
      obtain ⟨o, ho, ht⟩ := bd b z
      exact ht _ (Option.some.inj (ho.symm.trans hb))
def tupleD : List D → Option D
  | [.node (.lst _) xs] => some (.tup xs)
  | [.node .tup xs] => some (.tup xs)
  | _ => none
theorem cd_list (hc : X.calm = true) : CallD X (.type "list") listD := by
  intro pins s σ H vs us Q I r h
  obtain ⟨xs, B, rx, bd, bn, d, e, q⟩ := h
  unfold listD at e
  split at e
  · obtain ⟨v, rfl, r1⟩ := reps1 rx; cases e
    obtain ⟨a, ws, rfl, ha, hr, _⟩ := r1.lstE
    exact call_list_of pins s σ H _ _ _ I r ⟨a, ws, rfl, .inl (.inl ha), fun p np => q _ _ [p] (same_new np) (rep_newlst np hr) (fresh1 np) nodup1⟩
  · obtain ⟨v, rfl, r1⟩ := reps1 rx; cases e
    obtain ⟨a, ws, rfl, ha, hr⟩ := r1.tupE
    exact call_list_of pins s σ H _ _ _ I r ⟨a, ws, rfl, .inr (.of ha), fun p np => q _ _ [p] (same_new np) (rep_newlst np hr) (fresh1 np) nodup1⟩
  · rename_i o t ks ys
    obtain ⟨v, rfl, r1⟩ := reps1 rx; cases e
    obtain ⟨a, ws, uo, rfl, l, dd, rd, rr, _⟩ := r1.dctE
    have lw := rr.length
    cases t with
    | false =>
      obtain ⟨k', rfl, rfl⟩ := dd
      rw [List.length_map] at l
      refine call_listD hc pins s σ H _ _ _ I r ⟨a, _, rfl, rd, fun p np => ?_⟩
      have ek : ((k'.zip ws).map fun kv => kV kv.1) = k'.map kV := by
        rw [show ((k'.zip ws).map fun kv => kV kv.1) = ((k'.zip ws).map Prod.fst).map kV from by rw [List.map_map]; rfl, List.map_fst_zip (by omega)]
      rw [ek]
      exact q _ _ [p] (same_new np) (rep_newlst np (reps_keysK k')) (fresh1 np) nodup1
    | true =>
      obtain ⟨k', rfl, rfl⟩ := dd
      rw [List.length_map] at l
      refine call_list_dT hc pins s σ H _ _ _ I r ⟨a, _, rfl, rd, fun p bs np hk => ?_⟩
      exact q _ _ [p] (same_new np) (rep_newlst np (reps_keysT bd (by omega) hk)) (fresh1 np) nodup1
  · cases e
theorem cd_tuple : CallD X (.type "tuple") tupleD := by
  intro pins s σ H vs us Q I r h
  obtain ⟨xs, B, rx, bd, bn, d, e, q⟩ := h
  unfold tupleD at e
  split at e
  · obtain ⟨v, rfl, r1⟩ := reps1 rx; cases e
    obtain ⟨a, ws, rfl, ha, hr, _⟩ := r1.lstE
    exact call_tuple_of pins s σ H _ _ _ I r ⟨a, ws, rfl, .inl ⟨.inl ha, fun p np => q _ _ [] (same_new np) (rep_newtup np bd hr) fresh0 List.nodup_nil⟩⟩
  · obtain ⟨v, rfl, r1⟩ := reps1 rx; cases e
    have r0 := r1
    obtain ⟨a, ws, rfl, ha, hr⟩ := r1.tupE
    exact call_tuple_of pins s σ H _ _ _ I r ⟨a, ws, rfl, .inr ⟨.of ha, q _ _ [] (Same.refl _) r0 fresh0 List.nodup_nil⟩⟩
  · cases e
/-- isinstance(x, T), T a built-in class -/
def D.ty : D → String
  | .non => "NoneType"
  | .bl _ => "bool"
  | .int _ => "int"
  | .str _ => "str"
  | .node .tup _ => "tuple"
  | .node (.lst _) _ => "list"
  | .node (.dct _ _ _) _ => "dict"
  | .node (.ins _ _ _) _ => ""
  | .node (.io _ _ _) _ => ""
  | .node (.exc _) _ => ""
  | .node (.xd _) _ => ""
def isiD (T : String) : D → Option D
  | .node (.ins _ _ _) _ => none
  | .node (.io _ _ _) _ => none
  | .node (.exc _) _ => none
  | .node (.xd _) _ => none
  | x => some (.bl (x.ty == T || (x.ty == "bool" && T == "int")))
theorem tyX_of {K : PySem.W.Frag} {mg : Str → Option Value} {H : Hp} {B : Addr → Prop} : ∀ {x : D} {v : V} {as : List Addr} {d : D} {T : String}, isiD T x = some d → Rep mg H B x v as → TyX K H v (.type x.ty) ∨ ∃ a u ks vs t, v = .ref a ∧ x.ty = "dict" ∧ Dobj u ks vs t ∧ Rd H a u
  | .non, v, as, d, T, _, r => by rw [r.1]; exact .inl (.base .non)
  | .bl _, v, as, d, T, _, r => by rw [r.1]; exact .inl (.base (.bl _))
  | .int _, v, as, d, T, _, r => by rw [r.1]; exact .inl (.base (.int _))
  | .str _, v, as, d, T, _, r => by rw [r.1]; exact .inl (.base (.str _))
  | .node .tup xs, v, as, d, T, _, r => by
    obtain ⟨a, vs, rfl, ha, hr⟩ := r.tupE
    exact .inl (.base (.tup ha))
  | .node (.lst o) xs, v, as, d, T, _, r => by
    rw [Rep] at r
    obtain ⟨a, vs, bs, rfl, hd, hr, _⟩ := r
    cases o with
    | true => exact .inl (.base (.lst hd))
    | false =>
      rcases hd with h | ⟨o, h⟩
      · exact .inl (.base (.lst h))
      · exact .inl (.base (.frz h))
  | .node (.dct o t ks) xs, v, as, d, T, _, r => by
    rw [Rep] at r
    obtain ⟨a, vs, bs, rfl, hd, hr, _⟩ := r
    cases o with
    | true => obtain ⟨_, u, dd, h⟩ := hd; exact .inr ⟨a, u, ks, vs, t, rfl, rfl, dd, .inl h⟩
    | false => obtain ⟨_, u, dd, h⟩ := hd; exact .inr ⟨a, u, ks, vs, t, rfl, rfl, dd, h⟩
  | .node (.ins _ _ _) xs, v, as, d, T, h, r => by cases h
  | .node (.io _ _ _) xs, v, as, d, T, h, r => by cases h
  | .node (.exc _) xs, v, as, d, T, h, r => by cases h
  | .node (.xd _) xs, v, as, d, T, h, r => by cases h
/-- isinstance(x, T) as a call of two values, the second the class -/
theorem call_isiTy {T : String} (hk : ∀ n ∈ ["NoneType", "bool", "int", "str", "tuple", "list", "dict"], kitB n T = some (n == T || (n == "bool" && T == "int"))) :
    CallR X (.builtin "isinstance") (fun vs H Q => ∃ v x d B, vs = [v, .ty T] ∧ Rep X.mg H B x v [] ∧ isiD T x = some d ∧ ∀ b, d = .bl b → Q (.bl b) H) := by
  intro pins s σ H xs us Q I r ⟨v, x, d, B, e, rx, ed, q⟩
  subst e
  have hn : ∃ b, d = .bl b ∧ kitB x.ty T = some b := by
    have key : ∀ n ∈ ["NoneType", "bool", "int", "str", "tuple", "list", "dict"], x.ty = n → d = .bl (n == T || (n == "bool" && T == "int")) → ∃ b, d = .bl b ∧ kitB x.ty T = some b := fun n hn e1 e2 => ⟨_, e2, by rw [e1]; exact hk n hn⟩
    cases x with
    | non => cases ed; exact key "NoneType" (by simp) rfl rfl
    | bl _ => cases ed; exact key "bool" (by simp) rfl rfl
    | int _ => cases ed; exact key "int" (by simp) rfl rfl
    | str _ => cases ed; exact key "str" (by simp) rfl rfl
    | node t ys =>
      cases t with
      | tup => cases ed; exact key "tuple" (by simp) rfl rfl
      | lst _ => cases ed; exact key "list" (by simp) rfl rfl
      | dct _ _ _ => cases ed; exact key "dict" (by simp) rfl rfl
      | ins _ _ _ => cases ed
      | io _ _ _ => cases ed
      | exc _ => cases ed
      | xd _ => cases ed
  obtain ⟨b, rfl, hb⟩ := hn
  obtain ⟨u1, u2, rfl, r1, r2⟩ := vals2 r
  cases (show u2 = Value.type T from r2)
  rcases tyX_of ed rx with ty | ⟨a, u, ks, vs, t, rfl, ety, dd, rd⟩
  · obtain ⟨P, Z, p, hx⟩ := kit_of I r1 ty
    exact PySem.W.kia_one Z I.kIn p (kit_ty hb) hx fun tk => ⟨.bl b, H, I.tok tk, rfl, q b rfl⟩
  · cases (show u1 = Value.ref a from r1)
    rw [ety] at hb
    have ob : ∃ o, s.heap.get? a = some o ∧ o.cls = .type "dict" := by
      cases t with
      | false =>
        obtain ⟨k', rfl, rfl⟩ := dd
        obtain ⟨_, _, ws, _, o, es, ep, h1, h2, _⟩ := (show ObjOk X.prog X.w H s.heap a (.dK _) from rd.ok I.hok)
        exact ⟨o, h1, h2.1⟩
      | true =>
        obtain ⟨k', rfl, rfl⟩ := dd
        obtain ⟨_, _, ws, _, o, es, ep, h1, h2, _⟩ := (show ObjOk X.prog X.w H s.heap a (.dT _) from rd.ok I.hok)
        exact ⟨o, h1, h2.1⟩
    exact PySem.W.kia_one PySem.W.kitx_dict I.kIn ob (kit_ty hb) (fun z => nomatch z) fun tk => ⟨.bl b, H, I.tok tk, rfl, q b rfl⟩
def misi (T : String) (m : En → Res D) : En → Res D := fun ρ => (m ρ).bind fun x => Res.of (isiD T x.frz)
theorem isiD_bl {T : String} {x d : D} (h : isiD T x = some d) : ∃ b, d = .bl b := by
  cases x with
  | node t xs => cases t <;> first | (cases h; exact ⟨_, rfl⟩) | cases h
  | _ => cases h; exact ⟨_, rfl⟩
theorem de_isi {T : Str} {TT : String} {p p3 : Pos} (ha : DE X W a fa ma) (hk : ∀ n ∈ ["NoneType", "bool", "int", "str", "tuple", "list", "dict"], kitB n TT = some (n == TT || (n == "bool" && TT == "int")))
    (hm : X.mg "isinstance" = none) (hmT : X.mg T = none) (hvT : bootBuiltins T = some (.type TT)) (hg : Gl X "isinstance" := by rfl) (hgT : Gl X T := by rfl) (hnT : T ≠ "__name__" := by decide) (hdT : (T == ("__debug__" : Str)) = false := by decide)
    (he : starEach [a, .Name T p3] X.env = (false, eval a X.env) :: starEach [.Name T p3] X.env := by rfl) (he2 : starEach [.Name T p3] X.env = (false, eval (.Name T p3) X.env) :: starEach [] X.env := by rfl)
    (hpl : (backTo pos (starEach [.Name T p3] X.env)).any (·.1) = false := by rfl) : DE X W (.Call (.Name "isinstance" p) [a, .Name T p3] [] pos) fa (misi TT ma) := by
  refine PE.mk (pe_callB (call_isiTy (T := TT) hk) hg hm (by decide +kernel) (pa_cons ha (pa_cons (pe_bltn (v := .ty TT) hgT hmT hvT rfl hnT hdT) pa_nil he2) he) (by decide) (by decide) he hpl) fun σ H Q bn ⟨ρ, B, en, bd, hp⟩ => ?_
  refine Tv.bind en bd hp fun x _ v H1 as bn1 s1 r1 f1 n1 hp1 => ?_
  cases ei : isiD TT x.frz with
  | none => rw [ei] at hp1; exact hp1.elim
  | some d =>
    rw [ei] at hp1
    refine ⟨v, x.frz, d, B, rfl, r1.view bd f1, ei, fun b hb bn => ?_⟩
    subst hb
    exact post_val hp1 rep_bl bn
end
end Ev

/-! Ev, part F: calls of defs, what is walked, comprehensions. -/
namespace Ev
open PySem PySem.Spec L2
open PyProof.Rows hiding St
section
variable {X : Cx} {W : WX} {e a b : Expr} {es : List Expr} {fv fa fb fc : List Nat} {m ma mb mc : En → Res D} {ms : List (En → Res D)} {pos : Pos} {x : Str} {p : Pos} {f : List D → Res D} {k n : Nat} {fA : Addr} {fd : FuncData} {ps : List Str}
theorem de_call (F : FnOk X.prog X.w X.K X.mg X.base (L2.CX X.prog X.w) k fA fd ps (spD X.mg n f)) (hr : Room k X.A) (hm : X.mg x = some (.ref fA)) (hk : PySem.W.keepIn X.K (.ref fA) = true) (hb : Binds X.K fd ps []) (tk : Takes X W)
    (ha : DA X W (e :: es) fa (seqs ms)) (hn : ms.length = n := by rfl) (hg : Gl X x := by rfl) (hdb : (x == ("__debug__" : Str)) = false := by decide) (he : starEach (e :: es) X.env = (false, eval e X.env) :: starEach es X.env := by rfl)
    (hpl : (backTo pos (starEach es X.env)).any (·.1) = false := by rfl) : DE X W (.Call (.Name x p) (e :: es) [] pos) fa (mfn f ms) :=
  PE.mk (pe_callSD (E := fun σ c od H' => W c od σ H') F hr hg hm hk hb .nil (fun σ => passAt tk σ) ha hdb he hpl) fun σ H Q bn ⟨ρ, B, en, bd, hp⟩ => fnK hn hp en bd
theorem de_call0 (F : FnOk X.prog X.w X.K X.mg X.base (L2.CX X.prog X.w) k fA fd ps (spD X.mg 0 f)) (hr : Room k X.A) (hm : X.mg x = some (.ref fA)) (hk : PySem.W.keepIn X.K (.ref fA) = true) (hb : Binds X.K fd ps [])
    (hx : Passes (L2.CX X.prog X.w) X (fun _ _ _ => False)) (hne : ∀ y, f [] ≠ .ex y) (hg : Gl X x := by rfl) (hdb : (x == ("__debug__" : Str)) = false := by decide) : DE X W (.Call (.Name x p) [] [] pos) [] (mfn f []) := by
  refine PE.mk (pe_call0 F hr hg hm hk hb .nil hx hdb) fun σ H Q bn ⟨ρ, B, en, bd, hp⟩ => ?_
  refine ⟨[], B, rfl, Reps.nil, bd, ?_⟩
  have hp1 : Post (Rep X.mg) W X.mg B σ H (f []) Q := hp
  show (match f [] with | .ok d => _ | .ex x => _ | .no => _)
  cases e : f [] with
  | ok d => rw [e] at hp1; exact fun v H' as s r f n bn => hp1 v H' as bn s r f n
  | ex y => exact absurd e (hne y)
  | no => rw [e] at hp1; exact hp1
end
/-! ### what is walked -/
/-- all that stands outside of B stands still -/
structure Kp (B : Addr → Prop) (H0 H1 : Hp) : Prop where
  kp : ∀ b o, H0 b = some o → ¬ B b → (n : NTb o := by first | assumption | (intro _ z; cases z; done) | exact NTb.dobj (by assumption) | exact codeR_nt _) → H1 b = some o
instance {B : Addr → Prop} {H H' : Hp} : CoeFun (Kp B H H') (fun _ => ∀ a o, H a = some o → ¬ B a → (n : NTb o := by first | assumption | (intro _ z; cases z; done) | exact NTb.dobj (by assumption) | exact codeR_nt _) → H' a = some o) := ⟨fun s => @Kp.kp _ _ _ s⟩
theorem Kp.refl {B : Addr → Prop} {H : Hp} : Kp B H H := ⟨fun _ _ e _ _ => e⟩
theorem Kp.of {B : Addr → Prop} {H H1 : Hp} (s : Same H H1) : Kp B H H1 := ⟨fun b o e _ n => s.kp b o e n⟩
structure ItOk (mg : Str → Option Value) (B : Addr → Prop) (H0 : Hp) (J : It) (ds : List D) : Prop where
  go : ∀ H1, Kp B H0 H1 → ∀ (i : Nat) (d : D), ds[i]? = some d → J.go i H1 ∧ ∀ x H2, J.yld i H1 x H2 → Same H1 H2 ∧ ∀ B1, (∀ a, H0 a ≠ none → ¬ B a → ¬ B1 a) → BDom B1 H1 → Rep mg H2 B1 d.frz x []
  stop : ∀ H1, Kp B H0 H1 → J.stop ds.length H1
  len : ds.length ≤ sizeLine
def RpI (mg : Str → Option Value) : RpT (List D) It := fun H B ds J as => as = [] ∧ ItOk mg B H J ds
section
variable {X : Cx} {W : WX} {e a b c tg : Expr} {es : List Expr} {fv fa fb fc : List Nat} {m ma mb mc : En → Res D} {ms : List (En → Res D)} {pos p : Pos}
abbrev DI (X : Cx) (W : WX) (tg it : Expr) (fv : List Nat) (m : En → Res (List D)) : Prop := PI X tg it (Tv (RpI X.mg) W X.mg fv m)
theorem PI.mk {it : Expr} {wi wi' : TI} (h : PI X tg it wi) (hh : ∀ σ H R, Bnd H → wi' σ H R → wi σ H fun J H' => Bnd H' → R J H') : PI X tg it wi' := ⟨fun pins s σ H R I q => by
  refine thn (h.run pins s σ H _ I (hh σ H R (bnd_of I) q)) fun v s1 h1 => thn h1 fun itv s2 ⟨it, fp, tn, J, H', e, I', T, t0, f, r⟩ => ⟨it, fp, tn, J, H', e, I', T, t0, f, r (bnd_of I')⟩⟩
theorem Reps.kp {mg : Str → Option Value} {H0 H1 : Hp} {B B1 : Addr → Prop} {xs : List D} {vs : List V} (r : Reps mg H0 B xs vs []) (k : Kp B H0 H1) (b : ∀ a, H0 a ≠ none → ¬ B a → ¬ B1 a) : Reps mg H1 B1 xs vs [] :=
  Reps.stepN r (fun c o e n h => k.kp c o e (h.elim (fun z => nomatch z) id) n) b
theorem Rep.kp {mg : Str → Option Value} {H0 H1 : Hp} {B B1 : Addr → Prop} {d : D} {v : V} (r : Rep mg H0 B d v []) (k : Kp B H0 H1) (b : ∀ a, H0 a ≠ none → ¬ B a → ¬ B1 a) : Rep mg H1 B1 d v [] :=
  Rep.stepN r (fun c o e n h => k.kp c o e (h.elim (fun z => nomatch z) id) n) b
theorem Rd.kp {H0 H1 : Hp} {B : Addr → Prop} {a : Addr} {u : HO} (h : Rd H0 a u) (k : Kp B H0 H1) (n : ¬ B a) (nu : NTb u := by first | assumption | (intro _ z; cases z; done) | exact NTb.dobj (by assumption)) : Rd H1 a u := Rd.imp nu (fun o e no => k.kp a o e n no) h
/-- the items of a list, tuple -/
def itemsD : D → Option (List D)
  | .node (.lst _) xs => some xs
  | .node .tup xs => some xs
  | _ => none
def miter (m : En → Res D) : En → Res (List D) := fun ρ => (m ρ).bind fun x => Res.of (itemsD x.frz)
def lstItems : D → Option (List D)
  | .node (.lst _) xs => some xs
  | _ => none
def tupItems : D → Option (List D)
  | .node .tup xs => some xs
  | _ => none
def mitl (m : En → Res D) : En → Res (List D) := fun ρ => (m ρ).bind fun x => Res.of (lstItems x.frz)
def mitt (m : En → Res D) : En → Res (List D) := fun ρ => (m ρ).bind fun x => Res.of (tupItems x.frz)
theorem frz_lst {x : D} {xs : List D} (h : lstItems x.frz = some xs) : x.frz = .lst false xs ∧ frzs xs = xs := by
  cases x with
  | node t ys =>
    cases t with
    | lst o =>
      rw [D.frz] at h
      have e : frzs ys = xs := Option.some.inj h
      rw [D.frz, ← e, frzs_frzs]
      exact ⟨rfl, rfl⟩
    | tup => cases h
    | dct _ _ _ => cases h
    | ins _ _ _ => cases h
    | io _ _ _ => cases h
    | exc _ => cases h
    | xd _ => cases h
  | non => cases h
  | bl _ => cases h
  | int _ => cases h
  | str _ => cases h
theorem frz_tup {x : D} {xs : List D} (h : tupItems x.frz = some xs) : x.frz = .tup xs ∧ frzs xs = xs := by
  cases x with
  | node t ys =>
    cases t with
    | tup =>
      rw [D.frz] at h
      have e : frzs ys = xs := Option.some.inj h
      rw [D.frz, ← e, frzs_frzs]
      exact ⟨rfl, rfl⟩
    | lst o => cases h
    | dct _ _ _ => cases h
    | ins _ _ _ => cases h
    | io _ _ _ => cases h
    | exc _ => cases h
    | xd _ => cases h
  | non => cases h
  | bl _ => cases h
  | int _ => cases h
  | str _ => cases h
theorem frzs_get {xs : List D} (h : frzs xs = xs) {i : Nat} {d : D} (e : xs[i]? = some d) : d.frz = d := by
  have : (xs.map D.frz)[i]? = some d := by rw [← frzs_map, h]; exact e
  rw [List.getElem?_map, e] at this
  exact Option.some.inj this
theorem itl_ok {K : PySem.W.Frag} {mg : Str → Option Value} {B : Addr → Prop} {H : Hp} {a : Addr} {vs : List V} {xs : List D} (hf : frzs xs = xs) (ha : Rd H a (.lst vs)) (hr : Reps mg H B xs vs []) (nb : ¬ B a) (hz : vs.length ≤ sizeLine) : ItOk mg B H (Itl K a) xs where
  go := fun H1 k i d e => by
    obtain ⟨v, hv, r⟩ := hr.get e
    have hs : SqL K H1 a vs := .inl (Rd.kp ha k nb)
    refine ⟨⟨vs, v, hs, hv⟩, fun x H2 ⟨e2, y⟩ => ?_⟩
    subst e2
    refine ⟨Same.refl _, fun B1 hb _ => ?_⟩
    have : v = x := Option.some.inj (hv.symm.trans (y vs hs))
    rw [← this, frzs_get hf e]
    exact r.kp k hb
  stop := fun H1 k => ⟨vs, .inl (Rd.kp ha k nb), by rw [hr.length]; exact Nat.le_refl _⟩
  len := by rw [hr.length]; exact hz
theorem post_it {B : Addr → Prop} {σ : St} {H : Hp} {ds : List D} {J : It} {Q : It → Hp → Prop} (hp : Post (RpI X.mg) W X.mg B σ H (.ok ds) Q) (bn : Bnd H) (h : ItOk X.mg B H J ds) : Q J H := hp J H [] bn (Same.refl _) ⟨rfl, h⟩ fresh0 List.nodup_nil
theorem di_list (h : DE X W e fa ma) : DI X W tg e fa (mitl ma) := by
  refine PI.mk (pi_list h) fun σ H R bn ⟨ρ, B, en, bd, hp⟩ => ?_
  refine Tv.bind en bd hp fun x _ v H1 as bn1 s1 r1 f1 n1 hp1 => ?_
  cases ex : lstItems x.frz with
  | none => rw [ex] at hp1; exact hp1.elim
  | some xs =>
    rw [ex] at hp1
    have rv := r1.view bd f1
    obtain ⟨e1, e2⟩ := frz_lst ex
    rw [e1] at rv
    obtain ⟨a, vs, rfl, ha, hr, nb⟩ := rv.lstE
    exact ⟨a, rfl, ⟨vs, .inl ha⟩, fun bn => post_it hp1 bn (itl_ok e2 ha hr nb (bn1.1 _ _ ha))⟩
theorem di_tup (h : DE X W e fa ma) : DI X W tg e fa (mitt ma) := by
  refine PI.mk (pi_tup h) fun σ H R bn ⟨ρ, B, en, bd, hp⟩ => ?_
  refine Tv.bind en bd hp fun x _ v H1 as bn1 s1 r1 f1 n1 hp1 => ?_
  cases ex : tupItems x.frz with
  | none => rw [ex] at hp1; exact hp1.elim
  | some xs =>
    rw [ex] at hp1
    have rv := r1.view bd f1
    obtain ⟨e1, e2⟩ := frz_tup ex
    rw [e1] at rv
    have rv' := rv
    rw [Rep] at rv'
    obtain ⟨a, vs, bs, rfl, hd, hr, q⟩ := rv'
    have ha : H1 a = some (.tup vs) := hd
    rcases q with ⟨z, _⟩ | ⟨_, nb, z⟩
    · cases z
    subst z
    refine ⟨a, rfl, ⟨vs, .of ha⟩, fun bn => post_it hp1 bn ⟨fun H2 k i d ed => ?_, fun H2 k => ⟨vs, .of (k a _ ha nb), by rw [hr.length]; exact Nat.le_refl _⟩, by rw [hr.length]; exact bn1.2.1 _ _ (.inl ha)⟩⟩
    obtain ⟨w, hw, r⟩ := hr.get ed
    have hs : SqT X.K H2 a vs := .of (k a _ ha nb)
    refine ⟨⟨vs, w, hs, hw⟩, fun y H3 ⟨e3, hy⟩ => ?_⟩
    subst e3
    refine ⟨Same.refl _, fun B1 hb _ => ?_⟩
    have : w = y := Option.some.inj (hw.symm.trans (hy vs hs))
    rw [← this, frzs_get e2 ed]
    exact r.kp k hb
/-- range -/
def rngD (lo : Int) (n : Nat) : List D := (List.range n).map fun i => .int (lo + (i : Nat))
theorem rng_get {lo : Int} {n i : Nat} {d : D} (e : (rngD lo n)[i]? = some d) : i < n ∧ d = .int (lo + i) := by
  unfold rngD at e
  rw [List.getElem?_map] at e
  cases er : (List.range n)[i]? with
  | none => rw [er] at e; cases e
  | some j =>
    rw [er] at e
    obtain ⟨h1, h2⟩ := List.getElem?_eq_some_iff.mp er
    rw [List.length_range] at h1
    rw [List.getElem_range] at h2
    cases e
    exact ⟨h1, by rw [h2]⟩
theorem itr_ok {mg : Str → Option Value} {B : Addr → Prop} {H : Hp} {lo : Int} {n : Nat} (hz : n ≤ sizeLine) : ItOk mg B H (Itr lo n) (rngD lo n) where
  go := fun H1 k i d e => by
    obtain ⟨hi, rfl⟩ := rng_get e
    refine ⟨hi, fun x H2 ⟨e2, y⟩ => ?_⟩
    subst e2 y
    exact ⟨Same.refl _, fun B1 _ _ => rep_int⟩
  stop := fun H1 k => by
    show n ≤ (rngD lo n).length
    unfold rngD
    rw [List.length_map, List.length_range]
    exact Nat.le_refl _
  len := by
    unfold rngD
    rw [List.length_map, List.length_range]
    exact hz
def rangeD : List D → Option (List D)
  | [.int j] => if j ≤ 16777216 ∧ -(2 ^ 62) ≤ j then some (rngD 0 j.toNat) else none
  | [.int i, .int j] => if (-(2 ^ 62) ≤ i ∧ i < 2 ^ 62 ∧ -(2 ^ 62) ≤ j ∧ j < 2 ^ 62) ∧ j - i ≤ 16777216 then some (rngD i (j - i).toNat) else none
  | _ => none
def mrange (ms : List (En → Res D)) : En → Res (List D) := fun ρ => (seqs ms ρ).bind fun xs => Res.of (rangeD (frzs xs))
theorem frzs1 {m1 : En → Res D} {ρ : En} {xs : List D} (h : seqs [m1] ρ = .ok xs) : ∃ x, xs = [x] := by
  have := seqs_len h
  match xs, this with
  | [x], _ => exact ⟨x, rfl⟩
theorem di_range1 {m1 : En → Res D} (hm : X.mg "range" = none) (ha : DA X W [a] fa (seqs [m1])) (hg : Gl X "range" := by rfl) (hs : starEach [a] X.env = [(false, eval a X.env)] := by rfl) : DI X W tg (.Call (.Name "range" p) [a] [] pos) fa (mrange [m1]) := by
  refine PI.mk (pi_range1 hg hm ha hs) fun σ H R bn ⟨ρ, B, en, bd, hp⟩ => ?_
  refine Tv.bind en bd hp fun xs exs vs H1 as bn1 s1 r1 f1 n1 hp1 => ?_
  have rv := r1.view bd f1
  obtain ⟨x, rfl⟩ := frzs1 exs
  obtain ⟨v, rfl, r2⟩ := reps1 rv
  have hp2 : Post (RpI X.mg) W X.mg B σ H1 (Res.of (rangeD [x.frz])) R := hp1
  generalize x.frz = y at r2 hp2
  cases y with
  | int j =>
    obtain ⟨rfl, _⟩ := r2
    unfold rangeD at hp2
    dsimp only at hp2
    split at hp2
    · rename_i hh
      refine ⟨j, rfl, hh.2, by omega, fun bn => post_it hp2 bn (itr_ok ?_)⟩
      rw [sizeLine_eq]
      omega
    · exact hp2.elim
  | non => exact hp2.elim
  | bl _ => exact hp2.elim
  | str _ => exact hp2.elim
  | node _ _ => exact hp2.elim
theorem frzs2 {m1 m2 : En → Res D} {ρ : En} {xs : List D} (h : seqs [m1, m2] ρ = .ok xs) : ∃ x y, xs = [x, y] := by
  have := seqs_len h
  match xs, this with
  | [x, y], _ => exact ⟨x, y, rfl⟩
theorem di_range2 {m1 m2 : En → Res D} (hm : X.mg "range" = none) (ha : DA X W [a, b] fa (seqs [m1, m2])) (hg : Gl X "range" := by rfl) (hs : starEach [a, b] X.env = [(false, eval a X.env), (false, eval b X.env)] := by rfl) (hs2 : starEach [b] X.env = [(false, eval b X.env)] := by rfl) :
    DI X W tg (.Call (.Name "range" p) [a, b] [] pos) fa (mrange [m1, m2]) := by
  refine PI.mk (pi_range2 hg hm ha hs hs2) fun σ H R bn ⟨ρ, B, en, bd, hp⟩ => ?_
  refine Tv.bind en bd hp fun xs exs vs H1 as bn1 s1 r1 f1 n1 hp1 => ?_
  have rv := r1.view bd f1
  obtain ⟨x, y, rfl⟩ := frzs2 exs
  obtain ⟨v, w, rfl, r2, r3⟩ := reps2 rv
  have hp2 : Post (RpI X.mg) W X.mg B σ H1 (Res.of (rangeD [x.frz, y.frz])) R := hp1
  generalize x.frz = x at r2 hp2
  generalize y.frz = y at r3 hp2
  cases x with
  | int i =>
    obtain ⟨rfl, _⟩ := r2
    cases y with
    | int j =>
      obtain ⟨rfl, _⟩ := r3
      unfold rangeD at hp2
      dsimp only at hp2
      split at hp2
      · rename_i hh
        refine ⟨i, j, rfl, hh.1, fun bn => post_it hp2 bn (itr_ok ?_)⟩
        rw [sizeLine_eq]
        omega
      · exact hp2.elim
    | non => exact hp2.elim
    | bl _ => exact hp2.elim
    | str _ => exact hp2.elim
    | node _ _ => exact hp2.elim
  | non => exact hp2.elim
  | bl _ => exact hp2.elim
  | str _ => exact hp2.elim
  | node _ _ => exact hp2.elim
/-- a text, sign by sign -/
def strItems : D → Option (List D)
  | .str x => if x.cps.size ≤ sizeLine then some (x.cps.toList.map fun c => .str ⟨#[c]⟩) else none
  | _ => none
def mits (m : En → Res D) : En → Res (List D) := fun ρ => (m ρ).bind fun x => Res.of (strItems x.frz)
theorem di_str (h : DE X W e fa ma) : DI X W tg e fa (mits ma) := by
  refine PI.mk (pi_str h) fun σ H R bn ⟨ρ, B, en, bd, hp⟩ => ?_
  refine Tv.bind en bd hp fun x _ v H1 as bn1 s1 r1 f1 n1 hp1 => ?_
  have r2 := r1.view bd f1
  generalize x.frz = y at r2 hp1
  cases y with
  | str z =>
    obtain ⟨rfl, _⟩ := r2
    unfold strItems at hp1
    dsimp only at hp1
    split at hp1
    · rename_i hz
      refine ⟨z, rfl, fun bn => post_it hp1 bn ⟨fun H2 k i d ed => ?_, fun H2 k => ?_, by simpa using hz⟩⟩
      · rw [List.getElem?_map] at ed
        cases ec : z.cps.toList[i]? with
        | none => rw [ec] at ed; cases ed
        | some c =>
          rw [ec] at ed
          cases ed
          obtain ⟨h1, h2⟩ := List.getElem?_eq_some_iff.mp ec
          refine ⟨by show i < z.cps.size; simpa using h1, fun w H3 ⟨e3, c', hc', ew⟩ => ?_⟩
          subst e3 ew
          refine ⟨Same.refl _, fun B1 _ _ => ?_⟩
          have : c' = c := by
            have e1 : z.cps.toList[i]? = some c' := by simpa using hc'
            exact Option.some.inj (e1.symm.trans ec)
          rw [this]
          exact rep_str
      · show z.cps.size ≤ _
        simp
    · exact hp1.elim
  | int _ => exact hp1.elim
  | non => exact hp1.elim
  | bl _ => exact hp1.elim
  | node _ _ => exact hp1.elim
/-- enumerate, zip, reversed of lists -/
def enumL : Nat → List D → List D
  | _, [] => []
  | i, x :: xs => .tup [.int (i : Nat), x] :: enumL (i + 1) xs
theorem enumL_get : ∀ {xs : List D} {i j : Nat} {d : D}, (enumL i xs)[j]? = some d → ∃ x, xs[j]? = some x ∧ d = .tup [.int ((i + j : Nat) : Int), x]
  | [], _, _, _, h => by simp [enumL] at h
  | x :: xs, i, 0, d, h => by
    have e : D.tup [.int (i : Nat), x] = d := by simpa [enumL] using h
    exact ⟨x, rfl, e.symm⟩
  | x :: xs, i, j + 1, d, h => by
    obtain ⟨y, h1, h2⟩ := enumL_get (xs := xs) (i := i + 1) (j := j) (d := d) (by simpa [enumL] using h)
    exact ⟨y, by simpa using h1, by rw [h2]; congr 4; omega⟩
theorem enumL_len : ∀ (i : Nat) (xs : List D), (enumL i xs).length = xs.length
  | _, [] => rfl
  | i, x :: xs => by rw [enumL, List.length_cons, List.length_cons, enumL_len]
def menum (m : En → Res D) : En → Res (List D) := fun ρ => (m ρ).bind fun x => (Res.of (lstItems x.frz)).bind fun xs => .ok (enumL 0 xs)
theorem rep_pair {mg : Str → Option Value} {H : Hp} {B : Addr → Prop} {T : Addr} {x y : D} {v w : V} (nT : H T = none) (bd : BDom B H) (r1 : Rep mg H B x v []) (r2 : Rep mg H B y w []) : Rep mg (upd H T (.tup [v, w])) B (.tup [x, y]) (.ref T) [] :=
  rep_newtup nT bd (Reps.cons (as := []) r1 (Reps.cons (as := []) r2 Reps.nil))
theorem tup_frz2 {x y : D} (hx : x.frz = x) (hy : y.frz = y) : (D.tup [x, y]).frz = D.tup [x, y] := by
  rw [D.frz, frzs, frzs, frzs, hx, hy]; rfl
theorem da_one {ma : En → Res D} (h : DE X W e fa ma) (hs : starEach [e] X.env = (false, eval e X.env) :: starEach [] X.env := by rfl) : DA X W [e] (fa ++ []) (seqs [ma]) := da_cons h da_nil hs
theorem di_enum {es : List Expr} {kk : Nat} {tp : Pos} (hm : X.mg "enumerate" = none) (h : DE X W e fa ma) (hg : Gl X "enumerate" := by rfl) (hs : starEach [e] X.env = [(false, eval e X.env)] := by rfl) : DI X W (.Tuple es kk tp) (.Call (.Name "enumerate" p) [e] [] pos) fa (menum ma) := by
  refine PI.mk (pi_enum hg hm (pa_cons h pa_nil (by rw [hs]; rfl)) hs) fun σ H R bn ⟨ρ, B, en, bd, hp⟩ => ?_
  refine Tv.bind en bd hp fun x _ v H1 as bn1 s1 r1 f1 n1 hp1 => ?_
  cases ex : lstItems x.frz with
  | none => rw [ex] at hp1; exact hp1.elim
  | some xs =>
    rw [ex] at hp1
    have hp2 : Post (RpI X.mg) W X.mg B σ H1 (.ok (enumL 0 xs)) R := hp1
    have rv := r1.view bd f1
    obtain ⟨e1, e2⟩ := frz_lst ex
    rw [e1] at rv
    obtain ⟨a, vs, rfl, ha, hr, nb⟩ := rv.lstE
    refine ⟨a, vs, rfl, .inl ha, fun bn => post_it hp2 bn ⟨fun H2 k i d ed => ?_, fun H2 k => ⟨vs, .inl (Rd.kp ha k nb), by rw [enumL_len, hr.length]; exact Nat.le_refl _⟩, by rw [enumL_len, hr.length]; exact bn1.1 _ _ ha⟩⟩
    obtain ⟨y, hy, rfl⟩ := enumL_get ed
    obtain ⟨w, hw, rw'⟩ := hr.get hy
    have hs2 : SqL X.K H2 a vs := .inl (Rd.kp ha k nb)
    refine ⟨⟨vs, w, hs2, hw⟩, fun z H3 ⟨T, w', e3, nT, e4, hw'⟩ => ?_⟩
    subst e3 e4
    refine ⟨same_new nT, fun B1 hb bd1 => ?_⟩
    have : w = w' := Option.some.inj (hw.symm.trans (hw' vs hs2))
    subst this
    rw [tup_frz2 rfl (frzs_get e2 hy), Nat.zero_add]
    exact rep_pair nT bd1 rep_int (rw'.kp k hb)
def mzip (ma mb : En → Res D) : En → Res (List D) := fun ρ => (ma ρ).bind fun x => (mb ρ).bind fun y => (Res.of (lstItems x.frz)).bind fun xs => (Res.of (lstItems y.frz)).bind fun ys => .ok ((xs.zip ys).map fun p => .tup [p.1, p.2])
theorem di_zip {es : List Expr} {kk : Nat} {tp : Pos} (hm : X.mg "zip" = none) (ha : DE X W a fa ma) (hb : DE X W b fb mb) (hg : Gl X "zip" := by rfl)
    (hs : starEach [a, b] X.env = (false, eval a X.env) :: starEach [b] X.env := by rfl) (hs2 : starEach [b] X.env = (false, eval b X.env) :: starEach [] X.env := by rfl) (hpl : (backTo pos (starEach [b] X.env)).any (·.1) = false := by rfl) :
    DI X W (.Tuple es kk tp) (.Call (.Name "zip" p) [a, b] [] pos) (fa ++ fb) (mzip ma mb) := by
  refine PI.mk (pi_zip hg hm (pa_cons ha (pa_cons hb pa_nil hs2) hs) hs hpl) fun σ H R bn ⟨ρ, B, en, bd, hp⟩ => ?_
  refine Tv.bind en.l bd hp fun x _ v H1 as bn1 s1 r1 f1 n1 hp1 => ?_
  refine Tv.bind (en.r.same s1) (bd.same s1) hp1 fun y _ w H2 bs bn2 s2 r2 f2 n2 hp2 => ?_
  cases ex : lstItems x.frz with
  | none => rw [ex] at hp2; exact hp2.elim
  | some xs =>
    cases ey : lstItems y.frz with
    | none => rw [ex, ey] at hp2; exact hp2.elim
    | some ys =>
      rw [ex, ey] at hp2
      have hp3 : Post (RpI X.mg) W X.mg B σ H2 (.ok ((xs.zip ys).map fun p => .tup [p.1, p.2])) R := hp2
      have rv := (r1.view bd f1).same s2
      obtain ⟨e1, e2⟩ := frz_lst ex
      rw [e1] at rv
      obtain ⟨c, vs, rfl, hc, hrx, nbx⟩ := rv.lstE
      have ry := r2.view (bd.same s1) f2
      obtain ⟨e3, e4⟩ := frz_lst ey
      rw [e3] at ry
      obtain ⟨q, ws, rfl, hq, hry, nby⟩ := ry.lstE
      have hl : ((xs.zip ys).map fun p => D.tup [p.1, p.2]).length = min vs.length ws.length := by rw [List.length_map, List.length_zip, hrx.length, hry.length]
      refine ⟨c, q, vs, ws, rfl, .inl hc, .inl hq, fun bn => post_it hp3 bn ⟨fun H3 k i d ed => ?_, fun H3 k => ⟨vs, ws, .inl (Rd.kp hc k nbx), .inl (Rd.kp hq k nby), by rw [hl]; omega⟩, by rw [hl]; have := bn2.1 _ _ hc; omega⟩⟩
      rw [List.getElem?_map] at ed
      cases ez : (xs.zip ys)[i]? with
      | none => rw [ez] at ed; cases ed
      | some pr =>
        rw [ez] at ed
        cases ed
        obtain ⟨h1, h2⟩ := List.getElem?_zip_eq_some.mp ez
        obtain ⟨v1, hv1, q1⟩ := hrx.get h1
        obtain ⟨v2, hv2, q2⟩ := hry.get h2
        have g1 : SqL X.K H3 c vs := .inl (Rd.kp hc k nbx)
        have g2 : SqL X.K H3 q ws := .inl (Rd.kp hq k nby)
        refine ⟨⟨vs, ws, v1, v2, g1, g2, hv1, hv2⟩, fun z H4 ⟨T, w1, w2, e5, nT, e6, hw1, hw2⟩ => ?_⟩
        subst e5 e6
        refine ⟨same_new nT, fun B1 hb1 bd1 => ?_⟩
        have t1 : v1 = w1 := Option.some.inj (hv1.symm.trans (hw1 vs g1))
        have t2 : v2 = w2 := Option.some.inj (hv2.symm.trans (hw2 ws g2))
        subst t1 t2
        rw [tup_frz2 (frzs_get e2 h1) (frzs_get e4 h2)]
        exact rep_pair nT bd1 (q1.kp k hb1) (q2.kp k hb1)
def mrev (m : En → Res D) : En → Res (List D) := fun ρ => (m ρ).bind fun x => (Res.of (lstItems x.frz)).bind fun xs => .ok xs.reverse
theorem di_rev (hm : X.mg "reversed" = none) (h : DE X W e fa ma) (hg : Gl X "reversed" := by rfl) (hs : starEach [e] X.env = [(false, eval e X.env)] := by rfl) : DI X W tg (.Call (.Name "reversed" p) [e] [] pos) fa (mrev ma) := by
  refine PI.mk (pi_reversed hg hm (pa_cons h pa_nil (by rw [hs]; rfl)) hs) fun σ H R bn ⟨ρ, B, en, bd, hp⟩ => ?_
  refine Tv.bind en bd hp fun x _ v H1 as bn1 s1 r1 f1 n1 hp1 => ?_
  cases ex : lstItems x.frz with
  | none => rw [ex] at hp1; exact hp1.elim
  | some xs =>
    rw [ex] at hp1
    have hp2 : Post (RpI X.mg) W X.mg B σ H1 (.ok xs.reverse) R := hp1
    have rv := r1.view bd f1
    obtain ⟨e1, e2⟩ := frz_lst ex
    rw [e1] at rv
    obtain ⟨a, vs, rfl, ha, hr, nb⟩ := rv.lstE
    refine ⟨a, vs, rfl, .inl ha, fun bn => post_it hp2 bn ⟨fun H2 k i d ed => ?_, fun H2 k => by show vs.length ≤ _; rw [List.length_reverse, hr.length]; exact Nat.le_refl _, by rw [List.length_reverse, hr.length]; exact bn1.1 _ _ ha⟩⟩
    have hi : i < xs.length := by
      have := (List.getElem?_eq_some_iff.mp ed).1
      simpa using this
    have ed' : xs[xs.length - 1 - i]? = some d := by
      rw [List.getElem?_reverse hi] at ed
      exact ed
    obtain ⟨w, hw, rw'⟩ := hr.get ed'
    rw [hr.length] at hw
    have hs2 : SqL X.K H2 a vs := .inl (Rd.kp ha k nb)
    refine ⟨⟨by rw [← hr.length]; exact hi, vs, w, hs2, hw⟩, fun z H3 ⟨e3, hz⟩ => ?_⟩
    subst e3
    refine ⟨Same.refl _, fun B1 hb bd1 => ?_⟩
    have : w = z := Option.some.inj (hw.symm.trans (hz vs hs2))
    rw [← this, frzs_get e2 ed']
    exact rw'.kp k hb
end
end Ev

/-! Ev, part G: targets, comprehensions. -/
namespace Ev
open PySem PySem.Spec L2
open PyProof.Rows hiding St
/-! ### targets -/
def setAll {α : Type} : List Nat → List α → List (Option α) → List (Option α)
  | t :: ts, d :: ds, ρ => setAll ts ds (ρ.set t (some d))
  | _, _, ρ => ρ
theorem setAll_len {α : Type} : ∀ (ts : List Nat) (ds : List α) (ρ : List (Option α)), (setAll ts ds ρ).length = ρ.length
  | [], _, _ => by rw [setAll]; intro _ _ _ _ h; cases h
  | _ :: _, [], _ => by rw [setAll]; intro _ _ _ _ _ h; cases h
  | t :: ts, d :: ds, ρ => by rw [setAll, setAll_len, List.length_set]
/-- what goes to a target: a name takes the value, a display of names the items -/
inductive Tg where
  | nm (i : Nat)
  | tp (ts : List Nat)
  | tl (ts : List Nat)
def Tg.slots : Tg → List Nat
  | .nm i => [i]
  | .tp ts => ts
  | .tl ts => ts
def Tg.parts : Tg → D → Option (List D)
  | .nm _, d => some [d]
  | .tp ts, .node .tup xs => if xs.length = ts.length then some xs else none
  | .tl ts, .node (.lst false) xs => if xs.length = ts.length then some xs else none
  | _, _ => none
def gNames : List Nat → TGs
  | [] => gNil
  | i :: is => gCons (gName i) (gNames is)
def Tg.tg (K : PySem.W.Frag) : Tg → TG
  | .nm i => gName i
  | .tp ts => gTup K ts.length (gNames ts)
  | .tl ts => gUnl K ts.length (gNames ts)
theorem gNames_set : ∀ (ts : List Nat) (vs : List V) (σ : St) (H : Hp) (Q : St → Hp → Prop), vs.length = ts.length → Q (setAll ts vs σ) H → gNames ts vs σ H Q
  | [], [], σ, H, Q, _, q => ⟨rfl, q⟩
  | [], _ :: _, _, _, _, l, _ => by simp at l
  | _ :: _, [], _, _, _, l, _ => by simp at l
  | t :: ts, v :: vs, σ, H, Q, l, q => ⟨v, vs, rfl, gNames_set ts vs _ H Q (by simpa using l) q⟩
section
variable {mg : Str → Option Value} {H : Hp} {B : Addr → Prop}
theorem tg_set {K : PySem.W.Frag} {t : Tg} {d : D} {v : V} {as : List Addr} {ds : List D} {σ : St} {Q : St → Hp → Prop} (h : t.parts d = some ds) (r : Rep mg H B d v as) (q : ∀ vs, Reps mg H B ds vs as → vs.length = t.slots.length → ds.length = t.slots.length → Q (setAll t.slots vs σ) H) : t.tg K v σ H Q := by
  cases t with
  | nm i =>
    cases h
    have := q [v] (by have := Reps.cons r (Reps.nil (mg := mg) (H := H) (B := B)); rw [List.append_nil] at this; exact this) rfl rfl
    exact this
  | tp ts =>
    cases d with
    | node tg xs =>
      cases tg with
      | tup =>
        have h' : (if xs.length = ts.length then some xs else none) = some ds := h
        split at h'
        · rename_i hl
          cases h'
          obtain ⟨a, vs, rfl, ha, hr⟩ := r.tupE
          have hv : vs.length = ts.length := by rw [← hr.length, hl]
          exact ⟨a, vs, rfl, .of ha, hv, gNames_set ts vs σ H Q hv (q vs hr hv hl)⟩
        · cases h'
      | lst _ => cases h
      | dct _ _ _ => cases h
      | ins _ _ _ => cases h
      | io _ _ _ => cases h
      | exc _ => cases h
      | xd _ => cases h
    | non => cases h
    | bl _ => cases h
    | int _ => cases h
    | str _ => cases h
  | tl ts =>
    cases d with
    | node tg xs =>
      cases tg with
      | lst o =>
        cases o with
        | true => cases h
        | false =>
          have h' : (if xs.length = ts.length then some xs else none) = some ds := h
          split at h'
          · rename_i hl
            cases h'
            rw [Rep] at r
            obtain ⟨a, vs, bs, rfl, ha, hr, q'⟩ := r
            have ea : as = bs := by
              rcases q' with ⟨z, _⟩ | ⟨_, _, z⟩
              · cases z
              · exact z
            subst ea
            have hv : vs.length = ts.length := by rw [← hr.length, hl]
            exact ⟨a, vs, rfl, .inl ha, hv, gNames_set ts vs σ H Q hv (q vs hr hv hl)⟩
          · cases h'
      | tup => cases h
      | dct _ _ _ => cases h
      | ins _ _ _ => cases h
      | io _ _ _ => cases h
      | exc _ => cases h
      | xd _ => cases h
    | non => cases h
    | bl _ => cases h
    | int _ => cases h
    | str _ => cases h
theorem enOn_set {fv : List Nat} {i : Nat} {d : D} {v : V} {ρ : En} {σ : St} (en : ∀ j ∈ fv, j ≠ i → ∀ d, ρ[j]? = some (some d) → ∃ v, σ[j]? = some (some v) ∧ Rep mg H B d v []) (hi : i < σ.length) (r : Rep mg H B d v []) : EnOn mg fv (ρ.set i (some d)) (σ.set i (some v)) H B := fun j hj d' hd => by
  by_cases e : j = i
  · subst e
    have hlt : j < ρ.length := by
      have := (List.getElem?_eq_some_iff.mp hd).1
      simpa using this
    rw [List.getElem?_set_self hlt] at hd
    cases hd
    exact ⟨v, List.getElem?_set_self hi, r⟩
  · rw [List.getElem?_set_ne (Ne.symm e)] at hd ⊢
    exact en j hj e d' hd
theorem enOn_setAll : ∀ {ts : List Nat} {ds : List D} {vs : List V} {fv : List Nat} {ρ : En} {σ : St}, EnOn mg (fv.filter fun j => !ts.contains j) ρ σ H B → ds.length = ts.length → (∀ t ∈ ts, t < σ.length) → Reps mg H B ds vs [] → EnOn mg fv (setAll ts ds ρ) (setAll ts vs σ) H B
  | [], ds, vs, fv, ρ, σ, en, l, hs, r => by
    have e1 : setAll [] ds ρ = ρ := by unfold setAll; rfl
    have e2 : setAll [] vs σ = σ := by unfold setAll; rfl
    rw [e1, e2]
    exact en.sub fun i hi => by simp [hi]
  | t :: ts, [], vs, fv, ρ, σ, en, l, hs, r => by simp at l
  | t :: ts, d :: ds, vs, fv, ρ, σ, en, l, hs, r => by
    rw [Reps] at r
    obtain ⟨v, ws, a1, a2, rfl, e2, h1, h2⟩ := r
    obtain ⟨z1, z2⟩ := List.append_eq_nil_iff.mp e2.symm
    subst z1 z2
    rw [setAll, setAll]
    refine enOn_setAll ?_ (by simpa using l) (fun q hq => by rw [List.length_set]; exact hs q (List.mem_cons_of_mem _ hq)) h2
    refine enOn_set (fun j hj ne d' hd => ?_) (hs t List.mem_cons_self) h1
    refine en j ?_ d' hd
    rw [List.mem_filter] at hj ⊢
    refine ⟨hj.1, ?_⟩
    have h3 : ts.contains j = false := by simpa using hj.2
    simp only [List.contains_cons, h3, Bool.or_false, Bool.not_eq_true']
    exact beq_eq_false_iff_ne.mpr ne
end
section
variable {X : Cx} {W : WX} {e a b c tg elt : Expr} {es ifs : List Expr} {fv fa fb fc fe ft : List Nat} {m ma mb mc me : En → Res D} {mt : En → Res Bool} {ms : List (En → Res D)} {pos p : Pos}
theorem dg_nm {i : Nat} {x : Str} (hN : X.N.Nodup) (hi : X.N[i]? = some x := by rfl) (hx : Loc X.env.scope x := by first | exact Or.inl rfl | exact Or.inr rfl) (hf : X.fn x = true ∨ X.env.scope.names.lookup x = some .local := by first | exact .inl rfl | exact .inr rfl) :
    PG X (.Name x pos) ((Tg.nm i).tg X.K) := pg_name hN hi hx hf
theorem dgs_nil : PGs X [] (gNames []) := pgs_nil
theorem dgs_cons {i : Nat} {x : Str} {is : List Nat} (h2 : PGs X es (gNames is)) (hN : X.N.Nodup) (hi : X.N[i]? = some x := by rfl) (hx : Loc X.env.scope x := by first | exact Or.inl rfl | exact Or.inr rfl) (hf : X.fn x = true ∨ X.env.scope.names.lookup x = some .local := by first | exact .inl rfl | exact .inr rfl)
    (hs : (assignEach (.Name x pos :: es) X.env).map (·.2) = assign (.Name x pos) X.env :: (assignEach es X.env).map (·.2) := by rfl) : PGs X (.Name x pos :: es) (gNames (i :: is)) := pgs_cons (pg_name hN hi hx hf) h2 hs
theorem dg_tp {k : Nat} {ts : List Nat} (hc : X.calm = true) (h : PGs X es (gNames ts)) (hn : (assignEach es X.env).length = ts.length := by rfl) (hst : (assignEach es X.env).findIdx? (·.1) = none := by rfl) : PG X (.Tuple es k pos) ((Tg.tp ts).tg X.K) := pg_tup hc h hn hst
theorem dg_tl {k : Nat} {ts : List Nat} (hc : X.calm = true) (h : PGs X es (gNames ts)) (hn : (assignEach es X.env).length = ts.length := by rfl) (hst : (assignEach es X.env).findIdx? (·.1) = none := by rfl) : PG X (.Tuple es k pos) ((Tg.tl ts).tg X.K) := pg_unl hc h hn hst
/-! ### comprehensions -/
abbrev W0 : WX := fun _ _ _ _ => False
def nox {α : Type} : Res α → Res α
  | .ok a => .ok a
  | _ => .no
/-- the items that come of those that are walked -/
def lcGo (t : Tg) (mt : En → Res Bool) (me : En → Res D) (ρ : En) : List D → Res (List D)
  | [] => .ok []
  | d :: ds => (Res.of (t.parts d)).bind fun xs => (nox (mt (setAll t.slots xs ρ))).bind fun c =>
    if c = true then (nox (me (setAll t.slots xs ρ))).bind fun y => (lcGo t mt me ρ ds).bind fun ys => .ok (y :: ys) else lcGo t mt me ρ ds
def mlc (mi : En → Res (List D)) (t : Tg) (mt : En → Res Bool) (me : En → Res D) : En → Res D := fun ρ => (mi ρ).bind fun ds => (lcGo t mt me ρ (frzs ds)).bind fun ys => .ok (.lst true ys)
def yes : En → Res Bool := fun _ => .ok true
abbrev DTs (X : Cx) (W : WX) (ifs : List Expr) (fv : List Nat) (m : En → Res Bool) : Prop := PTs X ifs (Tv RpB W X.mg fv m)
theorem PTs.mk {t t' : TT} (h : PTs X ifs t) (hh : ∀ σ H Q, Bnd H → t' σ H Q → t σ H fun v H' => Bnd H' → Q v H') : PTs X ifs t' := ⟨fun pins s σ H Q I q => by
  refine thn (h.run pins s σ H _ I (hh σ H Q (bnd_of I) q)) fun v s1 ⟨H1, I1, q1⟩ => ⟨H1, I1, q1 (bnd_of I1)⟩⟩
theorem dts_nil : DTs X W [] [] yes := PTs.mk pts_nil fun σ H Q bn ⟨ρ, B, en, bd, hp⟩ => fun bn => post_bool hp bn
theorem dts_one (h : DT X W c fc mt) : DTs X W [c] fc mt := pts_one h
theorem wipe_set {σ : St} {i : Nat} {v : Option V} : ∀ {vs : List Nat}, i ∈ vs → wipe (σ.set i v) vs = wipe σ vs
  | j :: vs, h => by
    unfold wipe
    by_cases e : i ∈ vs
    · rw [wipe_set e]
    · have : i = j := (List.mem_cons.mp h).resolve_right e
      subst this
      have aux : ∀ (ws : List Nat) (τ : St), i ∉ ws → wipe (τ.set i v) ws = (wipe τ ws).set i v := by
        intro ws
        induction ws with
        | nil => intro τ _; rfl
        | cons q ws ih =>
          intro τ hq
          unfold wipe
          rw [ih τ (fun z => hq (List.mem_cons_of_mem _ z)), List.set_comm _ _ (fun z => hq (by rw [z]; exact List.mem_cons_self))]
      rw [aux vs σ e, List.set_set]
theorem wipe_setAll : ∀ {ts : List Nat} {vs : List V} {σ : St} {ws : List Nat}, (∀ t ∈ ts, t ∈ ws) → wipe (setAll ts vs σ) ws = wipe σ ws
  | [], vs, σ, ws, _ => by unfold setAll; rfl
  | t :: ts, [], σ, ws, _ => by unfold setAll; rfl
  | t :: ts, v :: vs, σ, ws, h => by
    rw [setAll, wipe_setAll (fun q hq => h q (List.mem_cons_of_mem _ hq)), wipe_set (h t List.mem_cons_self)]
theorem wipe_get {σ : St} {i : Nat} : ∀ {vs : List Nat}, i ∉ vs → (wipe σ vs)[i]? = σ[i]?
  | [], _ => rfl
  | v :: vs, h => by
    unfold wipe
    rw [List.getElem?_set_ne (fun e => h (by rw [e]; exact List.mem_cons_self)), wipe_get fun z => h (List.mem_cons_of_mem _ z)]
theorem wipe_wipe {σ : St} : ∀ {vs : List Nat}, wipe (wipe σ vs) vs = wipe σ vs := by
  have gen : ∀ (vs ws : List Nat), (∀ v ∈ vs, v ∈ ws) → wipe (wipe σ vs) ws = wipe σ ws := by
    intro vs
    induction vs with
    | nil => intro ws _; rfl
    | cons v vs ih =>
      intro ws h
      rw [show wipe σ (v :: vs) = (wipe σ vs).set v none from rfl, wipe_set (h v List.mem_cons_self), ih ws fun q hq => h q (List.mem_cons_of_mem _ hq)]
  exact fun {vs} => gen vs vs fun _ h => h
/-- the reading of a comprehension -/
theorem lc_read {wi : TI} {fi : List Nat} {mi : En → Res (List D)} {t : Tg} {ws : List Nat} {σ : St} {H : Hp} {ρ : En} {B : Addr → Prop} {Q : VK} (hw : wi = Tv (RpI X.mg) W X.mg fi mi) (hws : ∀ q ∈ t.slots, q ∈ ws) (hwt : ∀ q ∈ ws, q ∈ t.slots) (hlen : ∀ q ∈ ws, q < σ.length)
    (en : EnOn X.mg (fi ++ (ft ++ fe).filter fun j => !t.slots.contains j) ρ σ H B) (bd : BDom B H) (hp : Post (Rep X.mg) W X.mg B σ H (mlc mi t mt me ρ) Q) :
    tLc wi (t.tg X.K) (Tv RpB W0 X.mg ft mt) (Tv (Rep X.mg) W0 X.mg fe me) ws σ H fun v H' => Bnd H' → Q v H' := by
  subst hw
  have hp0 : Post (Rep X.mg) W X.mg B σ H ((mi ρ).bind fun ds => (lcGo t mt me ρ (frzs ds)).bind fun ys => .ok (.lst true ys)) Q := hp
  refine Tv.bind en.l bd hp0 fun ds eds J H1 as0 bn1 s1 r1 f1 n1 hp1 => ?_
  rw [eds, Res.bind_ok] at hp0
  obtain ⟨_, ok⟩ := r1
  intro L nL
  have nLH : H L = none := s1.free nL
  have bd1 := bd.same s1
  -- the avoided ones, with the new list
  have hBL : ∀ a, H1 a ≠ none → ¬ B a → ¬ (B a ∨ a = L) := fun a h1 h2 z => z.elim h2 fun e => h1 (by rw [e]; exact nL)
  refine ⟨fun i n H2 => n = ds.length - i ∧ i ≤ ds.length ∧ Same H1 H2 ∧ ∃ acc ys as, H2 L = some (.lst acc) ∧ acc.length ≤ i ∧ Reps X.mg H2 (fun a => B a ∨ a = L) ys acc as ∧ (∀ a ∈ as, H1 a = none) ∧ as.Nodup ∧ L ∉ as ∧
    Post (Rep X.mg) W X.mg B σ H ((lcGo t mt me ρ (frzs (ds.drop i))).bind fun zs => .ok (.lst true (ys ++ zs))) Q, ⟨ds.length, by simp, Nat.zero_le _, same_new nL, [], [], [], upd_same, Nat.le_refl _, Reps.nil, fresh0, List.nodup_nil, (fun z => nomatch z), hp0⟩, ?_⟩
  rintro i n H2 ⟨rfl, hi, s2, acc, ys, as, hL, hacc, ra, fa', na, nLa, hpi⟩
  have kp : Kp B H1 H2 := Kp.of s2
  by_cases hlt : i < ds.length
  · right
    have ed : ds[i]? = some ds[i] := List.getElem?_eq_getElem hlt
    obtain ⟨go, yl⟩ := ok.go H2 kp i _ ed
    refine ⟨go, fun H' => ∃ acc ys as, Same H1 H' ∧ H' L = some (.lst acc) ∧ acc.length ≤ i + 1 ∧ Reps X.mg H' (fun a => B a ∨ a = L) ys acc as ∧ (∀ a ∈ as, H1 a = none) ∧ as.Nodup ∧ L ∉ as ∧
      Post (Rep X.mg) W X.mg B σ H ((lcGo t mt me ρ (frzs (ds.drop (i + 1)))).bind fun zs => .ok (.lst true (ys ++ zs))) Q, fun H' ⟨acc', ys', as', h1, h2, h3, h4, h5, h6, h7, h8⟩ => ⟨ds.length - (i + 1), by omega, rfl, hlt, h1, acc', ys', as', h2, h3, h4, h5, h6, h7, h8⟩, fun x H3 y => ?_⟩
    obtain ⟨s3, rep⟩ := yl x H3 y
    have bdL2 : BDom (fun a => B a ∨ a = L) H2 := (bd1.same s2).of fun a z => z.elim (fun z => bd1.same s2 a z) fun e => ⟨.lst acc, (congrArg H2 e).trans hL, fun xs z => HO.noConfusion z⟩
    have rx := rep (fun a => B a ∨ a = L) hBL bdL2
    rw [List.drop_eq_getElem_cons hlt, frzs] at hpi
    unfold lcGo at hpi
    cases ep : t.parts (ds[i]).frz with
    | none => rw [ep] at hpi; exact hpi.elim
    | some xs =>
      rw [ep, Res.of_some, Res.bind_ok] at hpi
      have s13 := s2.trans s3
      have bdL3 := bdL2.same s3
      refine tg_set ep rx fun vs rvs lv lx => ⟨?_, ?_⟩
      · rw [wipe_setAll hws, wipe_wipe]
      · -- the names within
        have enI : EnOn X.mg (ft ++ fe) (setAll t.slots xs ρ) (setAll t.slots vs (wipe σ ws)) H3 (fun a => B a ∨ a = L) := by
          refine enOn_setAll (fun j hj d hd => ?_) lx (fun q hq => by rw [wipe_length]; exact hlen q (hws q hq)) rvs
          obtain ⟨v, hv, r⟩ := en.r j hj d hd
          have hn : j ∉ ws := fun z => by
            have := (List.mem_filter.mp hj).2
            have h2 := hwt j z
            simp [h2] at this
          refine ⟨v, by rw [wipe_get hn]; exact hv, Rep.kp ((r.same s1)) (Kp.of s13) hBL⟩
        refine ⟨_, _, enI.l, bdL3, ?_⟩
        cases ec : mt (setAll t.slots xs ρ) with
        | ex _ => rw [ec] at hpi; exact hpi.elim
        | no => rw [ec] at hpi; exact hpi.elim
        | ok c =>
          rw [ec] at hpi
          have hpi : Post (Rep X.mg) W X.mg B σ H ((if c = true then (nox (me (setAll t.slots xs ρ))).bind fun y => (lcGo t mt me ρ (frzs (ds.drop (i + 1)))).bind fun ys => .ok (y :: ys) else lcGo t mt me ρ (frzs (ds.drop (i + 1)))).bind fun zs => .ok (.lst true (ys ++ zs))) Q := hpi
          intro c' H4 _ bn4 s4 rc _ _
          obtain ⟨rfl, _⟩ := rc
          have s14 := s13.trans s4
          have s24 := s3.trans s4
          cases c' with
          | false =>
            rw [if_neg Bool.false_ne_true] at hpi ⊢
            exact ⟨acc, ys, as, s14, s24 _ _ hL, by omega, ra.same s24, fa', na, nLa, hpi⟩
          | true =>
            rw [if_pos rfl] at hpi ⊢
            refine ⟨_, _, enI.r.same s4, bdL3.same s4, ?_⟩
            cases ee : me (setAll t.slots xs ρ) with
            | ex _ => rw [ee] at hpi; exact hpi.elim
            | no => rw [ee] at hpi; exact hpi.elim
            | ok y =>
              rw [ee] at hpi
              intro v H5 bs bn5 s5 rv fv' nv
              have hL5 : H5 L = some (.lst acc) := s5 _ _ (s24 _ _ hL)
              have hl : acc.length < sizeLine := Nat.lt_of_le_of_lt hacc (Nat.lt_of_lt_of_le hlt ok.len)
              have nLbs : L ∉ bs := fun z => by
                have q1 := fv' L z
                rw [s24 _ _ hL] at q1
                cases q1
              have s15 := s14.trans s5
              have upL : ∀ {d : List D} {w : List V} {cs : List Addr}, Reps X.mg H5 (fun a => B a ∨ a = L) d w cs → L ∉ cs → Reps X.mg (upd H5 L (.lst (acc ++ [v]))) (fun a => B a ∨ a = L) d w cs := fun {d w cs} r hn => r.step (fun a o e z => by
                rw [upd_ne]
                · exact e
                · rintro rfl
                  exact z.elim hn fun z => z (.inr rfl)) fun _ _ z => z
              refine ⟨acc, hL5, hl, acc ++ [v], ys ++ [y], as ++ bs, ?_, upd_same, by rw [List.length_append]; show acc.length + 1 ≤ i + 1; omega, ?_, ?_, ?_, ?_, ?_⟩
              · exact s15.put nL hL5
              · refine (upL (ra.same (s24.trans s5)) nLa).append ?_
                have := upL (Reps.cons rv Reps.nil) (by rw [List.append_nil]; exact nLbs)
                rw [List.append_nil] at this
                exact this
              · intro a ha
                rcases List.mem_append.mp ha with z | z
                · exact fa' a z
                · exact s14.free (fv' a z)
              · exact nodup_cat na nv (fun a ha => (ra.same s24).there a ha) fv'
              · intro z
                rcases List.mem_append.mp z with z | z
                · exact nLa z
                · exact nLbs z
              · have e2 : (((lcGo t mt me ρ (frzs (ds.drop (i + 1)))).bind fun ys' => Res.ok (y :: ys')).bind fun zs => Res.ok (D.lst true (ys ++ zs))) = (lcGo t mt me ρ (frzs (ds.drop (i + 1)))).bind fun zs => .ok (.lst true ((ys ++ [y]) ++ zs)) := by
                  rw [Res.bind_assoc]
                  congr 1
                  funext zs
                  rw [Res.bind_ok, List.append_assoc]; rfl
                have hpi2 : Post (Rep X.mg) W X.mg B σ H (((lcGo t mt me ρ (frzs (ds.drop (i + 1)))).bind fun ys' => Res.ok (y :: ys')).bind fun zs => Res.ok (D.lst true (ys ++ zs))) Q := hpi
                rw [e2] at hpi2
                exact hpi2
  · left
    have ei : i = ds.length := by omega
    subst ei
    refine ⟨ok.stop H2 kp, fun bn => ?_⟩
    rw [List.drop_length] at hpi
    have hpi2 : Post (Rep X.mg) W X.mg B σ H (.ok (.lst true (ys ++ []))) Q := hpi
    rw [List.append_nil] at hpi2
    refine hpi2 _ H2 (L :: as) bn (s1.trans s2) ?_ (fun a ha => ?_) (List.nodup_cons.mpr ⟨nLa, na⟩)
    · rw [Rep]
      exact ⟨L, acc, as, rfl, hL, ra.step (fun a o e _ => e) (fun a _ h2 z => h2 (.inl z)), .inl ⟨rfl, rfl⟩⟩
    · rcases List.mem_cons.mp ha with rfl | z
      · exact nLH
      · exact s1.free (fa' a z)

theorem PE.mkL {e : Expr} {t t' : TE} (h : PE X e t) (hh : ∀ σ H Q, σ.length = X.N.length → t' σ H Q → t σ H fun v H' => Bnd H' → Q v H') : PE X e t' := ⟨fun pins s σ H Q I q => by
  refine thn (h.run pins s σ H _ I (hh σ H Q I.len q)) fun v s1 ⟨x, H1, I1, r1, q1⟩ => ⟨x, H1, I1, r1, q1 (bnd_of I1)⟩⟩
theorem de_lc {fi : List Nat} {mi : En → Res (List D)} {t : Tg} {scope : Scope} {own : List (Str × Nat)} (hN : X.N.Nodup) (hc : X.calm = true) (hi : DI X W tg a fi mi) (ok : BlkOk X.N X.env.scope scope own)
    (hg : ∀ (s : Shared) (H : Hp) (C : Addr) (cl : List (Str × Addr)) (fp : List Addr), PG (X.blk s H scope (compEnvC scope cl C X.env) fp) tg (t.tg X.K))
    (ht : ∀ (s : Shared) (H : Hp) (C : Addr) (cl : List (Str × Addr)) (fp : List Addr), DTs (X.blk s H scope (compEnvC scope cl C X.env) fp) W0 ifs ft mt)
    (he : ∀ (s : Shared) (H : Hp) (C : Addr) (cl : List (Str × Addr)) (fp : List Addr), DE (X.blk s H scope (compEnvC scope cl C X.env) fp) W0 elt fe me)
    (hw : ((own.map (·.2)).all fun q => t.slots.contains q && decide (q < X.N.length)) = true := by rfl) (hw2 : (t.slots.all fun q => (own.map (·.2)).contains q) = true := by rfl) (hs : ∀ x, foldedSetIterable a X.env x = pure x := by intro _; rfl) :
    DE X W (.ListComp elt [⟨tg, a, ifs, 0⟩] scope pos) (fi ++ (ft ++ fe).filter fun j => !t.slots.contains j) (mlc mi t mt me) := by
  refine PE.mkL (pe_lc (tt := Tv RpB W0 X.mg ft mt) (te := Tv (Rep X.mg) W0 X.mg fe me) hc hN hi ok hg ht he hs) fun σ H Q hl ⟨ρ, B, en, bd, hp⟩ => ?_
  have h1 : ∀ q ∈ own.map (·.2), q ∈ t.slots ∧ q < X.N.length := fun q hq => by
    have := List.all_eq_true.mp hw q hq
    rw [Bool.and_eq_true] at this
    exact ⟨by simpa using this.1, of_decide_eq_true this.2⟩
  exact lc_read (wi := Tv (RpI X.mg) W X.mg fi mi) rfl (fun q hq => by simpa using List.all_eq_true.mp hw2 q hq) (fun q hq => (h1 q hq).1) (fun q hq => by rw [hl]; exact (h1 q hq).2) en bd hp
end
end Ev

/-! Ev, part H: statements. -/
namespace Ev
open PySem PySem.Spec L2
open PyProof.Rows hiding St
mutual
theorem Rep.unsh {mg : Str → Option Value} {H : Hp} {B B' : Addr → Prop} (nt : ∀ a, B' a → ∀ xs, H a ≠ some (.tup xs)) : ∀ {d : D} {v : V} {as : List Addr}, d.shr = false → Rep mg H B d v as → Rep mg H B' d v as
  | .non, _, _, _, h => h
  | .bl _, _, _, _, h => h
  | .int _, _, _, _, h => h
  | .str _, _, _, _, h => h
  | .node .tup xs, v, as, p, h => by
    rw [D.shr] at p
    rw [Rep] at h ⊢
    obtain ⟨b, vs, bs, e, hd, hr, q⟩ := h
    refine ⟨b, vs, bs, e, hd, Reps.unsh nt p hr, ?_⟩
    rcases q with ⟨q, _⟩ | ⟨_, _, q⟩
    · cases q
    · exact .inr ⟨rfl, fun z => nt b z vs hd, q⟩
  | .node (.lst o) xs, v, as, p, h => by
    have p' : (!o || shrs xs) = false := by simpa [D.shr, Tag.own] using p
    rw [Bool.or_eq_false_iff] at p'
    rw [Rep] at h ⊢
    obtain ⟨b, vs, bs, e, hd, hr, q⟩ := h
    refine ⟨b, vs, bs, e, hd, Reps.unsh nt p'.2 hr, ?_⟩
    rcases q with q | ⟨q1, _, q⟩
    · exact .inl q
    · have q1' : o = false := q1
      rw [q1'] at p'
      exact absurd p'.1 (by decide)
  | .node (.dct o t ks) xs, v, as, p, h => by
    have p' : (!o || shrs xs) = false := by simpa [D.shr, Tag.own] using p
    rw [Bool.or_eq_false_iff] at p'
    rw [Rep] at h ⊢
    obtain ⟨b, vs, bs, e, hd, hr, q⟩ := h
    refine ⟨b, vs, bs, e, hd, Reps.unsh nt p'.2 hr, ?_⟩
    rcases q with q | ⟨q1, _, q⟩
    · exact .inl q
    · have q1' : o = false := q1
      rw [q1'] at p'
      exact absurd p'.1 (by decide)
  | .node (.ins o c ns) xs, v, as, p, h => by
    have p' : (!o || shrs xs) = false := by simpa [D.shr, Tag.own] using p
    rw [Bool.or_eq_false_iff] at p'
    rw [Rep] at h ⊢
    obtain ⟨b, vs, bs, e, hd, hr, q⟩ := h
    refine ⟨b, vs, bs, e, hd, Reps.unsh nt p'.2 hr, ?_⟩
    rcases q with q | ⟨q1, _, q⟩
    · exact .inl q
    · have q1' : o = false := q1
      rw [q1'] at p'
      exact absurd p'.1 (by decide)
  | .node (.io a t ks) xs, v, as, p, h => by
    have p' : shrs xs = false := by simpa [D.shr, Tag.own] using p
    rw [Rep] at h ⊢
    obtain ⟨b, vs, bs, e, hd, hr, q⟩ := h
    refine ⟨b, vs, bs, e, hd, Reps.unsh nt p' hr, ?_⟩
    rcases q with q | ⟨q1, _, q⟩
    · exact .inl q
    · cases q1
  | .node (.exc c) xs, v, as, p, h => by simp [D.shr, Tag.own] at p
  | .node (.xd ns) xs, v, as, p, h => by simp [D.shr, Tag.own] at p
theorem Reps.unsh {mg : Str → Option Value} {H : Hp} {B B' : Addr → Prop} (nt : ∀ a, B' a → ∀ xs, H a ≠ some (.tup xs)) : ∀ {xs : List D} {vs : List V} {as : List Addr}, shrs xs = false → Reps mg H B xs vs as → Reps mg H B' xs vs as
  | [], _, _, _, h => by rw [Reps] at h ⊢; exact h
  | x :: xs, vs, as, p, h => by
    rw [shrs, Bool.or_eq_false_iff] at p
    rw [Reps] at h ⊢
    obtain ⟨v, ws, a1, a2, e1, e2, h1, h2⟩ := h
    exact ⟨v, ws, a1, a2, e1, e2, Rep.unsh nt p.1 h1, Reps.unsh nt p.2 h2⟩
end
theorem ExR.to {mg : Str → Option Value} {H0 H0' H : Hp} {B B' : Addr → Prop} {x : Ex} {c : Value} {od : Option Addr} (h : ExR mg H0 H B x c od) (nt : ∀ a, B' a → ∀ xs, H a ≠ some (.tup xs)) (f : ∀ d, H0 d = none → ¬ B d → H0' d = none ∧ ¬ B' d) : ExR mg H0' H B' x c od := by
  obtain ⟨C, h1, h2, hp, h3⟩ := h
  exact ⟨C, h1, h2, hp, h3.imp id fun ⟨hn, d, vs, h4, h5, h6, h7⟩ => ⟨hn, d, vs, h4, f d h5.1 h5.2, h6, Reps.unsh nt (pures_shr _ hp) h7⟩⟩
/-- tables stay tables -/
structure TbK (H H' : Hp) : Prop where
  tb : ∀ a ps, H a = some (.tbl ps) → ∃ ps', H' a = some (.tbl ps')
  tt : ∀ P, TblAt H P → TblAt H' P
theorem TbK.refl {H : Hp} : TbK H H := ⟨fun _ ps e => ⟨ps, e⟩, fun _ h => h⟩
theorem TbK.trans {H H1 H2 : Hp} (a : TbK H H1) (b : TbK H1 H2) : TbK H H2 := ⟨fun c ps e => let ⟨ps', e'⟩ := a.tb c ps e; b.tb c ps' e', fun P h => b.tt P (a.tt P h)⟩
theorem Same.ts {H H' : Hp} (s : Same H H') : TbK H H' := ⟨s.tb, s.tt⟩
/-- neither a table nor a thing of one's own -/
def Pl (o : HO) : Prop := NTb o ∧ ∀ φ, o ≠ .ext φ
theorem Pl.dobj {u : HO} {ks : List Ky} {vs : List V} {t : Bool} (h : Dobj u ks vs t) : Pl u := ⟨NTb.dobj h, fun φ z => by
  subst z
  cases t with
  | true => obtain ⟨_, _, e⟩ := h; cases e
  | false => obtain ⟨_, _, e⟩ := h; cases e⟩
mutual
/-- one's own nodes are plain -/
theorem Rep.ownpl {mg : Str → Option Value} {H : Hp} {B : Addr → Prop} : ∀ {d : D} {v : V} {as : List Addr}, Rep mg H B d v as → ∀ a ∈ as, ∃ o, H a = some o ∧ Pl o
  | .non, _, _, h, a, ha => by rw [h.2] at ha; cases ha
  | .bl _, _, _, h, a, ha => by rw [h.2] at ha; cases ha
  | .int _, _, _, h, a, ha => by rw [h.2] at ha; cases ha
  | .str _, _, _, h, a, ha => by rw [h.2] at ha; cases ha
  | .node t xs, v, as, h, a, ha => by
    rw [Rep] at h
    obtain ⟨b, vs, bs, e, hd, hr, q⟩ := h
    rcases q with ⟨ho, q⟩ | ⟨_, _, q⟩
    · rw [q] at ha
      rcases List.mem_cons.mp ha with e | ha
      · rw [e]
        cases t with
        | tup => cases ho
        | lst o => cases ho; exact ⟨_, hd, (fun _ z => by cases z), (fun _ z => by cases z)⟩
        | dct o t ks => cases ho; obtain ⟨_, u, d, hd⟩ := hd; exact ⟨u, hd, Pl.dobj d⟩
        | ins o c ns => obtain ⟨_, C, dx, _, hd⟩ := hd; exact ⟨_, hd, (fun _ z => by cases z), (fun _ z => by cases z)⟩
        | io b t ks => obtain ⟨_, _, u, d, hd⟩ := hd; exact ⟨u, hd, Pl.dobj d⟩
        | exc c => cases ho
        | xd ns => cases ho
      · exact Reps.ownpl hr a ha
    · rw [q] at ha
      exact Reps.ownpl hr a ha
theorem Reps.ownpl {mg : Str → Option Value} {H : Hp} {B : Addr → Prop} : ∀ {xs : List D} {vs : List V} {as : List Addr}, Reps mg H B xs vs as → ∀ a ∈ as, ∃ o, H a = some o ∧ Pl o
  | [], _, _, h, a, ha => by rw [Reps] at h; rw [h.2] at ha; cases ha
  | x :: xs, vs, as, h, a, ha => by
    rw [Reps] at h
    obtain ⟨v, ws, a1, a2, e1, e2, h1, h2⟩ := h
    rw [e2] at ha
    rcases List.mem_append.mp ha with z | z
    · exact Rep.ownpl h1 a z
    · exact Reps.ownpl h2 a z
end
theorem tbk_upd {H : Hp} {a : Addr} {u w : HO} (e : H a = some u) (p : Pl u) : TbK H (upd H a w) := by
  have ta : ∀ b ps, H b = some (.tbl ps) → b ≠ a := fun b ps h z => by
    subst z; rw [e] at h; cases h; exact p.1 ps rfl
  refine ⟨fun b ps h => ⟨ps, by rw [upd_ne (ta b ps h)]; exact h⟩, fun P h => ?_⟩
  obtain ⟨ps, h1, h2, h3⟩ := h
  refine ⟨ps, by rw [upd_ne (ta P ps h1)]; exact h1, h2, fun pos cv hc => ?_⟩
  obtain ⟨c, e1, e2⟩ := h3 pos cv hc
  refine ⟨c, e1, ?_⟩
  rw [upd_ne]
  · exact e2
  · rintro rfl
    rw [e] at e2
    exact p.2 _ (Option.some.inj e2)
theorem Pl.frz {o : Obj} {u : HO} : Pl (.frz o u) := ⟨(fun _ z => by cases z), (fun _ z => by cases z)⟩
theorem Pl.lst {xs : List V} : Pl (.lst xs) := ⟨(fun _ z => by cases z), (fun _ z => by cases z)⟩
structure Fr where
  H0 : Hp
  B0 : Addr → Prop
  M0 : Addr → Prop
  /-- slots that are held: as long as nothing is stored there they have this value -/
  P0 : Nat → Option V
def Fr.np (F : Fr) : Fr := ⟨F.H0, F.B0, F.M0, fun _ => none⟩
abbrev Own := Addr → Option Nat
structure BI (X : Cx) (F : Fr) (ω : Own) (ρ : En) (σ : St) (H : Hp) : Prop where
  lr : ρ.length = X.N.length
  ls : σ.length = X.N.length
  same : ∀ b o, F.H0 b = some o → ¬ F.M0 b → NTb o → H b = some o
  ts : TbK F.H0 H
  tab : ∀ P ∈ tabsT, TblAt H P
  m0 : ∀ a, F.M0 a → ∀ o, F.H0 a = some o → Pl o
  pl : ∀ a i, ω a = some i → i ≠ X.N.length → ∀ o, H a = some o → Pl o
  there : ∀ b, F.H0 b ≠ none → H b ≠ none
  out : ∀ a, F.B0 a → ω a = some X.N.length
  fre : ∀ a i, ω a = some i → i = X.N.length ∨ F.H0 a = none ∨ F.M0 a
  dom : ∀ a i, ω a = some i → ∃ o, H a = some o ∧ ∀ xs, o ≠ .tup xs
  env : ∀ (i : Nat) (d : D), ρ[i]? = some (some d) → ∃ v as, σ[i]? = some (some v) ∧ Rep X.mg H (fun a => ω a ≠ none) d v as ∧ as.Nodup ∧ ∀ a ∈ as, ω a = some i
  pin : ∀ (i : Nat) (v : V), F.P0 i = some v → ρ[i]? = some none → σ[i]? = some (some v)
structure Step (X : Cx) (ω : Own) (H : Hp) (ω' : Own) (H' : Hp) : Prop where
  kp : ∀ b o, H b = some o → (ω b = none ∨ ω b = some X.N.length) → (n : NTb o := by first | assumption | (intro _ z; cases z; done) | exact NTb.dobj (by assumption) | exact codeR_nt _) → H' b = some o
  ts : TbK H H'
  nn : ∀ a, H a ≠ none → ω a = none → ω' a = none
  nN : ∀ a, ω a = some X.N.length → ω' a = some X.N.length
  there : ∀ b, H b ≠ none → H' b ≠ none
section
variable {X : Cx} {F : Fr} {ω ω' ω2 : Own} {ρ : En} {σ : St} {H H' H2 : Hp}
theorem Step.refl : Step X ω H ω H := ⟨fun _ _ e _ _ => e, .refl, fun _ _ e => e, fun _ e => e, fun _ e => e⟩
theorem Step.trans (a : Step X ω H ω' H') (b : Step X ω' H' ω2 H2) : Step X ω H ω2 H2 :=
  ⟨fun c o e h n => b.kp c o (a.kp c o e h n) (h.imp (a.nn c (by rw [e]; intro z; cases z)) (a.nN c)) n, a.ts.trans b.ts, fun c h e => b.nn c (a.there c h) (a.nn c h e), fun c e => b.nN c (a.nN c e), fun c h => b.there c (a.there c h)⟩
theorem Step.same (s : Same H H') : Step X ω H ω H' := ⟨fun b o e _ n => s.kp b o e n, s.ts, fun _ _ e => e, fun _ e => e, fun _ h => Same.there s h⟩
theorem BI.to (b : BI X F ω ρ σ H) (s : Same H H') : BI X F ω ρ σ H' where
  lr := b.lr
  ls := b.ls
  same := fun c o e h n => s.kp c o (b.same c o e h n) n
  ts := b.ts.trans s.ts
  tab := fun P h => s.tt P (b.tab P h)
  m0 := b.m0
  pl := fun a i h hi o e => by
    obtain ⟨o0, h0, _⟩ := b.dom a i h
    have p0 := b.pl a i h hi o0 h0
    rw [s.kp a o0 h0 p0.1] at e
    cases e
    exact p0
  there := fun c h => Same.there s (b.there c h)
  out := b.out
  fre := b.fre
  dom := fun a i e => let ⟨o, h, t⟩ := b.dom a i e; s.nt h t
  env := fun i d e => let ⟨v, as, h1, h2, h3, h4⟩ := b.env i d e; ⟨v, as, h1, h2.same s, h3, h4⟩
  pin := b.pin
theorem BI.np (b : BI X F ω ρ σ H) : BI X F.np ω ρ σ H := ⟨b.lr, b.ls, b.same, b.ts, b.tab, b.m0, b.pl, b.there, b.out, b.fre, b.dom, b.env, fun _ _ z => by cases z⟩
def frzE (ρ : En) : En := ρ.map fun o => o.map D.frz
/-- what must be avoided, where the names fv may be looked at -/
def Bx (X : Cx) (ω : Own) (fv : List Nat) : Addr → Prop := fun a => ∃ i, ω a = some i ∧ (i ∉ fv ∨ i = X.N.length)
theorem BI.bdom (b : BI X F ω ρ σ H) (fv : List Nat) : BDom (Bx X ω fv) H := ⟨fun a ⟨i, e, _⟩ => b.dom a i e, b.tab⟩
theorem BI.enOn (b : BI X F ω ρ σ H) (fv : List Nat) : EnOn X.mg fv (frzE ρ) σ H (Bx X ω fv) := fun i hi d hd => by
  unfold frzE at hd
  rw [List.getElem?_map] at hd
  cases e : ρ[i]? with
  | none => rw [e] at hd; cases hd
  | some o =>
    cases o with
    | none => rw [e] at hd; cases hd
    | some d0 =>
      rw [e] at hd
      cases hd
      obtain ⟨v, as, h1, h2, h3, h4⟩ := b.env i d0 e
      have hlt : i < X.N.length := by
        rw [← b.lr]
        exact (List.getElem?_eq_some_iff.mp e).1
      refine ⟨v, h1, h2.frz (fun a _ hn ⟨j, ej, _⟩ => hn (by rw [ej]; intro z; cases z)) fun a ha ⟨j, ej, hj⟩ => ?_⟩
      rw [h4 a ha] at ej
      cases ej
      rcases hj with hj | hj
      · exact hj hi
      · omega
def frzAt : List Nat → En → En
  | [], ρ => ρ
  | j :: js, ρ => frzAt js (ρ.modify j fun o => o.map D.frz)
theorem frzAt_len : ∀ (js : List Nat) (ρ : En), (frzAt js ρ).length = ρ.length
  | [], _ => rfl
  | j :: js, ρ => by rw [frzAt, frzAt_len, List.length_modify]
theorem frzAt_get : ∀ (js : List Nat) (ρ : En) (i : Nat), (frzAt js ρ)[i]? = if i ∈ js then ρ[i]?.map fun o => o.map D.frz else ρ[i]?
  | [], ρ, i => by rw [if_neg (by simp)]; rfl
  | j :: js, ρ, i => by
    have ff : ∀ o : Option D, (o.map D.frz).map D.frz = o.map D.frz := fun o => by cases o <;> simp [D.frz_frz]
    rw [frzAt, frzAt_get, List.getElem?_modify]
    by_cases h1 : i ∈ js
    · rw [if_pos h1, if_pos (List.mem_cons_of_mem _ h1)]
      by_cases h2 : j = i
      · subst h2
        cases ρ[j]? with
        | none => rfl
        | some o => simp [ff]
      · simp [h2]
    · by_cases h2 : j = i
      · subst h2
        rw [if_neg h1, if_pos List.mem_cons_self]
        cases ρ[j]? <;> simp
      · rw [if_neg h1, if_neg fun z => (List.mem_cons.mp z).elim (fun e => h2 e.symm) h1]
        simp [h2]
def frzO (X : Cx) (fv : List Nat) (ω : Own) : Own := fun a => match ω a with
  | some j => if j ∈ fv ∧ j ≠ X.N.length then none else some j
  | none => none
theorem frzO_none {fv : List Nat} {a : Addr} (h : ω a = none) : frzO X fv ω a = none := by unfold frzO; rw [h]
theorem frzO_some {fv : List Nat} {a : Addr} {i : Nat} (h : frzO X fv ω a = some i) : ω a = some i ∧ ¬ (i ∈ fv ∧ i ≠ X.N.length) := by
  unfold frzO at h
  cases e : ω a with
  | none => rw [e] at h; cases h
  | some j =>
    rw [e] at h
    have h' : (if j ∈ fv ∧ j ≠ X.N.length then none else some j) = some i := h
    split at h'
    · cases h'
    · cases h'; exact ⟨rfl, ‹_›⟩
theorem frzO_of {fv : List Nat} {a : Addr} {i : Nat} (h : ω a = some i) (n : ¬ (i ∈ fv ∧ i ≠ X.N.length)) : frzO X fv ω a = some i := by unfold frzO; rw [h]; exact if_neg n
theorem frzO_hit {fv : List Nat} {a : Addr} {i : Nat} (h : ω a = some i) (n : i ∈ fv ∧ i ≠ X.N.length) : frzO X fv ω a = none := by unfold frzO; rw [h]; exact if_pos n
theorem BI.freeze (b : BI X F ω ρ σ H) (fv : List Nat) : BI X F (frzO X fv ω) (frzAt fv ρ) σ H where
  lr := by rw [frzAt_len]; exact b.lr
  ls := b.ls
  same := b.same
  ts := b.ts
  tab := b.tab
  m0 := b.m0
  pl := fun a i e hi => b.pl a i (frzO_some e).1 hi
  there := b.there
  out := fun a h => frzO_of (b.out a h) fun z => z.2 rfl
  fre := fun a i e => b.fre a i (frzO_some e).1
  dom := fun a i e => b.dom a i (frzO_some e).1
  env := fun i d e => by
    rw [frzAt_get] at e
    have hlt : i < X.N.length := by
      rw [← b.lr]
      split at e
      · cases e2 : ρ[i]? with
        | none => rw [e2] at e; cases e
        | some o => exact (List.getElem?_eq_some_iff.mp e2).1
      · exact (List.getElem?_eq_some_iff.mp e).1
    have nn : ∀ a, H a ≠ none → ¬ ω a ≠ none → ¬ frzO X fv ω a ≠ none := fun a _ h z => z (frzO_none (Classical.not_not.mp h))
    split at e
    · rename_i hi
      cases e2 : ρ[i]? with
      | none => rw [e2] at e; cases e
      | some o =>
        cases o with
        | none => rw [e2] at e; cases e
        | some d0 =>
          rw [e2] at e
          cases e
          obtain ⟨v, as, h1, h2, h3, h4⟩ := b.env i d0 e2
          exact ⟨v, [], h1, h2.frz nn fun a ha z => z (frzO_hit (h4 a ha) ⟨hi, Nat.ne_of_lt hlt⟩), List.nodup_nil, fun _ z => nomatch z⟩
    · rename_i hi
      obtain ⟨v, as, h1, h2, h3, h4⟩ := b.env i d e
      exact ⟨v, as, h1, h2.step (fun _ _ z _ => z) nn, h3, fun a ha => frzO_of (h4 a ha) fun z => hi z.1⟩
  pin := fun i v h e => b.pin i v h (by
    rw [frzAt_get] at e
    split at e
    · cases e2 : ρ[i]? with
      | none => rw [e2] at e; cases e
      | some o => cases o with
        | none => rfl
        | some d => rw [e2] at e; cases e
    · exact e)
theorem Step.freeze {fv : List Nat} : Step X ω H (frzO X fv ω) H := ⟨fun _ _ e _ _ => e, .refl, fun _ _ e => frzO_none e, fun _ e => frzO_of e fun z => z.2 rfl, fun _ h => h⟩
/-- the owner of what is new -/
def setO (as : List Addr) (i : Nat) (ω : Own) : Own := fun a => if a ∈ as then some i else if ω a = some i then none else ω a
/-- a slot takes a new tree; only what it owned may have changed -/
theorem BI.put {H1 : Hp} (b : BI X F ω ρ σ H) {i : Nat} {d : D} {v : V} {as : List Addr} (hi : i < X.N.length) (k : ∀ c o, H c = some o → ω c ≠ some i → NTb o → H1 c = some o) (th : ∀ c, H c ≠ none → H1 c ≠ none) (ts : TbK H H1)
    (r : Rep X.mg H1 (fun a => setO as i ω a ≠ none) d v as) (n : as.Nodup) (ha : ∀ a ∈ as, ω a = some i ∨ H a = none) (hd : ∀ a ∈ as, ∃ o, H1 a = some o ∧ ∀ xs, o ≠ .tup xs) :
    BI X F (setO as i ω) (ρ.set i (some d)) (σ.set i (some v)) H1 ∧ Step X ω H (setO as i ω) H1 := by
  have hne : ∀ a, ω a = some i → F.H0 a = none ∨ F.M0 a := fun a e => (b.fre a i e).elim (fun z => by omega) id
  have other : ∀ a (j : Nat), ω a = some j → j ≠ i → a ∉ as ∧ setO as i ω a = some j := fun a j e hj => by
    have h1 : a ∉ as := fun z => (ha a z).elim (fun q => by rw [e] at q; cases q; exact hj rfl) fun q => by
      obtain ⟨o, ho, _⟩ := b.dom a j e
      rw [q] at ho; cases ho
    refine ⟨h1, ?_⟩
    unfold setO
    rw [if_neg h1, if_neg (by rw [e]; intro z; cases z; exact hj rfl), e]
  have clear : ∀ a, H a ≠ none → ω a = none → setO as i ω a = none := fun a h1 h2 => by
    unfold setO
    rw [if_neg fun z => (ha a z).elim (fun q => by rw [h2] at q; cases q) h1, h2]
    simp
  refine ⟨⟨by rw [List.length_set]; exact b.lr, by rw [List.length_set]; exact b.ls, fun c o e h n' => k c o (b.same c o e h n') (fun z => ?_) n', b.ts.trans ts, fun P h => ts.tt P (b.tab P h), b.m0, fun a j e hj o ho => ?_, fun c h => th c (b.there c h), fun a h => (other a _ (b.out a h) (by omega)).2, fun a j e => ?_, fun a j e => ?_, fun j d' e => ?_, fun j v' h e => ?_⟩,
    ⟨fun c o e h n' => k c o e (fun z => h.elim (fun q => by rw [z] at q; cases q) fun q => by rw [z] at q; cases q; omega) n', ts, clear, fun a e => (other a _ e (by omega)).2, th⟩⟩
  · rcases hne c z with q | q
    · rw [q] at e; cases e
    · exact h q
  · unfold setO at e
    split at e
    · rename_i h
      obtain ⟨o', ho', p⟩ := r.ownpl a h
      rw [ho] at ho'; cases ho'; exact p
    · split at e
      · cases e
      · rename_i h1 h2
        obtain ⟨o', ho', t⟩ := b.dom a j e
        have p := b.pl a j e hj o' ho'
        rw [k a o' ho' h2 p.1] at ho
        cases ho
        exact p
  · unfold setO at e
    split at e
    · rename_i h
      cases e
      rcases ha a h with q | q
      · exact .inr (hne a q)
      · refine .inr (.inl ?_)
        cases e0 : F.H0 a with
        | none => rfl
        | some o => exact absurd q (b.there a (by rw [e0]; intro z; cases z))
    · split at e
      · cases e
      · exact b.fre a j e
  · unfold setO at e
    split at e
    · rename_i h; exact hd a h
    · split at e
      · cases e
      · rename_i h1 h2
        by_cases hj : j = X.N.length
        · obtain ⟨o, ho, t⟩ := b.dom a j e
          by_cases hn : NTb o
          · exact ⟨o, k a o ho h2 hn, t⟩
          · unfold NTb at hn
            obtain ⟨ps, e2⟩ := Classical.not_forall.mp hn
            have e3 := Classical.not_not.mp e2
            subst e3
            obtain ⟨ps', h'⟩ := ts.tb a ps ho
            exact ⟨_, h', fun _ z => by cases z⟩
        · obtain ⟨o, ho, t⟩ := b.dom a j e
          exact ⟨o, k a o ho h2 (b.pl a j e hj o ho).1, t⟩
  · by_cases hj : j = i
    · subst hj
      rw [List.getElem?_set_self (by rw [b.lr]; exact hi)] at e
      cases e
      exact ⟨v, as, List.getElem?_set_self (by rw [b.ls]; exact hi), r, n, fun a h => by unfold setO; rw [if_pos h]⟩
    · rw [List.getElem?_set_ne (Ne.symm hj)] at e
      obtain ⟨w, bs, h1, h2, h3, h4⟩ := b.env j d' e
      refine ⟨w, bs, by rw [List.getElem?_set_ne (Ne.symm hj)]; exact h1, h2.stepN (fun a o ho hn hz => k a o ho (fun z => ?_) hn) (fun a h5 h6 h7 => h7 (clear a h5 (Classical.not_not.mp h6))), h3, fun a h => (other a j (h4 a h) hj).2⟩
      rcases hz with hz | hz
      · rw [h4 a hz] at z; cases z; exact hj rfl
      · exact hz (by rw [z]; intro q; cases q)
  · by_cases hj : j = i
    · subst hj
      rw [List.getElem?_set_self (by rw [b.lr]; exact hi)] at e
      cases e
    · rw [List.getElem?_set_ne (Ne.symm hj)] at e ⊢
      exact b.pin j v' h e
/-- a thing that a slot owns is changed: tables stay -/
theorem BI.tu (b : BI X F ω ρ σ H) {l : Addr} {i : Nat} {u : HO} (hl : ω l = some i) (hi : i < X.N.length) (s : Same H H') : TbK H (upd H' l u) := by
  obtain ⟨o, ho, _⟩ := b.dom l i hl
  have p := b.pl l i hl (Nat.ne_of_lt hi) o ho
  have ho' := s.kp l o ho p.1
  have tb : ∀ a ps, H a = some (.tbl ps) → a ≠ l := fun a ps h z => by
    subst z
    rw [ho] at h; cases h
    exact p.1 ps rfl
  refine ⟨fun a ps h => ?_, fun P h => ?_⟩
  · rw [upd_ne (tb a ps h)]; exact s.tb a ps h
  · obtain ⟨ps0, h0, _⟩ := id h
    obtain ⟨ps, h1, h2, h3⟩ := s.tt P h
    refine ⟨ps, by rw [upd_ne (tb P ps0 h0)]; exact h1, h2, fun pos cv hc => ?_⟩
    obtain ⟨c, e1, e2⟩ := h3 pos cv hc
    refine ⟨c, e1, ?_⟩
    rw [upd_ne]
    · exact e2
    · rintro rfl
      rw [ho'] at e2
      exact p.2 _ (Option.some.inj e2)
/-! ### what a statement comes to -/
inductive Out where
  | nx (ρ : En)
  | rt (d : D) (ρ : En)
  | ex (x : Ex) (ρ : En)
  | bk (ρ : En)
  | ct (ρ : En)
  | no
def PostS (X : Cx) (F : Fr) (W : WX) (ω : Own) (H : Hp) (r : Out) (Dn : Ends) : Prop := match r with
  | .nx ρ => ∀ ω' σ' H', BI X F ω' ρ σ' H' → Step X ω H ω' H' → Dn.nx σ' H'
  | .bk ρ => ∀ ω' σ' H', BI X F ω' ρ σ' H' → Step X ω H ω' H' → Dn.bk σ' H'
  | .ct ρ => ∀ ω' σ' H', BI X F ω' ρ σ' H' → Step X ω H ω' H' → Dn.ct σ' H'
  | .rt d ρ => ∀ v as ω' σ' H', BI X F.np ω' ρ σ' H' → Step X ω H ω' H' → Rep X.mg H' (fun a => ω' a ≠ none) d v as → as.Nodup → (∀ a ∈ as, ω' a = none ∧ F.H0 a = none) → Dn.rt v H'
  | .ex x ρ => ∀ c od ω' σ' H', BI X F ω' ρ σ' H' → Step X ω H ω' H' → ExR X.mg F.H0 H' (fun a => ω' a ≠ none) x c od → W c od σ' H'
  | .no => False
theorem PostS.step {W : WX} {r : Out} {Dn : Ends} (h : PostS X F W ω H r Dn) (s : Step X ω H ω' H') : PostS X F W ω' H' r Dn := by
  cases r with
  | nx ρ => exact fun w2 σ' H2 b s2 => h w2 σ' H2 b (s.trans s2)
  | bk ρ => exact fun w2 σ' H2 b s2 => h w2 σ' H2 b (s.trans s2)
  | ct ρ => exact fun w2 σ' H2 b s2 => h w2 σ' H2 b (s.trans s2)
  | rt d ρ => exact fun v as w2 σ' H2 b s2 => h v as w2 σ' H2 b (s.trans s2)
  | ex x ρ => exact fun c od w2 σ' H2 b s2 => h c od w2 σ' H2 b (s.trans s2)
  | no => exact h
def TSv (X : Cx) (F : Fr) (W : WX) (m : En → Out) : TS := fun Dn σ H => ∃ ω ρ, BI X F ω ρ σ H ∧ PostS X F W ω H (m ρ) Dn
abbrev DS (X : Cx) (F : Fr) (W : WX) (st : Stmt) (m : En → Out) : Prop := PS X st (TSv X F W m)
abbrev DSs (X : Cx) (F : Fr) (W : WX) (st : List Stmt) (m : En → Out) : Prop := PSs X st (TSv X F W m)
end
section
variable {X : Cx} {F : Fr} {W : WX} {st : Stmt} {sts : List Stmt} {m m1 m2 : En → Out} {e a b c : Expr} {fv fa fb fc : List Nat} {me ma mb mc : En → Res D} {mt : En → Res Bool} {pos pos' : Pos} {i : Nat} {x : Str}
theorem PS.mk {t t' : TS} (h : PS X st t) (hh : ∀ D σ H, Bnd H → t' D σ H → t D σ H) : PS X st t' := ⟨fun pins s σ H D I q => h.run pins s σ H D I (hh D σ H (bnd_of I) q)⟩
theorem PSs.mk {t t' : TS} (h : PSs X sts t) (hh : ∀ D σ H, Bnd H → t' D σ H → t D σ H) : PSs X sts t' := ⟨fun pins s σ H D I q => h.run pins s σ H D I (hh D σ H (bnd_of I) q)⟩
def mskip : En → Out := .nx
def mseq (m1 m2 : En → Out) : En → Out := fun ρ => match m1 ρ with
  | .nx ρ' => m2 ρ'
  | o => o
theorem dss_nil : DSs X F W [] mskip := PSs.mk pss_nil fun D σ H bn ⟨ω, ρ, b, hp⟩ => hp ω σ H b Step.refl
theorem dss_one (h : DS X F W st m) : DSs X F W [st] m := pss_one h
theorem dss_cons (h1 : DS X F W st m1) (h2 : DSs X F W sts m2) : DSs X F W (st :: sts) (mseq m1 m2) := by
  refine PSs.mk (pss_cons h1 h2) fun D σ H bn ⟨ω, ρ, b, hp⟩ => ⟨ω, ρ, b, ?_⟩
  unfold mseq at hp
  cases e : m1 ρ with
  | nx ρ' =>
    rw [e] at hp
    exact fun w2 σ' H2 b2 s2 => ⟨w2, ρ', b2, PostS.step (r := m2 ρ') hp s2⟩
  | bk ρ' => rw [e] at hp; exact hp
  | ct ρ' => rw [e] at hp; exact hp
  | rt d ρ' => rw [e] at hp; exact hp
  | ex y ρ' => rw [e] at hp; exact hp
  | no => rw [e] at hp; exact hp
theorem ds_pass : DS X F W (.Pass pos) mskip := PS.mk ps_pass fun D σ H bn ⟨ω, ρ, b, hp⟩ => hp ω σ H b Step.refl
theorem ds_doc {y j} : DS X F W (.Expr (.Constant (.str y) j pos) pos') mskip := PS.mk ps_doc fun D σ H bn ⟨ω, ρ, b, hp⟩ => hp ω σ H b Step.refl
theorem ds_break : DS X F W (.Break pos) .bk := PS.mk ps_break fun D σ H bn ⟨ω, ρ, b, hp⟩ => hp ω σ H b Step.refl
theorem ds_continue : DS X F W (.Continue pos) .ct := PS.mk ps_continue fun D σ H bn ⟨ω, ρ, b, hp⟩ => hp ω σ H b Step.refl
/-- what an expression comes to, in a statement -/
def thenE {α : Type} (r : Res α) (ρ : En) (k : α → Out) : Out := match r with
  | .ok d => k d
  | .ex y => .ex y ρ
  | .no => .no
/-- an expression within a statement -/
theorem BI.eval {α β : Type} {Rp : RpT α β} {ω : Own} {ρ : En} {σ : St} {H : Hp} {Dn : Ends} {me : En → Res α} {k : α → Out} {Q : β → Hp → Prop} (b : BI X F ω ρ σ H) (hp : PostS X F W ω H (thenE (me (frzE ρ)) ρ k) Dn)
    (hk : ∀ d, me (frzE ρ) = .ok d → ∀ v H' as, Bnd H' → Same H H' → Rp H' (Bx X ω fv) d v as → (∀ a ∈ as, H a = none) → as.Nodup → PostS X F W ω H' (k d) Dn → BI X F ω ρ σ H' → Q v H') : Tv Rp W X.mg fv me σ H Q := by
  refine ⟨frzE ρ, Bx X ω fv, b.enOn fv, b.bdom fv, ?_⟩
  cases er : me (frzE ρ) with
  | ok d =>
    rw [er] at hp
    exact fun v H' as bn s r f n => hk d er v H' as bn s r f n (PostS.step (r := k d) hp (Step.same s)) (b.to s)
  | ex y =>
    rw [er] at hp
    refine fun c od H' s x => hp c od ω σ H' (b.to s) (Step.same s) (x.to (fun a ha ys => by
      cases ew : ω a with
      | none => exact absurd ew ha
      | some i =>
        obtain ⟨o, ho, t⟩ := (b.to s).dom a i ew
        rw [ho]
        exact fun z => t ys (Option.some.inj z)) fun d hd _ => ⟨?_, fun z => ?_⟩)
    · cases e0 : F.H0 d with
      | none => rfl
      | some o => exact absurd hd (b.there d (by rw [e0]; intro z; cases z))
    · cases ew : ω d with
      | none => exact z ew
      | some i =>
        obtain ⟨o, ho, _⟩ := b.dom d i ew
        rw [hd] at ho
        cases ho
  | no => rw [er] at hp; exact hp
end
end Ev

/-! Ev, part I: stores, returns, branches, loops. -/
namespace Ev
open PySem PySem.Spec L2
open PyProof.Rows hiding St
mutual
/-- one's own nodes are no tuples -/
theorem Rep.ownNT {mg : Str → Option Value} {H : Hp} {B : Addr → Prop} : ∀ {d : D} {v : V} {as : List Addr}, Rep mg H B d v as → ∀ a ∈ as, ∃ o, H a = some o ∧ ∀ xs, o ≠ .tup xs
  | .non, _, _, h, a, ha => by rw [h.2] at ha; cases ha
  | .bl _, _, _, h, a, ha => by rw [h.2] at ha; cases ha
  | .int _, _, _, h, a, ha => by rw [h.2] at ha; cases ha
  | .str _, _, _, h, a, ha => by rw [h.2] at ha; cases ha
  | .node t xs, v, as, h, a, ha => by
    rw [Rep] at h
    obtain ⟨b, vs, bs, e, hd, hr, q⟩ := h
    rcases q with ⟨q1, q⟩ | ⟨_, _, q⟩
    · rw [q] at ha
      rcases List.mem_cons.mp ha with e | ha
      · subst e
        cases t with
        | tup => cases q1
        | lst o =>
          have : o = true := q1
          subst this
          exact ⟨_, hd, fun _ z => HO.noConfusion z⟩
        | dct o t ks =>
          have : o = true := q1
          subst this
          obtain ⟨_, u, dd, h⟩ := hd
          refine ⟨u, h, fun ys z => ?_⟩
          cases t with
          | true => obtain ⟨k', _, e2⟩ := dd; rw [e2] at z; cases z
          | false => obtain ⟨k', _, e2⟩ := dd; rw [e2] at z; cases z
        | ins o c ns =>
          obtain ⟨_, C, dx, _, h⟩ := hd
          exact ⟨_, h, fun _ z => HO.noConfusion z⟩
        | io b t ks =>
          obtain ⟨_, _, u, dd, h⟩ := hd
          refine ⟨u, h, fun ys z => ?_⟩
          cases t with
          | true => obtain ⟨k', _, e2⟩ := dd; rw [e2] at z; cases z
          | false => obtain ⟨k', _, e2⟩ := dd; rw [e2] at z; cases z
        | exc c => cases q1
        | xd ns => cases q1
      · exact Reps.ownNT hr a ha
    · rw [q] at ha
      exact Reps.ownNT hr a ha
theorem Reps.ownNT {mg : Str → Option Value} {H : Hp} {B : Addr → Prop} : ∀ {xs : List D} {vs : List V} {as : List Addr}, Reps mg H B xs vs as → ∀ a ∈ as, ∃ o, H a = some o ∧ ∀ ys, o ≠ .tup ys
  | [], _, _, h, a, ha => by rw [Reps] at h; rw [h.2] at ha; cases ha
  | x :: xs, vs, as, h, a, ha => by
    rw [Reps] at h
    obtain ⟨v, ws, a1, a2, e1, e2, h1, h2⟩ := h
    rw [e2] at ha
    rcases List.mem_append.mp ha with z | z
    · exact Rep.ownNT h1 a z
    · exact Reps.ownNT h2 a z
end
/-- the slot i takes d -/
def sto (i : Nat) (fv : List Nat) (d : D) (ρ : En) : En := if d.shr = true then (frzAt fv ρ).set i (some d.frz) else ρ.set i (some d)
section
variable {X : Cx} {F : Fr} {ω ω' : Own} {ρ : En} {σ : St} {H H' : Hp}
theorem BI.nt (b : BI X F ω ρ σ H) : ∀ a, ω a ≠ none → ∀ xs, H a ≠ some (.tup xs) := fun a ha ys => by
  cases ew : ω a with
  | none => exact absurd ew ha
  | some i =>
    obtain ⟨o, ho, t⟩ := b.dom a i ew
    rw [ho]
    exact fun z => t ys (Option.some.inj z)
theorem BI.noO (b : BI X F ω ρ σ H) {a : Addr} (h : H a = none) : ω a = none := by
  cases e : ω a with
  | none => rfl
  | some i =>
    obtain ⟨o, ho, _⟩ := b.dom a i e
    rw [h] at ho; cases ho
theorem Bx.none {fv : List Nat} {a : Addr} (h : ¬ Bx X ω fv a) : frzO X fv ω a = none := by
  unfold frzO
  cases e : ω a with
  | none => rfl
  | some j =>
    refine if_pos ⟨?_, fun z => h ⟨j, e, .inr z⟩⟩
    exact Classical.byContradiction fun z => h ⟨j, e, .inl z⟩
theorem setO_nil_none {i : Nat} {a : Addr} (h : ω a = none) : setO [] i ω a = none := by
  unfold setO
  rw [if_neg (by simp), h]
  simp
/-- a view goes to a slot -/
theorem BI.putv (b : BI X F ω ρ σ H) {i : Nat} {d : D} {v : V} (hi : i < X.N.length) (r : Rep X.mg H (fun a => ω a ≠ none) d v []) : BI X F (setO [] i ω) (ρ.set i (some d)) (σ.set i (some v)) H ∧ Step X ω H (setO [] i ω) H :=
  b.put hi (fun _ _ e _ _ => e) (fun _ e => e) .refl (r.step (fun _ _ z _ => z) fun a _ h z => z (setO_nil_none (Classical.not_not.mp h))) List.nodup_nil (fun _ z => nomatch z) fun _ z => nomatch z
theorem BI.store (b : BI X F ω ρ σ H) {i : Nat} {fv : List Nat} {d : D} {v : V} {as : List Addr} (hi : i < X.N.length) (s : Same H H') (r : Rep X.mg H' (Bx X ω fv) d v as) (f : ∀ a ∈ as, H a = none) (n : as.Nodup) :
    ∃ ω', BI X F ω' (sto i fv d ρ) (σ.set i (some v)) H' ∧ Step X ω H ω' H' := by
  unfold sto
  by_cases hs : d.shr = true
  · rw [if_pos hs]
    have b1 := (b.freeze fv).to s
    obtain ⟨b2, s2⟩ := b1.putv (d := d.frz) (v := v) hi (r.frz (fun a _ h z => z (Bx.none h)) fun a ha z => z (frzO_none (b.noO (f a ha))))
    exact ⟨_, b2, (Step.freeze.trans (Step.same s)).trans s2⟩
  · rw [if_neg hs]
    have hs' : d.shr = false := by simpa using hs
    refine ⟨_, b.put hi (fun c o e _ n => s.kp c o e n) (fun c h => Same.there s h) s.ts (r.unsh (fun a ha ys => ?_) hs') n (fun a ha => .inr (f a ha)) r.ownNT⟩
    by_cases hm : a ∈ as
    · obtain ⟨o, ho, t⟩ := r.ownNT a hm
      rw [ho]
      exact fun z => t ys (Option.some.inj z)
    · unfold setO at ha
      rw [if_neg hm] at ha
      refine (b.to s).nt a (fun z => ha ?_) ys
      rw [z]; simp
/-- views go to the slots of a target -/
theorem BI.putAll : ∀ {ts : List Nat} {ds : List D} {vs : List V} {ω : Own} {ρ : En} {σ : St}, BI X F ω ρ σ H → (∀ t ∈ ts, t < X.N.length) → Reps X.mg H (fun a => ω a ≠ none) ds vs [] → ds.length = ts.length →
    ∃ ω', BI X F ω' (setAll ts ds ρ) (setAll ts vs σ) H ∧ Step X ω H ω' H
  | [], ds, vs, ω, ρ, σ, b, _, _, _ => by
    have e1 : setAll [] ds ρ = ρ := by unfold setAll; rfl
    have e2 : setAll [] vs σ = σ := by unfold setAll; rfl
    rw [e1, e2]
    exact ⟨ω, b, Step.refl⟩
  | t :: ts, [], vs, ω, ρ, σ, b, _, _, l => by simp at l
  | t :: ts, d :: ds, vs, ω, ρ, σ, b, ht, r, l => by
    rw [Reps] at r
    obtain ⟨v, ws, a1, a2, rfl, e2, h1, h2⟩ := r
    obtain ⟨z1, z2⟩ := List.append_eq_nil_iff.mp e2.symm
    subst z1 z2
    obtain ⟨b1, s1⟩ := b.putv (ht t List.mem_cons_self) h1
    obtain ⟨ω', b2, s2⟩ := BI.putAll b1 (fun q hq => ht q (List.mem_cons_of_mem _ hq)) (h2.step (fun _ _ z _ => z) fun a _ h z => z (setO_nil_none (Classical.not_not.mp h))) (by simpa using l)
    rw [setAll, setAll]
    exact ⟨ω', b2, s1.trans s2⟩
/-- the slot i is left -/
def dropO (i : Nat) (ω : Own) : Own := fun a => if ω a = some i then none else ω a
theorem dropO_none {i : Nat} {a : Addr} (h : ω a = none) : dropO i ω a = none := by unfold dropO; rw [h]; simp
theorem BI.drop (b : BI X F ω ρ σ H) {i : Nat} (hi : i < X.N.length) : BI X F.np (dropO i ω) (ρ.set i none) σ H ∧ Step X ω H (dropO i ω) H := by
  refine ⟨⟨by rw [List.length_set]; exact b.lr, b.ls, b.same, b.ts, b.tab, b.m0, fun a j e hj => ?_, b.there, fun a h => ?_, fun a j e => ?_, fun a j e => ?_, fun j d e => ?_, fun _ _ z => by cases z⟩, ⟨fun _ _ e _ _ => e, .refl, fun a _ e => dropO_none e, fun a e => ?_, fun _ h => h⟩⟩
  · unfold dropO at e
    split at e
    · cases e
    · exact b.pl a j e hj
  · have e := b.out a h
    unfold dropO
    rw [if_neg (by rw [e]; intro z; cases z; omega)]
    exact e
  · unfold dropO at e
    split at e
    · cases e
    · exact b.fre a j e
  · unfold dropO at e
    split at e
    · cases e
    · exact b.dom a j e
  · by_cases hj : j = i
    · subst hj
      rw [List.getElem?_set_self (by rw [b.lr]; exact hi)] at e
      cases e
    · rw [List.getElem?_set_ne (Ne.symm hj)] at e
      obtain ⟨w, bs, h1, h2, h3, h4⟩ := b.env j d e
      refine ⟨w, bs, h1, h2.step (fun _ _ z _ => z) fun a _ h z => z (dropO_none (Classical.not_not.mp h)), h3, fun a h => ?_⟩
      unfold dropO
      rw [if_neg (by rw [h4 a h]; intro z; cases z; exact hj rfl)]
      exact h4 a h
  · unfold dropO
    rw [if_neg (by rw [e]; intro z; cases z; omega)]
    exact e
end
section
variable {X : Cx} {F : Fr} {W : WX} {st : Stmt} {sts orelse : List Stmt} {m m1 m2 : En → Out} {e a b c tg : Expr} {es : List Expr} {fv fa fb fc : List Nat} {me ma mb mc : En → Res D} {mt : En → Res Bool} {pos pos' : Pos} {i : Nat} {x : Str} {t : Tg}
def mset (i : Nat) (fv : List Nat) (me : En → Res D) : En → Out := fun ρ => thenE (me (frzE ρ)) ρ fun d => .nx (sto i fv d ρ)
theorem ltN (h : X.N[i]? = some x) : i < X.N.length := (List.getElem?_eq_some_iff.mp h).1
theorem ds_set (hN : X.N.Nodup) (he : DE X W e fv me) (hi : X.N[i]? = some x := by rfl) (hx : Loc X.env.scope x := by first | exact Or.inl rfl | exact Or.inr rfl) (hs : swapsWith e (some (.Name x pos')) pos.line X.env = pure false := by rfl) (hf : X.fn x = true ∨ X.env.scope.names.lookup x = some .local := by first | exact .inl rfl | exact .inr rfl) :
    DS X F W (.Assign [.Name x pos'] e pos) (mset i fv me) := by
  refine PS.mk (ps_set hN hi hx he hs hf) fun D σ H bn ⟨ω, ρ, b, hp⟩ => ?_
  refine b.eval hp fun d _ v H' as bn' s r f n hp' b' => ?_
  obtain ⟨ω', b2, s2⟩ := b.store (ltN hi) s r f n
  have hp2 : PostS X F W ω H (thenE (me (frzE ρ)) ρ fun d => .nx (sto i fv d ρ)) D := hp
  rw [‹me (frzE ρ) = _›] at hp2
  exact hp2 ω' _ H' b2 s2
def Ends.bnd (D : Ends) : Ends := ⟨fun σ H => Bnd H → D.nx σ H, fun v H => Bnd H → D.rt v H, fun σ H => Bnd H → D.bk σ H, fun σ H => Bnd H → D.ct σ H⟩
theorem PS.mkB {t t' : TS} (h : PS X st t) (hh : ∀ D σ H, Bnd H → t' D σ H → t (Ends.bnd D) σ H) : PS X st t' := ⟨fun pins s σ H D I q => by
  refine thn (h.run pins s σ H _ I (hh D σ H (bnd_of I) q)) fun f s' q => ?_
  cases f with
  | next => obtain ⟨σ', H', I', q⟩ := q; exact ⟨σ', H', I', q (bnd_of I')⟩
  | brk => obtain ⟨σ', H', I', q⟩ := q; exact ⟨σ', H', I', q (bnd_of I')⟩
  | cont => obtain ⟨σ', H', I', q⟩ := q; exact ⟨σ', H', I', q (bnd_of I')⟩
  | ret u => obtain ⟨v, σ', H', I', r, q⟩ := q; exact ⟨v, σ', H', I', r, q (bnd_of I')⟩⟩
/-- x = [..] on one line -/
theorem ds_setLc {ifs : List Expr} {elt : Expr} {ft fe fi : List Nat} {mi : En → Res (List D)} {scope : Scope} {own : List (Str × Nat)} {mt : En → Res Bool} (hN : X.N.Nodup) (hc : X.calm = true) (hi : DI X W tg a fi mi) (ok : BlkOk X.N X.env.scope scope own)
    (hg : ∀ (s : Shared) (H : Hp) (C : Addr) (cl : List (Str × Addr)) (fp : List Addr), PG (X.blk s H scope (compEnvC scope cl C X.env) fp) tg (t.tg X.K))
    (ht : ∀ (s : Shared) (H : Hp) (C : Addr) (cl : List (Str × Addr)) (fp : List Addr), DTs (X.blk s H scope (compEnvC scope cl C X.env) fp) W0 ifs ft mt)
    (he : ∀ (s : Shared) (H : Hp) (C : Addr) (cl : List (Str × Addr)) (fp : List Addr), DE (X.blk s H scope (compEnvC scope cl C X.env) fp) W0 elt fe me)
    (hsw : swapsWith (.ListComp elt [⟨tg, a, ifs, 0⟩] scope pos') (some (.Name x pos)) pos.line X.env = pure true) {spos : Pos} (hsp : spos.line = pos.line := by rfl)
    (hy : X.N[i]? = some x := by rfl) (hyl : X.env.scope.names.lookup x = some .local := by rfl)
    (hw : ((own.map (·.2)).all fun q => t.slots.contains q && decide (q < X.N.length)) = true := by rfl) (hw2 : (t.slots.all fun q => (own.map (·.2)).contains q) = true := by rfl) (hs : ∀ x, foldedSetIterable a X.env x = pure x := by intro _; rfl) :
    DS X F W (.Assign [.Name x pos] (.ListComp elt [⟨tg, a, ifs, 0⟩] scope pos') spos) (mset i (fi ++ (ft ++ fe).filter fun j => !t.slots.contains j) (mlc mi t mt me)) := by
  refine PS.mkB (ps_setLc (tt := Tv RpB W0 X.mg ft mt) (te := Tv (Rep X.mg) W0 X.mg fe me) hc hN hy hyl (by rw [hsp]; exact hsw) hi ok hg ht he hs) fun D σ H bn ⟨ω, ρ, b, hp⟩ => ?_
  have h1 : ∀ q ∈ own.map (·.2), q ∈ t.slots ∧ q < X.N.length := fun q hq => by
    have := List.all_eq_true.mp hw q hq
    rw [Bool.and_eq_true] at this
    exact ⟨by simpa using this.1, of_decide_eq_true this.2⟩
  obtain ⟨ρ', B', en, bd, hpe⟩ : Tv (Rep X.mg) W X.mg (fi ++ (ft ++ fe).filter fun j => !t.slots.contains j) (mlc mi t mt me) σ H fun v H' => D.nx (σ.set i (some v)) H' := by
    refine b.eval hp fun d _ v H' as bn' s r f n hp' b' => ?_
    obtain ⟨ω', b2, s2⟩ := b.store (ltN hy) s r f n
    have hp2 : PostS X F W ω H (thenE (mlc mi t mt me (frzE ρ)) ρ fun d => .nx (sto i _ d ρ)) D := hp
    rw [‹mlc mi t mt me (frzE ρ) = _›] at hp2
    exact hp2 ω' _ H' b2 s2
  exact lc_read (X := X) (W := W) (wi := Tv (RpI X.mg) W X.mg fi mi) rfl (fun q hq => by simpa using List.all_eq_true.mp hw2 q hq) (fun q hq => (h1 q hq).1) (fun q hq => by rw [b.ls]; exact (h1 q hq).2) en bd hpe
/-! ### returns, branches -/
def mret (fv : List Nat) (me : En → Res D) : En → Out := fun ρ => thenE (me (frzE ρ)) ρ fun d => .rt d (frzAt fv ρ)
theorem none0 (b : BI X F ω ρ σ H) {a : Addr} (f : H a = none) : F.H0 a = none := by
  cases e0 : F.H0 a with
  | none => rfl
  | some o => exact absurd f (b.there a (by rw [e0]; intro z; cases z))
theorem ds_ret (he : DE X W e fv me) : DS X F W (.Return (some e) pos) (mret fv me) := by
  refine PS.mk (ps_ret he) fun D σ H bn ⟨ω, ρ, b, hp⟩ => ?_
  refine b.eval hp fun d ed v H' as bn' s r f n hp' b' => ?_
  have hp2 : PostS X F W ω H (thenE (me (frzE ρ)) ρ fun d => .rt d (frzAt fv ρ)) D := hp
  rw [ed] at hp2
  exact hp2 v as _ σ H' (b'.freeze fv).np ((Step.same s).trans Step.freeze) (r.step (fun _ _ z _ => z) fun a _ h z => z (Bx.none h)) n fun a ha => ⟨frzO_none (b.noO (f a ha)), none0 b (f a ha)⟩
def mretn : En → Out := fun ρ => .rt .non ρ
theorem ds_retn : DS X F W (.Return none pos) mretn := PS.mk ps_retN fun D σ H bn ⟨ω, ρ, b, hp⟩ => hp .non [] ω σ H b.np Step.refl rep_non List.nodup_nil fun _ z => nomatch z
/-- return of a name: its tree goes out as it is -/
def mretv (i : Nat) : En → Out := fun ρ => match ρ[i]? with
  | some (some d) => .rt d (ρ.set i none)
  | _ => .no
theorem ds_retv (hM : ∀ a, ¬ F.M0 a) (hi : X.N[i]? = some x := by rfl) (hv : Vis X.env.scope x := by first | exact Or.inl rfl | exact Or.inr (Or.inl rfl) | exact Or.inr (Or.inr rfl)) (hd : (x == ("__debug__" : Str)) = false := by decide)
    (hcd : (x == ("__classdict__" : Str)) = false := by decide) : DS X F W (.Return (some (.Name x pos')) pos) (mretv i) := by
  refine PS.mk (ps_ret (pe_var hi hv hd hcd)) fun D σ H bn ⟨ω, ρ, b, hp⟩ => ?_
  unfold mretv at hp
  split at hp
  · rename_i d ed
    obtain ⟨v, as, h1, h2, h3, h4⟩ := b.env i d ed
    obtain ⟨b2, s2⟩ := b.drop (ltN hi)
    refine ⟨v, h1, hp v as _ σ H b2 s2 (h2.step (fun _ _ z _ => z) fun a _ h z => z (dropO_none (Classical.not_not.mp h))) h3 fun a ha => ⟨by unfold dropO; rw [if_pos (h4 a ha)], ?_⟩⟩
    rcases b.fre a i (h4 a ha) with z | z | z
    · have := ltN hi; omega
    · exact z
    · exact absurd z (hM a)
  · exact hp.elim
def mifs (t : En → Res Bool) (m1 m2 : En → Out) : En → Out := fun ρ => thenE (t (frzE ρ)) ρ fun c => if c = true then m1 ρ else m2 ρ
theorem ds_if (hc : DT X W c fc mt) (h1 : DSs X F W sts m1) (h2 : DSs X F W orelse m2) : DS X F W (.If c sts orelse pos) (mifs mt m1 m2) := by
  refine PS.mk (ps_if hc h1 h2) fun D σ H bn ⟨ω, ρ, b, hp⟩ => ?_
  refine b.eval hp fun d ed v H' as bn' s r f n hp' b' => ?_
  obtain ⟨rfl, _⟩ := r
  cases v with
  | true => rw [if_pos rfl] at hp' ⊢; exact ⟨ω, ρ, b', hp'⟩
  | false => rw [if_neg Bool.false_ne_true] at hp' ⊢; exact ⟨ω, ρ, b', hp'⟩
def mdrop (me : En → Res D) : En → Out := fun ρ => thenE (me (frzE ρ)) ρ fun _ => .nx ρ
theorem ds_expr (he : DE X W e fv me) (hs : swapsWith e none pos.line X.env = pure false := by rfl) : DS X F W (.Expr e pos) (mdrop me) := by
  refine PS.mk (ps_expr he hs) fun D σ H bn ⟨ω, ρ, b, hp⟩ => ?_
  exact b.eval hp fun d ed v H' as bn' s r f n hp' b' => hp' ω σ H' b' Step.refl
/-- name += e, whole numbers -/
def maug (i : Nat) (me : En → Res D) : En → Out := fun ρ => match ρ[i]? with
  | some (some (.int j)) => thenE (me (frzE ρ)) ρ fun d => match d with
    | .int k => .nx (ρ.set i (some (.int (j + k))))
    | _ => .no
  | _ => .no
theorem ds_aug (hN : X.N.Nodup) (he : DE X W e fv me) (hi : X.N[i]? = some x := by rfl) (hx : Loc X.env.scope x := by first | exact Or.inl rfl | exact Or.inr rfl) (hf : X.fn x = true ∨ X.env.scope.names.lookup x = some .local := by first | exact .inl rfl | exact .inr rfl) :
    DS X F W (.AugAssign (.Name x pos') .Add e pos) (maug i me) := by
  refine PS.mk (ps_aug hN hi hx he ip_add hf) fun D σ H bn ⟨ω, ρ, b, hp⟩ => ?_
  unfold maug at hp
  split at hp
  · rename_i j ej
    obtain ⟨v, as, h1, h2, h3, h4⟩ := b.env i _ ej
    obtain ⟨rfl, _⟩ := h2
    refine ⟨_, h1, b.eval hp fun d ed v H' as bn' s r f n hp' b' => ?_⟩
    cases d with
    | int k =>
      obtain ⟨rfl, _⟩ := r
      obtain ⟨b2, s2⟩ := b'.putv (d := .int (j + k)) (v := .int (j + k)) (ltN hi) rep_int
      exact ⟨j, k, rfl, rfl, hp' _ _ H' b2 s2⟩
    | non => exact hp'.elim
    | bl _ => exact hp'.elim
    | str _ => exact hp'.elim
    | node _ _ => exact hp'.elim
  · exact hp.elim
/-- a, b = e -/
def stoT (ts : List Nat) (fv : List Nat) (d : D) (ρ : En) (xs : List D) : En := setAll ts (frzs xs) (if d.shr = true then frzAt fv ρ else ρ)
def msett (ts : List Nat) (fv : List Nat) (me : En → Res D) : En → Out := fun ρ => thenE (me (frzE ρ)) ρ fun d => match (Tg.tp ts).parts d with
  | some xs => .nx (stoT ts fv d ρ xs)
  | none => .no
theorem parts_frz {t : Tg} {d : D} {xs : List D} (h : t.parts d = some xs) : t.parts d.frz = some (frzs xs) := by
  cases t with
  | nm i => cases h; rfl
  | tp ts =>
    cases d with
    | node tg ys =>
      cases tg with
      | tup =>
        have h' : (if ys.length = ts.length then some ys else none) = some xs := h
        rw [D.frz]
        split at h'
        · rename_i hl
          cases h'
          show (if (frzs xs).length = ts.length then some (frzs xs) else none) = _
          rw [frzs_map, List.length_map, if_pos hl]
        · cases h'
      | lst _ => cases h
      | dct _ _ _ => cases h
      | ins _ _ _ => cases h
      | io _ _ _ => cases h
      | exc _ => cases h
      | xd _ => cases h
    | non => cases h
    | bl _ => cases h
    | int _ => cases h
    | str _ => cases h
  | tl ts =>
    cases d with
    | node tg ys =>
      cases tg with
      | lst o =>
        cases o with
        | true => cases h
        | false =>
          have h' : (if ys.length = ts.length then some ys else none) = some xs := h
          rw [D.frz]
          split at h'
          · rename_i hl
            cases h'
            show (if (frzs xs).length = ts.length then some (frzs xs) else none) = _
            rw [frzs_map, List.length_map, if_pos hl]
          · cases h'
      | tup => cases h
      | dct _ _ _ => cases h
      | ins _ _ _ => cases h
      | io _ _ _ => cases h
      | exc _ => cases h
      | xd _ => cases h
    | non => cases h
    | bl _ => cases h
    | int _ => cases h
    | str _ => cases h
/-- a value whose own nodes are new, seen by all -/
theorem BI.seen {fv : List Nat} {d : D} {v : V} {as : List Addr} {ω : Own} {ρ : En} {σ : St} {H H' : Hp} (b : BI X F ω ρ σ H) (s : Same H H') (r : Rep X.mg H' (Bx X ω fv) d v as) (f : ∀ a ∈ as, H a = none) :
    ∃ ω', BI X F ω' (if d.shr = true then frzAt fv ρ else ρ) σ H' ∧ Step X ω H ω' H' ∧ Rep X.mg H' (fun a => ω' a ≠ none) d.frz v [] := by
  by_cases hs : d.shr = true
  · rw [if_pos hs]
    exact ⟨_, (b.freeze fv).to s, Step.freeze.trans (Step.same s), r.frz (fun a _ h z => z (Bx.none h)) fun a ha z => z (frzO_none (b.noO (f a ha)))⟩
  · rw [if_neg hs]
    have hs' : d.shr = false := by simpa using hs
    refine ⟨ω, b.to s, Step.same s, (Rep.unsh (B' := fun a => ω a ≠ none) (b.to s).nt hs' r).frz (fun _ _ z => z) fun a ha z => z (b.noO (f a ha))⟩
theorem ds_sett {ts : List Nat} {k : Nat} (hg : PG X (.Tuple es k pos') ((Tg.tp ts).tg X.K)) (he : DE X W e fv me) (ht : (ts.all fun q => decide (q < X.N.length)) = true := by rfl) (hs : swapsWithSole [.Tuple es k pos'] e pos.line X.env = pure false := by rfl) (hw : swappedStores [.Tuple es k pos'] e X.env = pure none := by rfl)
    (h1 : (assignEach [.Tuple es k pos'] X.env).map (·.2) = [assign (.Tuple es k pos') X.env] := by rfl) : DS X F W (.Assign [.Tuple es k pos'] e pos) (msett ts fv me) := by
  refine PS.mk (ps_asg he hg hs hw h1) fun D σ H bn ⟨ω, ρ, b, hp⟩ => ?_
  have hp2 : PostS X F W ω H (thenE (me (frzE ρ)) ρ fun d => match (Tg.tp ts).parts d with | some xs => .nx (stoT ts fv d ρ xs) | none => .no) D := hp
  refine b.eval hp fun d ed v H' as bn' s r f n hp' b' => ?_
  rw [ed] at hp2
  cases ep : (Tg.tp ts).parts d with
  | none => rw [show thenE (Res.ok d) ρ (fun d => match (Tg.tp ts).parts d with | some xs => Out.nx (stoT ts fv d ρ xs) | none => .no) = (match (Tg.tp ts).parts d with | some xs => Out.nx (stoT ts fv d ρ xs) | none => .no) from rfl, ep] at hp2; exact hp2.elim
  | some xs =>
    rw [show thenE (Res.ok d) ρ (fun d => match (Tg.tp ts).parts d with | some xs => Out.nx (stoT ts fv d ρ xs) | none => .no) = (match (Tg.tp ts).parts d with | some xs => Out.nx (stoT ts fv d ρ xs) | none => .no) from rfl, ep] at hp2
    obtain ⟨ω', b2, s2, r2⟩ := b.seen s r f
    refine tg_set (parts_frz ep) r2 fun vs rvs lv lx => ?_
    obtain ⟨ω2, b3, s3⟩ := b2.putAll (fun q hq => of_decide_eq_true (List.all_eq_true.mp ht q hq)) rvs lx
    exact hp2 ω2 _ H' b3 (s2.trans s3)
/-- a, b = e, e a list -/
def stoL (ts : List Nat) (fv : List Nat) (d : D) (ρ : En) (xs : List D) : En := setAll ts xs (if d.shr = true then frzAt fv ρ else ρ)
def msettl (ts : List Nat) (fv : List Nat) (me : En → Res D) : En → Out := fun ρ => thenE (me (frzE ρ)) ρ fun d => match (Tg.tl ts).parts d.frz with
  | some xs => .nx (stoL ts fv d ρ xs)
  | none => .no
theorem ds_settl {ts : List Nat} {k : Nat} (hg : PG X (.Tuple es k pos') ((Tg.tl ts).tg X.K)) (he : DE X W e fv me) (ht : (ts.all fun q => decide (q < X.N.length)) = true := by rfl) (hs : swapsWithSole [.Tuple es k pos'] e pos.line X.env = pure false := by rfl) (hw : swappedStores [.Tuple es k pos'] e X.env = pure none := by rfl)
    (h1 : (assignEach [.Tuple es k pos'] X.env).map (·.2) = [assign (.Tuple es k pos') X.env] := by rfl) : DS X F W (.Assign [.Tuple es k pos'] e pos) (msettl ts fv me) := by
  refine PS.mk (ps_asg he hg hs hw h1) fun D σ H bn ⟨ω, ρ, b, hp⟩ => ?_
  have hp2 : PostS X F W ω H (thenE (me (frzE ρ)) ρ fun d => match (Tg.tl ts).parts d.frz with | some xs => .nx (stoL ts fv d ρ xs) | none => .no) D := hp
  refine b.eval hp fun d ed v H' as bn' s r f n hp' b' => ?_
  rw [ed] at hp2
  cases ep : (Tg.tl ts).parts d.frz with
  | none => rw [show thenE (Res.ok d) ρ (fun d => match (Tg.tl ts).parts d.frz with | some xs => Out.nx (stoL ts fv d ρ xs) | none => .no) = (match (Tg.tl ts).parts d.frz with | some xs => Out.nx (stoL ts fv d ρ xs) | none => .no) from rfl, ep] at hp2; exact hp2.elim
  | some xs =>
    rw [show thenE (Res.ok d) ρ (fun d => match (Tg.tl ts).parts d.frz with | some xs => Out.nx (stoL ts fv d ρ xs) | none => .no) = (match (Tg.tl ts).parts d.frz with | some xs => Out.nx (stoL ts fv d ρ xs) | none => .no) from rfl, ep] at hp2
    obtain ⟨ω', b2, s2, r2⟩ := b.seen s r f
    refine tg_set ep r2 fun vs rvs lv lx => ?_
    obtain ⟨ω2, b3, s3⟩ := b2.putAll (fun q hq => of_decide_eq_true (List.all_eq_true.mp ht q hq)) rvs lx
    exact hp2 ω2 _ H' b3 (s2.trans s3)
/-! ### loops -/
def forF (t : Tg) (body : En → Out) : List D → En → Out
  | [], ρ => .nx ρ
  | d :: ds, ρ => match t.parts d with
    | none => .no
    | some xs => match body (setAll t.slots xs ρ) with
      | .nx ρ' => forF t body ds ρ'
      | .ct ρ' => forF t body ds ρ'
      | .bk ρ' => .nx ρ'
      | o => o
theorem for_read {ω : Own} {ρ : En} {σ : St} {H : Hp} {J : It} {ds : List D} {Dn : Ends} (b : BI X F ω ρ σ H) (ok : ItOk X.mg (fun a => ω a ≠ none) H J ds) (ht : (t.slots.all fun q => decide (q < X.N.length)) = true) (hp : PostS X F W ω H (forF t m (frzs ds) ρ) Dn) :
    ∃ Wd : Nat → Nat → St → Hp → Prop, (∃ n, Wd 0 n σ H) ∧ ∀ i n σ H, Wd i n σ H → (J.stop i H ∧ Dn.nx σ H) ∨ (J.go i H ∧ ∃ N : St → Hp → Prop, (∀ σ' H', N σ' H' → ∃ n', n' < n ∧ Wd (i + 1) n' σ' H') ∧
      ∀ x H', J.yld i H x H' → t.tg X.K x σ H' fun σ2 H2 => TSv X F W m { Dn with nx := N, ct := N, bk := Dn.nx } σ2 H2) := by
  refine ⟨fun i n σ' H' => n = ds.length - i ∧ i ≤ ds.length ∧ ∃ ω' ρ', BI X F ω' ρ' σ' H' ∧ Step X ω H ω' H' ∧ PostS X F W ω' H' (forF t m (frzs (ds.drop i)) ρ') Dn, ⟨ds.length, by simp, Nat.zero_le _, ω, ρ, b, Step.refl, hp⟩, ?_⟩
  rintro i n σ' H' ⟨rfl, hi, ω', ρ', b', st', hp'⟩
  have kp : Kp (fun a => ω a ≠ none) H H' := ⟨fun c o e h n => st'.kp c o e (.inl (Classical.not_not.mp h)) n⟩
  by_cases hlt : i < ds.length
  · right
    have ed : ds[i]? = some ds[i] := List.getElem?_eq_getElem hlt
    obtain ⟨go, yl⟩ := ok.go H' kp i _ ed
    refine ⟨go, fun σ2 H2 => ∃ ω2 ρ2, BI X F ω2 ρ2 σ2 H2 ∧ Step X ω H ω2 H2 ∧ PostS X F W ω2 H2 (forF t m (frzs (ds.drop (i + 1))) ρ2) Dn, fun σ2 H2 ⟨ω2, ρ2, q1, q2, q3⟩ => ⟨ds.length - (i + 1), by omega, rfl, hlt, ω2, ρ2, q1, q2, q3⟩, fun y H2 hy => ?_⟩
    obtain ⟨s2, rep⟩ := yl y H2 hy
    have ry := rep (fun a => ω' a ≠ none) (fun a h1 h2 z => z (st'.nn a h1 (Classical.not_not.mp h2))) ⟨fun a ha => by
      cases ew : ω' a with
      | none => exact absurd ew ha
      | some j => exact b'.dom a j ew, b'.tab⟩
    rw [List.drop_eq_getElem_cons hlt, frzs] at hp'
    unfold forF at hp'
    cases ep : t.parts (ds[i]).frz with
    | none => rw [ep] at hp'; exact hp'.elim
    | some xs =>
      rw [ep] at hp'
      refine tg_set ep ry fun vs rvs lv lx => ?_
      obtain ⟨ω2, b2, s3⟩ := (b'.to s2).putAll (fun q hq => of_decide_eq_true (List.all_eq_true.mp ht q hq)) rvs lx
      have st2 : Step X ω' H' ω2 H2 := (Step.same s2).trans s3
      refine ⟨ω2, _, b2, ?_⟩
      have hp2 : PostS X F W ω' H' (match m (setAll t.slots xs ρ') with | .nx ρ' => forF t m (frzs (ds.drop (i + 1))) ρ' | .ct ρ' => forF t m (frzs (ds.drop (i + 1))) ρ' | .bk ρ' => .nx ρ' | o => o) Dn := hp'
      cases em : m (setAll t.slots xs ρ') with
      | nx ρ2 =>
        rw [em] at hp2
        exact fun ω3 σ3 H3 b3 s4 => ⟨ω3, ρ2, b3, (st'.trans st2).trans s4, PostS.step (r := forF t m (frzs (ds.drop (i + 1))) ρ2) hp2 (st2.trans s4)⟩
      | ct ρ2 =>
        rw [em] at hp2
        exact fun ω3 σ3 H3 b3 s4 => ⟨ω3, ρ2, b3, (st'.trans st2).trans s4, PostS.step (r := forF t m (frzs (ds.drop (i + 1))) ρ2) hp2 (st2.trans s4)⟩
      | bk ρ2 =>
        rw [em] at hp2
        exact PostS.step (r := .nx ρ2) hp2 st2
      | rt d2 ρ2 =>
        rw [em] at hp2
        exact PostS.step (r := .rt d2 ρ2) hp2 st2
      | ex y2 ρ2 =>
        rw [em] at hp2
        exact PostS.step (r := .ex y2 ρ2) hp2 st2
      | no => rw [em] at hp2; exact hp2.elim
  · left
    have ei : i = ds.length := by omega
    subst ei
    rw [List.drop_length] at hp'
    exact ⟨ok.stop H' kp, hp' ω' σ' H' b' Step.refl⟩
/-- over a list -/
def mfor (fv : List Nat) (me : En → Res D) (t : Tg) (body : En → Out) : En → Out := fun ρ => thenE (me (frzE ρ)) ρ fun d => match lstItems d.frz with
  | some xs => forF t body xs (if d.shr = true then frzAt fv ρ else ρ)
  | none => .no
theorem ds_for (hp' : PassesOwn (model X.prog X.w) X.A X.env X.xe) (hc : X.calm = true) (he : DE X W e fv me) (hg : PG X tg (t.tg X.K)) (hb : DSs X F W sts m) (ht : (t.slots.all fun q => decide (q < X.N.length)) = true := by rfl) (hs : ∀ x, foldedSetIterable e X.env x = pure x := by intro _; rfl) :
    DS X F W (.For tg e sts [] pos) (mfor fv me t m) := by
  refine PS.mk (ps_for hp' hc (PI.mk (wi' := fun σ H R => Tv (Rep X.mg) W X.mg fv me σ H fun v H1 => ∃ a, v = .ref a ∧ (∃ xs, SqL X.K H1 a xs) ∧ (Bnd H1 → R (Itl X.K a) H1)) (pi_list he) fun σ H R bn q => q) hg hb hs) fun D σ H bn ⟨ω, ρ, b, hp⟩ => ?_
  have hp2 : PostS X F W ω H (thenE (me (frzE ρ)) ρ fun d => match lstItems d.frz with | some xs => forF t m xs (if d.shr = true then frzAt fv ρ else ρ) | none => .no) D := hp
  refine b.eval hp fun d ed v H' as bn' s r f n _ b' => ?_
  rw [ed] at hp2
  have hp3 : PostS X F W ω H (match lstItems d.frz with | some xs => forF t m xs (if d.shr = true then frzAt fv ρ else ρ) | none => .no) D := hp2
  cases el : lstItems d.frz with
  | none => rw [el] at hp3; exact hp3.elim
  | some xs =>
    rw [el] at hp3
    obtain ⟨ω', b2, s2, r2⟩ := b.seen s r f
    obtain ⟨e1, e2⟩ := frz_lst el
    rw [e1] at r2
    obtain ⟨a, vs, rfl, ha, hr, nb⟩ := r2.lstE
    refine ⟨a, rfl, ⟨vs, .inl ha⟩, fun bn => ?_⟩
    exact for_read b2 (itl_ok e2 ha hr nb (bn.1 _ _ ha)) ht (by rw [e2]; exact hp3.step s2)
/-- over what needs no heap (a range, a text) -/
def RpIf (mg : Str → Option Value) : RpT (List D) It := fun _ _ ds J as => as = [] ∧ ∀ B H, ItOk mg B H J ds
abbrev DIf (X : Cx) (W : WX) (tg it : Expr) (fv : List Nat) (m : En → Res (List D)) : Prop := PI X tg it (Tv (RpIf X.mg) W X.mg fv m)
def mforf (mi : En → Res (List D)) (t : Tg) (body : En → Out) : En → Out := fun ρ => thenE (mi (frzE ρ)) ρ fun ds => forF t body (frzs ds) ρ
theorem ds_forf {mi : En → Res (List D)} (hp' : PassesOwn (model X.prog X.w) X.A X.env X.xe) (hc : X.calm = true) (he : DIf X W tg e fv mi) (hg : PG X tg (t.tg X.K)) (hb : DSs X F W sts m) (ht : (t.slots.all fun q => decide (q < X.N.length)) = true := by rfl) (hs : ∀ x, foldedSetIterable e X.env x = pure x := by intro _; rfl) :
    DS X F W (.For tg e sts [] pos) (mforf mi t m) := by
  refine PS.mk (ps_for hp' hc he hg hb hs) fun D σ H bn ⟨ω, ρ, b, hp⟩ => ?_
  refine b.eval hp fun ds ed J H' as bn' s r f n hp2 b' => ?_
  exact for_read b' (r.2 _ _) ht hp2
/-- over enumerate, zip, reversed: what they lean on is frozen -/
def mforv (fv : List Nat) (mi : En → Res (List D)) (t : Tg) (body : En → Out) : En → Out := fun ρ => thenE (mi (frzE ρ)) ρ fun ds => forF t body (frzs ds) (frzAt fv ρ)
theorem ds_forv {mi : En → Res (List D)} (hp' : PassesOwn (model X.prog X.w) X.A X.env X.xe) (hc : X.calm = true) (he : DI X W tg e fv mi) (hg : PG X tg (t.tg X.K)) (hb : DSs X F W sts m) (ht : (t.slots.all fun q => decide (q < X.N.length)) = true := by rfl) (hs : ∀ x, foldedSetIterable e X.env x = pure x := by intro _; rfl) :
    DS X F W (.For tg e sts [] pos) (mforv fv mi t m) := by
  refine PS.mk (ps_for hp' hc he hg hb hs) fun D σ H bn ⟨ω, ρ, b, hp⟩ => ?_
  refine b.eval hp fun ds ed J H' as bn' s r f n hp2 b' => ?_
  have ok := r.2
  refine for_read (b'.freeze fv) ⟨fun H1 k i d e => ?_, fun H1 k => ok.stop H1 ⟨fun c o e1 h n => k.kp c o e1 (fun z => z (Bx.none h)) n⟩, ok.len⟩ ht (hp2.step Step.freeze)
  obtain ⟨g1, g2⟩ := ok.go H1 ⟨fun c o e1 h n => k.kp c o e1 (fun z => z (Bx.none h)) n⟩ i d e
  exact ⟨g1, fun x H2 y => ⟨(g2 x H2 y).1, fun B1 h1 h2 => (g2 x H2 y).2 B1 (fun a h3 h4 => h1 a h3 fun z => z (Bx.none h4)) h2⟩⟩
/-- while -/
def whF (c : En → Res Bool) (body : En → Out) : Nat → En → Out
  | 0, _ => .no
  | n + 1, ρ => thenE (c (frzE ρ)) ρ fun k => if k = true then (match body ρ with
    | .nx ρ' => whF c body n ρ'
    | .ct ρ' => whF c body n ρ'
    | .bk ρ' => .nx ρ'
    | o => o) else .nx ρ
def big : Nat := 1000000000000
def mwhile (c : En → Res Bool) (body : En → Out) : En → Out := whF c body big
theorem ds_while (hp' : PassesOwn (model X.prog X.w) X.A X.env X.xe) (hc : DT X W c fc mt) (hb : DSs X F W sts m) : DS X F W (.While c sts [] pos) (mwhile mt m) := by
  refine PS.mk (ps_while hp' hc hb) fun D σ H bn ⟨ω, ρ, b, hp⟩ => ?_
  have hp0 : PostS X F W ω H (whF mt m big ρ) D := hp
  generalize big = n0 at hp0
  refine ⟨fun n σ' H' => ∃ ω' ρ', BI X F ω' ρ' σ' H' ∧ PostS X F W ω' H' (whF mt m n ρ') D, ⟨n0, ω, ρ, b, hp0⟩, ?_⟩
  rintro n σ' H' ⟨ω', ρ', b', hp2⟩
  cases n with
  | zero => exact hp2.elim
  | succ n =>
    have hp3 : PostS X F W ω' H' (thenE (mt (frzE ρ')) ρ' fun k => if k = true then (match m ρ' with | .nx ρ2 => whF mt m n ρ2 | .ct ρ2 => whF mt m n ρ2 | .bk ρ2 => .nx ρ2 | o => o) else .nx ρ') D := hp2
    refine b'.eval hp3 fun d ed v H2 as bn' s r f nn hp4 b2 => ?_
    obtain ⟨rfl, _⟩ := r
    cases v with
    | false =>
      rw [if_neg Bool.false_ne_true] at hp4 ⊢
      exact hp4 ω' σ' H2 b2 Step.refl
    | true =>
      rw [if_pos rfl] at hp4 ⊢
      refine ⟨fun σ3 H3 => ∃ ω3 ρ3, BI X F ω3 ρ3 σ3 H3 ∧ PostS X F W ω3 H3 (whF mt m n ρ3) D, fun σ3 H3 q => ⟨n, Nat.lt_succ_self n, q⟩, ω', ρ', b2, ?_⟩
      cases em : m ρ' with
      | nx ρ2 => rw [em] at hp4; exact fun ω3 σ3 H3 b3 s4 => ⟨ω3, ρ2, b3, PostS.step (r := whF mt m n ρ2) hp4 s4⟩
      | ct ρ2 => rw [em] at hp4; exact fun ω3 σ3 H3 b3 s4 => ⟨ω3, ρ2, b3, PostS.step (r := whF mt m n ρ2) hp4 s4⟩
      | bk ρ2 => rw [em] at hp4; exact hp4
      | rt d2 ρ2 => rw [em] at hp4; exact hp4
      | ex y2 ρ2 => rw [em] at hp4; exact hp4
      | no => rw [em] at hp4; exact hp4
end
end Ev

/-! Ev, part J: what changes a list that a name owns. -/
namespace Ev
open PySem PySem.Spec L2
open PyProof.Rows hiding St
section
variable {mg : Str → Option Value} {H : Hp} {B : Addr → Prop}
/-- a list of trees, one exchanged -/
theorem Reps.put {d : D} {v : V} {bs : List Addr} (rd : Rep mg H B d v bs) (nb : bs.Nodup) : ∀ {xs : List D} {vs : List V} {as : List Addr} (j : Nat), Reps mg H B xs vs as → as.Nodup → (∀ a ∈ as, a ∉ bs) →
    ∃ cs, Reps mg H B (xs.set j d) (vs.set j v) cs ∧ cs.Nodup ∧ ∀ c ∈ cs, c ∈ as ∨ c ∈ bs
  | [], vs, as, j, h, na, dj => by
    rw [Reps] at h
    obtain ⟨rfl, rfl⟩ := h
    exact ⟨[], Reps.nil, List.nodup_nil, fun _ z => nomatch z⟩
  | x :: xs, vs, as, j, h, na, dj => by
    rw [Reps] at h
    obtain ⟨w, ws, a1, a2, rfl, rfl, h1, h2⟩ := h
    obtain ⟨n1, n2, n12⟩ := List.nodup_append.mp na
    cases j with
    | zero =>
      refine ⟨bs ++ a2, Reps.cons rd h2, List.nodup_append.mpr ⟨nb, n2, fun a ha c hc e => dj c (List.mem_append_right _ hc) (by rw [← e]; exact ha)⟩, fun c hc => ?_⟩
      rcases List.mem_append.mp hc with z | z
      · exact .inr z
      · exact .inl (List.mem_append_right _ z)
    | succ j =>
      obtain ⟨cs, q1, q2, q3⟩ := Reps.put rd nb j h2 n2 fun a ha => dj a (List.mem_append_right _ ha)
      refine ⟨a1 ++ cs, Reps.cons h1 q1, List.nodup_append.mpr ⟨n1, q2, fun a ha c hc e => ?_⟩, fun c hc => ?_⟩
      · rcases q3 c hc with z | z
        · exact n12 a ha c z e
        · exact dj a (List.mem_append_left _ ha) (by rw [e]; exact z)
      · rcases List.mem_append.mp hc with z | z
        · exact .inl (List.mem_append_left _ z)
        · exact (q3 c z).imp (fun q => List.mem_append_right _ q) id
/-- .. one left out -/
theorem Reps.erase : ∀ {xs : List D} {vs : List V} {as : List Addr} (j : Nat), Reps mg H B xs vs as → as.Nodup → ∃ cs, Reps mg H B (xs.eraseIdx j) (vs.eraseIdx j) cs ∧ cs.Nodup ∧ ∀ c ∈ cs, c ∈ as
  | [], vs, as, j, h, na => by
    rw [Reps] at h
    obtain ⟨rfl, rfl⟩ := h
    exact ⟨[], Reps.nil, List.nodup_nil, fun _ z => nomatch z⟩
  | x :: xs, vs, as, j, h, na => by
    rw [Reps] at h
    obtain ⟨w, ws, a1, a2, rfl, rfl, h1, h2⟩ := h
    obtain ⟨n1, n2, n12⟩ := List.nodup_append.mp na
    cases j with
    | zero => exact ⟨a2, h2, n2, fun c hc => List.mem_append_right _ hc⟩
    | succ j =>
      obtain ⟨cs, q1, q2, q3⟩ := Reps.erase j h2 n2
      refine ⟨a1 ++ cs, Reps.cons h1 q1, List.nodup_append.mpr ⟨n1, q2, fun a ha c hc e => n12 a ha c (q3 c hc) e⟩, fun c hc => ?_⟩
      rcases List.mem_append.mp hc with z | z
      · exact List.mem_append_left _ z
      · exact List.mem_append_right _ (q3 c z)
/-- the tree at a place, with what it owns -/
theorem Reps.at_ : ∀ {xs : List D} {vs : List V} {as : List Addr} {j : Nat} {d : D}, Reps mg H B xs vs as → xs[j]? = some d → ∃ v bs, vs[j]? = some v ∧ Rep mg H B d v bs ∧ (as.Nodup → bs.Nodup) ∧ ∀ b ∈ bs, b ∈ as
  | [], _, _, _, _, _, e => by simp at e
  | x :: xs, vs, as, j, d, h, e => by
    rw [Reps] at h
    obtain ⟨w, ws, a1, a2, rfl, rfl, h1, h2⟩ := h
    cases j with
    | zero =>
      have : x = d := by simpa using e
      subst this
      exact ⟨w, a1, rfl, h1, fun n => (List.nodup_append.mp n).1, fun b hb => List.mem_append_left _ hb⟩
    | succ j =>
      obtain ⟨v, bs, q1, q2, q3, q4⟩ := Reps.at_ h2 (by simpa using e)
      exact ⟨v, bs, q1, q2, fun n => q3 (List.nodup_append.mp n).2.1, fun b hb => List.mem_append_right _ (q4 b hb)⟩
end
section
variable {X : Cx} {F : Fr} {ω ω' : Own} {ρ : En} {σ : St} {H H' : Hp}
/-- a list that the slot i owns -/
theorem BI.lst (b : BI X F ω ρ σ H) {i : Nat} {xs : List D} (e : ρ[i]? = some (some (.node (.lst true) xs))) : ∃ a vs bs, σ[i]? = some (some (.ref a)) ∧ H a = some (.lst vs) ∧ Reps X.mg H (fun a => ω a ≠ none) xs vs bs ∧ (a :: bs).Nodup ∧ ∀ c ∈ a :: bs, ω c = some i := by
  obtain ⟨v, as, h1, h2, h3, h4⟩ := b.env i _ e
  rw [Rep] at h2
  obtain ⟨a, vs, bs, rfl, hd, hr, q⟩ := h2
  rcases q with ⟨_, rfl⟩ | ⟨q, _⟩
  · exact ⟨a, vs, bs, h1, hd, hr, h3, h4⟩
  · cases q
/-- a value that goes into what a slot owns: its tree, as it is owned then -/
def into (d : D) : D := if d.shr = true then d.frz else d
def intoE (fv : List Nat) (d : D) (ρ : En) : En := if d.shr = true then frzAt fv ρ else ρ
theorem BI.into (b : BI X F ω ρ σ H) {fv : List Nat} {d : D} {v : V} {as : List Addr} (s : Same H H') (r : Rep X.mg H' (Bx X ω fv) d v as) (f : ∀ a ∈ as, H a = none) (n : as.Nodup) :
    ∃ ω' bs, BI X F ω' (intoE fv d ρ) σ H ∧ Step X ω H ω' H ∧ (∀ E : Addr → Prop, (∀ a, E a → ω' a ≠ none ∨ a ∈ bs) → Rep X.mg H' (fun a => ω' a ≠ none ∨ E a) (into d) v bs) ∧ bs.Nodup ∧ (∀ a ∈ bs, H a = none) ∧ ∀ a ∈ bs, ∃ o, H' a = some o ∧ ∀ xs, o ≠ .tup xs := by
  unfold intoE Ev.into
  by_cases hs : d.shr = true
  · rw [if_pos hs, if_pos hs]
    refine ⟨_, [], b.freeze fv, Step.freeze, fun E hE => r.frz (fun a _ h z => ?_) (fun a ha z => ?_), List.nodup_nil, (fun _ z => nomatch z), fun _ z => nomatch z⟩
    · rcases z with z | z
      · exact z (Bx.none h)
      · rcases hE a z with z | z
        · exact z (Bx.none h)
        · cases z
    · have e0 := frzO_none (X := X) (fv := fv) (b.noO (f a ha))
      rcases z with z | z
      · exact z e0
      · rcases hE a z with z | z
        · exact z e0
        · cases z
  · rw [if_neg hs, if_neg hs]
    have hs' : d.shr = false := by simpa using hs
    refine ⟨ω, as, b, Step.refl, fun E hE => r.unsh (fun a ha ys => ?_) hs', n, f, r.ownNT⟩
    have key : ω a ≠ none ∨ a ∈ as := ha.elim .inl (hE a)
    rcases key with z | z
    · exact (b.to s).nt a z ys
    · obtain ⟨o, ho, t⟩ := r.ownNT a z
      rw [ho]
      exact fun z => t ys (Option.some.inj z)
/-- what a slot owned stays apart from what is new -/
theorem BI.old (b : BI X F ω ρ σ H) {i : Nat} {cs : List Addr} (hcs : ∀ c ∈ cs, ω c = some i ∨ H c = none) {xs : List D} {vs : List V} {as : List Addr} (s : Same H H') (r : Reps X.mg H (fun c => ω c ≠ none) xs vs as) : Reps X.mg H' (fun c => ω c ≠ none ∨ c ∈ cs) xs vs as :=
  r.stepN (fun c o e n _ => s.kp c o e n) fun c h1 h2 h3 => h3.elim h2 fun z => (hcs c z).elim (fun q => h2 (by rw [q]; intro z; cases z)) h1
theorem set_self {σ : St} {i : Nat} {v : V} (hσ : σ[i]? = some (some v)) : σ.set i (some v) = σ := by
  apply List.ext_getElem?
  intro j
  by_cases hj : j = i
  · subst hj
    rw [List.getElem?_set_self (List.getElem?_eq_some_iff.mp hσ).1, hσ]
  · rw [List.getElem?_set_ne (Ne.symm hj)]
/-- the node that the slot i owns is changed -/
theorem BI.putn (b : BI X F ω ρ σ H) {i : Nat} {a : Addr} {t : Tag} {ys : List D} {ws : List V} {u : HO} {cs : List Addr} (hi : i < X.N.length) (hσ : σ[i]? = some (some (.ref a))) (s : Same H H') (ha : ω a = some i) (hcs : ∀ c ∈ cs, ω c = some i ∨ H c = none) (hn : (a :: cs).Nodup)
    (ht : t.own = true) (hh : Head X.mg (upd H' a u) a ws t) (hu : ∀ xs, u ≠ .tup xs) (r : Reps X.mg H' (fun c => ω c ≠ none ∨ c ∈ cs) ys ws cs) (hd : ∀ c ∈ cs, ∃ o, H' c = some o ∧ ∀ xs, o ≠ .tup xs) : ∃ ω', BI X F ω' (ρ.set i (some (.node t ys))) σ (upd H' a u) ∧ Step X ω H ω' (upd H' a u) := by
  have hac : a ∉ cs := (List.nodup_cons.mp hn).1
  have key := b.put (H1 := upd H' a u) (d := .node t ys) (v := .ref a) (as := a :: cs) hi (fun c o e h n => by
    rw [upd_ne]
    · exact s.kp c o e n
    · rintro rfl; exact h ha) (fun c h => by
    by_cases hc : c = a
    · subst hc; rw [upd_same]; intro z; cases z
    · rw [upd_ne hc]; exact Same.there s h) (b.tu ha hi s) (by
    rw [Rep]
    refine ⟨a, ws, cs, rfl, hh, r.step (fun c o e h => ?_) (fun c h1 h2 h3 => h3 ?_), .inl ⟨ht, rfl⟩⟩
    · rw [upd_ne]
      · exact e
      · rintro rfl
        rcases h with h | h
        · exact hac h
        · exact h (.inl (by rw [ha]; intro z; cases z))
    · have e0 : ω c = none := Classical.byContradiction fun z => h2 (.inl z)
      unfold setO
      rw [if_neg fun z => ?_, e0]
      · simp
      · rcases List.mem_cons.mp z with rfl | z
        · rw [ha] at e0; cases e0
        · exact h2 (.inr z)) hn (fun c hc => by
    rcases List.mem_cons.mp hc with rfl | z
    · exact .inl ha
    · exact hcs c z) (fun c hc => by
    rcases List.mem_cons.mp hc with rfl | z
    · exact ⟨_, upd_same, hu⟩
    · rw [upd_ne fun e => hac (by rw [← e]; exact z)]
      exact hd c z)
  rw [set_self hσ] at key
  exact ⟨_, key⟩
end
section
variable {X : Cx} {F : Fr} {W : WX} {e a b c : Expr} {fv fa fb fc : List Nat} {me ma mb mc : En → Res D} {pos pos' : Pos} {i : Nat} {x : Str} {apos cpos p1 p2 p3 : Pos}
/-- the list of the slot i is changed by a value -/
def mutL (k : List D → D → Option (List D)) (i : Nat) (fv : List Nat) (me : En → Res D) : En → Out := fun ρ => match ρ[i]? with
  | some (some (.node (.lst true) xs)) => thenE (me (frzE ρ)) ρ fun d => if d.shr = true ∧ i ∈ fv then .no else match k xs (into d) with
    | some ys => .nx ((intoE fv d ρ).set i (some (.lst true ys)))
    | none => .no
  | _ => .no
theorem intoE_get {d : D} {ρ : En} (h : ¬ (d.shr = true ∧ i ∈ fv)) : (intoE fv d ρ)[i]? = ρ[i]? := by
  unfold intoE
  by_cases hs : d.shr = true
  · rw [if_pos hs, frzAt_get, if_neg fun z => h ⟨hs, z⟩]
  · rw [if_neg hs]
theorem mutL_read {k : List D → D → Option (List D)} {σ : St} {H : Hp} {Dn : Ends} {ω : Own} {ρ : En} {Q : V → List V → Addr → V → Hp → Prop} (hi : i < X.N.length) (b : BI X F ω ρ σ H) (hp : PostS X F W ω H (mutL k i fv me ρ) Dn)
    (hk : ∀ (xs ys : List D) (d : D) (vs : List V) (a : Addr) (v : V) (H' : Hp), ρ[i]? = some (some (.node (.lst true) xs)) → σ[i]? = some (some (.ref a)) → k xs d = some ys → H' a = some (.lst vs) → xs.length = vs.length → Bnd H' → BI X F ω ρ σ H' →
      (∀ (H3 : Hp) (ws : List V), Same H' H3 → ((∀ (B : Addr → Prop) (as bs : List Addr), Reps X.mg H3 B xs vs as → Rep X.mg H3 B d v bs → as.Nodup → bs.Nodup → (∀ c ∈ as, c ∉ bs) → ∃ cs, Reps X.mg H3 B ys ws cs ∧ cs.Nodup ∧ ∀ c ∈ cs, c ∈ as ∨ c ∈ bs)) → Dn.nx σ (upd H3 a (.lst ws))) → Q (.ref a) vs a v H') :
    ∃ (a : Addr) (vs : List V), σ[i]? = some (some (.ref a)) ∧ H a = some (.lst vs) ∧ Tv (Rep X.mg) W X.mg fv me σ H fun v H' => Q (.ref a) vs a v H' := by
  unfold mutL at hp
  split at hp
  · rename_i xs ex
    obtain ⟨a, vs, cs, h1, h2, h3, h4, h5⟩ := b.lst ex
    refine ⟨a, vs, h1, h2, b.eval hp fun d ed v H' as bn' s r f n hp3 b' => ?_⟩
    rw [ed] at hp
    have hp4 : PostS X F W ω H (if d.shr = true ∧ i ∈ fv then .no else match k xs (Ev.into d) with | some ys => .nx ((intoE fv d ρ).set i (some (.lst true ys))) | none => .no) Dn := hp
    split at hp4
    · exact hp4.elim
    · rename_i hni
      cases ek : k xs (Ev.into d) with
      | none => rw [ek] at hp4; exact hp4.elim
      | some ys =>
        rw [ek] at hp4
        refine hk xs ys (Ev.into d) vs a v H' ex h1 ek (s _ _ h2) h3.length bn' b' fun H3 ws s' hrep => ?_
        obtain ⟨ω', bs, b2, s2, rv, nb, fb, hb⟩ := b.into s r f n
        obtain ⟨a', vs', cs', g1, g2, g3, g4, g5⟩ := b2.lst ((intoE_get hni).trans ex)
        rw [h1] at g1
        cases g1
        rw [h2] at g2
        cases g2
        obtain ⟨hac, hnc⟩ := List.nodup_cons.mp g4
        have hcb : ∀ c ∈ cs', c ∉ bs := fun c hc hb => by
          obtain ⟨o, ho, _⟩ := b2.dom c i (g5 c (List.mem_cons_of_mem _ hc))
          rw [fb c hb] at ho
          cases ho
        have hcs : ∀ c ∈ cs' ++ bs, ω' c = some i ∨ H c = none := fun c hc => (List.mem_append.mp hc).imp (fun z => g5 c (List.mem_cons_of_mem _ z)) (fb c)
        obtain ⟨ds, q1, q2, q3⟩ := hrep (fun c => ω' c ≠ none ∨ c ∈ cs' ++ bs) cs' bs (b2.old hcs (s.trans s') g3) ((rv (fun c => c ∈ cs' ++ bs) fun c hc => (List.mem_append.mp hc).imp (fun z => by rw [g5 c (List.mem_cons_of_mem _ z)]; intro q; cases q) id).same s') hnc nb hcb
        have hds : ∀ c ∈ ds, c ∈ cs' ++ bs := fun c hc => List.mem_append.mpr (q3 c hc)
        obtain ⟨ω2, b3, s3⟩ := b2.putn (t := .lst true) (u := .lst ws) hi h1 (s.trans s') (g5 a List.mem_cons_self) (fun c hc => hcs c (hds c hc)) (List.nodup_cons.mpr ⟨fun z => (q3 a z).elim hac (fun z => by rw [fb a z] at h2; cases h2), q2⟩) rfl upd_same (fun _ z => HO.noConfusion z)
          (q1.step (fun _ _ e _ => e) fun c _ h1 h2 => h1 (h2.imp id (hds c))) (fun c hc => (q3 c hc).elim (fun z => by
            obtain ⟨o, ho, t⟩ := b2.dom c i (g5 c (List.mem_cons_of_mem _ z))
            exact (s.trans s').nt ho t) (fun z => by
            obtain ⟨o, ho, t⟩ := hb c z
            exact s'.nt ho t))
        exact hp4 ω2 σ _ b3 (s2.trans s3)
  · exact hp.elim
/-- x.append(e) -/
def kApp (xs : List D) (d : D) : Option (List D) := if xs.length < sizeLine then some (xs ++ [d]) else none
theorem tyV_list {K : PySem.W.Frag} {H : Hp} {a : Addr} {vs : List V} (h : H a = some (.lst vs)) : tyV K "list" (.ref a) H := .inl ⟨rfl, vs, .of h⟩
theorem ds_app (he : DE X W e fv me) (hi : X.N[i]? = some x := by rfl) (hv : Vis X.env.scope x := by first | exact Or.inl rfl | exact Or.inr (Or.inl rfl) | exact Or.inr (Or.inr rfl)) (hd : (x == ("__debug__" : Str)) = false := by decide) (hcd : (x == ("__classdict__" : Str)) = false := by decide)
    (hs0 : starEach [e] X.env = (false, eval e X.env) :: starEach [] X.env := by rfl) (hbase : attributeBase (.Name x p1) "append" X.env (eval (.Name x p1) X.env) = eval (.Name x p1) X.env := by rfl)
    (hfew : ((backTo cpos (starEach [e] X.env)).all (fun x => !x.1) && (backToKw cpos (keywordEach [] X.env)).all (fun x => x.1.isSome) && decide ([e].length + ([] : List Keyword).length + (if ([] : List Keyword).isEmpty then 0 else 1) < 30)) = true := by rfl)
    (hline : (apos.endLine == cpos.line) = true := by rfl) (hplain : (backTo cpos (starEach [] X.env)).any (·.1) = false := by rfl) (hsw : swapsWith (.Call (.Attribute (.Name x p1) "append" apos) [e] [] cpos) none pos.line X.env = pure false := by rfl) :
    DS X F W (.Expr (.Call (.Attribute (.Name x p1) "append" apos) [e] [] cpos) pos) (mutL kApp i fv me) := by
  refine PS.mk (ps_expr (pe_bm PySem.F.plainAttrs_list PySem.F.slot_list_append PySem.F.type_list_append mt_append (pe_var hi hv hd hcd) (pa_cons he pa_nil hs0) hbase hfew hline hs0 hplain) hsw) fun D σ H bn ⟨ω, ρ, b, hp⟩ => ?_
  obtain ⟨a, vs, h1, h2, h3⟩ := mutL_read (Q := fun x vs a v H' => ∃ l xs y, V.ref a = .ref l ∧ [v] = [y] ∧ H' l = some (.lst xs) ∧ xs.length < sizeLine ∧ D.nx σ (upd H' l (.lst (xs ++ [y])))) (ltN hi) b hp fun xs ys d vs a v H' _ _ ek ha hl bn' _ fin => by
    unfold kApp at ek
    split at ek
    · rename_i hlen
      cases ek
      refine ⟨a, vs, v, rfl, rfl, ha, by rw [← hl]; exact hlen, fin H' (vs ++ [v]) (Same.refl _) fun B as bs r1 r2 n1 n2 dj => ⟨as ++ bs, ?_, List.nodup_append.mpr ⟨n1, n2, fun c hc c' hc' e => dj c hc (by rw [e]; exact hc')⟩, fun c hc => List.mem_append.mp hc⟩⟩
      have := Reps.cons r2 Reps.nil
      rw [List.append_nil] at this
      exact r1.append this
    · cases ek
  exact ⟨.ref a, h1, tyV_list h2, h3⟩
/-- x[k] = e in a list -/
def kSet (j : Int) (xs : List D) (d : D) : Option (List D) := (ixN xs.length j).map fun n => xs.set n d
def mputL (i : Nat) (fv : List Nat) (mk me : En → Res D) : En → Out := fun ρ => match mk (frzE ρ) with
  | .ok (.int j) => mutL (kSet j) i fv me ρ
  | _ => .no
theorem ds_putL (he : DE X W e fv me) (hk : DE X W a fa ma) (hi : X.N[i]? = some x := by rfl) (hv : Vis X.env.scope x := by first | exact Or.inl rfl | exact Or.inr (Or.inl rfl) | exact Or.inr (Or.inr rfl)) (hd : (x == ("__debug__" : Str)) = false := by decide) (hcd : (x == ("__classdict__" : Str)) = false := by decide)
    (ha : ∀ v, assign (.Subscript (.Name x p1) a p2) X.env v = (do
      let ov ← holding [v] (eval (.Name x p1) X.env)
      let iv ← holding [v, ov] (eval a X.env)
      standAt p2
      holding [v, ov, iv] (setItem ov iv v)
      release [v, ov, iv] []) := by intro _; rfl)
    (hs : swapsWithSole [.Subscript (.Name x p1) a p2] e pos.line X.env = pure false := by rfl) (hw : swappedStores [.Subscript (.Name x p1) a p2] e X.env = pure none := by rfl)
    (h1 : (assignEach [.Subscript (.Name x p1) a p2] X.env).map (·.2) = [assign (.Subscript (.Name x p1) a p2) X.env] := by rfl) :
    DS X F W (.Assign [.Subscript (.Name x p1) a p2] e pos) (mputL i fv ma me) := by
  refine PS.mk (ps_asg he (pg_sub (pe_var hi hv hd hcd) hk set_list ha) hs hw h1) fun D σ H bn ⟨ω, ρ, b, hp⟩ => ?_
  unfold mputL at hp
  split at hp
  · rename_i j ej
    obtain ⟨l, us, g1, g2, g3⟩ := mutL_read (Q := fun x vs l v H' => ∃ o, σ[i]? = some (some o) ∧ Tv (Rep X.mg) W X.mg fa ma σ H' fun iv H2 => rSetL o iv v H2 fun H3 => D.nx σ H3) (ltN hi) b hp fun xs ys d vs l v H' ex hsl ek hl hlen bn' b' fin => by
      unfold kSet at ek
      cases en : ixN xs.length j with
      | none => rw [en] at ek; cases ek
      | some n =>
        rw [en] at ek
        cases ek
        refine ⟨.ref l, hsl, frzE ρ, Bx X ω fa, b'.enOn fa, b'.bdom fa, ?_⟩
        rw [ej]
        intro iv H2 as bn2 s2 r2 f2 n2
        obtain ⟨rfl, _⟩ := r2
        refine ⟨l, vs, j, n, rfl, rfl, s2 _ _ hl, by rw [← hlen]; exact en, fin H2 (vs.set n v) s2 fun B as' bs r1 r3 n1 n3 dj => ?_⟩
        exact Reps.put r3 n3 n r1 n1 dj
    exact g3
  · exact hp.elim
/-- x[k] += e, whole numbers -/
theorem get_l : PGet X (fun o i H Q => ∃ p xs k v, o = .ref p ∧ i = .int k ∧ H p = some (.lst xs) ∧ 0 ≤ k ∧ k < xs.length ∧ xs[k.toNat]? = some v ∧ Q v H) := by
  intro pins s σ H o i ov iv Q I ro ri ⟨p, xs, k, v, e1, e2, hp, h0, hk, hv, q⟩
  subst e1 e2
  cases ro
  obtain ⟨t, rfl⟩ := ri
  obtain ⟨its, r, pl, hz⟩ := I.list (.inl (.inl hp))
  obtain ⟨u, hu, ru⟩ := r.get hv
  have := line63
  exact wpAny_getItem_list pl.isList h0 (by omega) (by simpa using hu) ⟨v, H, I, ru, q⟩
def maugL (i : Nat) (mk me : En → Res D) : En → Out := fun ρ => match ρ[i]? with
  | some (some (.node (.lst true) xs)) => (match mk (frzE ρ) with
    | .ok (.int j) => if 0 ≤ j ∧ j < xs.length then (match xs[j.toNat]? with
      | some (.int a) => (match me (frzE ρ) with
        | .ok (.int b) => .nx (ρ.set i (some (.lst true (xs.set j.toNat (.int (a + b))))))
        | _ => .no)
      | _ => .no) else .no
    | _ => .no)
  | _ => .no
theorem ds_augL (he : DE X W e fv me) (hk : DE X W a fa ma) (hi : X.N[i]? = some x := by rfl) (hv : Vis X.env.scope x := by first | exact Or.inl rfl | exact Or.inr (Or.inl rfl) | exact Or.inr (Or.inr rfl)) (hd : (x == ("__debug__" : Str)) = false := by decide) (hcd : (x == ("__classdict__" : Str)) = false := by decide)
    (ha : ∀ ov iv new, augStore a ov iv new = (do holding [new, ov, iv] (setItem ov iv new); release [new, ov, iv] []; pure .next) := by intros; rfl) :
    DS X F W (.AugAssign (.Subscript (.Name x p1) a p2) .Add e pos) (maugL i ma me) := by
  refine PS.mk (ps_augS (pe_var hi hv hd hcd) hk get_l he ip_add set_list ha) fun D σ H bn ⟨ω, ρ, b, hp⟩ => ?_
  unfold maugL at hp
  split at hp
  · rename_i xs ex
    split at hp
    · rename_i j ej
      split at hp
      · rename_i hj
        split at hp
        · rename_i n en
          split at hp
          · rename_i m em
            obtain ⟨l, vs, cs, g1, g2, g3, g4, g5⟩ := b.lst ex
            have hl := g3.length
            refine ⟨.ref l, g1, frzE ρ, Bx X ω fa, b.enOn fa, b.bdom fa, ?_⟩
            rw [ej]
            intro iv H2 as bn2 s2 r2 f2 n2
            obtain ⟨rfl, _⟩ := r2
            obtain ⟨v, bs, q1, q2, q3, q4⟩ := g3.at_ en
            obtain ⟨rfl, _⟩ := q2
            refine ⟨l, vs, j, _, rfl, rfl, s2 _ _ g2, hj.1, by omega, q1, ?_⟩
            have b2 := b.to s2
            refine ⟨frzE ρ, Bx X ω fv, b2.enOn fv, b2.bdom fv, ?_⟩
            rw [em]
            intro yv H3 as3 bn3 s3 r3 f3 n3
            obtain ⟨rfl, _⟩ := r3
            refine ⟨n, m, rfl, rfl, l, vs, j, j.toNat, rfl, rfl, s3 _ _ (s2 _ _ g2), ?_, ?_⟩
            · unfold ixN
              rw [if_pos hj.1, if_pos (by omega)]
            · obtain ⟨hac, hnc⟩ := List.nodup_cons.mp g4
              obtain ⟨ds, w1, w2, w3⟩ := Reps.put (rep_int (mg := X.mg) (H := H3) (B := fun c => ω c ≠ none ∨ c ∈ cs) (i := n + m)) List.nodup_nil j.toNat (b.old (i := i) (cs := cs) (fun c hc => .inl (g5 c (List.mem_cons_of_mem _ hc))) (s2.trans s3) g3) hnc fun _ _ z => nomatch z
              have hds : ∀ c ∈ ds, c ∈ cs := fun c hc => (w3 c hc).elim id fun z => nomatch z
              obtain ⟨ω2, b3, s4⟩ := b.putn (t := .lst true) (u := .lst (vs.set j.toNat (.int (n + m)))) (ltN hi) g1 (s2.trans s3) (g5 l List.mem_cons_self) (fun c hc => .inl (g5 c (List.mem_cons_of_mem _ (hds c hc)))) (List.nodup_cons.mpr ⟨fun z => hac (hds l z), w2⟩) rfl upd_same (fun _ z => HO.noConfusion z)
                (w1.step (fun _ _ e _ => e) fun c _ h1 h2 => h1 (h2.imp id (hds c))) (fun c hc => by
                  obtain ⟨o, ho, t⟩ := b.dom c i (g5 c (List.mem_cons_of_mem _ (hds c hc)))
                  exact (s2.trans s3).nt ho t)
              exact hp ω2 σ _ b3 s4
          · exact hp.elim
        · exact hp.elim
      · exact hp.elim
    · exact hp.elim
  · exact hp.elim
/-! ### methods of texts -/
def mmeth (T : String) (g : D → List D → Option D) (mo : En → Res D) (ms : List (En → Res D)) : En → Res D := fun ρ => (mo ρ).bind fun x => if x.frz.ty = T then (seqs ms ρ).bind fun xs => Res.of (g x.frz (frzs xs)) else .no
def rMeth (mg : Str → Option Value) (g : D → List D → Option D) : V → List V → Hp → VK → Prop := fun v vs H Q => ∃ x xs B, Rep mg H B x v [] ∧ Reps mg H B xs vs [] ∧ BDom B H ∧ Bnd H ∧ Out1 mg B H (g x xs) Q
theorem tyV_str {K : PySem.W.Frag} {mg : Str → Option Value} {H : Hp} {B : Addr → Prop} {y : D} {v : V} {as : List Addr} (h : y.ty = "str") (r : Rep mg H B y v as) : tyV K "str" v H := by
  cases y with
  | str z => rw [r.1]; rfl
  | non => exact absurd h (by simp [D.ty])
  | bl _ => exact absurd h (by simp [D.ty])
  | int _ => exact absurd h (by simp [D.ty])
  | node t xs => cases t <;> exact absurd h (by simp [D.ty])
variable {es : List Expr} {ms : List (En → Res D)} {name : Str} {id : String} {g : D → List D → Option D} {o : Expr} {fo : List Nat} {mo : En → Res D}
theorem de_strm (slot : Slot "str" name id) (hty : typeOf (.builtin id) = pure (.type "method_descriptor")) (hm : MtR X id (rMeth X.mg g)) (ho : DE X W o fo mo) (ha : DA X W (e :: es) fa (seqs ms)) (hbase : attributeBase o name X.env (eval o X.env) = eval o X.env := by rfl)
    (hfew : ((backTo cpos (starEach (e :: es) X.env)).all (fun x => !x.1) && (backToKw cpos (keywordEach [] X.env)).all (fun x => x.1.isSome) && decide ((e :: es).length + ([] : List Keyword).length + (if ([] : List Keyword).isEmpty then 0 else 1) < 30)) = true := by rfl)
    (hline : (apos.endLine == cpos.line) = true := by rfl) (hs : starEach (e :: es) X.env = (false, eval e X.env) :: starEach es X.env := by rfl) (hplain : (backTo cpos (starEach es X.env)).any (·.1) = false := by rfl) :
    DE X W (.Call (.Attribute o name apos) (e :: es) [] cpos) (fo ++ fa) (mmeth "str" g mo ms) := by
  refine PE.mk (pe_bm PySem.F.plainAttrs_str slot hty hm ho ha hbase hfew hline hs hplain) fun σ H Q bn ⟨ρ, B, en, bd, hp⟩ => ?_
  refine Tv.bind en.l bd hp fun x _ v H1 as bn1 s1 r1 f1 n1 hp1 => ?_
  split at hp1
  · rename_i ht
    refine ⟨tyV_str ht (r1.view bd f1), Tv.bind (en.r.same s1) (bd.same s1) hp1 fun xs exs vs H2 bs bn2 s2 r2 f2 n2 hp2 => ?_⟩
    exact ⟨x.frz, frzs xs, B, (r1.view bd f1).same s2, r2.view (bd.same s1) f2, (bd.same s1).same s2, bn2, out_of hp2⟩
  · exact hp1.elim
def sindexD : D → List D → Option D
  | .str a, [.str b] => match Builtin.Str.occurrences a b 0 a.length 1 with
    | i :: _ => some (.int (i : Nat))
    | [] => none
  | _, _ => none
theorem md_sindex : MtR X "str.index" (rMeth X.mg sindexD) := by
  intro pins s σ H x xs v us Q I rv rs ⟨d, ds, B, r1, r2, bd, bn, q⟩
  obtain ⟨z, e, q⟩ := q
  unfold sindexD at e
  split at e
  · rename_i a b
    obtain ⟨w, rfl, r3⟩ := reps1 r2
    obtain ⟨rfl, _⟩ := r1; obtain ⟨rfl, _⟩ := r3
    split at e
    · rename_i i rest eo
      cases e
      exact mt_sindex pins s σ H _ _ _ _ _ I rv rs ⟨a, b, i, rest, rfl, rfl, eo, q _ _ [] (Same.refl _) rep_int fresh0 List.nodup_nil⟩
    · cases e
  · cases e
theorem de_sindex (ho : DE X W o fo mo) (ha : DA X W [e] fa (seqs ms)) (hbase : attributeBase o "index" X.env (eval o X.env) = eval o X.env := by rfl)
    (hfew : ((backTo cpos (starEach [e] X.env)).all (fun x => !x.1) && (backToKw cpos (keywordEach [] X.env)).all (fun x => x.1.isSome) && decide ([e].length + ([] : List Keyword).length + (if ([] : List Keyword).isEmpty then 0 else 1) < 30)) = true := by rfl)
    (hline : (apos.endLine == cpos.line) = true := by rfl) (hs : starEach [e] X.env = (false, eval e X.env) :: starEach [] X.env := by rfl) (hplain : (backTo cpos (starEach [] X.env)).any (·.1) = false := by rfl) : DE X W (.Call (.Attribute o "index" apos) [e] [] cpos) (fo ++ fa) (mmeth "str" sindexD mo ms) :=
  de_strm PySem.F.slot_str_index PySem.F.type_str_index md_sindex ho ha hbase hfew hline hs hplain
end
end Ev

/-! Ev, part K: a def by its body. -/
namespace Ev
open PySem PySem.Spec L2
open PyProof.Rows hiding St
/-- the slots at the entry -/
def ent (n : Nat) (xs : List D) : En := xs.map some ++ List.replicate (n - xs.length) none
/-- what a body is worth -/
def bodyF (n : Nat) (m : En → Out) (xs : List D) : Res D := match m (ent n xs) with
  | .rt d _ => .ok d
  | .nx _ => .ok .non
  | .ex x _ => .ex x
  | _ => .no
theorem ent_get {n : Nat} {xs : List D} {i : Nat} {d : D} (h : (ent n xs)[i]? = some (some d)) : xs[i]? = some d := by
  unfold ent at h
  by_cases hi : i < xs.length
  · rw [List.getElem?_append_left (by simpa using hi), List.getElem?_map] at h
    cases e : xs[i]? with
    | none => rw [e] at h; cases h
    | some y => rw [e] at h; cases h; rfl
  · rw [List.getElem?_append_right (by simpa using Nat.le_of_not_lt hi)] at h
    rw [List.getElem?_replicate] at h
    split at h <;> cases h
theorem start_get {N : List Str} {vs : List V} {i : Nat} {v : V} (h : vs[i]? = some v) : (L2.start N vs)[i]? = some (some v) := by
  unfold L2.start
  have hi : i < vs.length := (List.getElem?_eq_some_iff.mp h).1
  rw [List.getElem?_append_left (by simpa using hi), List.getElem?_map, h]
  rfl
section
variable {P : Program} {w : World} {K : PySem.W.Frag} {mg : Str → Option Value} {base : Heap}
/-- a def by its body, its code told -/
theorem _root_.L2.Fun.okC {x qual : Str} {st : Stmt} {f : Addr} {fd : FuncData} {N ps : List Str} {k : Nat} {sp : Sp} (F : Fun K x qual st f fd) (S : FnScope N ps (defScope st)) (len : ∀ vs H Q E, sp vs H Q E → vs.length = ps.length)
    (hbody : ∀ (cdv : Value) (A : Around) (outer : List PySem.Env) (s : Shared) (H : Hp) (vs : List V) (Q : VK) (E : XK), cdv = fd.code → Room k (A.deeper (envOfC qual (defScope st) s.heap.objs.size f cdv)) → sp vs H Q E →
      ∃ t, PSs (cxOf (L2.CX P w) P w K mg base N qual (defScope st) f cdv A outer s H E) (defBody st) t ∧ t { nx := fun _ H' => Q .non H', rt := Q } (L2.start N vs) H) : FnOk P w K mg base (L2.CX P w) (k + 1) f fd ps sp := by
  obtain ⟨oc, od, kV, doc, pm, an, cdv, ct, osl, rfl, lk, hcd⟩ := F.ex
  exact fn_of lk hcd S len fun A outer s H vs Q E hr hsp => hbody cdv A outer s H vs Q E rfl hr hsp
theorem fn_of_body {x qual : Str} {st : Stmt} {f : Addr} {fd : FuncData} {N ps : List Str} {k : Nat} {m : En → Out} (F : Fun K x qual st f fd) (S : FnScope N ps (defScope st)) (hl : ps.length ≤ N.length)
    (hbody : ∀ (X : Cx) (Fr : Fr) (cdv : Value) (A : Around) (outer : List PySem.Env) (s : Shared) (H : Hp) (E : XK), X = cxOf (L2.CX P w) P w K mg base N qual (defScope st) f cdv A outer s H E → (∀ a, ¬ Fr.M0 a) → Room k X.A →
      Takes X (fun c od _ H' => E c od H') → PassesOwn (model X.prog X.w) X.A X.env X.xe → DSs X Fr (fun c od _ H' => E c od H') (defBody st) m) :
    FnOk P w K mg base (L2.CX P w) (k + 1) f fd ps (spD mg ps.length (bodyF N.length m)) := by
  refine F.okX S (fun vs H Q E ⟨xs, B, h1, h2, _⟩ => ?_) (fun cdv A outer s H vs Q E hr h => ?_)
  · rw [← h2.length, frzs_map, List.length_map, h1]
  · obtain ⟨xs, B, hx, rx, bd, h⟩ := h
    have hb := hbody (cxOf (L2.CX P w) P w K mg base N qual (defScope st) f cdv A outer s H E) ⟨H, B, fun _ => False, fun _ => none⟩ cdv A outer s H E rfl (fun _ z => z) hr (takes_of rfl rfl rfl rfl) (passes_of (K := fun e s' => L2.CX P w outer H s E e s') rfl)
    refine ⟨_, hb, ?_⟩
    have hlen : (frzs xs).length = ps.length := by rw [frzs_map, List.length_map, hx]
    have hv : vs.length = ps.length := by rw [← rx.length, hlen]
    open Classical in
    refine ⟨fun a => if B a then some N.length else none, ent N.length (frzs xs), ⟨?_, ?_, fun b o e _ _ => e, .refl, bd.tab, fun _ z => z.elim, fun a i e hi => ?_, fun b h => h, fun a ha => if_pos ha, fun a i e => ?_, fun a i e => ?_, fun i d e => ?_, fun _ _ z => by cases z⟩, ?_⟩
    · show (ent N.length (frzs xs)).length = N.length
      unfold ent
      rw [List.length_append, List.length_map, List.length_replicate, hlen]
      omega
    · show (L2.start N vs).length = N.length
      unfold L2.start
      rw [List.length_append, List.length_map, List.length_replicate, hv]
      omega
    · have e' : (if B a then some N.length else none) = some i := e
      split at e'
      · cases e'; exact absurd rfl hi
      · cases e'
    · left
      have e' : (if B a then some N.length else none) = some i := e
      split at e'
      · cases e'; rfl
      · cases e'
    · have e' : (if B a then some N.length else none) = some i := e
      split at e'
      · rename_i hB; exact bd a hB
      · cases e'
    · obtain ⟨v, h1, h2⟩ := rx.get (ent_get e)
      refine ⟨v, [], start_get h1, h2.step (fun _ _ z _ => z) fun a _ h z => z (if_neg h), List.nodup_nil, fun _ z => nomatch z⟩
    · have hm : (match bodyF N.length m (frzs xs) with
        | .ok d => ∀ v H' as, Same H H' → Rep mg H' B d v as → (∀ a ∈ as, H a = none) → as.Nodup → Q v H'
        | .ex x => ∀ c od H', Same H H' → ExR mg H H' B x c od → E c od H'
        | .no => False) := h
      have sm : ∀ {ω' : Own} {ρ : En} {σ' : St} {H' : Hp}, BI (cxOf (L2.CX P w) P w K mg base N qual (defScope st) f cdv A outer s H E) ⟨H, B, fun _ => False, fun _ => none⟩ ω' ρ σ' H' → Same H H' := fun b => ⟨fun c o e n => b.same c o e (fun z => z) n, b.ts.tb, b.ts.tt⟩
      have hB : ∀ {ω' : Own} {ρ : En} {σ' : St} {H' : Hp}, BI (cxOf (L2.CX P w) P w K mg base N qual (defScope st) f cdv A outer s H E) ⟨H, B, fun _ => False, fun _ => none⟩ ω' ρ σ' H' → ∀ a, B a → ω' a ≠ none := fun b a ha => by rw [b.out a ha]; intro z; cases z
      unfold bodyF at hm
      cases em : m (ent N.length (frzs xs)) with
      | nx ρ =>
        rw [em] at hm
        exact fun ω' σ' H' b _ => hm .non H' [] (sm b) rep_non (fun _ z => nomatch z) List.nodup_nil
      | rt d ρ =>
        rw [em] at hm
        exact fun v as ω' σ' H' b _ r n ha => hm v H' as (sm b) (r.step (fun _ _ z _ => z) fun a _ h z => h (hB b a z)) (fun a h => (ha a h).2) n
      | ex y ρ =>
        rw [em] at hm
        exact fun c od ω' σ' H' b _ e => hm c od H' (sm b) (e.to (fun a ha => b.nt a (hB b a ha)) fun d h1 h2 => ⟨h1, fun z => h2 (hB b d z)⟩)
      | bk ρ => rw [em] at hm; exact hm.elim
      | ct ρ => rw [em] at hm; exact hm.elim
      | no => rw [em] at hm; exact hm.elim
end
end Ev

/-! Ev, part L: ranges and texts walked by a for, displays of dicts, the end. -/
namespace Ev
open PySem PySem.Spec L2
open PyProof.Rows hiding St
theorem hu1 {k : Nat} {A : Around} (r : Room k A) : A.units + 1 < cLine := by have := r.un; omega
theorem hu64 {k : Nat} {A : Around} (r : Room k A) : A.units + 64 < cLine := by have := r.un; omega
theorem hu65 {k : Nat} {A : Around} (r : Room k A) : A.units + 65 < cLine := by have := r.un; omega
section
variable {X : Cx} {W : WX} {e a b tg : Expr} {fa fb : List Nat} {ma mb : En → Res D} {pos p : Pos}
theorem post_itf {B : Addr → Prop} {σ : St} {H : Hp} {ds : List D} {J : It} {Q : It → Hp → Prop} (hp : Post (RpIf X.mg) W X.mg B σ H (.ok ds) Q) (bn : Bnd H) (h : ∀ B H, ItOk X.mg B H J ds) : Q J H := hp J H [] bn (Same.refl _) ⟨rfl, h⟩ fresh0 List.nodup_nil
theorem df_range1 {m1 : En → Res D} (hm : X.mg "range" = none) (ha : DA X W [a] fa (seqs [m1])) (hg : Gl X "range" := by rfl) (hs : starEach [a] X.env = [(false, eval a X.env)] := by rfl) : DIf X W tg (.Call (.Name "range" p) [a] [] pos) fa (mrange [m1]) := by
  refine PI.mk (pi_range1 hg hm ha hs) fun σ H R bn ⟨ρ, B, en, bd, hp⟩ => ?_
  refine Tv.bind en bd hp fun xs exs vs H1 as bn1 s1 r1 f1 n1 hp1 => ?_
  have rv := r1.view bd f1
  obtain ⟨x, rfl⟩ := frzs1 exs
  obtain ⟨v, rfl, r2⟩ := reps1 rv
  have hp2 : Post (RpIf X.mg) W X.mg B σ H1 (Res.of (rangeD [x.frz])) R := hp1
  generalize x.frz = y at r2 hp2
  cases y with
  | int j =>
    obtain ⟨rfl, _⟩ := r2
    unfold rangeD at hp2
    dsimp only at hp2
    split at hp2
    · rename_i hh
      refine ⟨j, rfl, hh.2, by omega, fun bn => post_itf hp2 bn fun _ _ => itr_ok ?_⟩
      rw [sizeLine_eq]
      omega
    · exact hp2.elim
  | non => exact hp2.elim
  | bl _ => exact hp2.elim
  | str _ => exact hp2.elim
  | node _ _ => exact hp2.elim
theorem df_range2 {m1 m2 : En → Res D} (hm : X.mg "range" = none) (ha : DA X W [a, b] fa (seqs [m1, m2])) (hg : Gl X "range" := by rfl) (hs : starEach [a, b] X.env = [(false, eval a X.env), (false, eval b X.env)] := by rfl) (hs2 : starEach [b] X.env = [(false, eval b X.env)] := by rfl) :
    DIf X W tg (.Call (.Name "range" p) [a, b] [] pos) fa (mrange [m1, m2]) := by
  refine PI.mk (pi_range2 hg hm ha hs hs2) fun σ H R bn ⟨ρ, B, en, bd, hp⟩ => ?_
  refine Tv.bind en bd hp fun xs exs vs H1 as bn1 s1 r1 f1 n1 hp1 => ?_
  have rv := r1.view bd f1
  obtain ⟨x, y, rfl⟩ := frzs2 exs
  obtain ⟨v, w, rfl, r2, r3⟩ := reps2 rv
  have hp2 : Post (RpIf X.mg) W X.mg B σ H1 (Res.of (rangeD [x.frz, y.frz])) R := hp1
  generalize x.frz = x at r2 hp2
  generalize y.frz = y at r3 hp2
  cases x with
  | int i =>
    obtain ⟨rfl, _⟩ := r2
    cases y with
    | int j =>
      obtain ⟨rfl, _⟩ := r3
      unfold rangeD at hp2
      dsimp only at hp2
      split at hp2
      · rename_i hh
        refine ⟨i, j, rfl, hh.1, fun bn => post_itf hp2 bn fun _ _ => itr_ok ?_⟩
        rw [sizeLine_eq]
        omega
      · exact hp2.elim
    | non => exact hp2.elim
    | bl _ => exact hp2.elim
    | str _ => exact hp2.elim
    | node _ _ => exact hp2.elim
  | non => exact hp2.elim
  | bl _ => exact hp2.elim
  | str _ => exact hp2.elim
  | node _ _ => exact hp2.elim
theorem its_ok {mg : Str → Option Value} {z : Str} (hz : z.cps.size ≤ sizeLine) : ∀ (B : Addr → Prop) (H : Hp), ItOk mg B H (Its z) (z.cps.toList.map fun c => .str ⟨#[c]⟩) := fun B H => by
  refine ⟨fun H2 k i d ed => ?_, fun H2 k => ?_, by simpa using hz⟩
  · rw [List.getElem?_map] at ed
    cases ec : z.cps.toList[i]? with
    | none => rw [ec] at ed; cases ed
    | some c =>
      rw [ec] at ed
      cases ed
      obtain ⟨h1, h2⟩ := List.getElem?_eq_some_iff.mp ec
      refine ⟨by show i < z.cps.size; simpa using h1, fun w H3 ⟨e3, c', hc', ew⟩ => ?_⟩
      subst e3 ew
      refine ⟨Same.refl _, fun B1 _ _ => ?_⟩
      have : c' = c := by
        have e1 : z.cps.toList[i]? = some c' := by simpa using hc'
        exact Option.some.inj (e1.symm.trans ec)
      rw [this]
      exact rep_str
  · show z.cps.size ≤ _
    simp
theorem df_str (h : DE X W e fa ma) : DIf X W tg e fa (mits ma) := by
  refine PI.mk (pi_str h) fun σ H R bn ⟨ρ, B, en, bd, hp⟩ => ?_
  refine Tv.bind en bd hp fun x _ v H1 as bn1 s1 r1 f1 n1 hp1 => ?_
  have r2 := r1.view bd f1
  generalize x.frz = y at r2 hp1
  cases y with
  | str z =>
    obtain ⟨rfl, _⟩ := r2
    unfold strItems at hp1
    dsimp only at hp1
    split at hp1
    · rename_i hz
      exact ⟨z, rfl, fun bn => post_itf hp1 bn (its_ok hz)⟩
    · exact hp1.elim
  | int _ => exact hp1.elim
  | non => exact hp1.elim
  | bl _ => exact hp1.elim
  | node _ _ => exact hp1.elim
/-! ### displays of dicts with whole numbers and texts as keys -/
def pairsF : List ((En → Res D) × (En → Res D)) → En → Res (List (Ky × D))
  | [], _ => .ok []
  | (mk, mv) :: r, ρ => (mk ρ).bind fun k => (mv ρ).bind fun v => match keyD k.frz with
    | some (.inl q) => (pairsF r ρ).bind fun ps => .ok ((.inl q, v.frz) :: ps)
    | _ => .no
def mdisp (ms : List ((En → Res D) × (En → Res D))) : En → Res D := fun ρ => (pairsF ms ρ).bind fun ps => .ok (.dct true false (ps.foldl (fun acc p => put acc p.1 p.2) []))
/-- pairs by pairs -/
def KRel (mg : Str → Option Value) (H : Hp) (B : Addr → Prop) : List (Ky × D) → List (Key × V) → Prop := Paired fun p q => p.1 = .inl q.1 ∧ Rep mg H B p.2 q.2 []
section
variable {mg : Str → Option Value} {H : Hp} {B : Addr → Prop}
theorem KRel.any {ps : List (Ky × D)} {qs : List (Key × V)} (r : KRel mg H B ps qs) (k : Key) : (ps.any fun p => decide (p.1 = .inl k)) = qs.any fun q => decide (q.1 = k) := by
  induction r with
  | nil => rfl
  | @cons p q ps qs h t ih =>
    rw [List.any_cons, List.any_cons, ih, h.1]
    congr 1
    by_cases e : q.1 = k
    · rw [e]; simp
    · rw [decide_eq_false e, decide_eq_false fun z => e (Sum.inl.inj z)]
theorem KRel.mapput {k : Key} {d : D} {v : V} (rd : Rep mg H B d v []) : ∀ {ps : List (Ky × D)} {qs : List (Key × V)}, KRel mg H B ps qs → KRel mg H B (ps.map fun p => if p.1 = .inl k then (p.1, d) else p) (qs.map fun q => if q.1 = k then (q.1, v) else q)
  | _, _, .nil => .nil
  | _, _, .cons (a := p) (b := q) h t => by
    rw [List.map_cons, List.map_cons]
    refine .cons ?_ (KRel.mapput rd t)
    by_cases e : q.1 = k
    · rw [if_pos e, if_pos (by rw [h.1, e])]
      exact ⟨h.1, rd⟩
    · rw [if_neg e, if_neg (by rw [h.1]; exact fun z => e (Sum.inl.inj z))]
      exact h
theorem KRel.snoc {k : Key} {d : D} {v : V} (rd : Rep mg H B d v []) : ∀ {ps : List (Ky × D)} {qs : List (Key × V)}, KRel mg H B ps qs → KRel mg H B (ps ++ [(.inl k, d)]) (qs ++ [(k, v)])
  | _, _, .nil => .cons ⟨rfl, rd⟩ .nil
  | _, _, .cons h t => .cons h (KRel.snoc rd t)
theorem KRel.put {ps : List (Ky × D)} {qs : List (Key × V)} (r : KRel mg H B ps qs) {k : Key} {d : D} {v : V} (rd : Rep mg H B d v []) : KRel mg H B (put ps (.inl k) d) (putK qs k v) := by
  unfold Ev.put putK
  rw [r.any k]
  split
  · exact r.mapput rd
  · exact r.snoc rd
theorem KRel.fold : ∀ {ps : List (Ky × D)} {qs : List (Key × V)} {acc : List (Ky × D)} {acc' : List (Key × V)}, KRel mg H B ps qs → KRel mg H B acc acc' → KRel mg H B (ps.foldl (fun acc p => Ev.put acc p.1 p.2) acc) (mergeK acc' qs)
  | _, _, acc, acc', .nil, a => a
  | _ :: _, _ :: _, acc, acc', .cons (a := (pk, pd)) (b := (qk, qv)) h t, a => by
    have h1 : pk = .inl qk := h.1
    subst h1
    exact KRel.fold (ps := _) (qs := _) (acc := Ev.put acc (.inl qk) pd) (acc' := putK acc' qk qv) t (a.put h.2)
theorem KRel.keys : ∀ {ps : List (Ky × D)} {qs : List (Key × V)}, KRel mg H B ps qs → ps.map (·.1) = (qs.map (·.1)).map Sum.inl
  | _, _, .nil => rfl
  | _, _, .cons h t => by rw [List.map_cons, List.map_cons, List.map_cons, h.1, KRel.keys t]
theorem KRel.vals : ∀ {ps : List (Ky × D)} {qs : List (Key × V)}, KRel mg H B ps qs → Reps mg H B (ps.map (·.2)) (qs.map (·.2)) []
  | _, _, .nil => Reps.nil
  | _, _, .cons h t => Reps.cons (as := []) (bs := []) h.2 (KRel.vals t)
theorem KRel.step {H' : Hp} {B' : Addr → Prop} (s : Same H H') (b : ∀ a, H a ≠ none → ¬ B a → ¬ B' a) : ∀ {ps : List (Ky × D)} {qs : List (Key × V)}, KRel mg H B ps qs → KRel mg H' B' ps qs
  | _, _, .nil => .nil
  | _, _, .cons h t => .cons ⟨h.1, h.2.stepN (fun a o e n _ => s.kp a o e n) b⟩ (KRel.step s b t)
theorem zip_maps {α β : Type} : ∀ l : List (α × β), (l.map (·.1)).zip (l.map (·.2)) = l
  | [] => rfl
  | p :: l => by rw [List.map_cons, List.map_cons, List.zip_cons_cons, zip_maps l]
theorem KRel.length : ∀ {ps : List (Ky × D)} {qs : List (Key × V)}, KRel mg H B ps qs → ps.length = qs.length
  | _, _, .nil => rfl
  | _, _, .cons _ t => by rw [List.length_cons, List.length_cons, KRel.length t]
end
abbrev DP (X : Cx) (W : WX) (pos : Pos) (ks : List (Option Expr)) (vs : List Expr) (trs : List (TE × TE)) (fv : List Nat) (ms : List ((En → Res D) × (En → Res D))) : Prop :=
  PPs X pos ks vs trs ∧ trs.length = ms.length ∧ ∀ (γ δ : Type) (Rq : RpT γ δ) (k : List (Ky × D) → Res γ) (Q : δ → Hp → Prop) (Q' : List (V × V) → Hp → Prop) (σ : St) (H : Hp) (ρ : En) (B : Addr → Prop), EnOn X.mg fv ρ σ H B → BDom B H → Post Rq W X.mg B σ H ((pairsF ms ρ).bind k) Q →
    (∀ ps, pairsF ms ρ = .ok ps → ∀ (kvs : List (Key × V)) (H1 : Hp), Same H H1 → KRel X.mg H1 B ps kvs → Q' (kvs.map fun kv => (kV kv.1, kv.2)) H1) → tPairs trs σ H Q'
theorem dp_nil : DP X W pos [] [] [] [] [] := ⟨pps_nil, rfl, fun γ δ Rq k Q Q' σ H ρ B en bd hp hk => hk [] rfl [] H (Same.refl _) .nil⟩
theorem keyV {mg : Str → Option Value} {H : Hp} {B : Addr → Prop} {d : D} {q : Key} {v : V} {as : List Addr} (h : keyD d = some (.inl q)) (r : Rep mg H B d v as) : v = kV q := keyD_inl h r
theorem dp_cons {k v : Expr} {ks : List (Option Expr)} {vs : List Expr} {trs : List (TE × TE)} {fc : List Nat} {ms : List ((En → Res D) × (En → Res D))} {mk mv : En → Res D} (hk : DE X W k fa mk) (hv : DE X W v fb mv) (hr : DP X W pos ks vs trs fc ms) :
    DP X W pos (some k :: ks) (v :: vs) ((Tv (Rep X.mg) W X.mg fa mk, Tv (Rep X.mg) W X.mg fb mv) :: trs) (fa ++ (fb ++ fc)) ((mk, mv) :: ms) := by
  refine ⟨pps_cons hk hv hr.1, by rw [List.length_cons, List.length_cons, hr.2.1], fun γ δ Rq kk Q Q' σ H ρ B en bd hp hkk => ?_⟩
  rw [show pairsF ((mk, mv) :: ms) ρ = (mk ρ).bind fun k => (mv ρ).bind fun v => match keyD k.frz with | some (.inl q) => (pairsF ms ρ).bind fun ps => .ok ((Sum.inl q, v.frz) :: ps) | _ => .no from rfl, Res.bind_assoc] at hp
  refine Tv.bind en.l bd hp fun x ex xv H1 as bn1 s1 r1 f1 n1 hp1 => ?_
  rw [Res.bind_assoc] at hp1
  refine Tv.bind (en.r.l.same s1) (bd.same s1) hp1 fun y ey yv H2 bs bn2 s2 r2 f2 n2 hp2 => ?_
  cases ek : keyD x.frz with
  | none => rw [ek] at hp2; exact hp2.elim
  | some q =>
    cases q with
    | inr q => rw [ek] at hp2; exact hp2.elim
    | inl q =>
      rw [ek] at hp2
      have hp3 : Post Rq W X.mg B σ H2 (((pairsF ms ρ).bind fun ps => .ok ((.inl q, y.frz) :: ps)).bind kk) Q := hp2
      rw [Res.bind_assoc] at hp3
      have bd2 := (bd.same s1).same s2
      refine hr.2.2 γ δ Rq _ Q _ σ H2 ρ B (en.r.r.same (s1.trans s2)) bd2 hp3 fun ps eps kvs H3 s3 kr => ?_
      have exk : xv = kV q := keyD_inl ek (r1.view bd f1)
      have := hkk ((Sum.inl q, y.frz) :: ps) (by
        show ((mk ρ).bind fun k => (mv ρ).bind fun v => match keyD k.frz with | some (.inl q) => (pairsF ms ρ).bind fun ps => Res.ok ((Sum.inl q, v.frz) :: ps) | _ => .no) = _
        rw [ex, Res.bind_ok, ey, Res.bind_ok, ek, eps]; rfl) ((q, yv) :: kvs) H3 ((s1.trans s2).trans s3) (.cons ⟨rfl, (r2.view (bd.same s1) f2).same s3⟩ kr)
      rw [exk]
      exact this
theorem Post.more {B B' : Addr → Prop} {σ : St} {H : Hp} {r : Res D} {Q : VK} (h : Post (Rep X.mg) W X.mg B σ H r Q) (hb : ∀ a, B a → B' a) : Post (Rep X.mg) W X.mg B' σ H r Q := by
  cases r with
  | ok d => exact fun v H' as bn s r f n => h v H' as bn s (r.step (fun _ _ e _ => e) fun a _ z q => z (hb a q)) f n
  | ex x => exact fun c od H' s ⟨C, h1, h2, h3, h4⟩ => h c od H' s ⟨C, h1, h2, h3, h4.imp id fun ⟨hn, d, vs, h5, h5', h6, h7⟩ => ⟨hn, d, vs, h5, ⟨h5'.1, fun z => h5'.2 (hb d z)⟩, h6, h7.step (fun _ _ e _ => e) fun a _ z q => z (hb a q)⟩⟩
  | no => exact h
theorem de_disp {ks : List (Option Expr)} {vs : List Expr} {trs : List (TE × TE)} {ms : List ((En → Res D) × (En → Res D))} (h : DP X W pos ks vs trs fa ms) (hall : ks.all (·.isSome) = true := by rfl) (hl : ks.length = vs.length := by rfl) (h0 : ks ≠ [] := by intro z; cases z)
    (h15 : ks.length ≤ 15 := by decide) (h16 : ms.length ≤ 15 := by decide) : DE X W (.Dict ks vs pos) fa (mdisp ms) := by
  refine PE.mk (pe_disp h.1 hall hl h0 h15) fun σ H Q bn ⟨ρ, B, en, bd, hp⟩ p np => ?_
  have sp := same_new (o := .dK []) np
  have hp0 : Post (Rep X.mg) W X.mg B σ H ((pairsF ms ρ).bind fun ps => .ok (.dct true false (ps.foldl (fun acc p => put acc p.1 p.2) []))) Q := hp
  have en' : EnOn X.mg fa ρ σ (upd H p (.dK [])) (fun a => B a ∨ a = p) := fun i hi d hd => by
    obtain ⟨v, h1, h2⟩ := en i hi d hd
    exact ⟨v, h1, h2.stepN (fun a o e n _ => sp.kp a o e n) fun a h3 h4 z => z.elim h4 fun z => h3 (by rw [z]; exact np)⟩
  refine h.2.2 _ _ (Rep X.mg) _ Q _ σ _ ρ (fun a => B a ∨ a = p) en' ((bd.same sp).of fun a z => z.elim (bd.same sp a) fun z => ⟨.dK [], (congrArg _ z).trans upd_same, fun _ z => HO.noConfusion z⟩) ((hp0.same sp).more fun a z => .inl z) fun ps eps kvs H1 s1 kr => ?_
  rw [eps, Res.bind_ok] at hp0
  have hk : kvs.length ≤ 15 := by
    rw [← kr.length]
    have : ∀ (ms : List ((En → Res D) × (En → Res D))) (ps : List (Ky × D)), pairsF ms ρ = .ok ps → ps.length = ms.length := by
      intro ms
      induction ms with
      | nil => intro ps e; cases e; rfl
      | cons m ms ih =>
        intro ps e
        obtain ⟨mk, mv⟩ := m
        have e' : ((mk ρ).bind fun k => (mv ρ).bind fun v => match keyD k.frz with | some (.inl q) => (pairsF ms ρ).bind fun ps => Res.ok ((Sum.inl q, v.frz) :: ps) | _ => .no) = .ok ps := e
        cases e1 : mk ρ with
        | ok k =>
          cases e2 : mv ρ with
          | ok v =>
            rw [e1, e2] at e'
            have e3 : (match keyD k.frz with | some (.inl q) => (pairsF ms ρ).bind fun ps => Res.ok ((Sum.inl q, v.frz) :: ps) | _ => .no) = .ok ps := e'
            split at e3
            · cases e4 : pairsF ms ρ with
              | ok ps' =>
                rw [e4] at e3
                cases e3
                rw [List.length_cons, List.length_cons, ih ps' e4]
              | ex y => rw [e4] at e3; cases e3
              | no => rw [e4] at e3; cases e3
            · cases e3
          | ex y => rw [e1, e2] at e'; cases e'
          | no => rw [e1, e2] at e'; cases e'
        | ex y => rw [e1] at e'; cases e'
        | no => rw [e1] at e'; cases e'
    rw [this ms ps eps]
    exact h16
  refine ⟨s1 _ _ upd_same, kvs, rfl, hk, fun bn => ?_⟩
  have kr2 := KRel.fold kr (acc := []) (acc' := []) .nil
  have s3 : Same H (upd H1 p (.dK (mergeK [] kvs))) := (sp.trans s1).put np (s1 _ _ upd_same)
  refine hp0 _ _ [p] bn s3 ?_ (fresh1 np) nodup1
  rw [D.dct, Rep]
  refine ⟨p, (mergeK [] kvs).map (·.2), [], rfl, ⟨?_, .dK (mergeK [] kvs), ⟨(mergeK [] kvs).map (·.1), kr2.keys, by rw [zip_maps]⟩, upd_same⟩, ?_, .inl ⟨rfl, rfl⟩⟩
  · rw [List.length_map, List.length_map, kr2.length]
  · refine Reps.step kr2.vals (fun a o e h => ?_) fun _ _ z q => z (.inl q)
    rcases h with h | h
    · cases h
    · rw [upd_ne]
      · exact e
      · rintro rfl
        exact h (.inr rfl)
end
/-! ### the end of a law -/
def numsD (ns : List Int) : List D := ns.map .int
theorem frzs_nums : ∀ ns : List Int, frzs (numsD ns) = numsD ns
  | [] => rfl
  | n :: ns => by
    show D.int n :: frzs (numsD ns) = D.int n :: numsD ns
    rw [frzs_nums ns]
theorem reps_nums {mg : Str → Option Value} {H : Hp} {B : Addr → Prop} : ∀ ns : List Int, Reps mg H B (numsD ns) (ns.map V.int) []
  | [] => Reps.nil
  | n :: ns => Reps.cons (as := []) (bs := []) rep_int (reps_nums ns)
def isLst : Value → Bool
  | .type n => n == "list"
  | _ => false
def noLst (K : PySem.W.Frag) : Bool := K.all fun p => !isLst p.2.cls
theorem noLst_lookup : ∀ {K : PySem.W.Frag} {a : Addr} {o : Obj}, noLst K = true → K.lookup a = some o → isLst o.cls = false
  | [], a, o, _, h => by cases h
  | (b, q) :: K, a, o, hn, h => by
    unfold noLst at hn
    rw [List.all_cons, Bool.and_eq_true] at hn
    rw [List.lookup_cons] at h
    split at h
    · cases h; simpa using hn.1
    · exact noLst_lookup (K := K) hn.2 h
def spL : Sp := fun vs H Q _ => ∃ (a : Addr) (ns : List Int), vs = [.ref a] ∧ Rd H a (.lst (ns.map V.int)) ∧ ns.length ≤ 63 ∧ (∀ P ∈ tabsT, TblAt H P) ∧ ∀ H', Q (.bl true) H'
theorem law_walk {l : PySem.W.OpenLaw} {k : Nat} {q : Program} {loose : List Str} {XP : (Str → Option Value) → Heap → Prop} {YP : World → Heap → Prop} {d : DefRec} {K : Params → PySem.W.Frag} {x : Str} {f : List D → Res D} {cs : List (Addr × Addr)}
    (hn : l.most = some 63) (hdf : d.params.defaults = []) (hr : Room k callerA) (hcs : ∀ P ∈ tabsT, P ∈ cs.map (·.2)) (hY : ∀ (w : World) (h : Heap), YP w h → (K w.params).In h) (hT : ∀ (w : World) (h : Heap), YP w h → ∀ p ∈ cs, h.get? p.2 = some { cls := .none, data := .fields #[] })
    (hK : ∀ (w : World), ∀ p ∈ cs, PySem.W.codeHdIn (K w.params) p.1 p.2 = true ∧ (K w.params).lookup p.2 = none) (hno : ∀ w : World, noLst (K w.params) = true)
    (F : ∀ (w : World) (mg : Str → Option Value) (fa : Addr) (h : Heap), (K w.params).In h → h.Ns mainGlobals mg → mg d.name = some (.ref fa) →
      ∃ fd : FuncData, (∀ (s : Shared) (u : Value), BindsTo s fd ⟨[u], []⟩ [(x, u)]) ∧ ∀ base : Heap, (K w.params).In base → base.Ns mainGlobals mg → (∀ p ∈ cs, LamX.TabB base mg p.1 p.2) → FnOk l.prog w (K w.params) mg base (L2.CX l.prog w) k fa fd [x] (spD mg 1 f))
    (holds : ∀ ns : List Int, ns.length ≤ 63 → f [.lst false (numsD ns)] = .ok (.bl true)) : PySem.W.WalkO q loose XP YP l.row.toRowW d [] (fun f vs => PySem.call f vs) := by
  refine LamX.walk_ofTs (n := 63) (k := k) (x := x) (K := K) (CX := fun w => L2.CX l.prog w) hn (by decide) hdf hr hY (fun w mg fa h Y KX G hmg => ?_) (fun w H s e s' h => ?_)
  · obtain ⟨fd, hb, hF⟩ := F w mg fa h KX G hmg
    refine ⟨fd, cs, spL, hT w h Y, fun p hp => (hK w p hp).2, fun p hp => PySem.W.codeHd_of_K KX (hK w p hp).1, hb, fun H a ns hl _ hTb hS => ?_, fun base h1 h2 h3 => (hF base h1 h2 h3).imp fun vs H Q E ⟨a, ns, e, rd, hl, tb, q⟩ => ?_⟩
    · refine ⟨a, ns, rfl, ?_, hl, fun P hP => ?_, fun _ => rfl⟩
      · rcases hS with h | ⟨o, its, n, hk, hc, _⟩
        · exact h
        · have := noLst_lookup (hno w) hk
          rw [hc] at this
          exact absurd this (by decide)
      · obtain ⟨p, hp, e⟩ := List.mem_map.mp (hcs P hP)
        refine ⟨#[], by rw [← e]; exact hTb p hp, True.intro, fun pos cv hc => ?_⟩
        have z : codeAmong pos [] = some cv := hc
        simp [codeAmong] at z
    · refine ⟨[.lst false (numsD ns)], fun _ => False, rfl, ?_, ⟨fun _ z => z.elim, tb⟩, ?_⟩
      · rw [e]
        refine Reps.cons (as := []) (bs := []) ?_ Reps.nil
        rw [D.frz, frzs_nums, Rep]
        exact ⟨a, ns.map V.int, [], rfl, rd, reps_nums ns, .inr ⟨rfl, fun z => z, rfl⟩⟩
      · have e2 : frzs [D.lst false (numsD ns)] = [D.lst false (numsD ns)] := by
          show [D.node (.lst false) (frzs (numsD ns))] = _
          rw [frzs_nums]
        rw [e2, holds ns hl]
        intro v H' as _ r _ _
        rw [r.1]
        exact q H'
  · obtain ⟨_, _, _, _, _, _, _, _, _, _, _, _, z⟩ := h
    exact z
end Ev

/-! Ev, part M: sorted. -/
namespace Ev
open PySem PySem.Spec L2
open PyProof.Rows hiding St
open PySem.W (EachIs AllAlike Sortable alike dataLt dataLe)
/-- items that can be put in order: alike at each place, all tuples with an item or none a tuple or None -/
def tupNe : D → Bool
  | .node .tup (_ :: _) => true
  | _ => false
def noTup : D → Bool
  | .non => false
  | .node .tup _ => false
  | _ => true
def sortOk (xs : List D) : Bool := xs.all (D.dep 20) && ((xs.all fun x => xs.all fun y => alike x.py y.py) && (xs.all tupNe || xs.all noTup))
def leD3 : D → D → Bool := dataLe false D.py
def sortD : List D → Option D
  | [.node (.lst _) xs] => if sortOk xs = true then some (.lst true (xs.mergeSort leD3)) else none
  | [.node (.dct _ _ ks) xs] => if sortOk (ks.map kyD) = true ∧ ks.length ≤ sizeLine then some (.lst true ((ks.map kyD).mergeSort leD3)) else none
  | _ => none
theorem sortOk_iff {xs : List D} (h : sortOk xs = true) : (∀ x ∈ xs, x.dep 20 = true) ∧ AllAlike (xs.map D.py) ∧ Sortable (xs.map D.py) := by
  unfold sortOk at h
  rw [Bool.and_eq_true, Bool.and_eq_true] at h
  obtain ⟨h1, h2, h3⟩ := h
  refine ⟨List.all_eq_true.mp h1, fun d hd d' hd' => ?_, ?_⟩
  · obtain ⟨x, hx, rfl⟩ := List.mem_map.mp hd
    obtain ⟨y, hy, rfl⟩ := List.mem_map.mp hd'
    exact List.all_eq_true.mp (List.all_eq_true.mp h2 x hx) y hy
  · rw [Bool.or_eq_true] at h3
    rcases h3 with h3 | h3
    · refine .inl fun d hd => ?_
      obtain ⟨x, hx, rfl⟩ := List.mem_map.mp hd
      have t := List.all_eq_true.mp h3 x hx
      unfold tupNe at t
      split at t
      · exact ⟨_, _, rfl⟩
      · cases t
    · refine .inr fun d hd => ?_
      obtain ⟨x, hx, rfl⟩ := List.mem_map.mp hd
      have t := List.all_eq_true.mp h3 x hx
      unfold noTup at t
      split at t
      · cases t
      · cases t
      · rename_i n1 n2
        refine ⟨fun e => ?_, fun ys e => ?_⟩
        · cases x with
          | non => exact n1 rfl
          | node t ys => cases t <;> cases e
          | _ => cases e
        · cases x with
          | node t ys => cases t with
            | tup => exact n2 _ rfl
            | _ => cases e
          | _ => cases e
section
variable {mg : Str → Option Value} {H : Hp} {B : Addr → Prop}
theorem each_of : ∀ {xs : List D} {vs : List V} {us : List Value}, Reps mg H B xs vs [] → Vals vs us → EachIs (fun u d => ∃ v, RelV v u ∧ Rep mg H B d v []) us xs
  | [], vs, us, r, h => by
    rw [Reps] at r
    obtain ⟨rfl, _⟩ := r
    cases h
    exact .nil
  | x :: xs, vs, us, r, h => by
    rw [Reps] at r
    obtain ⟨v, ws, a1, a2, rfl, ea, h1, h2⟩ := r
    have e1 : a1 = [] := (List.append_eq_nil_iff.mp ea.symm).1
    have e2 : a2 = [] := (List.append_eq_nil_iff.mp ea.symm).2
    subst e1; subst e2
    cases h with
    | cons q t => exact .cons ⟨v, q, h1⟩ (each_of h2 t)
theorem of_each : ∀ {xs : List D} {us : List Value}, EachIs (fun u d => ∃ v, RelV v u ∧ Rep mg H B d v []) us xs → ∃ vs, Vals vs us ∧ Reps mg H B xs vs []
  | _, _, .nil => ⟨[], .nil, Reps.nil⟩
  | _, _, .cons ⟨v, q, r⟩ t => by
    obtain ⟨vs, h1, h2⟩ := of_each t
    exact ⟨v :: vs, .cons q h1, Reps.cons (as := []) (bs := []) r h2⟩
end
mutual
theorem reads_lt {h : Heap} : ∀ {v : Value} {d : PyData} {as : List Addr}, Reads h v d as → ∀ b ∈ as, b < h.objs.size
  | _, _, _, .none => by intro b hb; cases hb
  | _, _, _, .bool _ => by intro b hb; cases hb
  | _, _, _, .int _ _ => by intro b hb; cases hb
  | _, _, _, .str _ _ => by intro b hb; cases hb
  | _, _, _, .list h1 h2 h3 h4 => by
    intro b hb
    rcases List.mem_cons.mp hb with rfl | hb
    · exact Heap.lt_size h1
    · exact readsAll_lt h4 b hb
  | _, _, _, .tuple h1 h2 h3 h4 => readsAll_lt h4
  | _, _, _, .dict h1 h2 h3 h4 h5 => by
    intro b hb
    rw [List.cons_append] at hb
    rcases List.mem_cons.mp hb with rfl | hb
    · exact Heap.lt_size h1
    · rcases List.mem_append.mp hb with hb | hb
      · exact readsAll_lt h4 b hb
      · exact readsAll_lt h5 b hb
theorem readsAll_lt {h : Heap} : ∀ {vs : List Value} {ds : List PyData} {as : List Addr}, ReadsAll h vs ds as → ∀ b ∈ as, b < h.objs.size
  | _, _, _, .nil => by intro b hb; cases hb
  | _, _, _, .cons h1 h2 => by
    intro b hb
    rcases List.mem_append.mp hb with hb | hb
    · exact reads_lt h1 b hb
    · exact readsAll_lt h2 b hb
end
section
variable {X : Cx}
/-- sorted of what can be collected -/
theorem sorted_of_collect {pins : List (Addr × Obj)} {σ : St} {H : Hp} {s : Shared} {r : Addr} {vs : List V} {xs : List D} {B : Addr → Prop} {Q : VK} (hu : X.A.units + 64 < cLine) (I : Inv X pins σ H s)
    (hcol : ∀ {R : List Value → Shared → Prop}, (∀ (h' : Heap) (tk : Nat) (us : List Value), (∀ b o, s.heap.get? b = some o → h'.get? b = some o) → Vals vs us → R us { s with heap := h', toks := tk }) → wpAny (model X.prog X.w) X.A.in1 (collect (.ref r)) R X.xe s)
    (hr : Reps X.mg H B xs vs []) (ok : sortOk xs = true) (lz : xs.length ≤ sizeLine)
    (q : ∀ (p : Addr) (ws : List V), H p = none → Reps X.mg H B (xs.mergeSort leD3) ws [] → Q (.ref p) (upd H p (.lst ws))) :
    wpAny (model X.prog X.w) X.A (call (.builtin "sorted") [.ref r]) (EP X pins σ Q) X.xe s := by
  obtain ⟨c1, c2, c3⟩ := sortOk_iff ok
  refine Calls.call_function_entry PyProof.Rows.kind_sorted PyProof.Rows.plain_sorted PyProof.Rows.entry_sorted (PyProof.Rows.args_sorted1 _) ?_
  unfold Builtin.«sorted»
  refine wpAny_bind (m := checkCount "sorted" 1 1 _) (wpAny_pure ?_)
  refine wpAny_bind (hcol fun h' tk us hk rv => ?_)
  have hal : us.length = xs.length := by rw [← rv.length, hr.length]
  have I1 : Inv X pins σ H { s with heap := h', toks := tk } := I.kept hk
  refine wpAny_bind (wpAny_newList ?_ (by rw [hal]; exact lz))
  have hoL : (h'.push (seqObj "list" us.toArray 0)).get? h'.objs.size = some (seqObj "list" us.toArray 0) := Heap.get?_push_size _ rfl
  show wpAny _ _ _ _ _ { s with heap := h'.push (seqObj "list" us.toArray 0), toks := tk }
  have ea := each_of hr rv
  have er : EachIs (fun v b => ∃ as, Reads (h'.push (seqObj "list" us.toArray 0)) v (D.py b) as ∧ h'.objs.size ∉ as) us xs := by
    refine EachIs.mono (R := fun u d => d ∈ xs ∧ ∃ v, RelV v u ∧ Rep X.mg H B d v []) (fun u d ⟨hm, v, q1, q2⟩ => ?_) ((PySem.W.each_mem ea).mono fun u d ⟨z1, z2⟩ => ⟨z2, z1⟩)
    obtain ⟨as, ra⟩ := Dp.reads I1 d.py v u (dp_of 20 d v [] (c1 d hm) q2) q1
    exact ⟨as, PyProof.Rows.Reads.keeps (fun b o e => Heap.get?_push_of_some _ e) ra, fun z => Nat.lt_irrefl _ (reads_lt ra _ z)⟩
  refine wpAny_bind (wpAny_holding (PySem.W.list_sort_data (enc := D.py) (s := { s with heap := h'.push (seqObj "list" us.toArray 0), toks := tk }) hoL ea er c2 c3 lz (fun b hb => ?_) fun out ho eo => ?_))
  · have := (dep_py 20 b (c1 b hb)).2
    show X.A.units + 1 + 1 + _ < cLine
    omega
  obtain ⟨ws, k1, k2⟩ := of_each eo
  obtain ⟨e', he'⟩ := PyProof.Rows.sortedHeap_at (vs := us) (out := out.toArray) hoL
  have hlen : ws.length ≤ sizeLine := by rw [k1.length, ho]; exact lz
  refine wpAny_pure ⟨_, rfl, .ref h'.objs.size, upd H h'.objs.size (.lst ws), I1.laid (t' := tk) (fun b u e => ?_) (Nat.le_refl _)
    (show ObjOk X.prog X.w _ _ _ (.lst ws) from ⟨hlen, out, e', k1, he'⟩), rfl, q _ ws (I1.hok.fresh (Nat.le_refl _)) k2⟩
  have hb : b < h'.objs.size := Heap.lt_size e
  rw [PyProof.Rows.sortedHeap_old (Nat.ne_of_lt hb) (by rw [size_push']; exact Nat.lt_succ_of_lt hb)]
  exact Heap.get?_push_of_some _ e
end
section
variable {X : Cx}
theorem cd_sorted (hc : X.calm = true) (hu : X.A.units + 64 < cLine) : CallD X (.builtin "sorted") sortD := by
  intro pins s σ H vs us Q I r h
  obtain ⟨xs, B, rx, bd, bn, d, e, q⟩ := h
  unfold sortD at e
  split at e
  · rename_i o ys
    split at e
    · rename_i ok; cases e
      obtain ⟨c1, c2, c3⟩ := sortOk_iff ok
      obtain ⟨v, rfl, r1⟩ := reps1 rx
      obtain ⟨a, ws, rfl, ha, hr, _⟩ := r1.lstE
      obtain ⟨its, rv, hl, hz⟩ := I.list (.inl ha)
      rw [Vals.ref1 r]
      have ea := each_of hr rv
      have er : EachIs (fun v b => ∃ as, Reads s.heap v (D.py b) as) its ys := by
        refine EachIs.mono (R := fun u d => d ∈ ys ∧ ∃ v, RelV v u ∧ Rep X.mg H B d v []) (fun u d ⟨hm, v, q1, q2⟩ => Dp.reads I d.py v u (dp_of 20 d v [] (c1 d hm) q2) q1) ?_
        exact (PySem.W.each_mem ea).mono fun u d ⟨z1, z2⟩ => ⟨z2, z1⟩
      have lz : ys.length ≤ sizeLine := by rw [hr.length]; exact hz
      refine PySem.W.sorted_data (enc := D.py) hl.isList ea er c2 c3 lz (fun b hb => ?_) fun out ho eo => ?_
      · have := (dep_py 20 b (c1 b hb)).2
        omega
      · obtain ⟨vs', k1, k2⟩ := of_each eo
        obtain ⟨ep, he'⟩ := PyProof.Rows.sortedAll_at s.heap its out.toArray
        have hlen : vs'.length ≤ sizeLine := by
          rw [k1.length, ho]; exact lz
        refine ⟨.ref _, upd H (s.heap.objs.size + 1) (.lst vs'), I.laid (t' := s.toks) (fun _ _ => PyProof.Rows.sortedAll_old) (Nat.le_succ _) ⟨hlen, out, ep, k1, he'⟩, rfl, ?_⟩
        have np := I.hok.fresh (Nat.le_succ s.heap.objs.size)
        exact q _ _ [_] (same_new np) (rep_newlst np k2) (fresh1 np) nodup1
    · cases e
  · rename_i o t ks ys
    split at e
    · rename_i ok; cases e
      obtain ⟨v, rfl, r1⟩ := reps1 rx
      obtain ⟨a, ws, uo, rfl, l, dd, rd, rr, _⟩ := r1.dctE
      have lw := rr.length
      rw [Vals.ref1 r]
      have lz : (ks.map kyD).length ≤ sizeLine := by rw [List.length_map]; exact ok.2
      cases t with
      | false =>
        obtain ⟨k', rfl, rfl⟩ := dd
        rw [List.length_map] at l
        obtain ⟨z, lo, vs, rel, dd⟩ := dk_rd I.hok rd
        obtain ⟨ep, hat⟩ := dd.dictAt
        have lv : (k'.zip ws).length = vs.length := Paired.length rel
        refine sorted_of_collect (vs := k'.map kV) (B := B) hu I (fun {R} hR => PySem.W.kdu_collect (A := X.A.in1) (PySem.W.kdl_dict (knd := mixKind X.prog X.w) (kvs := vs) (ep := ep) lo) (I.ok.hd hc) hat (by rw [← lv]; exact z) fun h' tk acc hk hacc => hR h' tk _ hk ?_) (reps_keysK k') ok.1 lz fun p ws' np hr' => q _ _ [p] (same_new np) (rep_newlst np hr') (fresh1 np) nodup1
        have ek : k'.map kV = vs.map fun p => kV p.1 := by
          have e3 : k' = vs.map (·.1) := (List.map_fst_zip (by omega : k'.length ≤ ws.length)).symm.trans rel.keys
          rw [e3, List.map_map]
          rfl
        rw [ek]
        exact keys_at (by rw [Array.length_toList]; exact hacc.1) fun j v e => hacc.2 j v (by rw [← Array.getElem?_toList]; exact e)
      | true =>
        obtain ⟨k', rfl, rfl⟩ := dd
        rw [List.length_map] at l
        obtain ⟨z, hs, kz, pr, ob, es, ep, ho, hx, hdt, he, hn⟩ := (show ObjOk X.prog X.w H s.heap a (.dT (k'.zip ws)) from rd.ok I.hok)
        have l1 : es.size = kz.length := size_of_entries he
        have l2 : (k'.zip ws).length = kz.length := Paired.length pr
        refine sorted_of_collect (vs := (kz.map fun x => x.2.1).map V.ref) (B := B) hu I (fun {R} hR => PySem.W.kdu_collect (A := X.A.in1) (kdl_raw hs hx hdt) (I.ok.hd hc) ho (by rw [l1, ← l2]; exact z) fun h' tk acc hk it => hR h' tk _ hk ?_) (reps_keysT bd (by omega) (isKeys_of pr)) ok.1 lz fun p ws' np hr' => q _ _ [p] (same_new np) (rep_newlst np hr') (fresh1 np) nodup1
        have ea : acc.toList = kz.map fun x => Value.ref x.2.1 := by
          have hl : acc.toList.length = kz.length := by rw [Array.length_toList, it.1]; exact l1
          apply List.ext_getElem?
          intro j
          rw [List.getElem?_map]
          cases hj : acc.toList[j]? with
          | none =>
            have h1 := List.getElem?_eq_none_iff.mp hj
            rw [List.getElem?_eq_none (by omega)]
            all_goals rfl
          | some v =>
            obtain ⟨en, hen, hv⟩ := it.2 j v (by rw [← Array.getElem?_toList]; exact hj)
            have qe := entry_at he j
            rw [hen] at qe
            cases hb : kz[j]? with
            | none =>
              rw [hb] at qe
              exact nomatch (show some en = none from qe)
            | some b =>
              rw [hb] at qe
              have e2 : en = entryOfKey (tupleKind (mixKind X.prog X.w)) b := Option.some.inj qe
              rw [hv, e2]
              all_goals rfl
        rw [show acc.toList = (kz.map fun x => x.2.1).map Value.ref from by rw [ea, List.map_map]; all_goals rfl]
        exact vals_refs _
    · cases e
  · cases e
end
end Ev

/-! Ev, part N: ranges with a step. -/
namespace Ev
open PySem PySem.Spec L2
open PyProof.Rows hiding St
def rngC (lo c : Int) (n : Nat) : List D := (List.range n).map fun i => .int (lo + (i : Nat) * c)
theorem rngC_get {lo c : Int} {n i : Nat} {d : D} (e : (rngC lo c n)[i]? = some d) : i < n ∧ d = .int (lo + i * c) := by
  unfold rngC at e
  rw [List.getElem?_map] at e
  cases er : (List.range n)[i]? with
  | none => rw [er] at e; cases e
  | some j =>
    rw [er] at e
    obtain ⟨h1, h2⟩ := List.getElem?_eq_some_iff.mp er
    rw [List.length_range] at h1
    rw [List.getElem_range] at h2
    cases e
    exact ⟨h1, by rw [h2]⟩
theorem itc_ok {mg : Str → Option Value} {B : Addr → Prop} {H : Hp} {lo c : Int} {n : Nat} (hz : n ≤ sizeLine) : ItOk mg B H (Itc lo c n) (rngC lo c n) where
  go := fun H1 k i d e => by
    obtain ⟨hi, rfl⟩ := rngC_get e
    refine ⟨hi, fun x H2 ⟨e2, y⟩ => ?_⟩
    subst e2 y
    exact ⟨Same.refl _, fun B1 _ _ => rep_int⟩
  stop := fun H1 k => by
    show n ≤ (rngC lo c n).length
    unfold rngC
    rw [List.length_map, List.length_range]
    exact Nat.le_refl _
  len := by
    unfold rngC
    rw [List.length_map, List.length_range]
    exact hz
/-- how many numbers a range with a step has -/
def rngN (i j c : Int) : Nat := (Builtin.Range.rangeSize i j c).toNat
def rangeD3 : List D → Option (List D)
  | [.int i, .int j, .int c] => if c ≠ 0 ∧ c.natAbs < 1073741824 ∧ Builtin.Range.small i j c = true ∧ rngN i j c ≤ 16777216 then some (rngC i c (rngN i j c)) else none
  | _ => none
def mrange3 (ms : List (En → Res D)) : En → Res (List D) := fun ρ => (seqs ms ρ).bind fun xs => Res.of (rangeD3 (frzs xs))
theorem frzs3 {m1 m2 m3 : En → Res D} {ρ : En} {xs : List D} (h : seqs [m1, m2, m3] ρ = .ok xs) : ∃ x y z, xs = [x, y, z] := by
  have := seqs_len h
  match xs, this with
  | [x, y, z], _ => exact ⟨x, y, z, rfl⟩
section
variable {X : Cx}
theorem rng3_core {m1 m2 m3 : En → Res D} {ρ : En} {σ : St} {H1 : Hp} {vs : List V} {as : List Addr} {xs : List D} {B : Addr → Prop} {H : Hp} (exs : seqs [m1, m2, m3] ρ = .ok xs) (rv : Reps X.mg H1 B (frzs xs) vs []) : 
    (∀ ds, rangeD3 (frzs xs) = some ds → ∃ (i j c : Int) (n : Nat), vs = [.int i, .int j, .int c] ∧ RgC i j c n ∧ n ≤ sizeLine ∧ ds = rngC i c n) := by
  intro ds e
  obtain ⟨x, y, z, rfl⟩ := frzs3 exs
  change Reps X.mg H1 B [x.frz, y.frz, z.frz] vs [] at rv
  change rangeD3 [x.frz, y.frz, z.frz] = some ds at e
  generalize x.frz = x at rv e
  generalize y.frz = y at rv e
  generalize z.frz = z at rv e
  unfold rangeD3 at e
  split at e
  · rename_i i j c hq
    cases hq
    split at e
    · rename_i hh
      cases e
      rw [Reps] at rv
      obtain ⟨v1, w1, a1, b1, rfl, _, r1, rv⟩ := rv
      rw [Reps] at rv
      obtain ⟨v2, w2, a2, b2, rfl, _, r2, rv⟩ := rv
      rw [Reps] at rv
      obtain ⟨v3, w3, a3, b3, rfl, _, r3, rv⟩ := rv
      rw [Reps] at rv
      obtain ⟨rfl, _⟩ := rv
      obtain ⟨rfl, _⟩ := r1
      obtain ⟨rfl, _⟩ := r2
      obtain ⟨rfl, _⟩ := r3
      exact ⟨i, j, c, _, rfl, ⟨hh.1, hh.2.1, hh.2.2.1, PyProof.Rows.rangeSize_toNat ..⟩, by rw [sizeLine_eq]; exact hh.2.2.2, rfl⟩
    · cases e
  · cases e
theorem di_range3 {m1 m2 m3 : En → Res D} (hm : X.mg "range" = none) (ha : DA X W [a, b, c] fa (seqs [m1, m2, m3])) (hg : Gl X "range" := by rfl) (hs : starEach [a, b, c] X.env = (false, eval a X.env) :: starEach [b, c] X.env := by rfl) (hpl : (backTo pos (starEach [b, c] X.env)).any (·.1) = false := by rfl) :
    DI X W tg (.Call (.Name "range" p) [a, b, c] [] pos) fa (mrange3 [m1, m2, m3]) := by
  refine PI.mk (pi_range3 hg hm ha hs hpl) fun σ H R bn ⟨ρ, B, en, bd, hp⟩ => ?_
  refine Tv.bind en bd hp fun xs exs vs H1 as bn1 s1 r1 f1 n1 hp1 => ?_
  have rv := r1.view bd f1
  have q := rng3_core (σ := σ) (as := as) (H := H) exs rv
  cases er : rangeD3 (frzs xs) with
  | none => rw [er] at hp1; exact hp1.elim
  | some ds =>
    rw [er] at hp1
    obtain ⟨i, j, c, n, e1, e2, e3, rfl⟩ := q ds er
    exact ⟨i, j, c, n, e1, e2, fun bn => post_it hp1 bn (itc_ok e3)⟩
theorem df_range3 {m1 m2 m3 : En → Res D} (hm : X.mg "range" = none) (ha : DA X W [a, b, c] fa (seqs [m1, m2, m3])) (hg : Gl X "range" := by rfl) (hs : starEach [a, b, c] X.env = (false, eval a X.env) :: starEach [b, c] X.env := by rfl) (hpl : (backTo pos (starEach [b, c] X.env)).any (·.1) = false := by rfl) :
    DIf X W tg (.Call (.Name "range" p) [a, b, c] [] pos) fa (mrange3 [m1, m2, m3]) := by
  refine PI.mk (pi_range3 hg hm ha hs hpl) fun σ H R bn ⟨ρ, B, en, bd, hp⟩ => ?_
  refine Tv.bind en bd hp fun xs exs vs H1 as bn1 s1 r1 f1 n1 hp1 => ?_
  have rv := r1.view bd f1
  have q := rng3_core (σ := σ) (as := as) (H := H) exs rv
  cases er : rangeD3 (frzs xs) with
  | none => rw [er] at hp1; exact hp1.elim
  | some ds =>
    rw [er] at hp1
    obtain ⟨i, j, c, n, e1, e2, e3, rfl⟩ := q ds er
    exact ⟨i, j, c, n, e1, e2, fun bn => post_itf hp1 bn fun _ _ => itc_ok e3⟩
end
end Ev

/-! Ev, part O: what changes a dict that a name owns. -/
namespace Ev
open PySem PySem.Spec L2
open PyProof.Rows hiding St
theorem map_inj_of {α β : Type} {f : α → β} (fi : ∀ a b, f a = f b → a = b) : ∀ {as bs : List α}, as.map f = bs.map f → as = bs
  | [], [], _ => rfl
  | [], _ :: _, h => by cases h
  | _ :: _, [], h => by cases h
  | a :: as, b :: bs, h => by
    rw [List.map_cons, List.map_cons, List.cons.injEq] at h
    rw [fi _ _ h.1, map_inj_of fi h.2]
section
variable {κ α β : Type} [DecidableEq κ]
/-- where a key stands -/
def idxG : List κ → κ → Option Nat
  | [], _ => none
  | q :: ks, k => if q = k then some 0 else (idxG ks k).map (· + 1)
theorem idxG_map {γ : Type} [DecidableEq γ] {f : κ → γ} (fi : ∀ a b, f a = f b → a = b) (k : κ) : ∀ ks : List κ, idxG (ks.map f) (f k) = idxG ks k
  | [] => rfl
  | q :: ks => by
    rw [List.map_cons, idxG, idxG, idxG_map fi k ks]
    by_cases h : q = k
    · rw [if_pos h, if_pos (by rw [h])]
    · rw [if_neg h, if_neg fun z => h (fi _ _ z)]
theorem idxG_none {k : κ} : ∀ {ks : List κ}, idxG ks k = none → k ∉ ks
  | [], _ => by simp
  | q :: ks, h => by
    rw [idxG] at h
    by_cases e : q = k
    · rw [if_pos e] at h; cases h
    · rw [if_neg e] at h
      have := idxG_none (ks := ks) (by simpa using h)
      simp [this, Ne.symm e]
theorem idxG_some {k : κ} : ∀ {ks : List κ} {n : Nat}, idxG ks k = some n → ks[n]? = some k
  | [], _, h => by cases h
  | q :: ks, n, h => by
    rw [idxG] at h
    by_cases e : q = k
    · rw [if_pos e] at h; cases h; simp [e]
    · rw [if_neg e] at h
      obtain ⟨m, hm, rfl⟩ := Option.map_eq_some_iff.mp h
      simpa using idxG_some hm
theorem idxG_of_mem {k : κ} : ∀ {ks : List κ}, k ∈ ks → ∃ n, idxG ks k = some n
  | q :: ks, h => by
    rw [idxG]
    by_cases e : q = k
    · exact ⟨0, by rw [if_pos e]⟩
    · rw [if_neg e]
      obtain ⟨n, hn⟩ := idxG_of_mem (ks := ks) ((List.mem_cons.mp h).resolve_left (Ne.symm e))
      exact ⟨n + 1, by rw [hn]; rfl⟩
theorem zip_repl {k : κ} {v : V} : ∀ {ks : List κ} {vs : List V} {n : Nat}, ks.length = vs.length → ks.Nodup → idxG ks k = some n → (ks.zip vs).map (fun kv => if kv.1 = k then (kv.1, v) else kv) = ks.zip (vs.set n v) ∧ ((ks.zip vs).any fun kv => decide (kv.1 = k)) = true
  | [], _, _, _, _, h => by cases h
  | _ :: _, [], _, h, _, _ => by simp at h
  | q :: ks, u :: vs, n, hl, hn, h => by
    rw [List.nodup_cons] at hn
    rw [idxG] at h
    by_cases e : q = k
    · rw [if_pos e] at h; cases h
      have aux : ∀ (ls : List κ) (ws : List V), k ∉ ls → (ls.zip ws).map (fun kv => if kv.1 = k then (kv.1, v) else kv) = ls.zip ws := by
        intro ls
        induction ls with
        | nil => intro ws _; rfl
        | cons l ls ih =>
          intro ws hk
          cases ws with
          | nil => rfl
          | cons w ws =>
            rw [List.mem_cons, not_or] at hk
            rw [List.zip_cons_cons, List.map_cons, ih ws hk.2]
            simp [Ne.symm hk.1]
      subst e
      constructor
      · rw [List.set_cons_zero, List.zip_cons_cons, List.zip_cons_cons, List.map_cons, aux ks vs hn.1]
        simp
      · simp
    · rw [if_neg e] at h
      obtain ⟨m, hm, rfl⟩ := Option.map_eq_some_iff.mp h
      obtain ⟨a1, a2⟩ := zip_repl (vs := vs) (v := v) (by simpa using hl) hn.2 hm
      constructor
      · rw [List.set_cons_succ, List.zip_cons_cons, List.zip_cons_cons, List.map_cons, a1]
        simp [e]
      · rw [List.zip_cons_cons, List.any_cons, a2, Bool.or_true]
theorem zip_no {k : κ} : ∀ {ks : List κ} {vs : List V}, k ∉ ks → ((ks.zip vs).any fun kv => decide (kv.1 = k)) = false
  | [], _, _ => rfl
  | _ :: _, [], _ => rfl
  | q :: ks, u :: vs, h => by
    rw [List.mem_cons, not_or] at h
    rw [List.zip_cons_cons, List.any_cons, zip_no h.2]
    simp [Ne.symm h.1]
theorem putK_zip {k : κ} {v : V} {ks : List κ} {vs : List V} (hl : ks.length = vs.length) (hn : ks.Nodup) : putK (ks.zip vs) k v = match idxG ks k with
    | some n => ks.zip (vs.set n v)
    | none => (ks ++ [k]).zip (vs ++ [v]) := by
  unfold putK
  cases h : idxG ks k with
  | some n =>
    obtain ⟨a1, a2⟩ := zip_repl (v := v) hl hn h
    rw [if_pos a2, a1]
  | none =>
    rw [if_neg (by rw [zip_no (idxG_none h)]; decide), List.zip_append hl]
    rfl
end
/-- a dict by its keys and values, a key set -/
def putT (ks : List Ky) (xs : List D) (k : Ky) (d : D) : List Ky × List D := match idxG ks k with
  | some n => (ks, xs.set n d)
  | none => (ks ++ [k], xs ++ [d])
def kPut (k : Ky) : Tag → List D → D → Option (Tag × List D)
  | .dct true t ks, xs, d => if Kd t k = true ∧ ks.Nodup ∧ ks.length < sizeLine then some (.dct true t (putT ks xs k d).1, (putT ks xs k d).2) else none
  | _, _, _ => none
section
variable {X : Cx} {F : Fr} {ω ω' : Own} {ρ : En} {σ : St} {H H' : Hp}
theorem BI.node (b : BI X F ω ρ σ H) {i : Nat} {t : Tag} {xs : List D} (ht : t.own = true) (e : ρ[i]? = some (some (.node t xs))) : ∃ a vs bs, σ[i]? = some (some (.ref a)) ∧ Head X.mg H a vs t ∧ Reps X.mg H (fun a => ω a ≠ none) xs vs bs ∧ (a :: bs).Nodup ∧ ∀ c ∈ a :: bs, ω c = some i := by
  obtain ⟨v, as, h1, h2, h3, h4⟩ := b.env i _ e
  rw [Rep] at h2
  obtain ⟨a, vs, bs, rfl, hd, hr, q⟩ := h2
  rcases q with ⟨_, rfl⟩ | ⟨q, _⟩
  · exact ⟨a, vs, bs, h1, hd, hr, h3, h4⟩
  · rw [ht] at q; cases q
end
section
variable {X : Cx} {F : Fr} {W : WX} {e a b c : Expr} {fv fa fb fc : List Nat} {me ma mb mc : En → Res D} {pos pos' : Pos} {i : Nat} {x : Str} {apos cpos p1 p2 p3 : Pos}
/-- the node of the slot i is changed by a value -/
def mutN (k : Tag → List D → D → Option (Tag × List D)) (i : Nat) (fv : List Nat) (me : En → Res D) : En → Out := fun ρ => match ρ[i]? with
  | some (some (.node t xs)) => if t.own = true then thenE (me (frzE ρ)) ρ fun d => if d.shr = true ∧ i ∈ fv then .no else match k t xs (into d) with
    | some (t', ys) => .nx ((intoE fv d ρ).set i (some (.node t' ys)))
    | none => .no
    else .no
  | _ => .no
theorem mutN_read {k : Tag → List D → D → Option (Tag × List D)} {σ : St} {H : Hp} {Dn : Ends} {ω : Own} {ρ : En} {Q : Addr → List V → V → Hp → Prop} (hown : ∀ t xs d t' ys, k t xs d = some (t', ys) → t'.own = true) (hi : i < X.N.length) (b : BI X F ω ρ σ H) (hp : PostS X F W ω H (mutN k i fv me ρ) Dn)
    (hk : ∀ (t t' : Tag) (xs ys : List D) (d : D) (vs : List V) (a : Addr) (v : V) (H' : Hp), ρ[i]? = some (some (.node t xs)) → σ[i]? = some (some (.ref a)) → k t xs d = some (t', ys) → Head X.mg H' a vs t → xs.length = vs.length → Bnd H' → BI X F ω ρ σ H' →
      (∀ (H3 : Hp) (ws : List V) (u : HO), Same H' H3 → Head X.mg (upd H3 a u) a ws t' → (∀ xs, u ≠ .tup xs) → ((∀ (B : Addr → Prop) (as bs : List Addr), Reps X.mg H3 B xs vs as → Rep X.mg H3 B d v bs → as.Nodup → bs.Nodup → (∀ c ∈ as, c ∉ bs) → ∃ cs, Reps X.mg H3 B ys ws cs ∧ cs.Nodup ∧ ∀ c ∈ cs, c ∈ as ∨ c ∈ bs)) → Dn.nx σ (upd H3 a u)) → Q a vs v H') :
    ∃ (a : Addr) (vs : List V) (t : Tag) (xs : List D), ρ[i]? = some (some (.node t xs)) ∧ σ[i]? = some (some (.ref a)) ∧ Head X.mg H a vs t ∧ Tv (Rep X.mg) W X.mg fv me σ H fun v H' => Q a vs v H' := by
  unfold mutN at hp
  split at hp
  · rename_i t xs ex
    split at hp
    · rename_i ho
      obtain ⟨a, vs, cs, h1, h2, h3, h4, h5⟩ := b.node ho ex
      refine ⟨a, vs, t, xs, ex, h1, h2, b.eval hp fun d ed v H' as bn' s r f n hp3 b' => ?_⟩
      rw [ed] at hp
      have hp4 : PostS X F W ω H (if d.shr = true ∧ i ∈ fv then .no else match k t xs (Ev.into d) with | some (t', ys) => .nx ((intoE fv d ρ).set i (some (.node t' ys))) | none => .no) Dn := hp
      split at hp4
      · exact hp4.elim
      · rename_i hni
        cases ek : k t xs (Ev.into d) with
        | none => rw [ek] at hp4; exact hp4.elim
        | some ty =>
          obtain ⟨t', ys⟩ := ty
          rw [ek] at hp4
          refine hk t t' xs ys (Ev.into d) vs a v H' ex h1 ek (h2.imp fun o q n => s.kp _ _ q n) h3.length bn' b' fun H3 ws u s' hh hu hrep => ?_
          obtain ⟨ω', bs, b2, s2, rv, nb, fb, hb⟩ := b.into s r f n
          obtain ⟨a', vs', cs', g1, g2, g3, g4, g5⟩ := b2.node ho ((intoE_get hni).trans ex)
          rw [h1] at g1
          cases g1
          have evs : vs = vs' := by
            cases t with
            | tup => cases ho
            | lst o => cases ho; have := h2.symm.trans g2; cases this; rfl
            | dct o tk ks =>
              cases ho
              obtain ⟨l1, u1, d1, e1⟩ := h2
              obtain ⟨l2, u2, d2, e2⟩ := g2
              rw [e1] at e2
              cases e2
              cases tk with
              | false =>
                obtain ⟨k1, q1, q2⟩ := d1
                obtain ⟨k2, q3, q4⟩ := d2
                have : k1 = k2 := by
                  have := q1.symm.trans q3
                  exact map_inj_of (fun _ _ z => Sum.inl.inj z) this
                subst this
                rw [q2] at q4
                have h0 := HO.dK.inj q4
                rw [q1, List.length_map] at l1 l2
                have := congrArg (List.map Prod.snd) h0
                rw [List.map_snd_zip (by omega), List.map_snd_zip (by omega)] at this
                exact this
              | true =>
                obtain ⟨k1, q1, q2⟩ := d1
                obtain ⟨k2, q3, q4⟩ := d2
                have : k1 = k2 := by
                  have := q1.symm.trans q3
                  exact map_inj_of (fun _ _ z => Sum.inr.inj z) this
                subst this
                rw [q2] at q4
                have h0 := HO.dT.inj q4
                rw [q1, List.length_map] at l1 l2
                have := congrArg (List.map Prod.snd) h0
                rw [List.map_snd_zip (by omega), List.map_snd_zip (by omega)] at this
                exact this
            | io bb tk ks =>
              obtain ⟨_, l1, u1, d1, e1⟩ := h2
              obtain ⟨_, l2, u2, d2, e2⟩ := g2
              rw [e1] at e2
              cases e2
              cases tk with
              | false =>
                obtain ⟨k1, q1, q2⟩ := d1
                obtain ⟨k2, q3, q4⟩ := d2
                have : k1 = k2 := by
                  have := q1.symm.trans q3
                  exact map_inj_of (fun _ _ z => Sum.inl.inj z) this
                subst this
                rw [q2] at q4
                have h0 := HO.dK.inj q4
                rw [q1, List.length_map] at l1 l2
                have := congrArg (List.map Prod.snd) h0
                rw [List.map_snd_zip (by omega), List.map_snd_zip (by omega)] at this
                exact this
              | true =>
                obtain ⟨k1, q1, q2⟩ := d1
                obtain ⟨k2, q3, q4⟩ := d2
                have : k1 = k2 := by
                  have := q1.symm.trans q3
                  exact map_inj_of (fun _ _ z => Sum.inr.inj z) this
                subst this
                rw [q2] at q4
                have h0 := HO.dT.inj q4
                rw [q1, List.length_map] at l1 l2
                have := congrArg (List.map Prod.snd) h0
                rw [List.map_snd_zip (by omega), List.map_snd_zip (by omega)] at this
                exact this
            | exc c => cases ho
            | xd ns => cases ho
            | ins o c ns =>
              obtain ⟨l1, C1, d1, m1, e1⟩ := h2
              obtain ⟨l2, C2, d2, m2, e2⟩ := g2
              have h0 := (HO.ins.inj (Option.some.inj (e1.symm.trans e2))).2.2
              have := congrArg (List.map Prod.snd) h0
              rw [List.map_snd_zip (by omega), List.map_snd_zip (by omega)] at this
              exact this
          subst evs
          obtain ⟨hac, hnc⟩ := List.nodup_cons.mp g4
          have hcb : ∀ c ∈ cs', c ∉ bs := fun c hc hb => by
            obtain ⟨o, ho, _⟩ := b2.dom c i (g5 c (List.mem_cons_of_mem _ hc))
            rw [fb c hb] at ho
            cases ho
          have hcs : ∀ c ∈ cs' ++ bs, ω' c = some i ∨ H c = none := fun c hc => (List.mem_append.mp hc).imp (fun z => g5 c (List.mem_cons_of_mem _ z)) (fb c)
          obtain ⟨ds, q1, q2, q3⟩ := hrep (fun c => ω' c ≠ none ∨ c ∈ cs' ++ bs) cs' bs (b2.old hcs (s.trans s') g3) ((rv (fun c => c ∈ cs' ++ bs) fun c hc => (List.mem_append.mp hc).imp (fun z => by rw [g5 c (List.mem_cons_of_mem _ z)]; intro q; cases q) id).same s') hnc nb hcb
          have hds : ∀ c ∈ ds, c ∈ cs' ++ bs := fun c hc => List.mem_append.mpr (q3 c hc)
          have hthere : H a ≠ none := h2.there
          obtain ⟨ω2, b3, s3⟩ := b2.putn (t := t') (u := u) hi h1 (s.trans s') (g5 a List.mem_cons_self) (fun c hc => hcs c (hds c hc)) (List.nodup_cons.mpr ⟨fun z => (q3 a z).elim hac (fun z => hthere (fb a z)), q2⟩) (hown _ _ _ _ _ ek) hh hu
            (q1.step (fun _ _ e _ => e) fun c _ h1 h2 => h1 (h2.imp id (hds c))) (fun c hc => (q3 c hc).elim (fun z => by
              obtain ⟨o, ho, t⟩ := b2.dom c i (g5 c (List.mem_cons_of_mem _ z))
              exact (s.trans s').nt ho t) (fun z => by
              obtain ⟨o, ho, t⟩ := hb c z
              exact s'.nt ho t))
          exact hp4 ω2 σ _ b3 (s2.trans s3)
    · exact hp.elim
  · exact hp.elim
def putW (ks : List Ky) (vs : List V) (k : Ky) (v : V) : List V := match idxG ks k with
  | some n => vs.set n v
  | none => vs ++ [v]
theorem rep_putT {mg : Str → Option Value} {H3 : Hp} {ks : List Ky} {k : Ky} {xs : List D} {vs : List V} {d : D} {v : V} : ∀ (B : Addr → Prop) (as bs : List Addr), Reps mg H3 B xs vs as → Rep mg H3 B d v bs → as.Nodup → bs.Nodup → (∀ c ∈ as, c ∉ bs) →
    ∃ cs, Reps mg H3 B (putT ks xs k d).2 (putW ks vs k v) cs ∧ cs.Nodup ∧ ∀ c ∈ cs, c ∈ as ∨ c ∈ bs := by
  intro B as bs r1 r2 n1 n2 dj
  unfold putT putW
  cases idxG ks k with
  | some n => exact Reps.put r2 n2 n r1 n1 dj
  | none =>
    refine ⟨as ++ bs, ?_, List.nodup_append.mpr ⟨n1, n2, fun c hc c' hc' e => dj c hc (by rw [e]; exact hc')⟩, fun c hc => List.mem_append.mp hc⟩
    have := Reps.cons r2 Reps.nil
    rw [List.append_nil] at this
    exact r1.append this
def KyRep (H : Hp) (y : V) : Ky → Prop
  | .inl q => y = kV q
  | .inr q => ∃ b, y = .ref b ∧ H b = some (.tup (q.map kV))
/-- the dict behind d[k] = v -/
theorem dput_core {mg : Str → Option Value} {H3 : Hp} {a : Addr} {t : Bool} {ks : List Ky} {k : Ky} {vs : List V} {y v : V} (hd : Head mg H3 a vs (.dct true t ks)) (hk : Kd t k = true) (hn : ks.Nodup) (hl : ks.length < sizeLine)
    (hy : KyRep H3 y k) : ∃ u, DPut H3 a y v (upd H3 a u) ∧ Head mg (upd H3 a u) a (putW ks vs k v) (.dct true t (putT ks ([] : List D) k .non).1) ∧ ∀ xs, u ≠ .tup xs := by
  obtain ⟨l, u0, d0, e0⟩ := hd
  cases t with
  | false =>
    cases k with
    | inr q => cases hk
    | inl q =>
      obtain ⟨k', rfl, rfl⟩ := d0
      rw [List.length_map] at l hl
      have hn' : k'.Nodup := List.Pairwise.imp (fun {a b} h e => h (by rw [e])) (List.pairwise_map.mp hn)
      have e1 : idxG (k'.map Sum.inl) (Sum.inl q : Ky) = idxG k' q := idxG_map (f := Sum.inl) (fun _ _ z => Sum.inl.inj z) q k'
      have pz := putK_zip (k := q) (v := v) l.symm hn'
      obtain rfl : y = kV q := hy
      refine ⟨.dK (putK (k'.zip vs) q v), DPut.k e0 (by rw [List.length_zip]; omega), ?_, fun _ z => HO.noConfusion z⟩
      unfold putW putT
      rw [e1]
      cases ei : idxG k' q with
      | some n =>
        rw [ei] at pz
        exact ⟨by simp [l], _, ⟨k', rfl, by rw [pz]⟩, upd_same⟩
      | none =>
        rw [ei] at pz
        exact ⟨by simp [l], _, ⟨k' ++ [q], by simp, by rw [pz]⟩, upd_same⟩
  | true =>
    cases k with
    | inl q => cases hk
    | inr q =>
      obtain ⟨k', rfl, rfl⟩ := d0
      rw [List.length_map] at l hl
      have hn' : k'.Nodup := List.Pairwise.imp (fun {a b} h e => h (by rw [e])) (List.pairwise_map.mp hn)
      have e1 : idxG (k'.map Sum.inr) (Sum.inr q : Ky) = idxG k' q := idxG_map (f := Sum.inr) (fun _ _ z => Sum.inr.inj z) q k'
      have pz := putK_zip (k := q) (v := v) l.symm hn'
      obtain ⟨b, rfl, hb⟩ := hy
      refine ⟨.dT (putK (k'.zip vs) q v), DPut.t e0 hb (by rw [List.length_zip]; omega), ?_, fun _ z => HO.noConfusion z⟩
      unfold putW putT
      rw [e1]
      cases ei : idxG k' q with
      | some n =>
        rw [ei] at pz
        exact ⟨by simp [l], _, ⟨k', rfl, by rw [pz]⟩, upd_same⟩
      | none =>
        rw [ei] at pz
        exact ⟨by simp [l], _, ⟨k' ++ [q], by simp, by rw [pz]⟩, upd_same⟩
theorem putT_fst (ks : List Ky) (xs : List D) (k : Ky) (d : D) : (putT ks xs k d).1 = (putT ks ([] : List D) k .non).1 := by unfold putT; cases idxG ks k <;> rfl
theorem key_rep {mg : Str → Option Value} {H : Hp} {B : Addr → Prop} {d : D} {k : Ky} {y : V} {as : List Addr} (h : keyD d = some k) (r : Rep mg H B d y as) : KyRep H y k := by
  cases k with
  | inl q => exact keyD_inl h r
  | inr q => exact keyD_inr h r
theorem kPut_own {k : Ky} (t : Tag) (xs : List D) (d : D) (t' : Tag) (ys : List D) (h : kPut k t xs d = some (t', ys)) : t'.own = true := by
  unfold kPut at h
  split at h
  · split at h
    · cases h; rfl
    · cases h
  · cases h
/-- x[k] = e in a dict -/
def mputD (i : Nat) (fv : List Nat) (mk me : En → Res D) : En → Out := fun ρ => match mk (frzE ρ) with
  | .ok kd => (match keyD kd.frz with
    | some k => mutN (kPut k) i fv me ρ
    | none => .no)
  | _ => .no
theorem ds_putD (hu : X.A.units + 1 < cLine) (he : DE X W e fv me) (hk : DE X W a fa ma) (hi : X.N[i]? = some x := by rfl) (hv : Vis X.env.scope x := by first | exact Or.inl rfl | exact Or.inr (Or.inl rfl) | exact Or.inr (Or.inr rfl)) (hd : (x == ("__debug__" : Str)) = false := by decide) (hcd : (x == ("__classdict__" : Str)) = false := by decide)
    (hs : swapsWith e (some (.Subscript (.Name x p1) a p2)) pos.line X.env = pure false := by rfl) :
    DS X F W (.Assign [.Subscript (.Name x p1) a p2] e pos) (mputD i fv ma me) := by
  refine PS.mk (ps_dput hu (pe_var hi hv hd hcd) hk he hs) fun D σ H bn ⟨ω, ρ, b, hp⟩ => ?_
  unfold mputD at hp
  split at hp
  · rename_i kd ej
    split at hp
    · rename_i k ek
      obtain ⟨a, vs, t, xs, g0, g1, g2, g3⟩ := mutN_read (Q := fun a vs v H' => ∃ o, σ[i]? = some (some o) ∧ Tv (Rep X.mg) W X.mg fa ma σ H' fun y H3 => ∃ a H4, o = .ref a ∧ DPut H3 a y v H4 ∧ D.nx σ H4) kPut_own (ltN hi) b hp fun t t' xs ys d vs a v H' ex hsl eq hh hlen bn' b' fin => by
        unfold kPut at eq
        split at eq
        · rename_i tk ks
          split at eq
          · rename_i hc
            cases eq
            refine ⟨.ref a, hsl, frzE ρ, Bx X ω fa, b'.enOn fa, b'.bdom fa, ?_⟩
            rw [ej]
            intro y H3 as bn3 s3 r3 f3 n3
            have rk := key_rep ek (r3.view (b'.bdom fa) f3)
            obtain ⟨u, q1, q2, q3⟩ := dput_core (v := v) (hh.imp fun o q n => s3.kp _ _ q n) hc.1 hc.2.1 hc.2.2 rk
            refine ⟨a, _, rfl, q1, fin H3 (putW ks vs k v) u s3 ?_ q3 rep_putT⟩
            rw [putT_fst]; exact q2
          · cases eq
        · cases eq
      exact g3
    · exact hp.elim
  · exact hp.elim
end
end Ev

/-! Ev, part P: find, startswith; get of dicts. -/
namespace Ev
open PySem PySem.Spec L2
open PyProof.Rows hiding St
section
variable {X : Cx} {F : Fr} {W : WX} {e e2 o a b c : Expr} {fv fo fa fb fc : List Nat} {mo me ma mb mc : En → Res D} {pos pos' : Pos} {i : Nat} {x : Str} {apos cpos p1 p2 p3 : Pos} {ms : List (En → Res D)}
def sfindD : D → List D → Option D
  | .str a, [.str b] => some (.int (Txt.find a b))
  | _, _ => none
theorem md_sfind : MtR X "str.find" (rMeth X.mg sfindD) := by
  intro pins s σ H x xs v us Q I rv rs ⟨d, ds, B, r1, r2, bd, bn, q⟩
  obtain ⟨z, e, q⟩ := q
  unfold sfindD at e
  split at e
  · rename_i a b
    obtain ⟨w, rfl, r3⟩ := reps1 r2
    obtain ⟨rfl, _⟩ := r1; obtain ⟨rfl, _⟩ := r3
    cases e
    exact mt_find pins s σ H _ _ _ _ _ I rv rs ⟨a, b, rfl, rfl, q _ _ [] (Same.refl _) rep_int fresh0 List.nodup_nil⟩
  · cases e
theorem de_sfind (ho : DE X W o fo mo) (ha : DA X W [e] fa (seqs ms)) (hbase : attributeBase o "find" X.env (eval o X.env) = eval o X.env := by rfl)
    (hfew : ((backTo cpos (starEach [e] X.env)).all (fun x => !x.1) && (backToKw cpos (keywordEach [] X.env)).all (fun x => x.1.isSome) && decide ([e].length + ([] : List Keyword).length + (if ([] : List Keyword).isEmpty then 0 else 1) < 30)) = true := by rfl)
    (hline : (apos.endLine == cpos.line) = true := by rfl) (hs : starEach [e] X.env = (false, eval e X.env) :: starEach [] X.env := by rfl) (hplain : (backTo cpos (starEach [] X.env)).any (·.1) = false := by rfl) : DE X W (.Call (.Attribute o "find" apos) [e] [] cpos) (fo ++ fa) (mmeth "str" sfindD mo ms) :=
  de_strm PySem.F.slot_str_find PySem.F.type_str_find md_sfind ho ha hbase hfew hline hs hplain
def sstartD : D → List D → Option D
  | .str a, [.str b] => some (.bl (Txt.startswith a b))
  | _, _ => none
theorem md_sstart : MtR X "str.startswith" (rMeth X.mg sstartD) := by
  intro pins s σ H x xs v us Q I rv rs ⟨d, ds, B, r1, r2, bd, bn, q⟩
  obtain ⟨z, e, q⟩ := q
  unfold sstartD at e
  split at e
  · rename_i a b
    obtain ⟨w, rfl, r3⟩ := reps1 r2
    obtain ⟨rfl, _⟩ := r1; obtain ⟨rfl, _⟩ := r3
    cases e
    exact mt_startswith pins s σ H _ _ _ _ _ I rv rs ⟨a, b, rfl, rfl, q _ _ [] (Same.refl _) rep_bl fresh0 List.nodup_nil⟩
  · cases e
theorem de_sstart (ho : DE X W o fo mo) (ha : DA X W [e] fa (seqs ms)) (hbase : attributeBase o "startswith" X.env (eval o X.env) = eval o X.env := by rfl)
    (hfew : ((backTo cpos (starEach [e] X.env)).all (fun x => !x.1) && (backToKw cpos (keywordEach [] X.env)).all (fun x => x.1.isSome) && decide ([e].length + ([] : List Keyword).length + (if ([] : List Keyword).isEmpty then 0 else 1) < 30)) = true := by rfl)
    (hline : (apos.endLine == cpos.line) = true := by rfl) (hs : starEach [e] X.env = (false, eval e X.env) :: starEach [] X.env := by rfl) (hplain : (backTo cpos (starEach [] X.env)).any (·.1) = false := by rfl) : DE X W (.Call (.Attribute o "startswith" apos) [e] [] cpos) (fo ++ fa) (mmeth "str" sstartD mo ms) :=
  de_strm PySem.F.slot_str_startswith PySem.F.type_str_startswith md_sstart ho ha hbase hfew hline hs hplain
/-! dicts: d.get(k), d.get(k, x) -/
def isDct : D → Bool
  | .node (.dct _ _ _) _ => true
  | _ => false
theorem isD_of {mg : Str → Option Value} {H : Hp} {B : Addr → Prop} {d : D} {v : V} (h : isDct d = true) (r : Rep mg H B d v []) : ∃ a, v = .ref a ∧ IsD H a := by
  unfold isDct at h
  split at h
  · rename_i o t ks xs
    obtain ⟨a, vs, u, rfl, l, dd, rd, _⟩ := r.dctE
    refine ⟨a, rfl, ?_⟩
    cases t with
    | false => obtain ⟨k', _, rfl⟩ := dd; exact .inl ⟨_, rd⟩
    | true => obtain ⟨k', _, rfl⟩ := dd; exact .inr ⟨_, rd⟩
  · cases h
def mget1 (mo mk : En → Res D) : En → Res D := fun ρ => (mo ρ).bind fun x => if isDct x.frz = true then (mk ρ).bind fun k => Res.of ((lookD x.frz k.frz).map fun r => r.getD .non) else .no
def mget2 (mo mk md : En → Res D) : En → Res D := fun ρ => (mo ρ).bind fun x => if isDct x.frz = true then (mk ρ).bind fun k => (md ρ).bind fun z => Res.of ((lookD x.frz k.frz).map fun r => r.getD z.frz) else .no
theorem de_get1 (hu : X.A.units + 1 < cLine) (ho : DE X W o fo mo) (ha : DE X W e fa ma) (hbase : attributeBase o "get" X.env (eval o X.env) = eval o X.env := by rfl)
    (hfew : ((backTo cpos (starEach [e] X.env)).all (fun x => !x.1) && (backToKw cpos (keywordEach [] X.env)).all (fun x => x.1.isSome) && decide (([e] : List Expr).length + ([] : List Keyword).length + (if ([] : List Keyword).isEmpty then 0 else 1) < 30)) = true := by rfl)
    (hline : (apos.endLine == cpos.line) = true := by rfl) (ht : backTo cpos (starEach [e] X.env) = [(false, eval e X.env)] := by rfl) : DE X W (.Call (.Attribute o "get" apos) [e] [] cpos) (fo ++ fa) (mget1 mo ma) := by
  refine PE.mk (pe_dget1 hu ho ha ⟨hbase, hfew, hline, ht⟩) fun σ H Q bn ⟨ρ, B, en, bd, hp⟩ => ?_
  refine Tv.bind en.l bd hp fun x _ v H1 as bn1 s1 r1 f1 n1 hp1 => ?_
  have rx := r1.view bd f1
  split at hp1
  · rename_i hx
    obtain ⟨a, rfl, hd⟩ := isD_of hx rx
    refine ⟨a, rfl, hd, Tv.bind (en.r.same s1) (bd.same s1) hp1 fun k _ y H2 bs bn2 s2 r2 f2 n2 hp2 => ?_⟩
    have ry := r2.view (bd.same s1) f2
    cases el : lookD x.frz k.frz with
    | none => rw [el] at hp2; exact hp2.elim
    | some r =>
      rw [el] at hp2
      obtain ⟨a', ov, e1, g, m⟩ := look_rep el (rx.same s2) ry
      cases e1
      refine ⟨ov, g, ?_⟩
      cases r with
      | none =>
        cases ov with
        | none => exact fun bn3 => hp2 _ _ [] bn3 (Same.refl _) rep_non fresh0 List.nodup_nil
        | some w => exact m.elim
      | some d =>
        cases ov with
        | none => exact m.elim
        | some w => exact fun bn3 => hp2 _ _ [] bn3 (Same.refl _) m fresh0 List.nodup_nil
  · exact hp1.elim
theorem de_get2 (hu : X.A.units + 1 < cLine) (ho : DE X W o fo mo) (ha : DE X W e fa ma) (hb : DE X W e2 fb mb) (hbase : attributeBase o "get" X.env (eval o X.env) = eval o X.env := by rfl)
    (hfew : ((backTo cpos (starEach [e, e2] X.env)).all (fun x => !x.1) && (backToKw cpos (keywordEach [] X.env)).all (fun x => x.1.isSome) && decide (([e, e2] : List Expr).length + ([] : List Keyword).length + (if ([] : List Keyword).isEmpty then 0 else 1) < 30)) = true := by rfl)
    (hline : (apos.endLine == cpos.line) = true := by rfl) (ht : backTo cpos (starEach [e, e2] X.env) = [(false, eval e X.env), (false, eval e2 X.env)] := by rfl) : DE X W (.Call (.Attribute o "get" apos) [e, e2] [] cpos) (fo ++ (fa ++ fb)) (mget2 mo ma mb) := by
  refine PE.mk (pe_dget2 hu ho ha hb ⟨hbase, hfew, hline, ht⟩) fun σ H Q bn ⟨ρ, B, en, bd, hp⟩ => ?_
  refine Tv.bind en.l bd hp fun x _ v H1 as bn1 s1 r1 f1 n1 hp1 => ?_
  have rx := r1.view bd f1
  split at hp1
  · rename_i hx
    obtain ⟨a, rfl, hd⟩ := isD_of hx rx
    refine ⟨a, rfl, hd, Tv.bind (en.r.l.same s1) (bd.same s1) hp1 fun k _ y H2 bs bn2 s2 r2 f2 n2 hp2 => ?_⟩
    have ry := r2.view (bd.same s1) f2
    refine Tv.bind (en.r.r.same (s1.trans s2)) (bd.same (s1.trans s2)) hp2 fun z _ w H3 cs bn3 s3 r3 f3 n3 hp3 => ?_
    have rz := r3.view (bd.same (s1.trans s2)) f3
    cases el : lookD x.frz k.frz with
    | none => rw [el] at hp3; exact hp3.elim
    | some r =>
      rw [el] at hp3
      obtain ⟨a', ov, e1, g, m⟩ := look_rep el (rx.same (s2.trans s3)) (ry.same s3)
      cases e1
      refine ⟨ov, g, ?_⟩
      cases r with
      | none =>
        cases ov with
        | none => exact fun bn4 => hp3 _ _ [] bn4 (Same.refl _) rz fresh0 List.nodup_nil
        | some w => exact m.elim
      | some d =>
        cases ov with
        | none => exact m.elim
        | some w => exact fun bn4 => hp3 _ _ [] bn4 (Same.refl _) m fresh0 List.nodup_nil
  · exact hp1.elim
end
end Ev

/-! Ev, part Q: walks over dicts by their keys (the dict is locked meanwhile), lists taken some times, things appended to what no name holds. -/
namespace Ev
open PySem PySem.Spec L2
open PyProof.Rows hiding St
section
variable {mg : Str → Option Value} {H : Hp} {a : Addr}
/-- a dict's object -/
def IsDo (u : HO) : Prop := (∃ kvs, u = .dK kvs) ∨ ∃ kvs, u = .dT kvs
theorem IsDo.mut {u : HO} (h : IsDo u) : Mut (some u) := by
  rcases h with ⟨_, rfl⟩ | ⟨_, rfl⟩ <;> trivial
theorem IsDo.nt {u : HO} (h : IsDo u) (xs : List V) : u ≠ .tup xs := by
  rcases h with ⟨_, rfl⟩ | ⟨_, rfl⟩ <;> exact HO.noConfusion
theorem dobj_is {u : HO} {ks : List Ky} {vs : List V} : ∀ {t : Bool}, Dobj u ks vs t → IsDo u
  | false, ⟨_, _, h⟩ => .inl ⟨_, h⟩
  | true, ⟨_, _, h⟩ => .inr ⟨_, h⟩
theorem Head.lock {u : HO} {od : Obj} (hd : IsDo u) (e : H a = some u) {b : Addr} {vs : List V} {t : Tag} (hn : t.own = true → b ≠ a) (h : Head mg H b vs t) : Head mg (upd H a (.frz od u)) b vs t := by
  by_cases hb : b = a
  · subst hb
    have no : ∀ o, H b = some o → o = u := fun o z => by rw [e] at z; exact (Option.some.inj z).symm
    cases t with
    | tup => exact absurd (no _ h).symm (hd.nt vs)
    | lst o =>
      cases o with
      | true => exact absurd rfl (hn rfl)
      | false =>
        rcases h with h | ⟨o, h⟩
        · have := no _ h; rcases hd with ⟨_, rfl⟩ | ⟨_, rfl⟩ <;> cases this
        · have := no _ h; rcases hd with ⟨_, rfl⟩ | ⟨_, rfl⟩ <;> cases this
    | dct o t ks =>
      cases o with
      | true => exact absurd rfl (hn rfl)
      | false =>
        obtain ⟨l, u', d, h | ⟨o, h⟩⟩ := h
        · have := no _ h; subst this
          exact ⟨l, u', d, .inr ⟨od, upd_same⟩⟩
        · have := no _ h; rcases hd with ⟨_, rfl⟩ | ⟨_, rfl⟩ <;> cases this
    | ins o c ns =>
      obtain ⟨l, C, dx, m, h⟩ := h
      have := no _ h; rcases hd with ⟨_, rfl⟩ | ⟨_, rfl⟩ <;> cases this
    | io bb t ks => exact absurd rfl (hn rfl)
    | exc c =>
      obtain ⟨C, m, ⟨_, h⟩ | ⟨d, _, h⟩⟩ := h <;> · have := no _ h; rcases hd with ⟨_, rfl⟩ | ⟨_, rfl⟩ <;> cases this
    | xd ns =>
      obtain ⟨l, h⟩ := h
      have := no _ h; rcases hd with ⟨_, rfl⟩ | ⟨_, rfl⟩ <;> cases this
  · have hk : ∀ o, H b = some o → (upd H a (.frz od u)) b = some o := fun o z => by rw [upd_ne hb]; exact z
    cases t with
    | tup => exact hk _ h
    | lst o =>
      cases o with
      | true => exact hk _ h
      | false => exact Rd.imp (fun _ z => by cases z) (fun o z _ => hk o z) h
    | dct o t ks =>
      cases o with
      | true => obtain ⟨l, u, d, h⟩ := h; exact ⟨l, u, d, hk _ h⟩
      | false => obtain ⟨l, u, d, h⟩ := h; exact ⟨l, u, d, Rd.imp (NTb.dobj d) (fun o z _ => hk o z) h⟩
    | ins o c ns => obtain ⟨l, C, dx, m, h⟩ := h; exact ⟨l, C, dx, m, hk _ h⟩
    | io bb t ks => obtain ⟨e1, l, u, d, h⟩ := h; exact ⟨e1, l, u, d, hk _ h⟩
    | exc c => obtain ⟨C, m, h⟩ := h; exact ⟨C, m, h.imp (fun z => ⟨z.1, hk _ z.2⟩) fun ⟨d, z⟩ => ⟨d, z.1, hk _ z.2⟩⟩
    | xd ns => exact ⟨h.1, hk _ h.2⟩
theorem Head.unlock {u : HO} {od : Obj} (hd : IsDo u) (e : H a = some (.frz od u)) {b : Addr} {vs : List V} {t : Tag} (h : Head mg H b vs t) : Head mg (upd H a u) b vs t := by
  by_cases hb : b = a
  · subst hb
    have no : ∀ o, H b = some o → o = .frz od u := fun o z => by rw [e] at z; exact (Option.some.inj z).symm
    have no2 : ∀ o v, H b = some (.frz o v) → v = u := fun o v z => by have := no _ z; injection this
    cases t with
    | tup => cases no _ h
    | lst o =>
      cases o with
      | true => cases no _ h
      | false =>
        rcases h with h | ⟨o, h⟩
        · cases no _ h
        · have := no2 _ _ h; subst this; rcases hd with ⟨_, z⟩ | ⟨_, z⟩ <;> cases z
    | dct o t ks =>
      cases o with
      | true => obtain ⟨l, u', d, h⟩ := h; have := no _ h; subst this; rcases dobj_is d with ⟨_, z⟩ | ⟨_, z⟩ <;> cases z
      | false =>
        obtain ⟨l, u', d, h | ⟨o, h⟩⟩ := h
        · have := no _ h; subst this; rcases dobj_is d with ⟨_, z⟩ | ⟨_, z⟩ <;> cases z
        · have := no2 _ _ h; subst this
          exact ⟨l, u', d, .inl upd_same⟩
    | ins o c ns =>
      obtain ⟨l, C, dx, m, h⟩ := h
      cases no _ h
    | io bb t ks => obtain ⟨_, l, u', d, h⟩ := h; have := no _ h; subst this; rcases dobj_is d with ⟨_, z⟩ | ⟨_, z⟩ <;> cases z
    | exc c =>
      obtain ⟨C, m, ⟨_, h⟩ | ⟨d, _, h⟩⟩ := h <;> cases no _ h
    | xd ns =>
      obtain ⟨l, h⟩ := h
      cases no _ h
  · have hk : ∀ o, H b = some o → (upd H a u) b = some o := fun o z => by rw [upd_ne hb]; exact z
    cases t with
    | tup => exact hk _ h
    | lst o =>
      cases o with
      | true => exact hk _ h
      | false => exact Rd.imp (fun _ z => by cases z) (fun o z _ => hk o z) h
    | dct o t ks =>
      cases o with
      | true => obtain ⟨l, u, d, h⟩ := h; exact ⟨l, u, d, hk _ h⟩
      | false => obtain ⟨l, u, d, h⟩ := h; exact ⟨l, u, d, Rd.imp (NTb.dobj d) (fun o z _ => hk o z) h⟩
    | ins o c ns => obtain ⟨l, C, dx, m, h⟩ := h; exact ⟨l, C, dx, m, hk _ h⟩
    | io bb t ks => obtain ⟨e1, l, u, d, h⟩ := h; exact ⟨e1, l, u, d, hk _ h⟩
    | exc c => obtain ⟨C, m, h⟩ := h; exact ⟨C, m, h.imp (fun z => ⟨z.1, hk _ z.2⟩) fun ⟨d, z⟩ => ⟨d, z.1, hk _ z.2⟩⟩
    | xd ns => exact ⟨h.1, hk _ h.2⟩
mutual
theorem Rep.lock {u : HO} {od : Obj} (hd : IsDo u) (e : H a = some u) {B : Addr → Prop} : ∀ {d : D} {v : V} {as : List Addr}, a ∉ as → Rep mg H B d v as → Rep mg (upd H a (.frz od u)) B d v as
  | .non, _, _, _, h => h
  | .bl _, _, _, _, h => h
  | .int _, _, _, _, h => h
  | .str _, _, _, _, h => h
  | .node t xs, v, as, n, h => by
    rw [Rep] at h ⊢
    obtain ⟨b, vs, bs, ev, hh, hr, q⟩ := h
    have hsub : ∀ c, c ∈ bs → c ∈ as := fun c hc => by
      rcases q with ⟨_, q⟩ | ⟨_, _, q⟩
      · rw [q]; exact List.mem_cons_of_mem _ hc
      · rw [q]; exact hc
    refine ⟨b, vs, bs, ev, hh.lock hd e fun ho z => ?_, Reps.lock hd e (fun z => n (hsub a z)) hr, q⟩
    rcases q with ⟨_, q⟩ | ⟨q, _⟩
    · exact n (by rw [q, z]; exact List.mem_cons_self)
    · rw [ho] at q; cases q
theorem Reps.lock {u : HO} {od : Obj} (hd : IsDo u) (e : H a = some u) {B : Addr → Prop} : ∀ {xs : List D} {vs : List V} {as : List Addr}, a ∉ as → Reps mg H B xs vs as → Reps mg (upd H a (.frz od u)) B xs vs as
  | [], _, _, _, h => by rw [Reps] at h ⊢; exact h
  | x :: xs, vs, as, n, h => by
    rw [Reps] at h ⊢
    obtain ⟨v, ws, a1, a2, e1, e2, h1, h2⟩ := h
    exact ⟨v, ws, a1, a2, e1, e2, Rep.lock hd e (fun z => n (by rw [e2]; exact List.mem_append_left _ z)) h1, Reps.lock hd e (fun z => n (by rw [e2]; exact List.mem_append_right _ z)) h2⟩
end
mutual
theorem Rep.unlock {u : HO} {od : Obj} (hd : IsDo u) (e : H a = some (.frz od u)) {B : Addr → Prop} : ∀ {d : D} {v : V} {as : List Addr}, Rep mg H B d v as → Rep mg (upd H a u) B d v as
  | .non, _, _, h => h
  | .bl _, _, _, h => h
  | .int _, _, _, h => h
  | .str _, _, _, h => h
  | .node t xs, v, as, h => by
    rw [Rep] at h ⊢
    obtain ⟨b, vs, bs, ev, hh, hr, q⟩ := h
    exact ⟨b, vs, bs, ev, hh.unlock hd e, Reps.unlock hd e hr, q⟩
theorem Reps.unlock {u : HO} {od : Obj} (hd : IsDo u) (e : H a = some (.frz od u)) {B : Addr → Prop} : ∀ {xs : List D} {vs : List V} {as : List Addr}, Reps mg H B xs vs as → Reps mg (upd H a u) B xs vs as
  | [], _, _, h => by rw [Reps] at h ⊢; exact h
  | x :: xs, vs, as, h => by
    rw [Reps] at h ⊢
    obtain ⟨v, ws, a1, a2, e1, e2, h1, h2⟩ := h
    exact ⟨v, ws, a1, a2, e1, e2, Rep.unlock hd e h1, Reps.unlock hd e h2⟩
end
end
section
variable {X : Cx} {F : Fr} {W : WX} {ω ω' : Own} {ρ ρ' : En} {σ σ' : St} {H H' : Hp} {a : Addr} {u : HO} {od : Obj}
open Classical in
/-- the frame with the dict at a locked -/
noncomputable def Fr.lock (F : Fr) (a : Addr) (w : HO) : Fr := ⟨if F.H0 a = none then F.H0 else upd F.H0 a w, F.B0, F.M0, F.P0⟩
theorem Fr.lock_ne {w : HO} {b : Addr} (h : b ≠ a) : (F.lock a w).H0 b = F.H0 b := by
  unfold Fr.lock
  by_cases z : F.H0 a = none
  · simp only [if_pos z]
  · simp only [if_neg z]; rw [upd_ne h]
theorem Fr.lock_none {w : HO} {b : Addr} : (F.lock a w).H0 b = none ↔ F.H0 b = none := by
  by_cases h : b = a
  · subst h
    unfold Fr.lock
    by_cases z : F.H0 b = none
    · simp only [if_pos z]
    · simp only [if_neg z]; rw [upd_same]; constructor
      · intro q; cases q
      · intro q; exact absurd q z
  · rw [Fr.lock_ne h]
theorem Fr.lock_some {w o : HO} (h : (F.lock a w).H0 a = some o) : o = w ∧ F.H0 a ≠ none := by
  unfold Fr.lock at h
  by_cases z : F.H0 a = none
  · simp only [if_pos z] at h; rw [z] at h; cases h
  · simp only [if_neg z] at h; rw [upd_same] at h; exact ⟨(Option.some.inj h).symm, z⟩
theorem IsDo.pl (h : IsDo u) : Pl u := by
  rcases h with ⟨_, rfl⟩ | ⟨_, rfl⟩ <;> exact ⟨fun _ z => (by cases z), fun _ z => (by cases z)⟩
theorem Fr.lock_tt : TbK (F.lock a (.frz od u)).H0 F.H0 := by
  have ne : ∀ {b : Addr} {o : HO}, (F.lock a (.frz od u)).H0 b = some o → (∀ x y, o ≠ .frz x y) → F.H0 b = some o := fun {b o} h n => by
    by_cases hb : b = a
    · subst hb; exact absurd (Fr.lock_some h).1 (n _ _)
    · rw [Fr.lock_ne hb] at h; exact h
  refine ⟨fun b ps h => ⟨ps, ne h fun _ _ z => by cases z⟩, fun P ⟨ps, h1, h2, h3⟩ => ⟨ps, ne h1 fun _ _ z => (by cases z), h2, fun pos cv hc => ?_⟩⟩
  obtain ⟨c, e1, e2⟩ := h3 pos cv hc
  exact ⟨c, e1, ne e2 fun _ _ z => by unfold CodeR at z; cases z⟩
theorem Fr.lock_tt' (hp : ∀ o, F.H0 a = some o → Pl o) : TbK F.H0 (F.lock a (.frz od u)).H0 := by
  have ne : ∀ {b : Addr} {o : HO}, F.H0 b = some o → ¬ Pl o → (F.lock a (.frz od u)).H0 b = some o := fun {b o} h n => by
    by_cases hb : b = a
    · subst hb; exact absurd (hp o h) n
    · rw [Fr.lock_ne hb]; exact h
  refine ⟨fun b ps h => ⟨ps, ne h fun z => z.1 ps rfl⟩, fun P ⟨ps, h1, h2, h3⟩ => ⟨ps, ne h1 fun z => z.1 ps rfl, h2, fun pos cv hc => ?_⟩⟩
  obtain ⟨c, e1, e2⟩ := h3 pos cv hc
  exact ⟨c, e1, ne e2 fun z => z.2 _ rfl⟩
theorem BI.lock (b : BI X F ω ρ σ H) (hd : IsDo u) (e : H a = some u) (hw : ω a = none) : BI X (F.lock a (.frz od u)) ω ρ σ (upd H a (.frz od u)) where
  lr := b.lr
  ls := b.ls
  same := fun c o h m n => by
    by_cases hc : c = a
    · subst hc; rw [upd_same, (Fr.lock_some h).1]
    · rw [upd_ne hc]; rw [Fr.lock_ne hc] at h; exact b.same c o h m n
  ts := (Fr.lock_tt.trans b.ts).trans (tbk_upd e hd.pl)
  tab := fun P h => (tbk_upd e hd.pl).tt P (b.tab P h)
  m0 := fun c hc o h => by
    by_cases hca : c = a
    · subst hca; rw [(Fr.lock_some h).1]; exact Pl.frz
    · rw [Fr.lock_ne hca] at h; exact b.m0 c hc o h
  pl := fun c i h hi o ho => by
    have hc : c ≠ a := by rintro rfl; rw [hw] at h; cases h
    rw [upd_ne hc] at ho; exact b.pl c i h hi o ho
  there := fun c h => by
    by_cases hc : c = a
    · subst hc; rw [upd_same]; intro z; cases z
    · rw [upd_ne hc]; rw [Fr.lock_ne hc] at h; exact b.there c h
  out := b.out
  fre := fun c i h => (b.fre c i h).imp id fun z => z.imp (fun z => Fr.lock_none.mpr z) id
  dom := fun c i h => by
    have hc : c ≠ a := by rintro rfl; rw [hw] at h; cases h
    rw [upd_ne hc]; exact b.dom c i h
  env := fun i d h => by
    obtain ⟨v, as, h1, h2, h3, h4⟩ := b.env i d h
    refine ⟨v, as, h1, h2.lock hd e fun z => ?_, h3, h4⟩
    have := h4 a z
    rw [hw] at this; cases this
  pin := b.pin
theorem BI.unlock (b' : BI X (F.lock a (.frz od u)) ω' ρ' σ' H') (hd : IsDo u) (e : H' a = some (.frz od u)) (hF : ∀ o, F.H0 a = some o → ¬ F.M0 a → o = u) (hP : ∀ o, F.H0 a = some o → Pl o) : BI X F ω' ρ' σ' (upd H' a u) where
  lr := b'.lr
  ls := b'.ls
  same := fun c o h m n => by
    by_cases hc : c = a
    · subst hc; rw [upd_same, hF o h m]
    · rw [upd_ne hc]; exact b'.same c o (by rw [Fr.lock_ne hc]; exact h) m n
  ts := ((Fr.lock_tt' hP).trans b'.ts).trans (tbk_upd e Pl.frz)
  tab := fun P h => (tbk_upd e Pl.frz).tt P (b'.tab P h)
  m0 := fun c hc o h => by
    by_cases hca : c = a
    · subst hca; exact hP o h
    · exact b'.m0 c hc o (by rw [Fr.lock_ne hca]; exact h)
  pl := fun c i h hi o ho => by
    by_cases hc : c = a
    · subst hc; rw [upd_same] at ho; cases ho; exact hd.pl
    · rw [upd_ne hc] at ho; exact b'.pl c i h hi o ho
  there := fun c h => by
    by_cases hc : c = a
    · subst hc; rw [upd_same]; intro z; cases z
    · rw [upd_ne hc]; exact b'.there c (by rw [Fr.lock_ne hc]; exact h)
  out := b'.out
  fre := fun c i h => (b'.fre c i h).imp id fun z => z.imp (fun z => Fr.lock_none.mp z) id
  dom := fun c i h => by
    by_cases hc : c = a
    · subst hc; rw [upd_same]; exact ⟨_, rfl, hd.nt⟩
    · rw [upd_ne hc]; exact b'.dom c i h
  env := fun i d h => by
    obtain ⟨v, as, h1, h2, h3, h4⟩ := b'.env i d h
    exact ⟨v, as, h1, h2.unlock hd e, h3, h4⟩
  pin := b'.pin
theorem Step.unlock (s : Step X ω (upd H a (.frz od u)) ω' H') (e : H a = some u) (hd : IsDo u) (e' : H' a = some (.frz od u)) : Step X ω H ω' (upd H' a u) where
  ts := ((tbk_upd e hd.pl).trans s.ts).trans (tbk_upd e' Pl.frz)
  kp := fun c o h w n => by
    by_cases hc : c = a
    · subst hc; rw [upd_same, ← h, e]
    · rw [upd_ne hc]; exact s.kp c o (by rw [upd_ne hc]; exact h) w n
  nn := fun c h w => s.nn c (by
    by_cases hc : c = a
    · subst hc; rw [upd_same]; intro z; cases z
    · rw [upd_ne hc]; exact h) w
  nN := s.nN
  there := fun c h => by
    by_cases hc : c = a
    · subst hc; rw [upd_same]; intro z; cases z
    · rw [upd_ne hc]; exact s.there c (by rw [upd_ne hc]; exact h)
/-- out of a loop no exception goes -/
def noEx : Out → Out
  | .ex _ _ => .no
  | o => o
theorem PostS.noEx {r : Out} {Dn : Ends} (h : PostS X F W ω H (noEx r) Dn) : PostS X F W ω H r Dn := by
  cases r with
  | ex _ _ => exact h.elim
  | _ => exact h
theorem PostS.lock {r : Out} {Dn : Ends} (b : BI X F ω ρ σ H) (hd : IsDo u) (e : H a = some u) (hw : ω a = none) (h : PostS X F W ω H (Ev.noEx r) Dn) :
    PostS X (F.lock a (.frz od u)) W ω (upd H a (.frz od u)) r ⟨fun σ' H' => H' a = some (.frz od u) ∧ Dn.nx σ' (upd H' a u), fun v H' => H' a = some (.frz od u) ∧ Dn.rt v (upd H' a u), fun σ' H' => H' a = some (.frz od u) ∧ Dn.bk σ' (upd H' a u), fun σ' H' => H' a = some (.frz od u) ∧ Dn.ct σ' (upd H' a u)⟩ := by
  have hF : ∀ o, F.H0 a = some o → ¬ F.M0 a → o = u := fun o h m => by
    by_cases n : NTb o
    · have := b.same a o h m n; rw [e] at this; exact (Option.some.inj this).symm
    · unfold NTb at n
      obtain ⟨ps, e2⟩ := Classical.not_forall.mp n
      have e3 := Classical.not_not.mp e2
      subst e3
      obtain ⟨ps', h'⟩ := b.ts.tb a ps h
      rw [e] at h'
      cases h'
      exact absurd rfl (hd.pl.1 ps')
  have hP : ∀ o, F.H0 a = some o → Pl o := fun o h => by
    by_cases m : F.M0 a
    · exact b.m0 a m o h
    · rw [hF o h m]; exact hd.pl
  have key : ∀ {ω' H'}, Step X ω (upd H a (.frz od u)) ω' H' → H' a = some (.frz od u) := fun s => s.kp a _ upd_same (.inl hw)
  cases r with
  | nx ρ => exact fun ω' σ' H' b' s => ⟨key s, h ω' σ' _ (b'.unlock hd (key s) hF hP) (s.unlock e hd (key s))⟩
  | bk ρ => exact fun ω' σ' H' b' s => ⟨key s, h ω' σ' _ (b'.unlock hd (key s) hF hP) (s.unlock e hd (key s))⟩
  | ct ρ => exact fun ω' σ' H' b' s => ⟨key s, h ω' σ' _ (b'.unlock hd (key s) hF hP) (s.unlock e hd (key s))⟩
  | rt d ρ => exact fun v as ω' σ' H' b' s r n f => ⟨key s, h v as ω' σ' _ (BI.unlock (F := F.np) b' hd (key s) hF hP) (s.unlock e hd (key s)) (r.unlock hd (key s)) n fun c hc => ⟨(f c hc).1, Fr.lock_none.mp (f c hc).2⟩⟩
  | ex x ρ => exact h.elim
  | no => exact h.elim
end
section
variable {X : Cx} {F : Fr} {W : WX} {st : Stmt} {sts : List Stmt} {m : En → Out} {e a b c tg : Expr} {fv fa fb fc : List Nat} {me ma mb mc : En → Res D} {pos pos' p : Pos} {i : Nat} {x : Str} {t : Tg}
theorem PS.or {t1 t2 : TS} (h1 : PS X st t1) (h2 : PS X st t2) : PS X st (fun D σ H => t1 D σ H ∨ t2 D σ H) := ⟨fun pins s σ H D I q => q.elim (h1.run pins s σ H D I) (h2.run pins s σ H D I)⟩
theorem gNames_mono : ∀ {ts : List Nat} {vs : List V} {σ : St} {H : Hp} {Q Q' : St → Hp → Prop}, gNames ts vs σ H Q → (∀ σ H, Q σ H → Q' σ H) → gNames ts vs σ H Q'
  | [], _, _, _, _, _, ⟨e, q⟩, k => ⟨e, k _ _ q⟩
  | _ :: _, _, _, _, _, _, ⟨v, r, e, q⟩, k => ⟨v, r, e, gNames_mono q k⟩
theorem tg_mono {K : PySem.W.Frag} {t : Tg} {v : V} {σ : St} {H : Hp} {Q Q' : St → Hp → Prop} (h : t.tg K v σ H Q) (k : ∀ σ H, Q σ H → Q' σ H) : t.tg K v σ H Q' := by
  cases t with
  | nm i => exact k _ _ h
  | tp ts => obtain ⟨a, xs, e, s, l, q⟩ := h; exact ⟨a, xs, e, s, l, gNames_mono q k⟩
  | tl ts => obtain ⟨a, xs, e, s, l, q⟩ := h; exact ⟨a, xs, e, s, l, gNames_mono q k⟩
/-- the keys of a dict walked, where it is locked -/
theorem itkt_ok {B : Addr → Prop} {d : Addr} {o : Obj} {ks : List (List Key)} {vs : List V} {H : Hp} (h : H d = some (.frz o (.dT (ks.zip vs)))) (nb : ¬ B d) (hl : vs.length = ks.length) (hz : vs.length ≤ sizeLine) : ItOk X.mg B H (Itkt d o (ks.zip vs)) ((ks.map Sum.inr).map kyD) where
  go := fun H1 k i e ed => by
    rw [List.map_map, List.getElem?_map] at ed
    obtain ⟨q, hq, rfl⟩ := Option.map_eq_some_iff.mp ed
    have hi := (List.getElem?_eq_some_iff.mp hq).1
    have hzip : (ks.zip vs).length = ks.length := by rw [List.length_zip]; omega
    refine ⟨⟨k d _ h nb, by rw [hzip]; exact hi⟩, fun y H2 hy => ?_⟩
    obtain ⟨e2, k', v, b, h1, h2, h3⟩ := hy
    subst e2 h2
    refine ⟨Same.refl _, fun B1 hb bd => ?_⟩
    have : k' = q := by
      have := (List.getElem?_zip_eq_some.mp h1).1
      rw [hq] at this; exact (Option.some.inj this).symm
    subst this
    show Rep X.mg H2 B1 (D.tup (k'.map kyS)).frz (.ref b) []
    have hp : (D.tup (k'.map kyS)).pure = true := by
      show pures (k'.map kyS) = true
      rw [pures_all, List.all_map, List.all_eq_true]
      intro z _; cases z <;> rfl
    rw [D.pure_frz _ hp, Rep]
    exact ⟨b, _, [], rfl, h3, reps_kyS k', .inr ⟨rfl, fun z => by obtain ⟨o', z1, z2⟩ := bd b z; rw [h3] at z1; exact z2 _ (Option.some.inj z1).symm, rfl⟩⟩
  stop := fun H1 k => ⟨k d _ h nb, by rw [List.length_map, List.length_map, List.length_zip]; omega⟩
  len := by rw [List.length_map, List.length_map]; omega
theorem itk_ok {B : Addr → Prop} {d : Addr} {o : Obj} {ks : List Key} {vs : List V} {H : Hp} (h : H d = some (.frz o (.dK (ks.zip vs)))) (nb : ¬ B d) (hl : vs.length = ks.length) (hz : vs.length ≤ sizeLine) : ItOk X.mg B H (Itk d o (ks.zip vs)) ((ks.map Sum.inl).map kyD) where
  go := fun H1 k i e ed => by
    rw [List.map_map, List.getElem?_map] at ed
    obtain ⟨q, hq, rfl⟩ := Option.map_eq_some_iff.mp ed
    have hi := (List.getElem?_eq_some_iff.mp hq).1
    have hzip : (ks.zip vs).length = ks.length := by rw [List.length_zip]; omega
    refine ⟨⟨k d _ h nb, by rw [hzip]; exact hi⟩, fun y H2 hy => ?_⟩
    obtain ⟨e2, k', v, h1, h2⟩ := hy
    subst e2 h2
    refine ⟨Same.refl _, fun B1 hb bd => ?_⟩
    have : k' = q := by
      have := (List.getElem?_zip_eq_some.mp h1).1
      rw [hq] at this; exact (Option.some.inj this).symm
    subst this
    show Rep X.mg H2 B1 (kyS k').frz (kV k') []
    have : (kyS k').frz = kyS k' := by cases k' <;> rfl
    rw [this]
    exact rep_kyS k'
  stop := fun H1 k => ⟨k d _ h nb, by rw [List.length_map, List.length_map, List.length_zip]; omega⟩
  len := by rw [List.length_map, List.length_map]; omega
/-- for x in d, d a name -/
def mforK (i : Nat) (t : Tg) (body : En → Out) : En → Out := fun ρ => match ρ[i]? with
  | some (some (.node (.dct o tt ks) xs)) => noEx (forF t body (frzs (ks.map kyD)) (frzAt [i] ρ))
  | _ => .no
theorem ds_forK (hp' : PassesOwn (model X.prog X.w) X.A X.env X.xe) (hc : X.calm = true) (hg : PG X tg (t.tg X.K)) (hb : ∀ F, DSs X F W sts m) (hN : X.N[i]? = some x := by rfl) (hv : Vis X.env.scope x := by first | exact Or.inl rfl | exact Or.inr (Or.inl rfl) | exact Or.inr (Or.inr rfl)) (hd : (x == ("__debug__" : Str)) = false := by decide)
    (hcd : (x == ("__classdict__" : Str)) = false := by decide) (ht : (t.slots.all fun q => decide (q < X.N.length)) = true := by rfl) (hs : ∀ y, foldedSetIterable (.Name x p) X.env y = pure y := by intro _; rfl) :
    DS X F W (.For tg (.Name x p) sts [] pos) (mforK i t m) := by
  have hbe : PSs X sts (fun D σ H => ∃ F, TSv X F W m D σ H) := ⟨fun pins s σ H D I ⟨F, q⟩ => (hb F).run pins s σ H D I q⟩
  have hf := ps_for (pos := pos) hp' hc (pi_keys (tg := tg) (pe_var (X := X) (pos := p) hN hv hd hcd)) hg hbe hs
  refine PS.mk (PS.or (ps_lock hf) hf) fun D σ H bn ⟨ω, ρ, b, hp⟩ => ?_
  unfold mforK at hp
  split at hp
  · rename_i o tt ks xs ed
    have b1 := b.freeze [i]
    have hp1 := hp.step (H' := H) (ω' := frzO X [i] ω) Step.freeze
    have ed1 : (frzAt [i] ρ)[i]? = some (some (.node (.dct false tt ks) (frzs xs))) := by
      rw [frzAt_get, if_pos (by simp), ed]; rfl
    obtain ⟨v, as, h1, h2, h3, h4⟩ := b1.env i _ ed1
    have hσ := h1
    rw [Rep] at h2
    obtain ⟨d, vs, bs, rfl, ⟨hl, u, du, hu⟩, hr, q⟩ := h2
    have nb : ¬ (fun a => frzO X [i] ω a ≠ none) d := by
      rcases q with ⟨z, _⟩ | ⟨_, z, _⟩
      · cases z
      · exact z
    have nb' : frzO X [i] ω d = none := Classical.not_not.mp nb
    have isd := dobj_is du
    have run : ∀ {F2 : Fr} {H2 : Hp} {D2 : Ends} {od : Obj}, H2 d = some (.frz od u) → BI X F2 (frzO X [i] ω) (frzAt [i] ρ) σ H2 → PostS X F2 W (frzO X [i] ω) H2 (forF t m (frzs (ks.map kyD)) (frzAt [i] ρ)) D2 → vs.length ≤ sizeLine →
        tFor (iKeys (tVar i)) (t.tg X.K) (fun D σ H => ∃ F, TSv X F W m D σ H) D2 σ H2 := by
      intro F2 H2 D2 od e2 b2 hp2 hz
      have wrap : ∀ {J : It}, ItOk X.mg (fun a => frzO X [i] ω a ≠ none) H2 J (ks.map kyD) → ∃ Wd : Nat → Nat → St → Hp → Prop, (∃ n, Wd 0 n σ H2) ∧ ∀ i n σ H, Wd i n σ H → (J.stop i H ∧ D2.nx σ H) ∨ (J.go i H ∧ ∃ N : St → Hp → Prop, (∀ σ' H', N σ' H' → ∃ n', n' < n ∧ Wd (i + 1) n' σ' H') ∧
      ∀ x H', J.yld i H x H' → t.tg X.K x σ H' fun σ2 H2 => ∃ F, TSv X F W m { D2 with nx := N, ct := N, bk := D2.nx } σ2 H2) := by
        intro J ok
        obtain ⟨Wd, w0, w1⟩ := for_read b2 ok ht hp2
        refine ⟨Wd, w0, fun i n σ H w => (w1 i n σ H w).imp id fun ⟨g, N, n1, n2⟩ => ⟨g, N, n1, fun x H' y => ?_⟩⟩
        have := n2 x H' y
        exact tg_mono this fun _ _ q => ⟨_, q⟩
      cases tt with
      | true =>
        obtain ⟨k', rfl, rfl⟩ := du
        have hl' : vs.length = k'.length := by rw [hl, List.length_map]
        exact ⟨.ref d, hσ, d, od, rfl, .inr ⟨_, e2, wrap (itkt_ok e2 nb hl' hz)⟩⟩
      | false =>
        obtain ⟨k', rfl, rfl⟩ := du
        have hl' : vs.length = k'.length := by rw [hl, List.length_map]
        exact ⟨.ref d, hσ, d, od, rfl, .inl ⟨_, e2, wrap (itk_ok e2 nb hl' hz)⟩⟩
    have hz : vs.length ≤ sizeLine := by
      cases tt with
      | true =>
        obtain ⟨k', rfl, rfl⟩ := du
        have hl' : vs.length = k'.length := by rw [hl, List.length_map]
        have := (bn.2.2.2 d _ hu).1
        rw [List.length_zip] at this; omega
      | false =>
        obtain ⟨k', rfl, rfl⟩ := du
        have hl' : vs.length = k'.length := by rw [hl, List.length_map]
        have := (bn.2.2.1 d _ hu).1
        rw [List.length_zip] at this; omega
    rcases hu with hu | ⟨od, hu⟩
    · left
      refine ⟨d, u, hu, isd.mut, fun od => ?_⟩
      exact run upd_same (b1.lock isd hu nb') (PostS.lock b1 isd hu nb' hp1) hz
    · right
      exact run hu b1 hp1.noEx hz
  · exact hp.elim
end
/-! ### a list walked that its name goes on to own -/
section
variable {X : Cx} {F : Fr} {W : WX} {ω ω' : Own} {ρ ρ' : En} {σ σ' : St} {H H' : Hp} {a : Addr} {i : Nat} {xs : List D} {vs : List V}
def Fr.hold (F : Fr) (i : Nat) (v : V) : Fr := ⟨F.H0, F.B0, F.M0, fun j => if j = i then some v else F.P0 j⟩
def holdO (ω : Own) (a : Addr) (n : Nat) : Own := fun c => if c = a then some n else ω c
theorem holdO_ne {n : Nat} {c : Addr} (h : c ≠ a) : holdO ω a n c = ω c := by unfold holdO; rw [if_neg h]
theorem holdO_same {n : Nat} : holdO ω a n a = some n := by unfold holdO; rw [if_pos rfl]
theorem holdO_none {n : Nat} {c : Addr} (h : ω c = none) (ha : ω a ≠ none) : holdO ω a n c = none := by
  rw [holdO_ne]; · exact h
  rintro rfl; exact ha h
theorem BI.hold (b : BI X F ω ρ σ H) (hi : i < X.N.length) (ha : ω a = some i) (hH : H a = some (.lst vs)) (hσ : σ[i]? = some (some (.ref a))) : BI X (F.hold i (.ref a)) (holdO ω a X.N.length) (ρ.set i none) σ H where
  lr := by rw [List.length_set]; exact b.lr
  ls := b.ls
  same := b.same
  ts := b.ts
  tab := b.tab
  m0 := b.m0
  pl := fun c j h hj o ho => by
    by_cases hc : c = a
    · subst hc; rw [hH] at ho; cases ho; exact Pl.lst
    · rw [holdO_ne hc] at h; exact b.pl c j h hj o ho
  there := b.there
  out := fun c h => by
    by_cases hc : c = a
    · subst hc; exact holdO_same
    · rw [holdO_ne hc]; exact b.out c h
  fre := fun c j h => by
    by_cases hc : c = a
    · subst hc; rw [holdO_same] at h; exact .inl (Option.some.inj h).symm
    · rw [holdO_ne hc] at h; exact b.fre c j h
  dom := fun c j h => by
    by_cases hc : c = a
    · subst hc; exact ⟨_, hH, fun _ z => HO.noConfusion z⟩
    · rw [holdO_ne hc] at h; exact b.dom c j h
  env := fun j d e => by
    by_cases hj : j = i
    · subst hj
      rw [List.getElem?_set_self (by rw [b.lr]; exact hi)] at e; cases e
    · rw [List.getElem?_set_ne (Ne.symm hj)] at e
      obtain ⟨v, as, h1, h2, h3, h4⟩ := b.env j d e
      refine ⟨v, as, h1, h2.step (fun _ _ z _ => z) (fun c _ h z => z (holdO_none (Classical.not_not.mp h) (by rw [ha]; intro q; cases q))), h3, fun c hc => ?_⟩
      rw [holdO_ne]
      · exact h4 c hc
      · rintro rfl; rw [h4 _ hc] at ha; cases ha; exact hj rfl
  pin := fun j v h e => by
    by_cases hj : j = i
    · subst hj
      have h' : (if j = j then some (V.ref a) else F.P0 j) = some v := h
      rw [if_pos rfl] at h'; cases h'; exact hσ
    · rw [List.getElem?_set_ne (Ne.symm hj)] at e
      have h' : (if j = i then some (V.ref a) else F.P0 j) = some v := h
      rw [if_neg hj] at h'
      exact b.pin j v h' e
theorem BI.unhold (b' : BI X (F.hold i (.ref a)) ω' ρ' σ' H') (hi : i < X.N.length) (hw : ω' a = some X.N.length) (hH : H' a = some (.lst vs)) (e : ρ'[i]? = some none) (nB : ¬ F.B0 a) (hf : F.H0 a = none ∨ F.M0 a) (hr : Reps X.mg H' (fun c => ω' c ≠ none) xs vs []) :
    BI X F (holdO ω' a i) (ρ'.set i (some (.node (.lst true) xs))) σ' H' where
  lr := by rw [List.length_set]; exact b'.lr
  ls := b'.ls
  same := b'.same
  ts := b'.ts
  tab := b'.tab
  m0 := b'.m0
  pl := fun c j h hj o ho => by
    by_cases hc : c = a
    · subst hc; rw [hH] at ho; cases ho; exact Pl.lst
    · rw [holdO_ne hc] at h; exact b'.pl c j h hj o ho
  there := b'.there
  out := fun c h => by
    have hc : c ≠ a := by rintro rfl; exact nB h
    rw [holdO_ne hc]; exact b'.out c h
  fre := fun c j h => by
    by_cases hc : c = a
    · subst hc; rw [holdO_same] at h; cases h; exact .inr hf
    · rw [holdO_ne hc] at h; exact b'.fre c j h
  dom := fun c j h => by
    by_cases hc : c = a
    · subst hc; exact ⟨_, hH, fun _ z => HO.noConfusion z⟩
    · rw [holdO_ne hc] at h; exact b'.dom c j h
  env := fun j d ed => by
    have nn : ∀ c, H' c ≠ none → ¬ ω' c ≠ none → ¬ holdO ω' a i c ≠ none := fun c _ h z => z (holdO_none (Classical.not_not.mp h) (by rw [hw]; intro q; cases q))
    by_cases hj : j = i
    · subst hj
      rw [List.getElem?_set_self (by rw [b'.lr]; exact hi)] at ed; cases ed
      refine ⟨.ref a, [a], b'.pin j (.ref a) (if_pos rfl) e, ?_, by simp, fun c hc => ?_⟩
      · rw [Rep]; exact ⟨a, vs, [], rfl, hH, hr.step (fun _ _ z _ => z) nn, .inl ⟨rfl, rfl⟩⟩
      · rw [List.mem_singleton.mp hc]; exact holdO_same
    · rw [List.getElem?_set_ne (Ne.symm hj)] at ed
      obtain ⟨v, as, h1, h2, h3, h4⟩ := b'.env j d ed
      refine ⟨v, as, h1, h2.step (fun _ _ z _ => z) nn, h3, fun c hc => ?_⟩
      rw [holdO_ne]
      · exact h4 c hc
      · rintro rfl
        rw [h4 _ hc] at hw; cases hw
        have := (List.getElem?_eq_some_iff.mp ed).1
        have := b'.lr
        omega
  pin := fun j v h ed => by
    by_cases hj : j = i
    · subst hj
      rw [List.getElem?_set_self (by rw [b'.lr]; exact hi)] at ed; cases ed
    · rw [List.getElem?_set_ne (Ne.symm hj)] at ed
      exact b'.pin j v (by show (if j = i then some (V.ref a) else F.P0 j) = some v; rw [if_neg hj]; exact h) ed
theorem Step.hold (s : Step X (holdO ω a X.N.length) H ω' H') (ha : ω a = some i) (hi : i < X.N.length) : Step X ω H (holdO ω' a i) H' ∧ Step X ω H ω' H' := by
  have k : ∀ c, ω c = none ∨ ω c = some X.N.length → c ≠ a := by
    rintro c h rfl
    rcases h with h | h <;> rw [ha] at h <;> cases h
    omega
  refine ⟨⟨fun c o e h n => s.kp c o e (by rw [holdO_ne (k c h)]; exact h) n, s.ts, fun c h1 h2 => ?_, fun c h => ?_, s.there⟩, ⟨fun c o e h n => s.kp c o e (by rw [holdO_ne (k c h)]; exact h) n, s.ts, fun c h1 h2 => ?_, fun c h => ?_, s.there⟩⟩
  · rw [holdO_ne (k c (.inl h2))]; exact s.nn c h1 (by rw [holdO_ne (k c (.inl h2))]; exact h2)
  · rw [holdO_ne (k c (.inr h))]; exact s.nN c (by rw [holdO_ne (k c (.inr h))]; exact h)
  · exact s.nn c h1 (by rw [holdO_ne (k c (.inl h2))]; exact h2)
  · exact s.nN c (by rw [holdO_ne (k c (.inr h))]; exact h)
/-- what comes of a loop over the held list of the slot i -/
def holdR (i : Nat) (xs : List D) : Out → Out
  | .nx ρ' => (match ρ'[i]? with
    | some none => .nx (ρ'.set i (some (.node (.lst true) xs)))
    | _ => .no)
  | .rt d ρ' => .rt d ρ'
  | _ => .no
theorem PostS.hold {r : Out} {Dn : Ends} (b : BI X F ω ρ σ H) (hi : i < X.N.length) (ha : ω a = some i) (hH : H a = some (.lst vs)) (hr : Reps X.mg H (fun c => ω c ≠ none) xs vs []) (h : PostS X F W ω H (holdR i xs r) Dn) : PostS X (F.hold i (.ref a)) W (holdO ω a X.N.length) H r Dn := by
  have nB : ¬ F.B0 a := fun z => by have := b.out a z; rw [ha] at this; cases this; omega
  have hf : F.H0 a = none ∨ F.M0 a := (b.fre a i ha).resolve_left (by omega)
  cases r with
  | nx ρ' =>
    intro ω' σ' H' b' s
    have h' : PostS X F W ω H (match ρ'[i]? with
    | some none => .nx (ρ'.set i (some (.node (.lst true) xs)))
    | _ => .no) Dn := h
    split at h'
    · rename_i e
      have w' := s.nN a holdO_same
      have H'' := s.kp a _ hH (.inr holdO_same)
      refine h' _ σ' H' (b'.unhold hi w' H'' e nB hf (hr.stepN (fun c o e n h => ?_) fun c h1 h2 h3 => ?_)) (s.hold ha hi).1
      · rcases h with h | h
        · cases h
        · have hc : ω c = none := Classical.not_not.mp h
          exact s.kp c o e (.inl (holdO_none hc (by rw [ha]; intro q; cases q)))
      · have hc : ω c = none := Classical.not_not.mp h2
        exact h3 (s.nn c h1 (holdO_none hc (by rw [ha]; intro q; cases q)))
    · exact h'.elim
  | rt d ρ' => exact fun v as ω' σ' H' b' s r n f => h v as ω' σ' H' b' (s.hold ha hi).2 r n f
  | bk _ => exact h.elim
  | ct _ => exact h.elim
  | ex _ _ => exact h.elim
  | no => exact h.elim
variable {m : En → Out} {t : Tg} {tg : Expr} {sts : List Stmt} {pos p : Pos} {x : Str}
theorem for_readH {Dn : Ends} (b : BI X F ω ρ σ H) (hH : H a = some (.lst vs)) (hw : ω a = some X.N.length) (hr : Reps X.mg H (fun c => ω c ≠ none) xs vs []) (hx : pures xs = true) (ht : (t.slots.all fun q => decide (q < X.N.length)) = true) (hp : PostS X F W ω H (forF t m xs ρ) Dn) :
    ∃ Wd : Nat → Nat → St → Hp → Prop, (∃ n, Wd 0 n σ H) ∧ ∀ i n σ H, Wd i n σ H → ((Itl X.K a).stop i H ∧ Dn.nx σ H) ∨ ((Itl X.K a).go i H ∧ ∃ N : St → Hp → Prop, (∀ σ' H', N σ' H' → ∃ n', n' < n ∧ Wd (i + 1) n' σ' H') ∧
      ∀ x H', (Itl X.K a).yld i H x H' → t.tg X.K x σ H' fun σ2 H2 => TSv X F W m { Dn with nx := N, ct := N, bk := Dn.nx } σ2 H2) := by
  refine ⟨fun i n σ' H' => n = xs.length - i ∧ i ≤ xs.length ∧ ∃ ω' ρ', BI X F ω' ρ' σ' H' ∧ Step X ω H ω' H' ∧ PostS X F W ω' H' (forF t m (xs.drop i) ρ') Dn, ⟨xs.length, by simp, Nat.zero_le _, ω, ρ, b, Step.refl, hp⟩, ?_⟩
  rintro i n σ' H' ⟨rfl, hi, ω', ρ', b', st', hp'⟩
  have hl' : H' a = some (.lst vs) := st'.kp a _ hH (.inr hw)
  have sq : SqL X.K H' a vs := .inl (.inl hl')
  have hr' : Reps X.mg H' (fun c => ω' c ≠ none) xs vs [] := hr.stepN (fun c o e n h => by
    rcases h with h | h
    · cases h
    · exact st'.kp c o e (.inl (Classical.not_not.mp h))) fun c h1 h2 h3 => h3 (st'.nn c h1 (Classical.not_not.mp h2))
  by_cases hlt : i < xs.length
  · right
    have ed : xs[i]? = some xs[i] := List.getElem?_eq_getElem hlt
    obtain ⟨v, hv, rv⟩ := hr'.get ed
    refine ⟨⟨vs, v, sq, hv⟩, fun σ2 H2 => ∃ ω2 ρ2, BI X F ω2 ρ2 σ2 H2 ∧ Step X ω H ω2 H2 ∧ PostS X F W ω2 H2 (forF t m (xs.drop (i + 1)) ρ2) Dn, fun σ2 H2 ⟨ω2, ρ2, q1, q2, q3⟩ => ⟨xs.length - (i + 1), by omega, rfl, hlt, ω2, ρ2, q1, q2, q3⟩, fun y H2 hy => ?_⟩
    obtain ⟨e2, hy⟩ := hy
    subst e2
    have : v = y := Option.some.inj (hv.symm.trans (hy vs sq))
    subst this
    rw [List.drop_eq_getElem_cons hlt] at hp'
    unfold forF at hp'
    cases ep : t.parts xs[i] with
    | none => rw [ep] at hp'; exact hp'.elim
    | some ys =>
      rw [ep] at hp'
      refine tg_set ep rv fun ws rws lv lx => ?_
      obtain ⟨ω2, b2, s3⟩ := b'.putAll (fun q hq => of_decide_eq_true (List.all_eq_true.mp ht q hq)) rws lx
      refine ⟨ω2, _, b2, ?_⟩
      have hp2 : PostS X F W ω' H2 (match m (setAll t.slots ys ρ') with | .nx ρ' => forF t m (xs.drop (i + 1)) ρ' | .ct ρ' => forF t m (xs.drop (i + 1)) ρ' | .bk ρ' => .nx ρ' | o => o) Dn := hp'
      cases em : m (setAll t.slots ys ρ') with
      | nx ρ2 => rw [em] at hp2; exact fun ω3 σ3 H3 b3 s4 => ⟨ω3, ρ2, b3, (st'.trans s3).trans s4, PostS.step (r := forF t m (xs.drop (i + 1)) ρ2) hp2 (s3.trans s4)⟩
      | ct ρ2 => rw [em] at hp2; exact fun ω3 σ3 H3 b3 s4 => ⟨ω3, ρ2, b3, (st'.trans s3).trans s4, PostS.step (r := forF t m (xs.drop (i + 1)) ρ2) hp2 (s3.trans s4)⟩
      | bk ρ2 => rw [em] at hp2; exact PostS.step (r := .nx ρ2) hp2 s3
      | rt d2 ρ2 => rw [em] at hp2; exact PostS.step (r := .rt d2 ρ2) hp2 s3
      | ex y2 ρ2 => rw [em] at hp2; exact PostS.step (r := .ex y2 ρ2) hp2 s3
      | no => rw [em] at hp2; exact hp2.elim
  · left
    have ei : i = xs.length := by omega
    subst ei
    rw [List.drop_length] at hp'
    exact ⟨⟨vs, sq, by rw [hr.length]; exact Nat.le_refl _⟩, hp' ω' σ' H' b' Step.refl⟩
/-- for x in d, d a name that owns a list of tuples, numbers, texts -/
def mforH (i : Nat) (t : Tg) (body : En → Out) : En → Out := fun ρ => match ρ[i]? with
  | some (some (.node (.lst true) xs)) => if pures xs = true then holdR i xs (forF t body xs (ρ.set i none)) else .no
  | _ => .no
theorem ds_forH (hp' : PassesOwn (model X.prog X.w) X.A X.env X.xe) (hc : X.calm = true) (hg : PG X tg (t.tg X.K)) (hb : ∀ F, DSs X F W sts m) (hN : X.N[i]? = some x := by rfl) (hv : Vis X.env.scope x := by first | exact Or.inl rfl | exact Or.inr (Or.inl rfl) | exact Or.inr (Or.inr rfl)) (hd : (x == ("__debug__" : Str)) = false := by decide)
    (hcd : (x == ("__classdict__" : Str)) = false := by decide) (ht : (t.slots.all fun q => decide (q < X.N.length)) = true := by rfl) (hs : ∀ y, foldedSetIterable (.Name x p) X.env y = pure y := by intro _; rfl) :
    DS X F W (.For tg (.Name x p) sts [] pos) (mforH i t m) := by
  have hbe : PSs X sts (fun D σ H => ∃ F, TSv X F W m D σ H) := ⟨fun pins s σ H D I ⟨F, q⟩ => (hb F).run pins s σ H D I q⟩
  refine PS.mk (ps_for (pos := pos) hp' hc (pi_list (tg := tg) (pe_var (X := X) (pos := p) hN hv hd hcd)) hg hbe hs) fun D σ H bn ⟨ω, ρ, b, hp⟩ => ?_
  unfold mforH at hp
  split at hp
  · rename_i xs ed
    split at hp
    · rename_i hx
      obtain ⟨a, vs, cs, h1, h2, h3, h4, h5⟩ := b.lst ed
      have hcs := Reps.purev hx h3
      subst hcs
      have ha := h5 a List.mem_cons_self
      have hi := ltN hN
      refine ⟨.ref a, h1, a, rfl, ⟨vs, .inl (.inl h2)⟩, ?_⟩
      obtain ⟨Wd, w0, w1⟩ := for_readH (a := a) (vs := vs) (b.hold hi ha h2 h1) h2 holdO_same (h3.step (fun _ _ z _ => z) fun c _ h z => z (holdO_none (Classical.not_not.mp h) (by rw [ha]; intro q; cases q))) hx ht (PostS.hold b hi ha h2 h3 hp)
      refine ⟨Wd, w0, fun i n σ H w => (w1 i n σ H w).imp id fun ⟨g, N, n1, n2⟩ => ⟨g, N, n1, fun x H' y => ?_⟩⟩
      exact tg_mono (n2 x H' y) fun _ _ q => ⟨_, q⟩
    · exact hp.elim
  · exact hp.elim
end
/-! ### [..] * n, and what is appended to a list that no name holds -/
section
variable {X : Cx} {F : Fr} {W : WX} {e a b c o : Expr} {fv fa fb fc fo : List Nat} {me ma mb mc mo : En → Res D} {pos pos' p apos cpos : Pos}
theorem reps_rep {mg : Str → Option Value} {H : Hp} {B : Addr → Prop} {xs : List D} {vs : List V} (h : Reps mg H B xs vs []) : ∀ n : Nat, Reps mg H B (List.replicate n xs).flatten (List.replicate n vs).flatten []
  | 0 => by simp [List.replicate]; exact Reps.nil
  | n + 1 => by
    rw [List.replicate_succ, List.replicate_succ, List.flatten_cons, List.flatten_cons]
    exact Reps.append (as := []) (bs := []) h (reps_rep h n)
def repD : D → D → Option D
  | .node (.lst true) xs, .int k => if pures xs = true ∧ (-(2 ^ 63) ≤ k ∧ k < 2 ^ 63) ∧ xs.length * k.toNat ≤ sizeLine then some (.node (.lst true) (List.replicate k.toNat xs).flatten) else none
  | _, _ => none
def mrep (ma mb : En → Res D) : En → Res D := fun ρ => (ma ρ).bind fun x => (mb ρ).bind fun y => Res.of (repD x y.frz)
theorem de_rep (ha : DE X W a fa ma) (hb : DE X W b fb mb) : DE X W (.BinOp a .Mult b pos) (fa ++ fb) (mrep ma mb) := by
  refine PE.mk (pe_op op_rep ha hb) fun σ H Q bn ⟨ρ, B, en, bd, hp⟩ => ?_
  refine Tv.bind en.l bd hp fun x _ v H1 as bn1 s1 r1 f1 n1 hp1 => ?_
  refine Tv.bind (en.r.same s1) (bd.same s1) hp1 fun y _ w H2 bs bn2 s2 r2 f2 n2 hp2 => ?_
  cases eg : repD x y.frz with
  | none => rw [eg] at hp2; exact hp2.elim
  | some d =>
    rw [eg] at hp2
    have rw' := r2.view (bd.same s1) f2
    unfold repD at eg
    split at eg
    · rename_i xs k ey ex
      split at eg
      · rename_i hh
        cases eg
        rw [ey] at rw'
        obtain ⟨rfl, _⟩ := rw'
        rw [Rep] at r1
        obtain ⟨l, vs, cs, rfl, hl, hr, _⟩ := r1
        have hc := Reps.purev hh.1 hr
        subst hc
        have hl' : H1 l = some (.lst vs) := hl
        refine ⟨l, k, vs, rfl, rfl, s2 _ _ hl', hh.2.1.1, hh.2.1.2, by rw [← hr.length]; exact hh.2.2, fun p np => ?_⟩
        intro bn'
        exact hp2 _ _ [p] bn' (same_new np) (rep_newlst np (reps_rep (hr.same s2) _)) (fresh1 np) nodup1
      · cases eg
    · cases eg
/-- f(..).append(e) -/
def mappT (mo me : En → Res D) : En → Out := fun ρ => thenE (mo (frzE ρ)) ρ fun x => match x with
  | .node (.lst true) xs => if xs.length < sizeLine then thenE (me (frzE ρ)) ρ fun _ => .nx ρ else .no
  | _ => .no
theorem ds_appT (ho : DE X W o fo mo) (he : DE X W e fv me) (hs0 : starEach [e] X.env = (false, eval e X.env) :: starEach [] X.env := by rfl) (hbase : attributeBase o "append" X.env (eval o X.env) = eval o X.env := by rfl)
    (hfew : ((backTo cpos (starEach [e] X.env)).all (fun x => !x.1) && (backToKw cpos (keywordEach [] X.env)).all (fun x => x.1.isSome) && decide ([e].length + ([] : List Keyword).length + (if ([] : List Keyword).isEmpty then 0 else 1) < 30)) = true := by rfl)
    (hline : (apos.endLine == cpos.line) = true := by rfl) (hplain : (backTo cpos (starEach [] X.env)).any (·.1) = false := by rfl) (hsw : swapsWith (.Call (.Attribute o "append" apos) [e] [] cpos) none pos.line X.env = pure false := by rfl) :
    DS X F W (.Expr (.Call (.Attribute o "append" apos) [e] [] cpos) pos) (mappT mo me) := by
  refine PS.mk (ps_expr (pe_bm PySem.F.plainAttrs_list PySem.F.slot_list_append PySem.F.type_list_append mt_append ho (pa_cons he pa_nil hs0) hbase hfew hline hs0 hplain) hsw) fun D σ H bn ⟨ω, ρ, b, hp⟩ => ?_
  have hp0 : PostS X F W ω H (thenE (mo (frzE ρ)) ρ fun x => match x with
    | .node (.lst true) xs => if xs.length < sizeLine then thenE (me (frzE ρ)) ρ fun _ => .nx ρ else .no
    | _ => .no) D := hp
  refine b.eval (fv := fo) hp0 fun d ed v H1 as bn1 s1 r1 f1 n1 hp1 b1 => ?_
  rw [ed] at hp0
  split at hp1
  · rename_i xs
    have hq : PostS X F W ω H (if xs.length < sizeLine then thenE (me (frzE ρ)) ρ fun _ => .nx ρ else .no) D := hp0
    split at hp1
    · rename_i hlen
      rw [if_pos hlen] at hq
      rw [Rep] at r1
      obtain ⟨l, vs, cs, rfl, hl, hr, q⟩ := r1
      have hl' : H1 l = some (.lst vs) := hl
      have hla : l ∈ as := by
        rcases q with ⟨_, q⟩ | ⟨q, _⟩
        · rw [q]; exact List.mem_cons_self
        · cases q
      refine ⟨tyV_list hl', b1.eval (fv := fv) hp1 fun d2 ed2 w H2 bs bn2 s2 r2 f2 n2 hp2 b2 => ?_⟩
      rw [ed2] at hq
      have sf : Same H (upd H2 l (.lst (vs ++ [w]))) := (s1.trans s2).put (f1 l hla) (s2 _ _ hl')
      exact ⟨l, vs, w, rfl, rfl, s2 _ _ hl', by rw [← hr.length]; exact hlen, hq ω σ _ (b.to sf) (Step.same sf)⟩
    · exact hp1.elim
  · exact hp1.elim
end
end Ev

/-! Ev, part R: in for tuples and texts. -/
namespace Ev
open PySem PySem.Spec L2
open PyProof.Rows hiding St
def flD : D → Bool
  | .node _ _ => false
  | _ => true
section
variable {mg : Str → Option Value} {H : Hp} {B : Addr → Prop}
theorem flD_v {d : D} {v : V} {as : List Addr} (h : flD d = true) (r : Rep mg H B d v as) : flatV v = true := by
  cases d with
  | node _ _ => cases h
  | non => rw [r.1]; rfl
  | bl _ => rw [r.1]; rfl
  | int _ => rw [r.1]; rfl
  | str _ => rw [r.1]; rfl
theorem flD_eq {d e : D} {v w : V} {as bs : List Addr} (h : flD d = true) (h' : flD e = true) (r : Rep mg H B d v as) (r' : Rep mg H B e w bs) : eqV v w = eqT d e := by
  cases d with
  | node _ _ => cases h
  | non => rw [r.1]; cases e <;> first | (cases h'; done) | (rw [r'.1]; rfl)
  | bl _ => rw [r.1]; cases e <;> first | (cases h'; done) | (rw [r'.1]; rfl)
  | int _ => rw [r.1]; cases e <;> first | (cases h'; done) | (rw [r'.1]; rfl)
  | str _ => rw [r.1]; cases e <;> first | (cases h'; done) | (rw [r'.1]; rfl)
theorem flDs_v : ∀ {ds : List D} {vs : List V} {as : List Addr}, ds.all flD = true → Reps mg H B ds vs as → vs.all flatV = true
  | [], _, _, _, h => by rw [Reps] at h; rw [h.1]; rfl
  | d :: ds, vs, as, f, h => by
    rw [Reps] at h
    obtain ⟨v, ws, a1, a2, rfl, _, h1, h2⟩ := h
    rw [List.all_cons, Bool.and_eq_true] at f
    rw [List.all_cons, flD_v f.1 h1, flDs_v f.2 h2]; rfl
theorem inV_T {x : D} {u : V} {bs : List Addr} (hx : flD x = true) (rx : Rep mg H B x u bs) : ∀ {ds : List D} {vs : List V} {as : List Addr}, ds.all flD = true → Reps mg H B ds vs as → inV u vs = inT x ds
  | [], _, _, _, h => by rw [Reps] at h; rw [h.1]; rfl
  | d :: ds, vs, as, f, h => by
    rw [Reps] at h
    obtain ⟨v, ws, a1, a2, rfl, _, h1, h2⟩ := h
    rw [List.all_cons, Bool.and_eq_true] at f
    have ih := inV_T hx rx f.2 h2
    unfold inV inT at ih ⊢
    rw [List.any_cons, List.any_cons, ih, flD_eq f.1 hx h1 rx]
end
def in2D (x y : D) : Option D := match y with
  | .node .tup xs => if flD x = true ∧ xs.all flD = true then some (.bl (inT x xs)) else none
  | .str b => (match x with
    | .str a => some (.bl (!(Builtin.Str.occurrences b a 0 b.length 1).isEmpty))
    | _ => none)
  | y => inD x y
def nin2D (x y : D) : Option D := match y with
  | .node .tup xs => if flD x = true ∧ xs.all flD = true then some (.bl (!inT x xs)) else none
  | .str b => (match x with
    | .str a => some (.bl (!(!(Builtin.Str.occurrences b a 0 b.length 1).isEmpty)))
    | _ => none)
  | y => ninD x y
section
variable {X : Cx}
theorem od_in2 (hu : X.A.units + 65 < cLine) : OpD X (compareOp .In) in2D := by
  intro pins s σ H v w vv ww Q I rv rw' h
  obtain ⟨x, y, B, rx, ry, bd, bn, d, e, q⟩ := h
  unfold in2D at e
  split at e
  · rename_i xs
    split at e
    · rename_i hh; cases e
      obtain ⟨a, vs, rfl, ha, hr⟩ := ry.tupE
      refine op_in_seq pins s σ H _ _ _ _ _ I rv rw' ⟨a, vs, rfl, .inr (.of ha), flD_v hh.1 rx, flDs_v hh.2 hr, ?_⟩
      have e1 := inV_T hh.1 rx hh.2 hr
      rw [if_neg Bool.false_ne_true, e1]
      exact q _ _ [] (Same.refl _) rep_bl fresh0 List.nodup_nil
    · cases e
  · split at e
    · cases e
      obtain ⟨rfl, _⟩ := rx; obtain ⟨rfl, _⟩ := ry
      exact op_in_str pins s σ H _ _ _ _ _ I rv rw' ⟨_, _, rfl, rfl, q _ _ [] (Same.refl _) rep_bl fresh0 List.nodup_nil⟩
    · cases e
  · exact od_in hu pins s σ H _ _ _ _ _ I rv rw' ⟨x, _, B, rx, ry, bd, bn, d, e, q⟩
theorem od_nin2 (hu : X.A.units + 65 < cLine) : OpD X (compareOp .NotIn) nin2D := by
  intro pins s σ H v w vv ww Q I rv rw' h
  obtain ⟨x, y, B, rx, ry, bd, bn, d, e, q⟩ := h
  unfold nin2D at e
  split at e
  · rename_i xs
    split at e
    · rename_i hh; cases e
      obtain ⟨a, vs, rfl, ha, hr⟩ := ry.tupE
      refine op_notIn_seq pins s σ H _ _ _ _ _ I rv rw' ⟨a, vs, rfl, .inr (.of ha), flD_v hh.1 rx, flDs_v hh.2 hr, ?_⟩
      have e1 := inV_T hh.1 rx hh.2 hr
      rw [if_pos rfl, e1]
      exact q _ _ [] (Same.refl _) rep_bl fresh0 List.nodup_nil
    · cases e
  · split at e
    · cases e
      obtain ⟨rfl, _⟩ := rx; obtain ⟨rfl, _⟩ := ry
      exact op_notIn_str pins s σ H _ _ _ _ _ I rv rw' ⟨_, _, rfl, rfl, q _ _ [] (Same.refl _) rep_bl fresh0 List.nodup_nil⟩
    · cases e
  · exact od_nin hu pins s σ H _ _ _ _ _ I rv rw' ⟨x, _, B, rx, ry, bd, bn, d, e, q⟩
end
@[simp] theorem in2D_dct (x : D) (o t : Bool) (ks : List Ky) (xs : List D) : in2D x (.node (.dct o t ks) xs) = inD x (.node (.dct o t ks) xs) := rfl
@[simp] theorem in2D_lst (x : D) (o : Bool) (xs : List D) : in2D x (.node (.lst o) xs) = inD x (.node (.lst o) xs) := rfl
@[simp] theorem nin2D_dct (x : D) (o t : Bool) (ks : List Ky) (xs : List D) : nin2D x (.node (.dct o t ks) xs) = ninD x (.node (.dct o t ks) xs) := rfl
@[simp] theorem nin2D_lst (x : D) (o : Bool) (xs : List D) : nin2D x (.node (.lst o) xs) = ninD x (.node (.lst o) xs) := rfl
/-- a statement that is not come to -/
def mno : En → Out := fun _ => .no
theorem ds_no {X : Cx} {F : Fr} {W : WX} {st : Stmt} : DS X F W st mno := ⟨fun _ _ _ _ _ _ ⟨_, _, _, hp⟩ => hp.elim⟩
@[simp] theorem mno_ap (ρ : En) : mno ρ = .no := rfl
end Ev

/-! Ev, part S: methods that change a list or a dict that a name owns. -/
namespace Ev
open PySem PySem.Spec L2
open PyProof.Rows hiding St
section
variable {mg : Str → Option Value}
/-- what a method of lists does -/
def HrM (mg : Str → Option Value) (r : V → List V → Hp → VK → Prop) (k : List D → List D → Option (D × List D)) : Prop :=
  ∀ (H : Hp) (B : Addr → Prop) (a : Addr) (vs us : List V) (xs ds ys : List D) (d : D) (Q : VK), H a = some (.lst vs) → vs.length ≤ sizeLine → Reps mg H B xs vs [] → Reps mg H B ds us [] → k xs ds = some (d, ys) →
    (∀ u ws, Rep mg H B d u [] → Reps mg H B ys ws [] → Q u (upd H a (.lst ws))) → r (.ref a) us H Q
theorem reps_len0 {H : Hp} {B : Addr → Prop} {us : List V} (h : Reps mg H B [] us []) : us = [] := by rw [Reps] at h; exact h.1
/-- x.pop() -/
def popK : List D → List D → Option (D × List D)
  | xs, [] => (xs[xs.length - 1]?).map fun d => (d, xs.dropLast)
  | _, _ => none
theorem Reps.dropLast {H : Hp} {B : Addr → Prop} {xs : List D} {vs : List V} (h : Reps mg H B xs vs []) : Reps mg H B xs.dropLast vs.dropLast [] := by
  rw [List.dropLast_eq_take, List.dropLast_eq_take, h.length]
  exact Reps.take _ h
theorem hr_pop : HrM mg rPop popK := by
  intro H B a vs us xs ds ys d Q ha hl rx rd hk q
  cases ds with
  | nil =>
    have := reps_len0 rd; subst this
    obtain ⟨e, he, h2⟩ := Option.map_eq_some_iff.mp (show (xs[xs.length - 1]?).map (fun d => (d, xs.dropLast)) = some (d, ys) from hk)
    cases h2
    obtain ⟨v, hv, rv⟩ := rx.get he
    rw [rx.length] at hv
    exact ⟨a, vs, v, rfl, rfl, ha, hv, q v _ rv rx.dropLast⟩
  | cons _ _ => cases hk
/-- x.pop(i) -/
def popAtK : List D → List D → Option (D × List D)
  | xs, [.int i] => (ixN xs.length i).bind fun n => (xs[n]?).map fun d => (d, xs.eraseIdx n)
  | _, _ => none
theorem Reps.eraseIdx {H : Hp} {B : Addr → Prop} {xs : List D} {vs : List V} (n : Nat) (h : Reps mg H B xs vs []) : Reps mg H B (xs.eraseIdx n) (vs.eraseIdx n) [] := by
  obtain ⟨cs, q1, _, q3⟩ := Reps.erase n h List.nodup_nil
  have : cs = [] := by cases cs with
    | nil => rfl
    | cons c cs => exact nomatch q3 c List.mem_cons_self
  subst this
  exact q1
theorem hr_popAt : HrM mg rPopAt popAtK := by
  intro H B a vs us xs ds ys d Q ha hl rx rd hk q
  unfold popAtK at hk
  split at hk
  · rename_i i
    obtain ⟨u, rfl, ru⟩ := reps1 rd
    obtain ⟨rfl, _⟩ := ru
    cases en : ixN xs.length i with
    | none => rw [en] at hk; cases hk
    | some n =>
      rw [en] at hk
      obtain ⟨e, he, h2⟩ := Option.map_eq_some_iff.mp (show (xs[n]?).map (fun d => (d, xs.eraseIdx n)) = some (d, ys) from hk)
      cases h2
      obtain ⟨v, hv, rv⟩ := rx.get he
      obtain ⟨s1, s2, s3, s4⟩ := ixN_seq en
      have hz := line63
      rw [rx.length] at s1 s2 s3 s4
      exact ⟨a, vs, i, n, v, rfl, rfl, ha, by omega, by omega, s1, hv, q v _ rv (rx.eraseIdx n)⟩
  · cases hk
/-- x.clear() -/
def clearK : List D → List D → Option (D × List D)
  | _, [] => some (.non, [])
  | _, _ => none
theorem hr_clear : HrM mg rClear clearK := by
  intro H B a vs us xs ds ys d Q ha hl rx rd hk q
  cases ds with
  | nil =>
    have := reps_len0 rd; subst this
    cases hk
    exact ⟨a, vs, rfl, rfl, ha, q .non [] rep_non Reps.nil⟩
  | cons _ _ => cases hk
/-- x.insert(i, e) -/
def insertK : List D → List D → Option (D × List D)
  | xs, [.int i, e] => if xs.length < sizeLine ∧ 0 ≤ i ∧ i < 9223372036854775808 then some (.non, xs.take i.toNat ++ [e] ++ xs.drop i.toNat) else none
  | _, _ => none
theorem hr_insert : HrM mg (fun x vs H Q => ∃ (l : Addr) (xs : List V) (i : Int) (y : V), x = .ref l ∧ vs = [.int i, y] ∧ H l = some (.lst xs) ∧ xs.length < sizeLine ∧ 0 ≤ i ∧ i < 2 ^ 63 ∧
    Q .non (upd H l (.lst (xs.take i.toNat ++ [y] ++ xs.drop i.toNat)))) insertK := by
  intro H B a vs us xs ds ys d Q ha hl rx rd hk q
  unfold insertK at hk
  split at hk
  · rename_i i e
    split at hk
    · rename_i hh
      cases hk
      obtain ⟨u, v, rfl, ru, rv⟩ := reps2 rd
      obtain ⟨rfl, _⟩ := ru
      refine ⟨a, vs, i, v, rfl, rfl, ha, by rw [← rx.length]; exact hh.1, hh.2.1, by omega, q .non _ rep_non ?_⟩
      exact Reps.append (as := []) (bs := []) (Reps.append (as := []) (bs := []) (Reps.take _ rx) (by have := Reps.cons rv (Reps.nil (mg := mg) (H := H) (B := B)); exact this)) (Reps.drop _ rx)
    · cases hk
  · cases hk
/-- x.remove(k), whole numbers -/
def removeK : List D → List D → Option (D × List D)
  | xs, [.int k] => (maxI xs).bind fun ns => if k ∈ ns then some (.non, (ns.erase k).map .int) else none
  | _, _ => none
theorem reps_ints {H : Hp} {B : Addr → Prop} : ∀ ns : List Int, Reps mg H B (ns.map .int) (ns.map V.int) []
  | [] => Reps.nil
  | n :: ns => Reps.cons (as := []) (bs := []) rep_int (reps_ints ns)
theorem erase_first {k : Int} : ∀ {ns : List Int}, k ∈ ns → ∃ j, ns[j]? = some k ∧ (∀ m, m < j → ns[m]? ≠ some k) ∧ ns.eraseIdx j = ns.erase k
  | [], h => nomatch h
  | n :: ns, h => by
    by_cases e : n = k
    · subst e
      exact ⟨0, rfl, fun m hm => by omega, by simp⟩
    · obtain ⟨j, h1, h2, h3⟩ := erase_first ((List.mem_cons.mp h).resolve_left (Ne.symm e))
      refine ⟨j + 1, by simpa using h1, fun m hm => ?_, ?_⟩
      · cases m with
        | zero => simpa using e
        | succ m => simpa using h2 m (by omega)
      · rw [List.eraseIdx_cons_succ, h3, List.erase_cons_tail (by simpa using e)]
theorem hr_remove : HrM mg rRemI removeK := by
  intro H B a vs us xs ds ys d Q ha hl rx rd hk q
  unfold removeK at hk
  split at hk
  · rename_i k
    obtain ⟨u, rfl, ru⟩ := reps1 rd
    obtain ⟨rfl, _⟩ := ru
    cases en : maxI xs with
    | none => rw [en] at hk; cases hk
    | some ns =>
      rw [en] at hk
      have hk' : (if k ∈ ns then some (D.non, (ns.erase k).map D.int) else none) = some (d, ys) := hk
      split at hk'
      · rename_i hm
        cases hk'
        have ev := maxI_rep en rx
        subst ev
        obtain ⟨j, h1, h2, h3⟩ := erase_first hm
        exact ⟨a, ns, k, j, rfl, rfl, ha, h1, h2, by rw [h3]; exact q .non _ rep_non (reps_ints _)⟩
      · cases hk'
  · cases hk
end
section
variable {X : Cx} {F : Fr} {W : WX} {e a b c : Expr} {es : List Expr} {fv fa fb fc : List Nat} {me ma mb mc : En → Res D} {ms : List (En → Res D)} {pos pos' p1 apos cpos : Pos} {i j : Nat} {x y name : Str} {id : String} {r : V → List V → Hp → VK → Prop} {k : List D → List D → Option (D × List D)}
/-- l.m(..) as a statement, what it gives left -/
def mmE (i : Nat) (k : List D → List D → Option (D × List D)) (ms : List (En → Res D)) : En → Out := fun ρ => match ρ[i]? with
  | some (some (.node (.lst true) xs)) => if pures xs = true then thenE (seqs ms (frzE ρ)) ρ fun ds => match k xs (frzs ds) with
      | some (d, ys) => if pures ys = true then .nx (ρ.set i (some (.node (.lst true) ys))) else .no
      | none => .no
    else .no
  | _ => .no
/-- y = l.m(..) -/
def mmS (i j : Nat) (k : List D → List D → Option (D × List D)) (ms : List (En → Res D)) : En → Out := fun ρ => match ρ[i]? with
  | some (some (.node (.lst true) xs)) => if pures xs = true then thenE (seqs ms (frzE ρ)) ρ fun ds => match k xs (frzs ds) with
      | some (d, ys) => if pures ys = true ∧ d.pure = true then .nx ((ρ.set i (some (.node (.lst true) ys))).set j (some d)) else .no
      | none => .no
    else .no
  | _ => .no
theorem bx_sub {ω : Own} {fv : List Nat} {a : Addr} (h : Bx X ω fv a) : ω a ≠ none := by
  obtain ⟨i, h, _⟩ := h
  rw [h]; intro z; cases z
theorem mm_put {ω : Own} {ρ : En} {σ : St} {H : Hp} {B : Addr → Prop} {a : Addr} {ys : List D} {ws : List V} (b : BI X F ω ρ σ H) (hi : i < X.N.length) (hσ : σ[i]? = some (some (.ref a))) (ha : ω a = some i) (py : pures ys = true) (ry : Reps X.mg H B ys ws []) :
    ∃ ω', BI X F ω' (ρ.set i (some (.node (.lst true) ys))) σ (upd H a (.lst ws)) ∧ Step X ω H ω' (upd H a (.lst ws)) :=
  b.putn (t := .lst true) (u := .lst ws) (cs := []) hi hσ (Same.refl _) ha (fun _ z => nomatch z) (by simp) rfl upd_same (fun _ z => HO.noConfusion z) (Reps.unsh (fun c hc ys z => by
    rcases hc with hc | hc
    · exact b.nt c hc ys z
    · cases hc) (pures_shr _ py) ry) fun _ z => nomatch z
theorem mm_val {ω ω' : Own} {ρ ρ' : En} {σ σ' : St} {H : Hp} {B : Addr → Prop} {a : Addr} {d : D} {v : V} {u : HO} (b : BI X F ω ρ σ H) (b' : BI X F ω' ρ' σ' (upd H a u)) (ha : ω a ≠ none) (pd : d.pure = true) (rd : Rep X.mg H B d v []) : Rep X.mg (upd H a u) (fun c => ω' c ≠ none) d v [] := by
  have r1 : Rep X.mg H (fun c => ω c ≠ none) d v [] := Rep.unsh (fun c hc ys => b.nt c hc ys) (D.pure_shr _ pd) rd
  have r2 : Rep X.mg (upd H a u) (fun c => ω c ≠ none) d v [] := r1.step (fun c o e h => by
    rcases h with h | h
    · cases h
    · rw [upd_ne]
      · exact e
      · rintro rfl; exact h ha) fun _ _ z => z
  exact Rep.unsh (fun c hc ys => b'.nt c hc ys) (D.pure_shr _ pd) r2
theorem mm_readE {ω : Own} {ρ : En} {σ : St} {H : Hp} {Dn : Ends} (hr : HrM X.mg r k) (hi : i < X.N.length) (bn : Bnd H) (b : BI X F ω ρ σ H) (hp : PostS X F W ω H (mmE i k ms ρ) Dn) :
    ∃ a, σ[i]? = some (some (.ref a)) ∧ (∃ vs, H a = some (.lst vs)) ∧ Tv (Reps X.mg) W X.mg fv (seqs ms) σ H fun us H' => r (.ref a) us H' fun _ H2 => Dn.nx σ H2 := by
  unfold mmE at hp
  split at hp
  · rename_i xs ex
    split at hp
    · rename_i hx
      obtain ⟨a, vs, cs, h1, h2, h3, h4, h5⟩ := b.lst ex
      have hcs := Reps.purev hx h3
      subst hcs
      have ha := h5 a List.mem_cons_self
      refine ⟨a, h1, ⟨vs, h2⟩, b.eval hp fun ds ed us H' as bn' s r' f n hp3 b' => ?_⟩
      rw [ed] at hp
      have hp0 : PostS X F W ω H (match k xs (frzs ds) with
      | some (d, ys) => if pures ys = true then .nx (ρ.set i (some (.node (.lst true) ys))) else .no
      | none => .no) Dn := hp
      cases ek : k xs (frzs ds) with
      | none => rw [ek] at hp0; exact hp0.elim
      | some dy =>
        obtain ⟨d, ys⟩ := dy
        rw [ek] at hp0
        have hp1 : PostS X F W ω H (if pures ys = true then .nx (ρ.set i (some (.node (.lst true) ys))) else .no) Dn := hp0
        split at hp1
        · rename_i py
          have hl := bn'.1 a vs (.inl (s _ _ h2))
          refine hr H' (Bx X ω fv) a vs us xs (frzs ds) ys d _ (s _ _ h2) hl (Reps.step (h3.same s) (fun _ _ z _ => z) fun c _ h z => h (bx_sub z)) (r'.view (b.bdom fv) f) ek fun u ws rd ry => ?_
          obtain ⟨ω', b2, s2⟩ := mm_put b' hi h1 ha py ry
          exact hp1 ω' σ _ b2 ((Step.same s).trans s2)
        · exact hp1.elim
    · exact hp.elim
  · exact hp.elim
theorem mm_readS {ω : Own} {ρ : En} {σ : St} {H : Hp} {Dn : Ends} (hr : HrM X.mg r k) (hi : i < X.N.length) (hj : j < X.N.length) (bn : Bnd H) (b : BI X F ω ρ σ H) (hp : PostS X F W ω H (mmS i j k ms ρ) Dn) :
    ∃ a, σ[i]? = some (some (.ref a)) ∧ (∃ vs, H a = some (.lst vs)) ∧ Tv (Reps X.mg) W X.mg fv (seqs ms) σ H fun us H' => r (.ref a) us H' fun v H2 => Dn.nx (σ.set j (some v)) H2 := by
  unfold mmS at hp
  split at hp
  · rename_i xs ex
    split at hp
    · rename_i hx
      obtain ⟨a, vs, cs, h1, h2, h3, h4, h5⟩ := b.lst ex
      have hcs := Reps.purev hx h3
      subst hcs
      have ha := h5 a List.mem_cons_self
      refine ⟨a, h1, ⟨vs, h2⟩, b.eval hp fun ds ed us H' as bn' s r' f n hp3 b' => ?_⟩
      rw [ed] at hp
      have hp0 : PostS X F W ω H (match k xs (frzs ds) with
      | some (d, ys) => if pures ys = true ∧ d.pure = true then .nx ((ρ.set i (some (.node (.lst true) ys))).set j (some d)) else .no
      | none => .no) Dn := hp
      cases ek : k xs (frzs ds) with
      | none => rw [ek] at hp0; exact hp0.elim
      | some dy =>
        obtain ⟨d, ys⟩ := dy
        rw [ek] at hp0
        have hp1 : PostS X F W ω H (if pures ys = true ∧ d.pure = true then .nx ((ρ.set i (some (.node (.lst true) ys))).set j (some d)) else .no) Dn := hp0
        split at hp1
        · rename_i py
          have hl := bn'.1 a vs (.inl (s _ _ h2))
          refine hr H' (Bx X ω fv) a vs us xs (frzs ds) ys d _ (s _ _ h2) hl (Reps.step (h3.same s) (fun _ _ z _ => z) fun c _ h z => h (bx_sub z)) (r'.view (b.bdom fv) f) ek fun u ws rd ry => ?_
          obtain ⟨ω', b2, s2⟩ := mm_put b' hi h1 ha py.1 ry
          obtain ⟨b3, s3⟩ := b2.putv hj (mm_val b' b2 (by rw [ha]; intro z; cases z) py.2 rd)
          exact hp1 _ _ _ b3 (((Step.same s).trans s2).trans s3)
        · exact hp1.elim
    · exact hp.elim
  · exact hp.elim
theorem ds_mmE (slot : Slot "list" name id) (hty : typeOf (.builtin id) = pure (.type "method_descriptor")) (hm : MtR X id r) (hr : HrM X.mg r k) (ha : DA X W (e :: es) fv (seqs ms)) (hN : X.N[i]? = some x := by rfl) (hv : Vis X.env.scope x := by first | exact Or.inl rfl | exact Or.inr (Or.inl rfl) | exact Or.inr (Or.inr rfl)) (hd : (x == ("__debug__" : Str)) = false := by decide) (hcd : (x == ("__classdict__" : Str)) = false := by decide)
    (hbase : attributeBase (.Name x p1) name X.env (eval (.Name x p1) X.env) = eval (.Name x p1) X.env := by rfl)
    (hfew : ((backTo cpos (starEach (e :: es) X.env)).all (fun x => !x.1) && (backToKw cpos (keywordEach [] X.env)).all (fun x => x.1.isSome) && decide ((e :: es).length + ([] : List Keyword).length + (if ([] : List Keyword).isEmpty then 0 else 1) < 30)) = true := by rfl)
    (hline : (apos.endLine == cpos.line) = true := by rfl) (hs : starEach (e :: es) X.env = (false, eval e X.env) :: starEach es X.env := by rfl) (hplain : (backTo cpos (starEach es X.env)).any (·.1) = false := by rfl) (hsw : swapsWith (.Call (.Attribute (.Name x p1) name apos) (e :: es) [] cpos) none pos.line X.env = pure false := by rfl) :
    DS X F W (.Expr (.Call (.Attribute (.Name x p1) name apos) (e :: es) [] cpos) pos) (mmE i k ms) := by
  refine PS.mk (ps_expr (pe_bm PySem.F.plainAttrs_list slot hty hm (pe_var hN hv hd hcd) ha hbase hfew hline hs hplain) hsw) fun D σ H bn ⟨ω, ρ, b, hp⟩ => ?_
  obtain ⟨a, h1, ⟨vs, h2⟩, h3⟩ := mm_readE (fv := fv) hr (ltN hN) bn b hp
  exact ⟨.ref a, h1, tyV_list h2, h3⟩
theorem ds_mmE0 (slot : Slot "list" name id) (hty : typeOf (.builtin id) = pure (.type "method_descriptor")) (hm : MtR X id r) (hr : HrM X.mg r k) (hN : X.N[i]? = some x := by rfl) (hv : Vis X.env.scope x := by first | exact Or.inl rfl | exact Or.inr (Or.inl rfl) | exact Or.inr (Or.inr rfl)) (hd : (x == ("__debug__" : Str)) = false := by decide) (hcd : (x == ("__classdict__" : Str)) = false := by decide)
    (hbase : attributeBase (.Name x p1) name X.env (eval (.Name x p1) X.env) = eval (.Name x p1) X.env := by rfl) (hline : (apos.endLine == cpos.line) = true := by rfl) (hsw : swapsWith (.Call (.Attribute (.Name x p1) name apos) [] [] cpos) none pos.line X.env = pure false := by rfl) :
    DS X F W (.Expr (.Call (.Attribute (.Name x p1) name apos) [] [] cpos) pos) (mmE i k []) := by
  refine PS.mk (ps_expr (pe_bm0 PySem.F.plainAttrs_list slot hty hm (pe_var hN hv hd hcd) hbase hline) hsw) fun D σ H bn ⟨ω, ρ, b, hp⟩ => ?_
  obtain ⟨a, h1, ⟨vs, h2⟩, h3⟩ := mm_readE (fv := []) (W := W) hr (ltN hN) bn b hp
  refine ⟨.ref a, h1, tyV_list h2, ?_⟩
  obtain ⟨ρ', B', en, bd, hq⟩ := h3
  exact hq [] H [] bn (Same.refl _) Reps.nil (fun _ z => nomatch z) List.nodup_nil
theorem ds_mmS (slot : Slot "list" name id) (hty : typeOf (.builtin id) = pure (.type "method_descriptor")) (hm : MtR X id r) (hr : HrM X.mg r k) (hNd : X.N.Nodup) (ha : DA X W (e :: es) fv (seqs ms)) (hN : X.N[i]? = some x := by rfl) (hv : Vis X.env.scope x := by first | exact Or.inl rfl | exact Or.inr (Or.inl rfl) | exact Or.inr (Or.inr rfl)) (hd : (x == ("__debug__" : Str)) = false := by decide) (hcd : (x == ("__classdict__" : Str)) = false := by decide)
    (hj : X.N[j]? = some y := by rfl) (hy : Loc X.env.scope y := by first | exact Or.inl rfl | exact Or.inr rfl) (hf : X.fn y = true ∨ X.env.scope.names.lookup y = some .local := by first | exact .inl rfl | exact .inr rfl)
    (hbase : attributeBase (.Name x p1) name X.env (eval (.Name x p1) X.env) = eval (.Name x p1) X.env := by rfl)
    (hfew : ((backTo cpos (starEach (e :: es) X.env)).all (fun x => !x.1) && (backToKw cpos (keywordEach [] X.env)).all (fun x => x.1.isSome) && decide ((e :: es).length + ([] : List Keyword).length + (if ([] : List Keyword).isEmpty then 0 else 1) < 30)) = true := by rfl)
    (hline : (apos.endLine == cpos.line) = true := by rfl) (hs : starEach (e :: es) X.env = (false, eval e X.env) :: starEach es X.env := by rfl) (hplain : (backTo cpos (starEach es X.env)).any (·.1) = false := by rfl) (hsw : swapsWith (.Call (.Attribute (.Name x p1) name apos) (e :: es) [] cpos) (some (.Name y pos')) pos.line X.env = pure false := by rfl) :
    DS X F W (.Assign [.Name y pos'] (.Call (.Attribute (.Name x p1) name apos) (e :: es) [] cpos) pos) (mmS i j k ms) := by
  refine PS.mk (ps_set hNd hj hy (pe_bm PySem.F.plainAttrs_list slot hty hm (pe_var hN hv hd hcd) ha hbase hfew hline hs hplain) hsw hf) fun D σ H bn ⟨ω, ρ, b, hp⟩ => ?_
  obtain ⟨a, h1, ⟨vs, h2⟩, h3⟩ := mm_readS (fv := fv) hr (ltN hN) (ltN hj) bn b hp
  exact ⟨.ref a, h1, tyV_list h2, h3⟩
theorem ds_mmS0 (slot : Slot "list" name id) (hty : typeOf (.builtin id) = pure (.type "method_descriptor")) (hm : MtR X id r) (hr : HrM X.mg r k) (hNd : X.N.Nodup) (hN : X.N[i]? = some x := by rfl) (hv : Vis X.env.scope x := by first | exact Or.inl rfl | exact Or.inr (Or.inl rfl) | exact Or.inr (Or.inr rfl)) (hd : (x == ("__debug__" : Str)) = false := by decide) (hcd : (x == ("__classdict__" : Str)) = false := by decide)
    (hj : X.N[j]? = some y := by rfl) (hy : Loc X.env.scope y := by first | exact Or.inl rfl | exact Or.inr rfl) (hf : X.fn y = true ∨ X.env.scope.names.lookup y = some .local := by first | exact .inl rfl | exact .inr rfl)
    (hbase : attributeBase (.Name x p1) name X.env (eval (.Name x p1) X.env) = eval (.Name x p1) X.env := by rfl) (hline : (apos.endLine == cpos.line) = true := by rfl) (hsw : swapsWith (.Call (.Attribute (.Name x p1) name apos) [] [] cpos) (some (.Name y pos')) pos.line X.env = pure false := by rfl) :
    DS X F W (.Assign [.Name y pos'] (.Call (.Attribute (.Name x p1) name apos) [] [] cpos) pos) (mmS i j k []) := by
  refine PS.mk (ps_set hNd hj hy (pe_bm0 PySem.F.plainAttrs_list slot hty hm (pe_var hN hv hd hcd) hbase hline) hsw hf) fun D σ H bn ⟨ω, ρ, b, hp⟩ => ?_
  obtain ⟨a, h1, ⟨vs, h2⟩, h3⟩ := mm_readS (fv := []) (W := W) hr (ltN hN) (ltN hj) bn b hp
  refine ⟨.ref a, h1, tyV_list h2, ?_⟩
  obtain ⟨ρ', B', en, bd, hq⟩ := h3
  exact hq [] H [] bn (Same.refl _) Reps.nil (fun _ z => nomatch z) List.nodup_nil
/-- x.extend(e), e a list that no name holds -/
def mext (i : Nat) (me : En → Res D) : En → Out := fun ρ => match ρ[i]? with
  | some (some (.node (.lst true) xs)) => if pures xs = true then thenE (me (frzE ρ)) ρ fun d => match d with
      | .node (.lst true) ys => if pures ys = true ∧ xs.length + ys.length ≤ sizeLine then .nx (ρ.set i (some (.node (.lst true) (xs ++ ys)))) else .no
      | _ => .no
    else .no
  | _ => .no
theorem ds_ext (he : DE X W e fv me) (hN : X.N[i]? = some x := by rfl) (hv : Vis X.env.scope x := by first | exact Or.inl rfl | exact Or.inr (Or.inl rfl) | exact Or.inr (Or.inr rfl)) (hd : (x == ("__debug__" : Str)) = false := by decide) (hcd : (x == ("__classdict__" : Str)) = false := by decide)
    (hs0 : starEach [e] X.env = (false, eval e X.env) :: starEach [] X.env := by rfl) (hbase : attributeBase (.Name x p1) "extend" X.env (eval (.Name x p1) X.env) = eval (.Name x p1) X.env := by rfl)
    (hfew : ((backTo cpos (starEach [e] X.env)).all (fun x => !x.1) && (backToKw cpos (keywordEach [] X.env)).all (fun x => x.1.isSome) && decide ([e].length + ([] : List Keyword).length + (if ([] : List Keyword).isEmpty then 0 else 1) < 30)) = true := by rfl)
    (hline : (apos.endLine == cpos.line) = true := by rfl) (hplain : (backTo cpos (starEach [] X.env)).any (·.1) = false := by rfl) (hsw : swapsWith (.Call (.Attribute (.Name x p1) "extend" apos) [e] [] cpos) none pos.line X.env = pure false := by rfl) :
    DS X F W (.Expr (.Call (.Attribute (.Name x p1) "extend" apos) [e] [] cpos) pos) (mext i me) := by
  refine PS.mk (ps_expr (pe_bm PySem.F.plainAttrs_list PySem.F.slot_list_extend PySem.F.type_list_extend mt_extend (pe_var hN hv hd hcd) (pa_cons he pa_nil hs0) hbase hfew hline hs0 hplain) hsw) fun D σ H bn ⟨ω, ρ, b, hp⟩ => ?_
  unfold mext at hp
  split at hp
  · rename_i xs ex
    split at hp
    · rename_i hx
      obtain ⟨a, vs, cs, h1, h2, h3, h4, h5⟩ := b.lst ex
      have hcs := Reps.purev hx h3
      subst hcs
      have ha := h5 a List.mem_cons_self
      refine ⟨.ref a, h1, tyV_list h2, b.eval hp fun d ed v H' as bn' s r' f n hp3 b' => ?_⟩
      rw [ed] at hp
      split at hp3
      · rename_i ys
        have hp0 : PostS X F W ω H (if pures ys = true ∧ xs.length + ys.length ≤ sizeLine then .nx (ρ.set i (some (.node (.lst true) (xs ++ ys)))) else .no) D := hp
        split at hp3
        · rename_i py
          rw [if_pos py] at hp0
          rw [Rep] at r'
          obtain ⟨l, us, ds, rfl, hl, hr, q⟩ := r'
          have hds := Reps.purev py.1 hr
          subst hds
          have hl' : H' l = some (.lst us) := hl
          have rall : Reps X.mg H' (Bx X ω fv) (xs ++ ys) (vs ++ us) [] := Reps.append (as := []) (bs := []) (Reps.step (h3.same s) (fun _ _ z _ => z) fun c _ h z => h (bx_sub z)) hr
          obtain ⟨ω', b2, s2⟩ := mm_put (ys := xs ++ ys) b' (ltN hN) h1 ha (by rw [pures_all, List.all_append, ← pures_all, ← pures_all, hx, py.1]; rfl) rall
          exact ⟨a, l, vs, us, rfl, rfl, s _ _ h2, hl', by rw [← h3.length, ← hr.length]; exact py.2, hp0 ω' σ _ b2 ((Step.same s).trans s2)⟩
        · exact hp3.elim
      · exact hp3.elim
    · exact hp.elim
  · exact hp.elim
end
end Ev

/-! Ev, part T: d.pop(k), d.setdefault(k, v), d.setdefault(k, []).append(v). -/
namespace Ev
open PySem PySem.Spec L2
open PyProof.Rows hiding St
theorem KT_wo {H : Hp} (k : List L2.Key) : ∀ {kvs : List (List L2.Key × V)} {xs : List (List L2.Key × Addr × Value)}, KT H kvs xs → KT H (dropK kvs k) (withoutH xs k)
  | _, _, Paired.nil => Paired.nil
  | _, _, Paired.cons (a := p) (b := q) (l₁ := kvs) (l₂ := xs) h t => by
    have ih := KT_wo k t
    by_cases e : p.1 = k
    · have e2 : q.1 = k := h.1.symm.trans e
      have z1 : dropK (p :: kvs) k = dropK kvs k := List.filter_cons_of_neg (by simp [e])
      have z2 : withoutH (q :: xs) k = withoutH xs k := List.filter_cons_of_neg (by simp [e2])
      rw [z1, z2]
      exact ih
    · have e2 : ¬ q.1 = k := fun z => e (h.1.trans z)
      have z1 : dropK (p :: kvs) k = p :: dropK kvs k := List.filter_cons_of_pos (by simp [e])
      have z2 : withoutH (q :: xs) k = q :: withoutH xs k := List.filter_cons_of_pos (by simp [e2])
      rw [z1, z2]
      exact Paired.cons h ih
section
variable {X : Cx}
def rPop1 : V → List V → Hp → VK → Prop := fun x xs H Q => ∃ (a : Addr) (y v : V), x = .ref a ∧ xs = [y] ∧
  ((∃ kvs k, H a = some (.dK kvs) ∧ y = kV k ∧ valV kvs k = some v ∧ Q v (upd H a (.dK (dropK kvs k)))) ∨
   ∃ kvs k b, H a = some (.dT kvs) ∧ y = .ref b ∧ H b = some (.tup (k.map kV)) ∧ valV kvs k = some v ∧ Q v (upd H a (.dT (dropK kvs k))))
theorem mt_pop1 (hu : X.A.units + 1 < cLine) : MtR X "dict.pop" rPop1 := by
  intro pins s σ H x xs v us Q I rx rxs h
  obtain ⟨a, y, v1, rfl, rfl, h⟩ := h
  cases rx
  obtain ⟨u1, rfl, r1⟩ := vals1 rxs
  rcases h with ⟨kvs, k, e, rfl, l, q⟩ | ⟨kvs, k, b, e, rfl, eb, l, q⟩
  · exact d_pop I e r1 l (.inl rfl) fun w' s' I' rw' => ⟨v1, _, I', rw', q⟩
  · cases (show u1 = Value.ref b from r1)
    obtain ⟨z, hd, xs', rel, dd⟩ := L2.dt_of I.hok e
    have hz : xs'.length ≤ sizeLine := by rw [← Paired.length rel]; exact z
    obtain ⟨p, hp, rv⟩ : ∃ p, atKey xs' k = some p ∧ RelV v1 p.2 := by
      obtain ⟨w', hw, rw'⟩ := RelO.some_of (v := v1) (o := (atKey xs' k).map (·.2)) (by rw [← l]; exact rel.val k)
      obtain ⟨p, hp, hp2⟩ := Option.map_eq_some_iff.mp hw
      exact ⟨p, hp, by rw [hp2]; exact rw'⟩
    refine call_pop_heap (hsz := hz) (.inl rfl) (PySem.F.args_dict_pop_2 _ _) (tupleKind_room_in1 hu) (key_of I.hok eb) hd dd hp fun h' dd' hs => ?_
    obtain ⟨o, es, ep, hq, h2, h3, h4, _, h5⟩ := dd'
    have I2 : Inv X pins σ (upd H a (.dT (dropK kvs k))) { s with heap := h', toks := s.toks + (tupleKind (mixKind X.prog X.w)).draws k } :=
      d_write I (by rw [e]; exact True.intro) hs ⟨o, hq⟩ ⟨Nat.le_trans (dropK_le kvs k) z, hd, _, (KT_wo k rel).keeps (fun c ys ec => (by rw [upd_ne (ne_of ec e (fun z => nomatch z))]; exact ec)), o, es, ep, hq, h2, h3, h4, h5⟩
    exact ⟨v1, _, I2, rv, q⟩
def rSetd : V → List V → Hp → VK → Prop := fun x xs H Q => ∃ (a : Addr) (y d : V), x = .ref a ∧ xs = [y, d] ∧
  ((∃ kvs k, H a = some (.dK kvs) ∧ y = kV k ∧ kvs.length < sizeLine ∧ (∀ v, valV kvs k = some v → Q v H) ∧ (valV kvs k = none → Q d (upd H a (.dK (putK kvs k d))))) ∨
   ∃ kvs k b, H a = some (.dT kvs) ∧ y = .ref b ∧ H b = some (.tup (k.map kV)) ∧ kvs.length < sizeLine ∧ (∀ v, valV kvs k = some v → Q v H) ∧ (valV kvs k = none → Q d (upd H a (.dT (putK kvs k d)))))
theorem mt_setd (hu : X.A.units + 1 < cLine) : MtR X "dict.setdefault" rSetd := by
  intro pins s σ H x xs v us Q I rx rxs h
  obtain ⟨a, y, d, rfl, rfl, h⟩ := h
  cases rx
  obtain ⟨u1, u2, rfl, r1, r2⟩ := vals2 rxs
  rcases h with ⟨kvs, k, e, rfl, hl, q1, q2⟩ | ⟨kvs, k, b, e, rfl, eb, hl, q1, q2⟩
  · obtain ⟨z, hd, vs, rel, dd⟩ := dk_of I.hok e
    refine call_meetsIn PySem.F.slot_dict_setdefault dd.typeIs PySem.F.entry_dict_setdefault (PySem.F.args_dict_setdefault_3 _ _ _) (kt_meets_setdefault (mixKind X.prog X.w) a (kV_is r1) hd u2)
      ⟨vs, dd, by rw [← rel.length]; exact z, fun v0 hv => ?_, fun hn h' dd' hs => ?_⟩
    · have r := rel.val k
      rw [hv] at r
      cases ev : valV kvs k with
      | none => rw [ev] at r; exact (show False from r).elim
      | some v1 =>
        rw [ev] at r
        exact ⟨v1, H, I.tok _, r, q1 v1 ev⟩
    · have r := rel.val k
      rw [hn] at r
      cases ev : valV kvs k with
      | some v1 => rw [ev] at r; exact (show False from r).elim
      | none =>
        have he : ∃ q, h'.get? a = some q := let ⟨q, _, _, hq, _⟩ := dd'; ⟨q, hq⟩
        have hl2 : (putK kvs k d).length ≤ sizeLine := by have := length_putK kvs k d; omega
        exact ⟨d, _, d_write I (by rw [e]; exact True.intro) hs he (dk_new hl2 hd (rel.put k r2) dd'), r2, q2 ev⟩
  · cases (show u1 = Value.ref b from r1)
    obtain ⟨z, hd, xs', rel, dd⟩ := L2.dt_of I.hok e
    have hz : xs'.length ≤ sizeLine := by rw [← Paired.length rel]; exact z
    refine call_setdefault_heap (hsz := hz) (tupleKind_room_in1 hu) (key_of I.hok eb) hd dd (fun p hp => ?_) fun hn h' dd' hs => ?_
    · have r := rel.val k
      rw [hp] at r
      cases ev : valV kvs k with
      | none => rw [ev] at r; exact (show False from r).elim
      | some v1 =>
        rw [ev] at r
        exact ⟨v1, H, I.tok _, r, q1 v1 ev⟩
    · have r := rel.val k
      rw [hn] at r
      cases ev : valV kvs k with
      | some v1 => rw [ev] at r; exact (show False from r).elim
      | none =>
        have hl2 : (putK kvs k d).length ≤ sizeLine := by have := length_putK kvs k d; omega
        obtain ⟨o, es, ep, hq, h2, h3, h4, _, h5⟩ := dd'
        have I2 : Inv X pins σ (upd H a (.dT (putK kvs k d))) { s with heap := h', toks := s.toks + (tupleKind (mixKind X.prog X.w)).draws k } :=
          d_write I (by rw [e]; exact True.intro) hs ⟨o, hq⟩ ⟨hl2, hd, _, (rel.put k eb r2).keeps fun c ys ec => (by rw [upd_ne (ne_of ec e (fun z => nomatch z))]; exact ec), o, es, ep, hq, h2, h3, h4, h5⟩
        exact ⟨d, _, I2, r2, q2 ev⟩
end
/-! ### by keys and values -/
section
variable {κ : Type} [DecidableEq κ]
theorem valV_zip {k : κ} : ∀ {ks : List κ} {vs : List V}, ks.length = vs.length → valV (ks.zip vs) k = (idxG ks k).bind fun n => vs[n]?
  | [], [], _ => rfl
  | [], _ :: _, h => by simp at h
  | _ :: _, [], h => by simp at h
  | q :: ks, v :: vs, h => by
    rw [List.zip_cons_cons, idxG]
    by_cases e : q = k
    · rw [if_pos e, valV_pos e]; rfl
    · rw [if_neg e, valV_neg e, valV_zip (by simpa using h)]
      cases idxG ks k <;> rfl
theorem zip_keep {k : κ} : ∀ (ls : List κ) (ws : List V), k ∉ ls → dropK (ls.zip ws) k = ls.zip ws
  | [], _, _ => rfl
  | _ :: _, [], _ => rfl
  | l :: ls, w :: ws, hk => by
    rw [List.mem_cons, not_or] at hk
    rw [List.zip_cons_cons]
    have : dropK ((l, w) :: ls.zip ws) k = (l, w) :: dropK (ls.zip ws) k := List.filter_cons_of_pos (by simp [Ne.symm hk.1])
    rw [this, zip_keep ls ws hk.2]
theorem dropK_zip {k : κ} : ∀ {ks : List κ} {vs : List V} {n : Nat}, ks.length = vs.length → ks.Nodup → idxG ks k = some n → dropK (ks.zip vs) k = (ks.eraseIdx n).zip (vs.eraseIdx n)
  | [], _, _, _, _, h => by cases h
  | _ :: _, [], _, h, _, _ => by simp at h
  | q :: ks, v :: vs, n, hl, hn, h => by
    rw [List.nodup_cons] at hn
    rw [idxG] at h
    rw [List.zip_cons_cons]
    by_cases e : q = k
    · rw [if_pos e] at h
      cases h
      have : dropK ((q, v) :: ks.zip vs) k = dropK (ks.zip vs) k := List.filter_cons_of_neg (by simp [e])
      rw [this, zip_keep ks vs (by rw [← e]; exact hn.1)]
      rfl
    · rw [if_neg e] at h
      obtain ⟨m, hm, rfl⟩ := Option.map_eq_some_iff.mp h
      have : dropK ((q, v) :: ks.zip vs) k = (q, v) :: dropK (ks.zip vs) k := List.filter_cons_of_pos (by simp [e])
      rw [this, dropK_zip (by simpa using hl) hn.2 hm]
      rfl
end
/-- what a method of dicts does: the keys and the values, the arguments; what is told, the keys and the values then -/
abbrev DKn := Bool → List Ky → List D → List D → Option (D × List Ky × List D)
def HrD (mg : Str → Option Value) (r : V → List V → Hp → VK → Prop) (k : DKn) : Prop :=
  ∀ (H : Hp) (B : Addr → Prop) (a : Addr) (t : Bool) (ks : List Ky) (vs us : List V) (o : HO) (xs ds ys : List D) (d : D) (ks' : List Ky) (Q : VK), vs.length = ks.length → Dobj o ks vs t → H a = some o → Reps mg H B xs vs [] → Reps mg H B ds us [] → k t ks xs ds = some (d, ks', ys) →
    (∀ u ws o', Rep mg H B d u [] → Reps mg H B ys ws [] → ws.length = ks'.length → Dobj o' ks' ws t → (∀ zs, o' ≠ .tup zs) → Q u (upd H a o')) → r (.ref a) us H Q
theorem upd_id {H : Hp} {a : Addr} {o : HO} (h : H a = some o) : upd H a o = H := by
  funext b
  by_cases e : b = a
  · subst e; rw [upd_same, h]
  · rw [upd_ne e]
theorem Dobj.nt {o : HO} {ks : List Ky} {vs : List V} : ∀ {t : Bool}, Dobj o ks vs t → ∀ zs, o ≠ .tup zs
  | false, ⟨_, _, h⟩, _ => by rw [h]; intro z; cases z
  | true, ⟨_, _, h⟩, _ => by rw [h]; intro z; cases z
/-- d.pop(k) -/
def dpopK : DKn
  | t, ks, xs, [kd] => (keyD kd).bind fun k => if Kd t k = true ∧ ks.Nodup then (idxG ks k).bind fun n => (xs[n]?).map fun d => (d, ks.eraseIdx n, xs.eraseIdx n) else none
  | _, _, _, _ => none
theorem nodup_of_map {α β : Type} {f : α → β} {l : List α} (h : (l.map f).Nodup) : l.Nodup := List.Pairwise.imp (fun {a b} h e => h (by rw [e])) (List.pairwise_map.mp h)
theorem map_eraseIdx' {α β : Type} (f : α → β) : ∀ (l : List α) (j : Nat), (l.map f).eraseIdx j = (l.eraseIdx j).map f
  | [], _ => rfl
  | _ :: _, 0 => rfl
  | x :: l, j + 1 => by
    show f x :: (l.map f).eraseIdx j = f x :: (l.eraseIdx j).map f
    rw [map_eraseIdx' f l j]
theorem erase_len {α β : Type} : ∀ {l : List α} {m : List β} (n : Nat), l.length = m.length → (l.eraseIdx n).length = (m.eraseIdx n).length
  | [], [], _, _ => rfl
  | [], _ :: _, _, h => by simp at h
  | _ :: _, [], _, h => by simp at h
  | _ :: l, _ :: m, 0, h => by simpa using h
  | _ :: l, _ :: m, n + 1, h => by
    rw [List.eraseIdx_cons_succ, List.eraseIdx_cons_succ, List.length_cons, List.length_cons, erase_len n (by simpa using h)]
theorem hr_dpop {mg : Str → Option Value} : HrD mg rPop1 dpopK := by
  intro H B a t ks vs us o xs ds ys d ks' Q hl dob ha rx rd hk q
  obtain ⟨kd, rfl⟩ : ∃ kd, ds = [kd] := by
    cases ds with
    | nil => cases hk
    | cons kd ds => cases ds with
      | nil => exact ⟨kd, rfl⟩
      | cons _ _ => cases hk
  · obtain ⟨u, rfl, ru⟩ := reps1 rd
    obtain ⟨k, ek, h2⟩ := Option.bind_eq_some_iff.mp hk
    split at h2
    · rename_i hc
      obtain ⟨n, en, h3⟩ := Option.bind_eq_some_iff.mp h2
      obtain ⟨e, he, h4⟩ := Option.map_eq_some_iff.mp h3
      cases h4
      obtain ⟨v, hv, rv⟩ := rx.get he
      refine ⟨a, u, v, rfl, rfl, ?_⟩
      have fin := fun o' (dn : Dobj o' (ks.eraseIdx n) (vs.eraseIdx n) t) => q v (vs.eraseIdx n) o' rv (rx.eraseIdx n) (erase_len n hl) dn dn.nt
      cases t with
      | false =>
        cases k with
        | inr k => cases hc.1
        | inl k =>
          obtain ⟨k', rfl, rfl⟩ := dob
          rw [List.length_map] at hl
          have e1 : idxG (k'.map Sum.inl) (Sum.inl k : Ky) = idxG k' k := idxG_map (f := Sum.inl) (fun _ _ z => Sum.inl.inj z) k k'
          rw [e1] at en
          refine .inl ⟨_, k, ha, keyD_inl ek ru, by rw [valV_zip hl.symm, en]; exact hv, fin _ ⟨k'.eraseIdx n, map_eraseIdx' _ _ _, ?_⟩⟩
          rw [dropK_zip hl.symm (nodup_of_map hc.2) en]
      | true =>
        cases k with
        | inl k => cases hc.1
        | inr k =>
          obtain ⟨k', rfl, rfl⟩ := dob
          rw [List.length_map] at hl
          have e1 : idxG (k'.map Sum.inr) (Sum.inr k : Ky) = idxG k' k := idxG_map (f := Sum.inr) (fun _ _ z => Sum.inr.inj z) k k'
          rw [e1] at en
          obtain ⟨b, rfl, hb⟩ := keyD_inr ek ru
          refine .inr ⟨_, k, b, ha, rfl, hb, by rw [valV_zip hl.symm, en]; exact hv, fin _ ⟨k'.eraseIdx n, map_eraseIdx' _ _ _, ?_⟩⟩
          rw [dropK_zip hl.symm (nodup_of_map hc.2) en]
    · cases h2
/-- d.setdefault(k, v) -/
def dsetK : DKn
  | t, ks, xs, [kd, v] => (keyD kd).bind fun k => if Kd t k = true ∧ ks.Nodup ∧ ks.length < sizeLine then (match idxG ks k with
      | some n => (xs[n]?).map fun d => (d, ks, xs)
      | none => some (v, ks ++ [k], xs ++ [v])) else none
  | _, _, _, _ => none
theorem hr_dset {mg : Str → Option Value} : HrD mg rSetd dsetK := by
  intro H B a t ks vs us o xs ds ys d ks' Q hl dob ha rx rd hk q
  obtain ⟨kd, vd, rfl⟩ : ∃ kd vd, ds = [kd, vd] := by
    cases ds with
    | nil => cases hk
    | cons kd ds => cases ds with
      | nil => cases hk
      | cons vd ds => cases ds with
        | nil => exact ⟨kd, vd, rfl⟩
        | cons _ _ => cases hk
  · obtain ⟨u, w, rfl, ru, rw'⟩ := reps2 rd
    obtain ⟨k, ek, h2⟩ := Option.bind_eq_some_iff.mp hk
    split at h2
    · rename_i hc
      refine ⟨a, u, w, rfl, rfl, ?_⟩
      cases t with
      | false =>
        cases k with
        | inr k => cases hc.1
        | inl k =>
          obtain ⟨k', rfl, rfl⟩ := id dob
          have hl0 := hl
          rw [List.length_map] at hl
          have hlk : k'.length < sizeLine := by have := hc.2.2; rw [List.length_map] at this; exact this
          have e1 : idxG (k'.map Sum.inl) (Sum.inl k : Ky) = idxG k' k := idxG_map (f := Sum.inl) (fun _ _ z => Sum.inl.inj z) k k'
          rw [e1] at h2
          refine .inl ⟨_, k, ha, keyD_inl ek ru, by rw [List.length_zip]; omega, fun v hv => ?_, fun hv => ?_⟩
          · rw [valV_zip hl.symm] at hv
            obtain ⟨n, en, hn⟩ := Option.bind_eq_some_iff.mp hv
            rw [en] at h2
            obtain ⟨e, he, h4⟩ := Option.map_eq_some_iff.mp h2
            cases h4
            obtain ⟨v', hv', rv⟩ := rx.get he
            have ev := Option.some.inj (hn.symm.trans hv')
            subst ev
            have := q v vs _ rv rx hl0 dob (Dobj.nt dob)
            rwa [upd_id ha] at this
          · rw [valV_zip hl.symm] at hv
            have en : idxG k' k = none := by
              cases en : idxG k' k with
              | none => rfl
              | some n =>
                rw [en] at hv
                have hn := idxG_some en
                have := (List.getElem?_eq_some_iff.mp hn).1
                have : vs[n]? = none := hv
                rw [List.getElem?_eq_none_iff] at this
                omega
            rw [en] at h2
            cases h2
            have pz := putK_zip (k := k) (v := w) hl.symm (nodup_of_map hc.2.1)
            rw [en] at pz
            refine q w (vs ++ [w]) _ rw' (Reps.append (as := []) (bs := []) rx (Reps.cons (as := []) (bs := []) rw' Reps.nil)) (by simp [hl]) ⟨k' ++ [k], by simp, ?_⟩ (fun _ z => HO.noConfusion z)
            rw [pz]
      | true =>
        cases k with
        | inl k => cases hc.1
        | inr k =>
          obtain ⟨k', rfl, rfl⟩ := id dob
          have hl0 := hl
          rw [List.length_map] at hl
          have hlk : k'.length < sizeLine := by have := hc.2.2; rw [List.length_map] at this; exact this
          have e1 : idxG (k'.map Sum.inr) (Sum.inr k : Ky) = idxG k' k := idxG_map (f := Sum.inr) (fun _ _ z => Sum.inr.inj z) k k'
          rw [e1] at h2
          obtain ⟨b, rfl, hb⟩ := keyD_inr ek ru
          refine .inr ⟨_, k, b, ha, rfl, hb, by rw [List.length_zip]; omega, fun v hv => ?_, fun hv => ?_⟩
          · rw [valV_zip hl.symm] at hv
            obtain ⟨n, en, hn⟩ := Option.bind_eq_some_iff.mp hv
            rw [en] at h2
            obtain ⟨e, he, h4⟩ := Option.map_eq_some_iff.mp h2
            cases h4
            obtain ⟨v', hv', rv⟩ := rx.get he
            have ev := Option.some.inj (hn.symm.trans hv')
            subst ev
            have := q v vs _ rv rx hl0 dob (Dobj.nt dob)
            rwa [upd_id ha] at this
          · rw [valV_zip hl.symm] at hv
            have en : idxG k' k = none := by
              cases en : idxG k' k with
              | none => rfl
              | some n =>
                rw [en] at hv
                have hn := idxG_some en
                have := (List.getElem?_eq_some_iff.mp hn).1
                have : vs[n]? = none := hv
                rw [List.getElem?_eq_none_iff] at this
                omega
            rw [en] at h2
            cases h2
            have pz := putK_zip (k := k) (v := w) hl.symm (nodup_of_map hc.2.1)
            rw [en] at pz
            refine q w (vs ++ [w]) _ rw' (Reps.append (as := []) (bs := []) rx (Reps.cons (as := []) (bs := []) rw' Reps.nil)) (by simp [hl]) ⟨k' ++ [k], by simp, ?_⟩ (fun _ z => HO.noConfusion z)
            rw [pz]
    · cases h2
section
variable {X : Cx} {F : Fr} {W : WX} {e a b c : Expr} {es : List Expr} {fv fa fb fc : List Nat} {me ma mb mc : En → Res D} {ms : List (En → Res D)} {pos pos' p1 p2 apos apos2 cpos cpos2 : Pos} {i j : Nat} {x y name : Str} {id : String} {r : V → List V → Hp → VK → Prop} {k : DKn}
theorem tyV_dict {K : PySem.W.Frag} {H : Hp} {a : Addr} {o : HO} {ks : List Ky} {vs : List V} : ∀ {t : Bool}, Dobj o ks vs t → H a = some o → tyV K "dict" (.ref a) H
  | false, ⟨_, _, h⟩, e => by rw [h] at e; exact .inr (.inr (.inl ⟨rfl, .inl ⟨_, e⟩⟩))
  | true, ⟨_, _, h⟩, e => by rw [h] at e; exact .inr (.inr (.inl ⟨rfl, .inr ⟨_, e⟩⟩))
/-- d.m(..) as a statement, d a dict that a name owns -/
def dmE (i : Nat) (k : DKn) (ms : List (En → Res D)) : En → Out := fun ρ => match ρ[i]? with
  | some (some (.node (.dct true t ks) xs)) => if pures xs = true then thenE (seqs ms (frzE ρ)) ρ fun ds => match k t ks xs (frzs ds) with
      | some (d, ks', ys) => if pures ys = true then .nx (ρ.set i (some (.node (.dct true t ks') ys))) else .no
      | none => .no
    else .no
  | _ => .no
theorem ds_dmE (slot : Slot "dict" name id) (hty : typeOf (.builtin id) = pure (.type "method_descriptor")) (hm : MtR X id r) (hr : HrD X.mg r k) (ha : DA X W (e :: es) fv (seqs ms)) (hN : X.N[i]? = some x := by rfl) (hv : Vis X.env.scope x := by first | exact Or.inl rfl | exact Or.inr (Or.inl rfl) | exact Or.inr (Or.inr rfl)) (hd : (x == ("__debug__" : Str)) = false := by decide) (hcd : (x == ("__classdict__" : Str)) = false := by decide)
    (hbase : attributeBase (.Name x p1) name X.env (eval (.Name x p1) X.env) = eval (.Name x p1) X.env := by rfl)
    (hfew : ((backTo cpos (starEach (e :: es) X.env)).all (fun x => !x.1) && (backToKw cpos (keywordEach [] X.env)).all (fun x => x.1.isSome) && decide ((e :: es).length + ([] : List Keyword).length + (if ([] : List Keyword).isEmpty then 0 else 1) < 30)) = true := by rfl)
    (hline : (apos.endLine == cpos.line) = true := by rfl) (hs : starEach (e :: es) X.env = (false, eval e X.env) :: starEach es X.env := by rfl) (hplain : (backTo cpos (starEach es X.env)).any (·.1) = false := by rfl) (hsw : swapsWith (.Call (.Attribute (.Name x p1) name apos) (e :: es) [] cpos) none pos.line X.env = pure false := by rfl) :
    DS X F W (.Expr (.Call (.Attribute (.Name x p1) name apos) (e :: es) [] cpos) pos) (dmE i k ms) := by
  refine PS.mk (ps_expr (pe_bm PySem.F.plainAttrs_dict slot hty hm (pe_var hN hv hd hcd) ha hbase hfew hline hs hplain) hsw) fun D σ H bn ⟨ω, ρ, b, hp⟩ => ?_
  unfold dmE at hp
  split at hp
  · rename_i t ks xs ex
    split at hp
    · rename_i hx
      obtain ⟨a, vs, cs, h1, h2, h3, h4, h5⟩ := b.node rfl ex
      have hcs := Reps.purev hx h3
      subst hcs
      have ha := h5 a List.mem_cons_self
      obtain ⟨hl, o, dob, ho⟩ := h2
      refine ⟨.ref a, h1, tyV_dict dob ho, b.eval hp fun ds ed us H' as bn' s r' f n hp3 b' => ?_⟩
      rw [ed] at hp
      have hp0 : PostS X F W ω H (match k t ks xs (frzs ds) with
      | some (d, ks', ys) => if pures ys = true then .nx (ρ.set i (some (.node (.dct true t ks') ys))) else .no
      | none => .no) D := hp
      cases ek : k t ks xs (frzs ds) with
      | none => rw [ek] at hp0; exact hp0.elim
      | some dy =>
        obtain ⟨d, ks', ys⟩ := dy
        rw [ek] at hp0
        have hp1 : PostS X F W ω H (if pures ys = true then .nx (ρ.set i (some (.node (.dct true t ks') ys))) else .no) D := hp0
        split at hp1
        · rename_i py
          refine hr H' (Bx X ω fv) a t ks vs us o xs (frzs ds) ys d ks' _ hl dob (s _ _ ho) (Reps.step (h3.same s) (fun _ _ z _ => z) fun c _ h z => h (bx_sub z)) (r'.view (b.bdom fv) f) ek fun u ws o' rd ry hlw dob' nt' => ?_
          obtain ⟨ω', b2, s2⟩ := b'.putn (t := .dct true t ks') (ys := ys) (ws := ws) (u := o') (cs := []) (ltN hN) h1 (Same.refl _) ha (fun _ z => nomatch z) (by simp) rfl ⟨hlw, o', dob', upd_same⟩ nt'
            (Reps.unsh (fun c hc zs z => by
              rcases hc with hc | hc
              · exact b'.nt c hc zs z
              · cases hc) (pures_shr _ py) ry) fun _ z => nomatch z
          exact hp1 ω' σ _ b2 ((Step.same s).trans s2)
        · exact hp1.elim
    · exact hp.elim
  · exact hp.elim
/-! ### d.setdefault(k, []).append(v) -/
theorem Dobj.uniq {ks : List Ky} {vs vs' : List V} {o : HO} (l1 : vs.length = ks.length) (l2 : vs'.length = ks.length) : ∀ {t : Bool}, Dobj o ks vs t → Dobj o ks vs' t → vs = vs'
  | false, ⟨k1, q1, q2⟩, ⟨k2, q3, q4⟩ => by
    have : k1 = k2 := map_inj_of (fun _ _ z => Sum.inl.inj z) (q1.symm.trans q3)
    subst this
    rw [q2] at q4
    have h0 := HO.dK.inj q4
    rw [q1, List.length_map] at l1 l2
    have := congrArg (List.map Prod.snd) h0
    rwa [List.map_snd_zip (by omega), List.map_snd_zip (by omega)] at this
  | true, ⟨k1, q1, q2⟩, ⟨k2, q3, q4⟩ => by
    have : k1 = k2 := map_inj_of (fun _ _ z => Sum.inr.inj z) (q1.symm.trans q3)
    subst this
    rw [q2] at q4
    have h0 := HO.dT.inj q4
    rw [q1, List.length_map] at l1 l2
    have := congrArg (List.map Prod.snd) h0
    rwa [List.map_snd_zip (by omega), List.map_snd_zip (by omega)] at this
theorem Reps.nest {mg : Str → Option Value} {H H1 : Hp} {B : Addr → Prop} {l : Addr} {old new : D} (hk : ∀ c o, H c = some o → c ≠ l → NTb o → H1 c = some o) (hl : B l) (hold : ∀ bs, Rep mg H B old (.ref l) bs → bs = [l]) (r1 : Rep mg H1 B new (.ref l) [l]) :
    ∀ {xs : List D} {vs : List V} {as : List Addr} {n : Nat}, Reps mg H B xs vs as → as.Nodup → xs[n]? = some old → vs[n]? = some (.ref l) → Reps mg H1 B (xs.set n new) vs as
  | [], _, _, _, _, _, e, _ => by simp at e
  | x :: xs, vs, as, n, h, nd, e, ev => by
    rw [Reps] at h
    obtain ⟨w, ws, a1, a2, rfl, rfl, h1, h2⟩ := h
    obtain ⟨n1, n2, n12⟩ := List.nodup_append.mp nd
    cases n with
    | zero =>
      have e1 : x = old := by simpa using e
      have e2 : w = .ref l := by simpa using ev
      subst e1; subst e2
      have := hold a1 h1
      subst this
      rw [List.set_cons_zero]
      refine Reps.cons r1 (Reps.stepN h2 (fun c o ho n hc => hk c o ho ?_ n) fun _ _ z => z)
      rintro rfl
      rcases hc with hc | hc
      · exact n12 c List.mem_cons_self c hc rfl
      · exact hc hl
    | succ n =>
      have e1 : xs[n]? = some old := by simpa using e
      have e2 : ws[n]? = some (.ref l) := by simpa using ev
      obtain ⟨v, bs, q1, q2, q3, q4⟩ := Reps.at_ h2 e1
      rw [e2] at q1
      cases q1
      have hb := hold bs q2
      subst hb
      have hla := q4 l List.mem_cons_self
      rw [List.set_cons_succ]
      refine Reps.cons (Rep.stepN h1 (fun c o ho n hc => hk c o ho ?_ n) fun _ _ z => z) (Reps.nest hk hl hold r1 h2 n2 e1 e2)
      rintro rfl
      rcases hc with hc | hc
      · exact n12 c hc c hla rfl
      · exact hc hl
theorem BI.nest {ω : Own} {ρ : En} {σ : St} {H : Hp} {t : Bool} {ks : List Ky} {xs ys : List D} {n : Nat} (b : BI X F ω ρ σ H) (hi : i < X.N.length) (e : ρ[i]? = some (some (.node (.dct true t ks) xs))) (hn : xs[n]? = some (.node (.lst true) ys)) (py : pures ys = true) :
    ∃ a vs o l ws, σ[i]? = some (some (.ref a)) ∧ vs.length = ks.length ∧ Dobj o ks vs t ∧ H a = some o ∧ vs[n]? = some (.ref l) ∧ H l = some (.lst ws) ∧ ws.length = ys.length ∧ ∀ H' d v, Same H H' → d.pure = true → Rep X.mg H' (fun c => ω c ≠ none) d v [] →
      ∃ ω', BI X F ω' (ρ.set i (some (.node (.dct true t ks) (xs.set n (.node (.lst true) (ys ++ [d])))))) σ (upd H' l (.lst (ws ++ [v]))) ∧ Step X ω H ω' (upd H' l (.lst (ws ++ [v]))) := by
  obtain ⟨a, vs, cs, h1, ⟨hl, o, dob, ho⟩, h3, h4, h5⟩ := b.node rfl e
  obtain ⟨v0, bs, q1, q2, q3, q4⟩ := h3.at_ hn
  rw [Rep] at q2
  obtain ⟨l, ws, bs', rfl, hl1, hr1, q⟩ := q2
  have hbs := Reps.purev py hr1
  subst hbs
  have hbl : bs = [l] := by
    rcases q with ⟨_, q⟩ | ⟨q, _⟩
    · exact q
    · cases q
  subst hbl
  have hlc : l ∈ cs := q4 l List.mem_cons_self
  have hl1' : H l = some (.lst ws) := hl1
  obtain ⟨hac, hnc⟩ := List.nodup_cons.mp h4
  refine ⟨a, vs, o, l, ws, h1, hl, dob, ho, q1, hl1', hr1.length.symm, fun H' d v s pd rv => ?_⟩
  have hωl : ω l = some i := h5 l (List.mem_cons_of_mem _ hlc)
  have hal : a ≠ l := fun z => hac (by rw [z]; exact hlc)
  have hkk : ∀ c o, H c = some o → c ≠ l → NTb o → upd H' l (.lst (ws ++ [v])) c = some o := fun c o h hc n => by rw [upd_ne hc]; exact s.kp c o h n
  have hl0 : ∀ vs', H' l ≠ some (.tup vs') := fun vs' z => by rw [s _ _ hl1'] at z; cases z
  have rnew : Rep X.mg (upd H' l (.lst (ws ++ [v]))) (fun c => ω c ≠ none) (.node (.lst true) (ys ++ [d])) (.ref l) [l] := by
    rw [Rep]
    refine ⟨l, ws ++ [v], [], rfl, upd_same, ?_, .inl ⟨rfl, rfl⟩⟩
    have rall : Reps X.mg H' (fun c => ω c ≠ none) (ys ++ [d]) (ws ++ [v]) [] := Reps.append (as := []) (bs := []) (hr1.same s) (Reps.cons (as := []) (bs := []) rv Reps.nil)
    refine Reps.step rall (fun c o h hc => ?_) fun _ _ z => z
    rw [upd_ne]
    · exact h
    · rintro rfl
      rcases hc with hc | hc
      · cases hc
      · exact hc (by rw [hωl]; intro z; cases z)
  have rn := Reps.nest (mg := X.mg) (H := H) (H1 := upd H' l (.lst (ws ++ [v]))) (B := fun c => ω c ≠ none) (l := l) (old := .node (.lst true) ys) (new := .node (.lst true) (ys ++ [d])) hkk (by rw [hωl]; intro z; cases z) (fun bs rb => by
    rw [Rep] at rb
    obtain ⟨l', ws', bs', e1, _, hr', q⟩ := rb
    cases e1
    have := Reps.purev py hr'
    subst this
    rcases q with ⟨_, q⟩ | ⟨q, _⟩
    · exact q
    · cases q) rnew h3 hnc hn q1
  have key := b.put (H1 := upd H' l (.lst (ws ++ [v]))) (d := .node (.dct true t ks) (xs.set n (.node (.lst true) (ys ++ [d])))) (v := .ref a) (as := a :: cs) hi (fun c o h hc n => hkk c o h (by rintro rfl; exact hc hωl) n) (fun c h => by
      by_cases hc : c = l
      · subst hc; rw [upd_same]; intro z; cases z
      · rw [upd_ne hc]; exact Same.there s h) (b.tu hωl hi s) (by
      rw [Rep]
      refine ⟨a, vs, cs, rfl, ⟨hl, o, dob, hkk a o ho hal (NTb.dobj dob)⟩, Reps.step rn (fun _ _ z _ => z) (fun c h1 h2 h3 => ?_), .inl ⟨rfl, rfl⟩⟩
      have e0 : ω c = none := Classical.byContradiction fun z => h2 z
      unfold setO at h3
      rw [if_neg fun z => ?_, e0] at h3
      · simp at h3
      · rw [h5 c z] at e0; cases e0) h4 (fun c hc => .inl (h5 c hc)) (fun c hc => by
      by_cases hcl : c = l
      · subst hcl; exact ⟨_, upd_same, fun _ z => HO.noConfusion z⟩
      · obtain ⟨o', ho', t'⟩ := b.dom c i (h5 c hc)
        exact ⟨o', hkk c o' ho' hcl (b.pl c i (h5 c hc) (Nat.ne_of_lt hi) o' ho').1, t'⟩)
  rw [set_self h1] at key
  exact ⟨_, key⟩
/-- the value goes into the list at the key -/
def mdapp2 (i : Nat) (t : Bool) (ks : List Ky) (xs : List D) (n : Nat) (me : En → Res D) : En → Out := fun ρ => match xs[n]? with
  | some (.node (.lst true) ys) => if pures ys = true ∧ ys.length < sizeLine then thenE (me (frzE ρ)) ρ fun d => if d.pure = true then .nx (ρ.set i (some (.node (.dct true t ks) (xs.set n (.node (.lst true) (ys ++ [d])))))) else .no else .no
  | _ => .no
def mdapp (i : Nat) (mk me : En → Res D) : En → Out := fun ρ => match ρ[i]? with
  | some (some (.node (.dct true t ks) xs)) => thenE (seqs [mk, mlst []] (frzE ρ)) ρ fun ds => match ds with
      | [kd, .node (.lst true) []] => (match keyD kd.frz with
        | some k => if Kd t k = true ∧ ks.Nodup ∧ ks.length < sizeLine then (match idxG ks k with
            | some n => mdapp2 i t ks xs n me ρ
            | none => mdapp2 i t (ks ++ [k]) (xs ++ [.node (.lst true) []]) xs.length me (ρ.set i (some (.node (.dct true t (ks ++ [k])) (xs ++ [.node (.lst true) []]))))) else .no
        | none => .no)
      | _ => .no
  | _ => .no
theorem mdapp2_read {ω : Own} {ρ : En} {σ : St} {H : Hp} {Dn : Ends} {t : Bool} {ks : List Ky} {xs : List D} {n : Nat} (b : BI X F ω ρ σ H) (hi : i < X.N.length) (e : ρ[i]? = some (some (.node (.dct true t ks) xs))) (hp : PostS X F W ω H (mdapp2 i t ks xs n me ρ) Dn) :
    ∃ a vs o l ws, σ[i]? = some (some (.ref a)) ∧ vs.length = ks.length ∧ Dobj o ks vs t ∧ H a = some o ∧ vs[n]? = some (.ref l) ∧ H l = some (.lst ws) ∧ Tv (Rep X.mg) W X.mg fv me σ H fun v H3 => ∃ l' xs y, V.ref l = .ref l' ∧ [v] = [y] ∧ H3 l' = some (.lst xs) ∧ xs.length < sizeLine ∧ Dn.nx σ (upd H3 l' (.lst (xs ++ [y]))) := by
  unfold mdapp2 at hp
  split at hp
  · rename_i ys hn
    split at hp
    · rename_i hy
      obtain ⟨a, vs, o, l, ws, h1, h2, h3, h4, h5, h6, h7, h8⟩ := b.nest hi e hn hy.1
      refine ⟨a, vs, o, l, ws, h1, h2, h3, h4, h5, h6, b.eval hp fun d ed v H' as bn' s r' f n' hp3 b' => ?_⟩
      rw [ed] at hp
      have hp0 : PostS X F W ω H (if d.pure = true then .nx (ρ.set i (some (.node (.dct true t ks) (xs.set n (.node (.lst true) (ys ++ [d])))))) else .no) Dn := hp
      split at hp3
      · rename_i pd
        rw [if_pos pd] at hp0
        have has := Rep.purev pd r'
        subst has
        have rv : Rep X.mg H' (fun c => ω c ≠ none) d v [] := Rep.unsh (fun c hc zs => (b.to s).nt c hc zs) (D.pure_shr _ pd) r'
        obtain ⟨ω', b2, s2⟩ := h8 H' d v s pd rv
        exact ⟨l, ws, v, rfl, rfl, s _ _ h6, by rw [h7]; exact hy.2, hp0 ω' σ _ b2 s2⟩
      · exact hp3.elim
    · exact hp.elim
  · exact hp.elim
theorem rSetd_of {H : Hp} {a : Addr} {t : Bool} {ks : List Ky} {vs : List V} {o : HO} {y d : V} {k : Ky} {Q : VK} (hl : vs.length = ks.length) (dob : Dobj o ks vs t) (ho : H a = some o) (hk : Kd t k = true) (hy : KyRep H y k) (nd : ks.Nodup) (hlen : ks.length < sizeLine)
    (h1 : ∀ n v, idxG ks k = some n → vs[n]? = some v → Q v H) (h2 : idxG ks k = none → ∀ o', Dobj o' (ks ++ [k]) (vs ++ [d]) t → (∀ zs, o' ≠ .tup zs) → Q d (upd H a o')) : rSetd (.ref a) [y, d] H Q := by
  refine ⟨a, y, d, rfl, rfl, ?_⟩
  have non : ∀ {κ : Type} [DecidableEq κ] {k : κ} {k' : List κ}, vs.length = k'.length → ((idxG k' k).bind fun n => vs[n]?) = none → idxG k' k = none := fun {κ} _ {k} {k'} hl hv => by
    cases en : idxG k' k with
    | none => rfl
    | some n =>
      rw [en] at hv
      have := (List.getElem?_eq_some_iff.mp (idxG_some en)).1
      have h0 : vs[n]? = none := hv
      rw [List.getElem?_eq_none_iff] at h0
      omega
  cases t with
  | false =>
    cases k with
    | inr k => cases hk
    | inl k =>
      obtain ⟨k', rfl, rfl⟩ := id dob
      rw [List.length_map] at hl hlen
      have e1 : idxG (k'.map Sum.inl) (Sum.inl k : Ky) = idxG k' k := idxG_map (f := Sum.inl) (fun _ _ z => Sum.inl.inj z) k k'
      rw [e1] at h1 h2
      refine .inl ⟨_, k, ho, hy, by rw [List.length_zip]; omega, fun v hv => ?_, fun hv => ?_⟩
      · rw [valV_zip hl.symm] at hv
        obtain ⟨n, en, hn⟩ := Option.bind_eq_some_iff.mp hv
        exact h1 n v en hn
      · rw [valV_zip hl.symm] at hv
        have en := non hl hv
        have pz := putK_zip (k := k) (v := d) hl.symm (nodup_of_map nd)
        rw [en] at pz
        rw [pz]
        exact h2 en _ ⟨k' ++ [k], by simp, rfl⟩ (fun _ z => HO.noConfusion z)
  | true =>
    cases k with
    | inl k => cases hk
    | inr k =>
      obtain ⟨k', rfl, rfl⟩ := id dob
      rw [List.length_map] at hl hlen
      have e1 : idxG (k'.map Sum.inr) (Sum.inr k : Ky) = idxG k' k := idxG_map (f := Sum.inr) (fun _ _ z => Sum.inr.inj z) k k'
      rw [e1] at h1 h2
      obtain ⟨b, rfl, hb⟩ := hy
      refine .inr ⟨_, k, b, ho, rfl, hb, by rw [List.length_zip]; omega, fun v hv => ?_, fun hv => ?_⟩
      · rw [valV_zip hl.symm] at hv
        obtain ⟨n, en, hn⟩ := Option.bind_eq_some_iff.mp hv
        exact h1 n v en hn
      · rw [valV_zip hl.symm] at hv
        have en := non hl hv
        have pz := putK_zip (k := k) (v := d) hl.symm (nodup_of_map nd)
        rw [en] at pz
        rw [pz]
        exact h2 en _ ⟨k' ++ [k], by simp, rfl⟩ (fun _ z => HO.noConfusion z)
theorem ds_dapp (hu : X.A.units + 1 < cLine) (hk : DE X W a fa ma) (he : DE X W e fv me) (hN : X.N[i]? = some x := by rfl) (hv : Vis X.env.scope x := by first | exact Or.inl rfl | exact Or.inr (Or.inl rfl) | exact Or.inr (Or.inr rfl)) (hd : (x == ("__debug__" : Str)) = false := by decide) (hcd : (x == ("__classdict__" : Str)) = false := by decide)
    (hbase0 : attributeBase (.Name x p1) "setdefault" X.env (eval (.Name x p1) X.env) = eval (.Name x p1) X.env := by rfl)
    (hfew0 : ((backTo cpos (starEach [a, .List [] p2] X.env)).all (fun x => !x.1) && (backToKw cpos (keywordEach [] X.env)).all (fun x => x.1.isSome) && decide ([a, .List [] p2].length + ([] : List Keyword).length + (if ([] : List Keyword).isEmpty then 0 else 1) < 30)) = true := by rfl)
    (hline0 : (apos.endLine == cpos.line) = true := by rfl) (hsa : starEach [a, .List [] p2] X.env = (false, eval a X.env) :: starEach [.List [] p2] X.env := by rfl) (hsl : starEach [.List [] p2] X.env = (false, eval (.List [] p2) X.env) :: starEach [] X.env := by rfl) (hplain0 : (backTo cpos (starEach [.List [] p2] X.env)).any (·.1) = false := by rfl)
    (hbase : attributeBase (.Call (.Attribute (.Name x p1) "setdefault" apos) [a, .List [] p2] [] cpos) "append" X.env (eval (.Call (.Attribute (.Name x p1) "setdefault" apos) [a, .List [] p2] [] cpos) X.env) = eval (.Call (.Attribute (.Name x p1) "setdefault" apos) [a, .List [] p2] [] cpos) X.env := by rfl)
    (hs0 : starEach [e] X.env = (false, eval e X.env) :: starEach [] X.env := by rfl)
    (hfew : ((backTo cpos2 (starEach [e] X.env)).all (fun x => !x.1) && (backToKw cpos2 (keywordEach [] X.env)).all (fun x => x.1.isSome) && decide ([e].length + ([] : List Keyword).length + (if ([] : List Keyword).isEmpty then 0 else 1) < 30)) = true := by rfl)
    (hline : (apos2.endLine == cpos2.line) = true := by rfl) (hplain : (backTo cpos2 (starEach [] X.env)).any (·.1) = false := by rfl) (hsw : swapsWith (.Call (.Attribute (.Call (.Attribute (.Name x p1) "setdefault" apos) [a, .List [] p2] [] cpos) "append" apos2) [e] [] cpos2) none pos.line X.env = pure false := by rfl) :
    DS X F W (.Expr (.Call (.Attribute (.Call (.Attribute (.Name x p1) "setdefault" apos) [a, .List [] p2] [] cpos) "append" apos2) [e] [] cpos2) pos) (mdapp i ma me) := by
  refine PS.mk (ps_expr (pe_bm PySem.F.plainAttrs_list PySem.F.slot_list_append PySem.F.type_list_append mt_append (pe_bm PySem.F.plainAttrs_dict PySem.F.slot_dict_setdefault PySem.F.type_dict_setdefault (mt_setd hu) (pe_var hN hv hd hcd) (da_cons hk (da_cons (de_lst da_nil) da_nil hsl) hsa) hbase0 hfew0 hline0 hsa hplain0) (pa_cons he pa_nil hs0) hbase hfew hline hs0 hplain) hsw) fun D σ H bn ⟨ω, ρ, b, hp⟩ => ?_
  unfold mdapp at hp
  split at hp
  · rename_i t ks xs ex
    obtain ⟨a0, vs, bs, h1, ⟨hl, o, dob, ho⟩, h3, h4, h5⟩ := b.node rfl ex
    refine ⟨.ref a0, h1, tyV_dict dob ho, b.eval hp fun ds ed us H' as bn' s r' f nd hp3 b' => ?_⟩
    rw [ed] at hp
    split at hp3
    · rename_i kd
      split at hp3
      · rename_i k ek
        split at hp3
        · rename_i hc
          have hp1 : PostS X F W ω H (match keyD kd.frz with
            | some k => if Kd t k = true ∧ ks.Nodup ∧ ks.length < sizeLine then (match idxG ks k with
              | some n => mdapp2 i t ks xs n me ρ
              | none => mdapp2 i t (ks ++ [k]) (xs ++ [.node (.lst true) []]) xs.length me (ρ.set i (some (.node (.dct true t (ks ++ [k])) (xs ++ [.node (.lst true) []]))))) else .no
            | none => .no) D := hp
          rw [ek] at hp1
          have hp2 : PostS X F W ω H (if Kd t k = true ∧ ks.Nodup ∧ ks.length < sizeLine then (match idxG ks k with
              | some n => mdapp2 i t ks xs n me ρ
              | none => mdapp2 i t (ks ++ [k]) (xs ++ [.node (.lst true) []]) xs.length me (ρ.set i (some (.node (.dct true t (ks ++ [k])) (xs ++ [.node (.lst true) []]))))) else .no) D := hp1
          rw [if_pos hc] at hp2
          have rf := r'.view (b.bdom _) f
          obtain ⟨u1, u2, rfl, ru, rl⟩ := reps2 rf
          have rk := key_rep ek ru
          have hlx : xs.length = vs.length := h3.length
          rw [Reps] at r'
          obtain ⟨u1', ws', a1, a2, e1, rfl, _, r2⟩ := r'
          cases e1
          rw [Reps] at r2
          obtain ⟨u2', ws'', a3, a4, e2, rfl, r3, r4⟩ := r2
          cases e2
          rw [Reps] at r4
          obtain ⟨_, rfl⟩ := r4
          rw [Rep] at r3
          obtain ⟨l0, z0, z1, rfl, hl0, r5, q⟩ := r3
          rw [Reps] at r5
          obtain ⟨rfl, rfl⟩ := r5
          have ea3 : a3 = [l0] := by
            rcases q with ⟨_, q⟩ | ⟨q, _⟩
            · exact q
            · cases q
          subst ea3
          have fl0 : H l0 = none := f l0 (by simp)
          have hl0' : H' l0 = some (.lst []) := hl0
          refine rSetd_of hl dob (s _ _ ho) hc.1 rk hc.2.1 hc.2.2 (fun n v en hn => ?_) fun en o' dob' nt' => ?_
          · rw [en] at hp2
            obtain ⟨a', vs', o', l, ws, g1, g2, g3, g4, g5, g6, g7⟩ := mdapp2_read (fv := fv) b' (ltN hN) ex (PostS.step hp2 (Step.same s))
            rw [h1] at g1
            cases g1
            rw [s _ _ ho] at g4
            cases g4
            have := Dobj.uniq hl g2 dob g3
            subst this
            rw [hn] at g5
            cases g5
            exact ⟨tyV_list g6, g7⟩
          · rw [en] at hp2
            have hcs : ∀ c ∈ bs ++ [l0], ω c = some i ∨ H c = none := fun c hc => by
              rcases List.mem_append.mp hc with z | z
              · exact .inl (h5 c (List.mem_cons_of_mem _ z))
              · rw [List.mem_singleton] at z
                rw [z]; exact .inr fl0
            obtain ⟨hab, hnb⟩ := List.nodup_cons.mp h4
            have hlb : ∀ c ∈ a0 :: bs, c ≠ l0 := fun c hc z => by
              obtain ⟨oc, hoc, _⟩ := b.dom c i (h5 c hc)
              rw [z, fl0] at hoc; cases hoc
            have nnew : Reps X.mg H' (fun c => ω c ≠ none ∨ c ∈ bs ++ [l0]) [.node (.lst true) []] [.ref l0] [l0] := by
              refine Reps.cons (as := [l0]) (bs := []) ?_ Reps.nil
              rw [Rep]
              exact ⟨l0, [], [], rfl, hl0', Reps.nil, .inl ⟨rfl, rfl⟩⟩
            obtain ⟨ω2, b2, s2⟩ := b.putn (t := .dct true t (ks ++ [k])) (ys := xs ++ [.node (.lst true) []]) (ws := vs ++ [.ref l0]) (u := o') (cs := bs ++ [l0]) (ltN hN) h1 s (h5 a0 List.mem_cons_self) hcs
              (by
                rw [List.nodup_cons]
                refine ⟨fun z => ?_, List.nodup_append.mpr ⟨hnb, by simp, fun c hc c' hc' e => ?_⟩⟩
                · rcases List.mem_append.mp z with z | z
                  · exact hab z
                  · exact hlb a0 List.mem_cons_self (by simpa using z)
                · rw [List.mem_singleton] at hc'
                  exact hlb c (List.mem_cons_of_mem _ hc) (by rw [e, hc'])) rfl ⟨by simp [hl], o', dob', upd_same⟩ nt'
              (Reps.append (b.old hcs s h3) nnew) (fun c hc => by
                rcases List.mem_append.mp hc with z | z
                · obtain ⟨oc, hoc, nt⟩ := b.dom c i (h5 c (List.mem_cons_of_mem _ z))
                  exact s.nt hoc nt
                · rw [List.mem_singleton] at z
                  exact ⟨_, by rw [z]; exact hl0', fun _ z => HO.noConfusion z⟩)
            have hi' : i < ρ.length := (List.getElem?_eq_some_iff.mp ex).1
            obtain ⟨a', vs', o2, l, ws, g1, g2, g3, g4, g5, g6, g7⟩ := mdapp2_read (fv := fv) b2 (ltN hN) (List.getElem?_set_self hi') (PostS.step hp2 s2)
            rw [h1] at g1
            cases g1
            rw [upd_same] at g4
            cases g4
            have := Dobj.uniq (vs := vs ++ [.ref l0]) (by simp [hl]) g2 dob' g3
            subst this
            rw [hlx, List.getElem?_append_right (Nat.le_refl _), Nat.sub_self] at g5
            cases g5
            exact ⟨tyV_list g6, g7⟩
        · exact hp3.elim
      · exact hp3.elim
    · exact hp3.elim
  · exact hp.elim
end
end Ev

/-! Ev, part U: comprehensions over a dict that a name holds. -/
namespace Ev
open PySem PySem.Spec L2
open PyProof.Rows hiding St
section
variable {X : Cx} {W : WX} {e a b c tg elt : Expr} {es ifs : List Expr} {fv fa fb fc fe ft : List Nat} {m ma mb mc me : En → Res D} {mt : En → Res Bool} {ms : List (En → Res D)} {pos p : Pos}
theorem lc_readJ {fi : List Nat} {t : Tg} {ws : List Nat} {σ : St} {H : Hp} {ρ : En} {B : Addr → Prop} {Q : VK} {J : It} {ds : List D} (hws : ∀ q ∈ t.slots, q ∈ ws) (hwt : ∀ q ∈ ws, q ∈ t.slots) (hlen : ∀ q ∈ ws, q < σ.length)
    (en : EnOn X.mg (fi ++ (ft ++ fe).filter fun j => !t.slots.contains j) ρ σ H B) (bd : BDom B H) (ok : ItOk X.mg B H J ds) (hp0 : Post (Rep X.mg) W X.mg B σ H ((lcGo t mt me ρ (frzs ds)).bind fun ys => .ok (.lst true ys)) Q) :
    ∀ L, H L = none → ∃ Wk : Nat → Nat → Hp → Prop, (∃ m, Wk 0 m (upd H L (.lst []))) ∧ ∀ i m H, Wk i m H →
  (J.stop i H ∧ (Bnd H → Q (.ref L) H)) ∨ (J.go i H ∧ ∃ Nx : Hp → Prop, (∀ H', Nx H' → ∃ m', m' < m ∧ Wk (i + 1) m' H') ∧ ∀ x H', J.yld i H x H' → t.tg X.K x (wipe σ ws) H' fun σ2 H2 => wipe σ2 ws = wipe σ ws ∧ Tv RpB W0 X.mg ft mt σ2 H2 fun b H3 =>
    if b = true then Tv (Rep X.mg) W0 X.mg fe me σ2 H3 fun y H4 => ∃ acc, H4 L = some (.lst acc) ∧ acc.length < sizeLine ∧ Nx (upd H4 L (.lst (acc ++ [y]))) else Nx H3) := by
  have s1 : Same H H := Same.refl _
  have bd1 := bd
  intro L nL
  have nLH : H L = none := s1.free nL
  -- the avoided ones, with the new list
  have hBL : ∀ a, H a ≠ none → ¬ B a → ¬ (B a ∨ a = L) := fun a h1 h2 z => z.elim h2 fun e => h1 (by rw [e]; exact nL)
  refine ⟨fun i n H2 => n = ds.length - i ∧ i ≤ ds.length ∧ Same H H2 ∧ ∃ acc ys as, H2 L = some (.lst acc) ∧ acc.length ≤ i ∧ Reps X.mg H2 (fun a => B a ∨ a = L) ys acc as ∧ (∀ a ∈ as, H a = none) ∧ as.Nodup ∧ L ∉ as ∧
    Post (Rep X.mg) W X.mg B σ H ((lcGo t mt me ρ (frzs (ds.drop i))).bind fun zs => .ok (.lst true (ys ++ zs))) Q, ⟨ds.length, by simp, Nat.zero_le _, same_new nL, [], [], [], upd_same, Nat.le_refl _, Reps.nil, fresh0, List.nodup_nil, (fun z => nomatch z), hp0⟩, ?_⟩
  rintro i n H2 ⟨rfl, hi, s2, acc, ys, as, hL, hacc, ra, fa', na, nLa, hpi⟩
  have kp : Kp B H H2 := Kp.of s2
  by_cases hlt : i < ds.length
  · right
    have ed : ds[i]? = some ds[i] := List.getElem?_eq_getElem hlt
    obtain ⟨go, yl⟩ := ok.go H2 kp i _ ed
    refine ⟨go, fun H' => ∃ acc ys as, Same H H' ∧ H' L = some (.lst acc) ∧ acc.length ≤ i + 1 ∧ Reps X.mg H' (fun a => B a ∨ a = L) ys acc as ∧ (∀ a ∈ as, H a = none) ∧ as.Nodup ∧ L ∉ as ∧
      Post (Rep X.mg) W X.mg B σ H ((lcGo t mt me ρ (frzs (ds.drop (i + 1)))).bind fun zs => .ok (.lst true (ys ++ zs))) Q, fun H' ⟨acc', ys', as', h1, h2, h3, h4, h5, h6, h7, h8⟩ => ⟨ds.length - (i + 1), by omega, rfl, hlt, h1, acc', ys', as', h2, h3, h4, h5, h6, h7, h8⟩, fun x H3 y => ?_⟩
    obtain ⟨s3, rep⟩ := yl x H3 y
    have bdL2 : BDom (fun a => B a ∨ a = L) H2 := (bd1.same s2).of fun a z => z.elim (fun z => bd1.same s2 a z) fun e => ⟨.lst acc, (congrArg H2 e).trans hL, fun xs z => HO.noConfusion z⟩
    have rx := rep (fun a => B a ∨ a = L) hBL bdL2
    rw [List.drop_eq_getElem_cons hlt, frzs] at hpi
    unfold lcGo at hpi
    cases ep : t.parts (ds[i]).frz with
    | none => rw [ep] at hpi; exact hpi.elim
    | some xs =>
      rw [ep, Res.of_some, Res.bind_ok] at hpi
      have s13 := s2.trans s3
      have bdL3 := bdL2.same s3
      refine tg_set ep rx fun vs rvs lv lx => ⟨?_, ?_⟩
      · rw [wipe_setAll hws, wipe_wipe]
      · -- the names within
        have enI : EnOn X.mg (ft ++ fe) (setAll t.slots xs ρ) (setAll t.slots vs (wipe σ ws)) H3 (fun a => B a ∨ a = L) := by
          refine enOn_setAll (fun j hj d hd => ?_) lx (fun q hq => by rw [wipe_length]; exact hlen q (hws q hq)) rvs
          obtain ⟨v, hv, r⟩ := en.r j hj d hd
          have hn : j ∉ ws := fun z => by
            have := (List.mem_filter.mp hj).2
            have h2 := hwt j z
            simp [h2] at this
          refine ⟨v, by rw [wipe_get hn]; exact hv, Rep.kp ((r.same s1)) (Kp.of s13) hBL⟩
        refine ⟨_, _, enI.l, bdL3, ?_⟩
        cases ec : mt (setAll t.slots xs ρ) with
        | ex _ => rw [ec] at hpi; exact hpi.elim
        | no => rw [ec] at hpi; exact hpi.elim
        | ok c =>
          rw [ec] at hpi
          have hpi : Post (Rep X.mg) W X.mg B σ H ((if c = true then (nox (me (setAll t.slots xs ρ))).bind fun y => (lcGo t mt me ρ (frzs (ds.drop (i + 1)))).bind fun ys => .ok (y :: ys) else lcGo t mt me ρ (frzs (ds.drop (i + 1)))).bind fun zs => .ok (.lst true (ys ++ zs))) Q := hpi
          intro c' H4 _ bn4 s4 rc _ _
          obtain ⟨rfl, _⟩ := rc
          have s14 := s13.trans s4
          have s24 := s3.trans s4
          cases c' with
          | false =>
            rw [if_neg Bool.false_ne_true] at hpi ⊢
            exact ⟨acc, ys, as, s14, s24 _ _ hL, by omega, ra.same s24, fa', na, nLa, hpi⟩
          | true =>
            rw [if_pos rfl] at hpi ⊢
            refine ⟨_, _, enI.r.same s4, bdL3.same s4, ?_⟩
            cases ee : me (setAll t.slots xs ρ) with
            | ex _ => rw [ee] at hpi; exact hpi.elim
            | no => rw [ee] at hpi; exact hpi.elim
            | ok y =>
              rw [ee] at hpi
              intro v H5 bs bn5 s5 rv fv' nv
              have hL5 : H5 L = some (.lst acc) := s5 _ _ (s24 _ _ hL)
              have hl : acc.length < sizeLine := Nat.lt_of_le_of_lt hacc (Nat.lt_of_lt_of_le hlt ok.len)
              have nLbs : L ∉ bs := fun z => by
                have q1 := fv' L z
                rw [s24 _ _ hL] at q1
                cases q1
              have s15 := s14.trans s5
              have upL : ∀ {d : List D} {w : List V} {cs : List Addr}, Reps X.mg H5 (fun a => B a ∨ a = L) d w cs → L ∉ cs → Reps X.mg (upd H5 L (.lst (acc ++ [v]))) (fun a => B a ∨ a = L) d w cs := fun {d w cs} r hn => r.step (fun a o e z => by
                rw [upd_ne]
                · exact e
                · rintro rfl
                  exact z.elim hn fun z => z (.inr rfl)) fun _ _ z => z
              refine ⟨acc, hL5, hl, acc ++ [v], ys ++ [y], as ++ bs, ?_, upd_same, by rw [List.length_append]; show acc.length + 1 ≤ i + 1; omega, ?_, ?_, ?_, ?_, ?_⟩
              · exact s15.put nL hL5
              · refine (upL (ra.same (s24.trans s5)) nLa).append ?_
                have := upL (Reps.cons rv Reps.nil) (by rw [List.append_nil]; exact nLbs)
                rw [List.append_nil] at this
                exact this
              · intro a ha
                rcases List.mem_append.mp ha with z | z
                · exact fa' a z
                · exact s14.free (fv' a z)
              · exact nodup_cat na nv (fun a ha => (ra.same s24).there a ha) fv'
              · intro z
                rcases List.mem_append.mp z with z | z
                · exact nLa z
                · exact nLbs z
              · have e2 : (((lcGo t mt me ρ (frzs (ds.drop (i + 1)))).bind fun ys' => Res.ok (y :: ys')).bind fun zs => Res.ok (D.lst true (ys ++ zs))) = (lcGo t mt me ρ (frzs (ds.drop (i + 1)))).bind fun zs => .ok (.lst true ((ys ++ [y]) ++ zs)) := by
                  rw [Res.bind_assoc]
                  congr 1
                  funext zs
                  rw [Res.bind_ok, List.append_assoc]; rfl
                have hpi2 : Post (Rep X.mg) W X.mg B σ H (((lcGo t mt me ρ (frzs (ds.drop (i + 1)))).bind fun ys' => Res.ok (y :: ys')).bind fun zs => Res.ok (D.lst true (ys ++ zs))) Q := hpi
                rw [e2] at hpi2
                exact hpi2
  · left
    have ei : i = ds.length := by omega
    subst ei
    refine ⟨ok.stop H2 kp, fun bn => ?_⟩
    rw [List.drop_length] at hpi
    have hpi2 : Post (Rep X.mg) W X.mg B σ H (.ok (.lst true (ys ++ []))) Q := hpi
    rw [List.append_nil] at hpi2
    refine hpi2 _ H2 (L :: as) bn (s1.trans s2) ?_ (fun a ha => ?_) (List.nodup_cons.mpr ⟨nLa, na⟩)
    · rw [Rep]
      exact ⟨L, acc, as, rfl, hL, ra.step (fun a o e _ => e) (fun a _ h2 z => h2 (.inl z)), .inl ⟨rfl, rfl⟩⟩
    · rcases List.mem_cons.mp ha with rfl | z
      · exact nLH
      · exact s1.free (fa' a z)
/-- [.. for x in d ..], d a name that holds a dict -/
def mlcK (i : Nat) (t : Tg) (mt : En → Res Bool) (me : En → Res D) : En → Res D := fun ρ => match ρ[i]? with
  | some (some (.node (.dct _ _ ks) _)) => (lcGo t mt me ρ (frzs (ks.map kyD))).bind fun ys => .ok (.lst true ys)
  | _ => .no
theorem PE.or {e : Expr} {t1 t2 : TE} (h1 : PE X e t1) (h2 : PE X e t2) : PE X e (fun σ H Q => t1 σ H Q ∨ t2 σ H Q) := ⟨fun pins s σ H Q I q => q.elim (h1.run pins s σ H Q I) (h2.run pins s σ H Q I)⟩
theorem PE.mkLB {e : Expr} {t t' : TE} (h : PE X e t) (hh : ∀ σ H Q, Bnd H → σ.length = X.N.length → t' σ H Q → t σ H fun v H' => Bnd H' → Q v H') : PE X e t' := ⟨fun pins s σ H Q I q => by
  refine thn (h.run pins s σ H _ I (hh σ H Q (bnd_of I) I.len q)) fun v s1 ⟨x, H1, I1, r1, q1⟩ => ⟨x, H1, I1, r1, q1 (bnd_of I1)⟩⟩
theorem Bnd.lock {H : Hp} {d : Addr} {u : HO} {od : Obj} (hd : IsDo u) (h : Bnd (upd H d u)) (e : H d = some (.frz od u)) : Bnd H := by
  have key : ∀ (a : Addr) (w : HO), Rd H a w → Rd (upd H d u) a w ∨ (∃ o, w = .frz o u) := by
    intro a w hw
    by_cases ha : a = d
    · subst ha
      rcases hw with z | ⟨o, z⟩
      · rw [e] at z; exact .inr ⟨od, (Option.some.inj z).symm⟩
      · rw [e] at z
        have := Option.some.inj z
        injection this with _ z2
        exact .inl (.inl (by rw [upd_same, z2]))
    · rcases hw with z | ⟨o, z⟩
      · exact .inl (.inl (by rw [upd_ne ha]; exact z))
      · exact .inl (.inr ⟨o, by rw [upd_ne ha]; exact z⟩)
  refine ⟨fun a xs h1 => ?_, fun a xs h1 => ?_, fun a kvs h1 => ?_, fun a kvs h1 => ?_⟩
  · rcases key a _ h1 with z | ⟨o, z⟩
    · exact h.1 a xs z
    · cases z
  · rcases key a _ h1 with z | ⟨o, z⟩
    · exact h.2.1 a xs z
    · cases z
  · rcases key a _ h1 with z | ⟨o, z⟩
    · exact h.2.2.1 a kvs z
    · cases z
  · rcases key a _ h1 with z | ⟨o, z⟩
    · exact h.2.2.2 a kvs z
    · cases z
theorem Post.mono {α β : Type} {Rp : RpT α β} {B : Addr → Prop} {σ : St} {H : Hp} {r : Res α} {Q Q' : β → Hp → Prop} (h : Post Rp W X.mg B σ H r Q) (k : ∀ v H', Q v H' → Q' v H') : Post Rp W X.mg B σ H r Q' := by
  cases r with
  | ok d => exact fun v H' as b s r f n => k v H' (h v H' as b s r f n)
  | ex x => exact h
  | no => exact h
theorem nox_noex {α : Type} (r : Res α) (x : Ex) : nox r ≠ .ex x := by cases r <;> (intro z; cases z)
theorem lcGo_noex (t : Tg) (mt : En → Res Bool) (me : En → Res D) (ρ : En) : ∀ (ds : List D) (x : Ex), lcGo t mt me ρ ds ≠ .ex x
  | [], x => by unfold lcGo; intro z; cases z
  | d :: ds, x => by
    unfold lcGo
    intro h
    cases ep : t.parts d with
    | none => rw [ep] at h; cases h
    | some xs =>
      rw [ep] at h
      have h1 : ((nox (mt (setAll t.slots xs ρ))).bind fun c => if c = true then (nox (me (setAll t.slots xs ρ))).bind fun y => (lcGo t mt me ρ ds).bind fun ys => Res.ok (y :: ys) else lcGo t mt me ρ ds) = .ex x := h
      have hd := lcGo_noex t mt me ρ ds
      cases e1 : nox (mt (setAll t.slots xs ρ)) with
      | no => rw [e1] at h1; cases h1
      | ex y => exact nox_noex _ _ e1
      | ok c =>
        rw [e1] at h1
        have h2 : (if c = true then (nox (me (setAll t.slots xs ρ))).bind fun y => (lcGo t mt me ρ ds).bind fun ys => Res.ok (y :: ys) else lcGo t mt me ρ ds) = .ex x := h1
        split at h2
        · cases e2 : nox (me (setAll t.slots xs ρ)) with
          | no => rw [e2] at h2; cases h2
          | ex y => exact nox_noex _ _ e2
          | ok y =>
            rw [e2] at h2
            have h3 : ((lcGo t mt me ρ ds).bind fun ys => Res.ok (y :: ys)) = .ex x := h2
            cases e3 : lcGo t mt me ρ ds with
            | no => rw [e3] at h3; cases h3
            | ex y => exact hd y e3
            | ok ys => rw [e3] at h3; cases h3
        · exact hd x h2
theorem lcK_run {t : Tg} {own : List (Str × Nat)} {i : Nat} {σ : St} {H : Hp} {ρ : En} {B : Addr → Prop} {Q : VK} (bn : Bnd H) (hl : σ.length = X.N.length)
    (hw : ((own.map (·.2)).all fun q => t.slots.contains q && decide (q < X.N.length)) = true) (hw2 : (t.slots.all fun q => (own.map (·.2)).contains q) = true)
    (en : EnOn X.mg ([i] ++ (ft ++ fe).filter fun j => !t.slots.contains j) ρ σ H B) (bd : BDom B H) (hp : Post (Rep X.mg) W X.mg B σ H (mlcK i t mt me ρ) Q) :
    (∃ d u, H d = some u ∧ Mut (some u) ∧ ∀ od, tLc (iKeys (tVar i)) (t.tg X.K) (Tv RpB W0 X.mg ft mt) (Tv (Rep X.mg) W0 X.mg fe me) (own.map (·.2)) σ (upd H d (.frz od u)) fun v H' => Bnd H' → (H' d = some (.frz od u) ∧ (Bnd (upd H' d u) → Q v (upd H' d u)))) ∨
    tLc (iKeys (tVar i)) (t.tg X.K) (Tv RpB W0 X.mg ft mt) (Tv (Rep X.mg) W0 X.mg fe me) (own.map (·.2)) σ H fun v H' => Bnd H' → (Bnd H' → Q v H') := by
  have h1 : ∀ q ∈ own.map (·.2), q ∈ t.slots ∧ q < X.N.length := fun q hq => by
    have := List.all_eq_true.mp hw q hq
    rw [Bool.and_eq_true] at this
    exact ⟨by simpa using this.1, of_decide_eq_true this.2⟩
  have k1 : ∀ q ∈ t.slots, q ∈ own.map (·.2) := fun q hq => by simpa using List.all_eq_true.mp hw2 q hq
  have k2 : ∀ q ∈ own.map (·.2), q ∈ t.slots := fun q hq => (h1 q hq).1
  have k3 : ∀ q ∈ own.map (·.2), q < σ.length := fun q hq => by rw [hl]; exact (h1 q hq).2
  unfold mlcK at hp
  split at hp
  · rename_i o tt ks xs ed
    obtain ⟨v, hσ, rv⟩ := en i (by simp) _ ed
    rw [Rep] at rv
    obtain ⟨d, vs, bs, rfl, hh, hr, q⟩ := rv
    have ho : o = false ∧ ¬ B d := by
      rcases q with ⟨_, z⟩ | ⟨z, nb, _⟩
      · cases z
      · exact ⟨z, nb⟩
    obtain ⟨rfl, nb⟩ := ho
    obtain ⟨hl2, u, du, hu⟩ := hh
    have isd := dobj_is du
    have run : ∀ {H2 : Hp} {Q2 : VK} {od : Obj}, H2 d = some (.frz od u) → EnOn X.mg ([i] ++ (ft ++ fe).filter fun j => !t.slots.contains j) ρ σ H2 B → BDom B H2 → vs.length ≤ sizeLine → Post (Rep X.mg) W X.mg B σ H2 ((lcGo t mt me ρ (frzs (ks.map kyD))).bind fun ys => .ok (.lst true ys)) Q2 →
        tLc (iKeys (tVar i)) (t.tg X.K) (Tv RpB W0 X.mg ft mt) (Tv (Rep X.mg) W0 X.mg fe me) (own.map (·.2)) σ H2 fun v H' => Bnd H' → Q2 v H' := by
      intro H2 Q2 od e2 en2 bd2 hz hp2
      cases tt with
      | true =>
        obtain ⟨k', rfl, rfl⟩ := du
        have hl' : vs.length = k'.length := by rw [hl2, List.length_map]
        exact ⟨.ref d, hσ, d, od, rfl, .inr ⟨_, e2, lc_readJ (fi := [i]) k1 k2 k3 en2 bd2 (itkt_ok e2 nb hl' hz) hp2⟩⟩
      | false =>
        obtain ⟨k', rfl, rfl⟩ := du
        have hl' : vs.length = k'.length := by rw [hl2, List.length_map]
        exact ⟨.ref d, hσ, d, od, rfl, .inl ⟨_, e2, lc_readJ (fi := [i]) k1 k2 k3 en2 bd2 (itk_ok e2 nb hl' hz) hp2⟩⟩
    have hz : vs.length ≤ sizeLine := by
      cases tt with
      | true =>
        obtain ⟨k', rfl, rfl⟩ := du
        have hl' : vs.length = k'.length := by rw [hl2, List.length_map]
        have := (bn.2.2.2 d _ hu).1
        rw [List.length_zip] at this; omega
      | false =>
        obtain ⟨k', rfl, rfl⟩ := du
        have hl' : vs.length = k'.length := by rw [hl2, List.length_map]
        have := (bn.2.2.1 d _ hu).1
        rw [List.length_zip] at this; omega
    rcases hu with hu | ⟨od, hu⟩
    · left
      refine ⟨d, u, hu, isd.mut, fun od => ?_⟩
      have hdL : ∀ c, c ≠ d → (upd H d (.frz od u)) c = H c := fun c hc => upd_ne hc
      refine run (Q2 := fun v H' => H' d = some (.frz od u) ∧ (Bnd (upd H' d u) → Q v (upd H' d u))) upd_same (fun j hj dd hdd => ?_) ⟨fun a ha => ?_, fun P hP => (tbk_upd hu isd.pl).tt P (bd.tab P hP)⟩ hz ?_
      · obtain ⟨v, h2, r⟩ := en j hj dd hdd
        exact ⟨v, h2, r.lock isd hu (fun z => nomatch z)⟩
      · have hc : a ≠ d := by rintro rfl; exact nb ha
        rw [upd_ne hc]
        exact bd a ha
      · cases er : (lcGo t mt me ρ (frzs (ks.map kyD))).bind fun ys => Res.ok (D.lst true ys) with
        | no => rw [er] at hp; exact hp.elim
        | ex x =>
          exfalso
          have hex : ∀ (r : Res (List D)), (r.bind fun ys => Res.ok (D.lst true ys)) = .ex x → ∃ y, r = .ex y := fun r h => by
            cases r with
            | ok _ => cases h
            | ex y => exact ⟨y, rfl⟩
            | no => cases h
          obtain ⟨y, hy⟩ := hex _ er
          exact lcGo_noex _ _ _ _ _ _ hy
        | ok dd =>
          rw [er] at hp
          intro v H' as bn' s' r' f' n'
          have e' : H' d = some (.frz od u) := s' d _ upd_same
          have hT : TbK H (upd H' d u) := ((tbk_upd hu isd.pl).trans s'.ts).trans (tbk_upd e' Pl.frz)
          refine ⟨e', fun bn2 => hp v (upd H' d u) as bn2 ⟨fun a o h n => ?_, hT.tb, hT.tt⟩ (r'.unlock isd e') (fun a ha => ?_) n'⟩
          · by_cases hc : a = d
            · subst hc; rw [upd_same, ← h, hu]
            · rw [upd_ne hc]; exact s'.kp a o (by rw [upd_ne hc]; exact h) n
          · have := f' a ha
            by_cases hc : a = d
            · subst hc; rw [upd_same] at this; cases this
            · rw [upd_ne hc] at this; exact this
    · right
      exact run (Q2 := fun v H' => Bnd H' → Q v H') hu en bd hz (Post.mono hp fun _ _ q _ => q)
  · exact hp.elim
theorem de_lcK {t : Tg} {scope : Scope} {own : List (Str × Nat)} {i : Nat} {x : Str} (hNd : X.N.Nodup) (hc : X.calm = true) (ok : BlkOk X.N X.env.scope scope own)
    (hg : ∀ (s : Shared) (H : Hp) (C : Addr) (cl : List (Str × Addr)) (fp : List Addr), PG (X.blk s H scope (compEnvC scope cl C X.env) fp) tg (t.tg X.K))
    (ht : ∀ (s : Shared) (H : Hp) (C : Addr) (cl : List (Str × Addr)) (fp : List Addr), DTs (X.blk s H scope (compEnvC scope cl C X.env) fp) W0 ifs ft mt)
    (he : ∀ (s : Shared) (H : Hp) (C : Addr) (cl : List (Str × Addr)) (fp : List Addr), DE (X.blk s H scope (compEnvC scope cl C X.env) fp) W0 elt fe me)
    (hN : X.N[i]? = some x := by rfl) (hv : Vis X.env.scope x := by first | exact Or.inl rfl | exact Or.inr (Or.inl rfl) | exact Or.inr (Or.inr rfl)) (hd : (x == ("__debug__" : Str)) = false := by decide) (hcd : (x == ("__classdict__" : Str)) = false := by decide)
    (hw : ((own.map (·.2)).all fun q => t.slots.contains q && decide (q < X.N.length)) = true := by rfl) (hw2 : (t.slots.all fun q => (own.map (·.2)).contains q) = true := by rfl) (hs : ∀ y, foldedSetIterable (.Name x p) X.env y = pure y := by intro _; rfl) :
    DE X W (.ListComp elt [⟨tg, .Name x p, ifs, 0⟩] scope pos) ([i] ++ (ft ++ fe).filter fun j => !t.slots.contains j) (mlcK i t mt me) := by
  have hlc := pe_lc (pos := pos) (tt := Tv RpB W0 X.mg ft mt) (te := Tv (Rep X.mg) W0 X.mg fe me) hc hNd (pi_keys (tg := tg) (pe_var (X := X) (pos := p) hN hv hd hcd)) ok hg ht he hs
  have hlc' := PE.mkL (t' := fun σ H Q => tLc (iKeys (tVar i)) (t.tg X.K) (Tv RpB W0 X.mg ft mt) (Tv (Rep X.mg) W0 X.mg fe me) (own.map (·.2)) σ H fun v H' => Bnd H' → Q v H') hlc fun σ H Q _ q => q
  exact PE.mkLB (PE.or (pe_lock hlc') hlc') fun σ H Q bn hl ⟨ρ, B, en, bd, hp⟩ => lcK_run bn hl hw hw2 en bd hp
theorem ds_setLcK {F : Fr} {t : Tg} {scope : Scope} {own : List (Str × Nat)} {i j : Nat} {x y : Str} {pos' : Pos} (hNd : X.N.Nodup) (hc : X.calm = true) (ok : BlkOk X.N X.env.scope scope own)
    (hg : ∀ (s : Shared) (H : Hp) (C : Addr) (cl : List (Str × Addr)) (fp : List Addr), PG (X.blk s H scope (compEnvC scope cl C X.env) fp) tg (t.tg X.K))
    (ht : ∀ (s : Shared) (H : Hp) (C : Addr) (cl : List (Str × Addr)) (fp : List Addr), DTs (X.blk s H scope (compEnvC scope cl C X.env) fp) W0 ifs ft mt)
    (he : ∀ (s : Shared) (H : Hp) (C : Addr) (cl : List (Str × Addr)) (fp : List Addr), DE (X.blk s H scope (compEnvC scope cl C X.env) fp) W0 elt fe me)
    (hsw : swapsWith (.ListComp elt [⟨tg, .Name x p, ifs, 0⟩] scope pos') (some (.Name y pos)) pos.line X.env = pure true) {spos : Pos} (hsp : spos.line = pos.line := by rfl)
    (hy : X.N[j]? = some y := by rfl) (hyl : X.env.scope.names.lookup y = some .local := by rfl)
    (hN : X.N[i]? = some x := by rfl) (hv : Vis X.env.scope x := by first | exact Or.inl rfl | exact Or.inr (Or.inl rfl) | exact Or.inr (Or.inr rfl)) (hd : (x == ("__debug__" : Str)) = false := by decide) (hcd : (x == ("__classdict__" : Str)) = false := by decide)
    (hw : ((own.map (·.2)).all fun q => t.slots.contains q && decide (q < X.N.length)) = true := by rfl) (hw2 : (t.slots.all fun q => (own.map (·.2)).contains q) = true := by rfl) (hs : ∀ y, foldedSetIterable (.Name x p) X.env y = pure y := by intro _; rfl) :
    DS X F W (.Assign [.Name y pos] (.ListComp elt [⟨tg, .Name x p, ifs, 0⟩] scope pos') spos) (mset j ([i] ++ (ft ++ fe).filter fun j => !t.slots.contains j) (mlcK i t mt me)) := by
  have hS := PS.mkB (t' := fun D σ H => tLc (iKeys (tVar i)) (t.tg X.K) (Tv RpB W0 X.mg ft mt) (Tv (Rep X.mg) W0 X.mg fe me) (List.map (fun x : Str × Nat => x.2) own) σ H fun v H' => Bnd H' → D.nx (σ.set j (some v)) H') (ps_setLc (tt := Tv RpB W0 X.mg ft mt) (te := Tv (Rep X.mg) W0 X.mg fe me) hc hNd hy hyl (by rw [hsp]; exact hsw) (pi_keys (tg := tg) (pe_var (X := X) (pos := p) hN hv hd hcd)) ok hg ht he hs) fun D σ H _ q => q
  refine PS.mkB (PS.or (ps_lock hS) hS) fun D σ H bn ⟨ω, ρ, b, hp⟩ => ?_
  obtain ⟨ρ', B', en, bd, hpe⟩ : Tv (Rep X.mg) W X.mg ([i] ++ (ft ++ fe).filter fun j => !t.slots.contains j) (mlcK i t mt me) σ H fun v H' => D.nx (σ.set j (some v)) H' := by
    refine b.eval hp fun d _ v H' as bn' s r f n hp' b' => ?_
    obtain ⟨ω', b2, s2⟩ := b.store (ltN hy) s r f n
    have hp2 : PostS X F W ω H (thenE (mlcK i t mt me (frzE ρ)) ρ fun d => .nx (sto j _ d ρ)) D := hp
    rw [‹mlcK i t mt me (frzE ρ) = _›] at hp2
    exact hp2 ω' _ H' b2 s2
  exact lcK_run bn b.ls hw hw2 en bd hpe
end
end Ev

/-! Ev, part V: lists of a range, any, all; lists within a list changed one by one. -/
namespace Ev
open PySem PySem.Spec L2
open PyProof.Rows hiding St
section
variable {X : Cx} {W : WX} {e a b c : Expr} {es : List Expr} {fv fa fb fc : List Nat} {me ma mb mc : En → Res D} {ms : List (En → Res D)} {pos p p2 pos2 : Pos}
/-! ### list(range(..)) -/
def mlrng (ms : List (En → Res D)) : En → Res D := fun ρ => (mrange ms ρ).bind fun ds => .ok (.node (.lst true) ds)
theorem reps_rg {mg : Str → Option Value} {H : Hp} {B : Addr → Prop} (a b : Int) : Reps mg H B (rngD a (b - a).toNat) (rgV a b) [] := by
  unfold rngD rgV
  generalize List.range (b - a).toNat = l
  induction l with
  | nil => exact Reps.nil
  | cons x l ih => exact Reps.cons (as := []) (bs := []) rep_int ih
theorem rg_ok {a b : Int} {H : Hp} {B : Addr → Prop} {Q : VK} {σ : St} (bn : Bnd H) (h : Post (Rep X.mg) W X.mg B σ H (.ok (.node (.lst true) (rngD a (b - a).toNat))) Q) : ∀ q, H q = none → (Bnd (upd H q (.lst (rgV a b))) → Q (.ref q) (upd H q (.lst (rgV a b)))) := by
  intro q hq bn'
  refine h (.ref q) _ [q] bn' (same_new hq) ?_ (fun a ha => by rw [List.mem_singleton.mp ha]; exact hq) (by simp)
  rw [Rep]
  exact ⟨q, _, [], rfl, upd_same, reps_rg a b, .inl ⟨rfl, rfl⟩⟩
theorem de_lrng1 {m1 : En → Res D} (hc : X.calm = true) (hm : X.mg "list" = none) (hm2 : X.mg "range" = none) (ha : DE X W a fa m1) (hg : Gl X "list" := by rfl) (hg2 : Gl X "range" := by rfl) (na : starEach [a] X.env = (false, eval a X.env) :: starEach [] X.env := by rfl)
    (ne : starEach [.Call (.Name "range" p2) [a] [] pos2] X.env = (false, eval (.Call (.Name "range" p2) [a] [] pos2) X.env) :: starEach [] X.env := by rfl) : DE X W (.Call (.Name "list" p) [.Call (.Name "range" p2) [a] [] pos2] [] pos) fa (mlrng [m1]) := by
  refine PE.mk (pe_listRg hc hg hm (prg_1 hg2 hm2 ha na) ne) fun σ H Q bn ⟨ρ, B, en, bd, hp⟩ => ?_
  have hp0 : Post (Rep X.mg) W X.mg B σ H ((m1 ρ).bind fun x => (Res.of (rangeD [x.frz])).bind fun ds => .ok (.node (.lst true) ds)) Q := by
    have e : mlrng [m1] ρ = (m1 ρ).bind fun x => (Res.of (rangeD [x.frz])).bind fun ds => .ok (.node (.lst true) ds) := by
      unfold mlrng mrange
      show (((m1 ρ).bind fun x => (Res.ok []).bind fun xs => .ok (x :: xs)).bind fun xs => Res.of (rangeD (frzs xs))).bind _ = _
      cases m1 ρ <;> rfl
    rw [e] at hp; exact hp
  refine Tv.bind en bd hp0 fun x ex v H1 as bn1 s1 r1 f1 n1 hp1 => ?_
  have rv := r1.view bd f1
  generalize x.frz = y at rv hp1
  cases y with
  | int j =>
    obtain ⟨rfl, _⟩ := rv
    unfold rangeD at hp1
    dsimp only at hp1
    split at hp1
    · rename_i hh
      refine ⟨j, rfl, ⟨by omega, by omega, by omega, by omega, by omega⟩, ?_⟩
      exact rg_ok bn1 (by rw [Int.sub_zero]; exact hp1)
    · exact hp1.elim
  | non => exact hp1.elim
  | bl _ => exact hp1.elim
  | str _ => exact hp1.elim
  | node _ _ => exact hp1.elim
/-! ### any, all -/
def blsD : List D → Option (List Bool)
  | [] => some []
  | .bl b :: xs => (blsD xs).map (b :: ·)
  | _ :: _ => none
theorem bls_rep {mg : Str → Option Value} {H : Hp} {B : Addr → Prop} : ∀ {xs : List D} {vs : List V} {bs : List Bool}, blsD xs = some bs → Reps mg H B xs vs [] → vs = bs.map V.bl
  | [], vs, bs, h, r => by cases h; rw [Reps] at r; exact r.1
  | .bl b :: xs, vs, bs, h, r => by
    obtain ⟨bs', h1, rfl⟩ := Option.map_eq_some_iff.mp (show (blsD xs).map (b :: ·) = some bs from h)
    rw [Reps] at r
    obtain ⟨v, ws, a1, a2, rfl, e, r1, r2⟩ := r
    obtain ⟨z1, z2⟩ := List.append_eq_nil_iff.mp e.symm
    subst z1; subst z2
    rw [bls_rep h1 r2, r1.1]; rfl
  | .non :: _, _, _, h, _ => by cases h
  | .int _ :: _, _, _, h, _ => by cases h
  | .str _ :: _, _, _, h, _ => by cases h
  | .node _ _ :: _, _, _, h, _ => by cases h
def anyD : List D → Option D
  | [.node (.lst _) xs] => (blsD xs).map fun bs => .bl (bs.any id)
  | _ => none
def allD : List D → Option D
  | [.node (.lst _) xs] => (blsD xs).map fun bs => .bl (bs.all id)
  | _ => none
theorem cd_any (hc : X.calm = true) : CallD X (.builtin "any") anyD := by
  intro pins s σ H vs us Q I r h
  obtain ⟨xs, B, rx, bd, bn, d, e, q⟩ := h
  unfold anyD at e
  split at e
  · obtain ⟨bs, eb, rfl⟩ := Option.map_eq_some_iff.mp e
    obtain ⟨v, rfl, r1⟩ := reps1 rx
    obtain ⟨a, ws, rfl, ha, hr, _⟩ := r1.lstE
    have := bls_rep eb hr
    subst this
    exact cr_any hc pins s σ H _ _ _ I r ⟨a, bs, rfl, .inl ha, q _ _ [] (Same.refl _) ⟨rfl, rfl⟩ fresh0 List.nodup_nil⟩
  · cases e
theorem cd_all (hc : X.calm = true) : CallD X (.builtin "all") allD := by
  intro pins s σ H vs us Q I r h
  obtain ⟨xs, B, rx, bd, bn, d, e, q⟩ := h
  unfold allD at e
  split at e
  · obtain ⟨bs, eb, rfl⟩ := Option.map_eq_some_iff.mp e
    obtain ⟨v, rfl, r1⟩ := reps1 rx
    obtain ⟨a, ws, rfl, ha, hr, _⟩ := r1.lstE
    have := bls_rep eb hr
    subst this
    exact cr_all hc pins s σ H _ _ _ I r ⟨a, bs, rfl, .inl ha, q _ _ [] (Same.refl _) ⟨rfl, rfl⟩ fresh0 List.nodup_nil⟩
  · cases e
end
section
variable {P : Program} {w : World} {K : PySem.W.Frag} {mg : Str → Option Value} {base : Heap}
theorem fn_of_bodyP {x qual : Str} {st : Stmt} {f : Addr} {fd : FuncData} {N ps : List Str} {k : Nat} {m : En → Out} (F : Fun K x qual st f fd) (S : FnScope N ps (defScope st)) (hl : ps.length ≤ N.length)
    (hbody : ∀ (X : Cx) (Fr : Fr) (cdv : Value) (A : Around) (outer : List PySem.Env) (s : Shared) (H : Hp) (E : XK), X = cxOf (L2.CX P w) P w K mg base N qual (defScope st) f cdv A outer s H E → (∀ a, ¬ Fr.M0 a) → (∀ i, Fr.P0 i = none) → Room k X.A →
      Takes X (fun c od _ H' => E c od H') → PassesOwn (model X.prog X.w) X.A X.env X.xe → X.env.code = fd.code → DSs X Fr (fun c od _ H' => E c od H') (defBody st) m) :
    FnOk P w K mg base (L2.CX P w) (k + 1) f fd ps (spD mg ps.length (bodyF N.length m)) := by
  refine F.okC S (fun vs H Q E ⟨xs, B, h1, h2, _⟩ => ?_) (fun cdv A outer s H vs Q E hcd hr h => ?_)
  · rw [← h2.length, frzs_map, List.length_map, h1]
  · obtain ⟨xs, B, hx, rx, bd, h⟩ := h
    have hb := hbody (cxOf (L2.CX P w) P w K mg base N qual (defScope st) f cdv A outer s H E) ⟨H, B, fun _ => False, fun _ => none⟩ cdv A outer s H E rfl (fun _ z => z) (fun _ => rfl) hr (takes_of rfl rfl rfl rfl) (passes_of (K := fun e s' => L2.CX P w outer H s E e s') rfl) hcd
    refine ⟨_, hb, ?_⟩
    have hlen : (frzs xs).length = ps.length := by rw [frzs_map, List.length_map, hx]
    have hv : vs.length = ps.length := by rw [← rx.length, hlen]
    open Classical in
    refine ⟨fun a => if B a then some N.length else none, ent N.length (frzs xs), ⟨?_, ?_, fun b o e _ _ => e, .refl, bd.tab, fun _ z => z.elim, fun a i e hi => ?_, fun b h => h, fun a ha => if_pos ha, fun a i e => ?_, fun a i e => ?_, fun i d e => ?_, fun _ _ z => by cases z⟩, ?_⟩
    · show (ent N.length (frzs xs)).length = N.length
      unfold ent
      rw [List.length_append, List.length_map, List.length_replicate, hlen]
      omega
    · show (L2.start N vs).length = N.length
      unfold L2.start
      rw [List.length_append, List.length_map, List.length_replicate, hv]
      omega
    · have e' : (if B a then some N.length else none) = some i := e
      split at e'
      · cases e'; exact absurd rfl hi
      · cases e'
    · left
      have e' : (if B a then some N.length else none) = some i := e
      split at e'
      · cases e'; rfl
      · cases e'
    · have e' : (if B a then some N.length else none) = some i := e
      split at e'
      · rename_i hB; exact bd a hB
      · cases e'
    · obtain ⟨v, h1, h2⟩ := rx.get (ent_get e)
      refine ⟨v, [], start_get h1, h2.step (fun _ _ z _ => z) fun a _ h z => z (if_neg h), List.nodup_nil, fun _ z => nomatch z⟩
    · have hm : (match bodyF N.length m (frzs xs) with
        | .ok d => ∀ v H' as, Same H H' → Rep mg H' B d v as → (∀ a ∈ as, H a = none) → as.Nodup → Q v H'
        | .ex x => ∀ c od H', Same H H' → ExR mg H H' B x c od → E c od H'
        | .no => False) := h
      have sm : ∀ {ω' : Own} {ρ : En} {σ' : St} {H' : Hp}, BI (cxOf (L2.CX P w) P w K mg base N qual (defScope st) f cdv A outer s H E) ⟨H, B, fun _ => False, fun _ => none⟩ ω' ρ σ' H' → Same H H' := fun b => ⟨fun c o e n => b.same c o e (fun z => z) n, b.ts.tb, b.ts.tt⟩
      have hB : ∀ {ω' : Own} {ρ : En} {σ' : St} {H' : Hp}, BI (cxOf (L2.CX P w) P w K mg base N qual (defScope st) f cdv A outer s H E) ⟨H, B, fun _ => False, fun _ => none⟩ ω' ρ σ' H' → ∀ a, B a → ω' a ≠ none := fun b a ha => by rw [b.out a ha]; intro z; cases z
      unfold bodyF at hm
      cases em : m (ent N.length (frzs xs)) with
      | nx ρ =>
        rw [em] at hm
        exact fun ω' σ' H' b _ => hm .non H' [] (sm b) rep_non (fun _ z => nomatch z) List.nodup_nil
      | rt d ρ =>
        rw [em] at hm
        exact fun v as ω' σ' H' b _ r n ha => hm v H' as (sm b) (r.step (fun _ _ z _ => z) fun a _ h z => h (hB b a z)) (fun a h => (ha a h).2) n
      | ex y ρ =>
        rw [em] at hm
        exact fun c od ω' σ' H' b _ e => hm c od H' (sm b) (e.to (fun a ha => b.nt a (hB b a ha)) fun d h1 h2 => ⟨h1, fun z => h2 (hB b d z)⟩)
      | bk ρ => rw [em] at hm; exact hm.elim
      | ct ρ => rw [em] at hm; exact hm.elim
      | no => rw [em] at hm; exact hm.elim
end
end Ev

/-! Ev, part W: the lists of a list changed one by one. -/
namespace Ev
open PySem PySem.Spec L2
open PyProof.Rows hiding St
section
variable {X : Cx} {F : Fr} {W : WX} {e a b c tg : Expr} {sts : List Stmt} {fv fa : List Nat} {me ma : En → Res D} {pos p1 p2 apos cpos : Pos} {i j : Nat} {x y : Str} {t : Tg}
theorem BI.nestT {ω : Own} {ρ : En} {σ : St} {H : Hp} {t : Tag} {xs ys : List D} {n : Nat} (b : BI X F ω ρ σ H) (hi : i < X.N.length) (ht : t.own = true) (e : ρ[i]? = some (some (.node t xs))) (hn : xs[n]? = some (.node (.lst true) ys)) (py : pures ys = true) :
    ∃ a vs l ws, σ[i]? = some (some (.ref a)) ∧ Head X.mg H a vs t ∧ xs.length = vs.length ∧ vs[n]? = some (.ref l) ∧ H l = some (.lst ws) ∧ Reps X.mg H (fun c => ω c ≠ none) ys ws [] ∧ ∀ H' ys' ws', Same H H' → pures ys' = true → Reps X.mg H' (fun c => ω c ≠ none) ys' ws' [] →
      ∃ ω', BI X F ω' (ρ.set i (some (.node t (xs.set n (.node (.lst true) ys'))))) σ (upd H' l (.lst ws')) ∧ Step X ω H ω' (upd H' l (.lst ws')) := by
  obtain ⟨a, vs, cs, h1, hd, h3, h4, h5⟩ := b.node ht e
  obtain ⟨v0, bs, q1, q2, q3, q4⟩ := h3.at_ hn
  rw [Rep] at q2
  obtain ⟨l, ws, bs', rfl, hl1, hr1, q⟩ := q2
  have hbs := Reps.purev py hr1
  subst hbs
  have hbl : bs = [l] := by
    rcases q with ⟨_, q⟩ | ⟨q, _⟩
    · exact q
    · cases q
  subst hbl
  have hlc : l ∈ cs := q4 l List.mem_cons_self
  have hl1' : H l = some (.lst ws) := hl1
  obtain ⟨hac, hnc⟩ := List.nodup_cons.mp h4
  refine ⟨a, vs, l, ws, h1, hd, h3.length, q1, hl1', hr1, fun H' ys' ws' s py' rv => ?_⟩
  have hωl : ω l = some i := h5 l (List.mem_cons_of_mem _ hlc)
  have hal : a ≠ l := fun z => hac (by rw [z]; exact hlc)
  have hkk : ∀ c o, H c = some o → c ≠ l → NTb o → upd H' l (.lst ws') c = some o := fun c o h hc n => by rw [upd_ne hc]; exact s.kp c o h n
  have rnew : Rep X.mg (upd H' l (.lst ws')) (fun c => ω c ≠ none) (.node (.lst true) ys') (.ref l) [l] := by
    rw [Rep]
    refine ⟨l, ws', [], rfl, upd_same, ?_, .inl ⟨rfl, rfl⟩⟩
    refine Reps.step rv (fun c o h hc => ?_) fun _ _ z => z
    rw [upd_ne]
    · exact h
    · rintro rfl
      rcases hc with hc | hc
      · cases hc
      · exact hc (by rw [hωl]; intro z; cases z)
  have rn := Reps.nest (mg := X.mg) (H := H) (H1 := upd H' l (.lst ws')) (B := fun c => ω c ≠ none) (l := l) (old := .node (.lst true) ys) (new := .node (.lst true) ys') hkk (by rw [hωl]; intro z; cases z) (fun bs rb => by
    rw [Rep] at rb
    obtain ⟨l', ws', bs', e1, _, hr', q⟩ := rb
    cases e1
    have := Reps.purev py hr'
    subst this
    rcases q with ⟨_, q⟩ | ⟨q, _⟩
    · exact q
    · cases q) rnew h3 hnc hn q1
  have hal' : ∀ o, H a = some o → NTb o → upd H' l (.lst ws') a = some o := fun o h n => hkk a o h hal n
  have hda : ∃ o, upd H' l (.lst ws') a = some o ∧ ∀ xs, o ≠ .tup xs := by
    obtain ⟨o', ho', t'⟩ := b.dom a i (h5 a List.mem_cons_self)
    exact ⟨o', hal' o' ho' (b.pl a i (h5 a List.mem_cons_self) (Nat.ne_of_lt hi) o' ho').1, t'⟩
  have key := b.put (H1 := upd H' l (.lst ws')) (d := .node t (xs.set n (.node (.lst true) ys'))) (v := .ref a) (as := a :: cs) hi (fun c o h hc n => hkk c o h (by rintro rfl; exact hc hωl) n) (fun c h => by
      by_cases hc : c = l
      · subst hc; rw [upd_same]; intro z; cases z
      · rw [upd_ne hc]; exact Same.there s h) (b.tu hωl hi s) (by
      rw [Rep]
      refine ⟨a, vs, cs, rfl, Head.imp hal' hd, Reps.step rn (fun _ _ z _ => z) (fun c h1 h2 h3 => ?_), .inl ⟨ht, rfl⟩⟩
      have e0 : ω c = none := Classical.byContradiction fun z => h2 z
      unfold setO at h3
      rw [if_neg fun z => ?_, e0] at h3
      · simp at h3
      · rw [h5 c z] at e0; cases e0) h4 (fun c hc => .inl (h5 c hc)) (fun c hc => by
      by_cases hcl : c = l
      · subst hcl; exact ⟨_, upd_same, fun _ z => HO.noConfusion z⟩
      · obtain ⟨o', ho', t'⟩ := b.dom c i (h5 c hc)
        exact ⟨o', hkk c o' ho' hcl (b.pl c i (h5 c hc) (Nat.ne_of_lt hi) o' ho').1, t'⟩)
  rw [set_self h1] at key
  exact ⟨_, key⟩
/-- a name of which no more is known -/
theorem BI.void {ω : Own} {ρ : En} {σ : St} {H : Hp} (b : BI X F ω ρ σ H) (hP : ∀ k, F.P0 k = none) (j : Nat) (v : V) : BI X F ω (ρ.set j none) (σ.set j (some v)) H where
  lr := by rw [List.length_set]; exact b.lr
  ls := by rw [List.length_set]; exact b.ls
  same := b.same
  ts := b.ts
  tab := b.tab
  m0 := b.m0
  pl := b.pl
  there := b.there
  out := b.out
  fre := b.fre
  dom := b.dom
  env := fun k d e => by
    by_cases hk : j = k
    · subst hk
      by_cases hl : j < ρ.length
      · rw [List.getElem?_set_self hl] at e; cases e
      · rw [List.getElem?_eq_none (by rw [List.length_set]; omega)] at e; cases e
    · rw [List.getElem?_set_ne hk] at e
      obtain ⟨v', as, h1, h2⟩ := b.env k d e
      exact ⟨v', as, by rw [List.getElem?_set_ne hk]; exact h1, h2⟩
  pin := fun k v' h _ => by rw [hP k] at h; cases h
theorem BI.void0 {ω : Own} {ρ : En} {σ : St} {H : Hp} (b : BI X F ω ρ σ H) (hP : ∀ k, F.P0 k = none) (j : Nat) : BI X F ω (ρ.set j none) σ H where
  lr := by rw [List.length_set]; exact b.lr
  ls := b.ls
  same := b.same
  ts := b.ts
  tab := b.tab
  m0 := b.m0
  pl := b.pl
  there := b.there
  out := b.out
  fre := b.fre
  dom := b.dom
  env := fun k d e => by
    by_cases hk : j = k
    · subst hk
      by_cases hl : j < ρ.length
      · rw [List.getElem?_set_self hl] at e; cases e
      · rw [List.getElem?_eq_none (by rw [List.length_set]; omega)] at e; cases e
    · rw [List.getElem?_set_ne hk] at e
      exact b.env k d e
  pin := fun k v' h _ => by rw [hP k] at h; cases h
/-- the lists within, changed by f -/
def mapCh (f : List D → Option (List D)) : List D → Option (List D)
  | [] => some []
  | .node (.lst true) ys :: r => if pures ys = true then (f ys).bind fun ys' => if pures ys' = true then (mapCh f r).map (.node (.lst true) ys' :: ·) else none else none
  | _ :: _ => none
theorem mapCh_get {f : List D → Option (List D)} : ∀ {xs xs' : List D}, mapCh f xs = some xs' → xs'.length = xs.length ∧ ∀ k, k < xs.length → ∃ ys ys', xs[k]? = some (.node (.lst true) ys) ∧ xs'[k]? = some (.node (.lst true) ys') ∧ f ys = some ys' ∧ pures ys = true ∧ pures ys' = true
  | [], xs', h => by cases h; exact ⟨rfl, fun k hk => by simp at hk⟩
  | .node (.lst true) ys :: r, xs', h => by
    have h' : (if pures ys = true then (f ys).bind fun ys' => if pures ys' = true then (mapCh f r).map (.node (.lst true) ys' :: ·) else none else none) = some xs' := h
    split at h'
    · rename_i p1
      obtain ⟨ys', e1, h2⟩ := Option.bind_eq_some_iff.mp h'
      split at h2
      · rename_i p2
        obtain ⟨r', e2, rfl⟩ := Option.map_eq_some_iff.mp h2
        obtain ⟨l, g⟩ := mapCh_get e2
        refine ⟨by simp [l], fun k hk => ?_⟩
        cases k with
        | zero => exact ⟨ys, ys', rfl, rfl, e1, p1, p2⟩
        | succ k =>
          obtain ⟨zs, zs', g1, g2, g3⟩ := g k (by simpa using hk)
          exact ⟨zs, zs', by simpa using g1, by simpa using g2, g3⟩
      · cases h2
    · cases h'
  | .node (.lst false) _ :: _, _, h => by cases h
  | .node .tup _ :: _, _, h => by cases h
  | .node (.dct _ _ _) _ :: _, _, h => by cases h
  | .node (.ins _ _ _) _ :: _, _, h => by cases h
  | .node (.io _ _ _) _ :: _, _, h => by cases h
  | .node (.exc _) _ :: _, _, h => by cases h
  | .node (.xd _) _ :: _, _, h => by cases h
  | .non :: _, _, h => by cases h
  | .bl _ :: _, _, h => by cases h
  | .int _ :: _, _, h => by cases h
  | .str _ :: _, _, h => by cases h
/-- what a statement does with the list of a name -/
def KB (X : Cx) (j : Nat) (f : List D → Option (List D)) (tb : TS) : Prop :=
  ∀ {Dn : Ends} {σ : St} {H : Hp} {l : Addr} {ws : List V} {ys ys' : List D} {B : Addr → Prop}, BDom B H → σ[j]? = some (some (.ref l)) → H l = some (.lst ws) → Reps X.mg H B ys ws [] → f ys = some ys' →
    (∀ H' ws', Same H H' → Reps X.mg H' B ys' ws' [] → Dn.nx σ (upd H' l (.lst ws'))) → tb Dn σ H
def fApp (c : D) : List D → Option (List D) := fun ys => if ys.length < sizeLine then some (ys ++ [c]) else none
def fClr : List D → Option (List D) := fun _ => some []
/-- x.append(c) -/
theorem kb_app {c : D} (he : DE X W0 e [] me) (hc : me [] = .ok c) (pc : c.pure = true) (hi : X.N[j]? = some x := by rfl) (hv : Vis X.env.scope x := by first | exact Or.inl rfl | exact Or.inr (Or.inl rfl) | exact Or.inr (Or.inr rfl)) (hd : (x == ("__debug__" : Str)) = false := by decide) (hcd : (x == ("__classdict__" : Str)) = false := by decide)
    (hs0 : starEach [e] X.env = (false, eval e X.env) :: starEach [] X.env := by rfl) (hbase : attributeBase (.Name x p1) "append" X.env (eval (.Name x p1) X.env) = eval (.Name x p1) X.env := by rfl)
    (hfew : ((backTo cpos (starEach [e] X.env)).all (fun x => !x.1) && (backToKw cpos (keywordEach [] X.env)).all (fun x => x.1.isSome) && decide ([e].length + ([] : List Keyword).length + (if ([] : List Keyword).isEmpty then 0 else 1) < 30)) = true := by rfl)
    (hline : (apos.endLine == cpos.line) = true := by rfl) (hplain : (backTo cpos (starEach [] X.env)).any (·.1) = false := by rfl) (hsw : swapsWith (.Call (.Attribute (.Name x p1) "append" apos) [e] [] cpos) none pos.line X.env = pure false := by rfl) :
    ∃ tb, PSs X [.Expr (.Call (.Attribute (.Name x p1) "append" apos) [e] [] cpos) pos] tb ∧ KB X j (fApp c) tb := by
  refine ⟨_, pss_one (ps_expr (pe_bm PySem.F.plainAttrs_list PySem.F.slot_list_append PySem.F.type_list_append mt_append (pe_var hi hv hd hcd) (pa_cons he pa_nil hs0) hbase hfew hline hs0 hplain) hsw), ?_⟩
  intro Dn σ H l ws ys ys' B bd hσ hl hr hf fin
  refine ⟨.ref l, hσ, tyV_list hl, [], B, fun _ z => (nomatch z), bd, ?_⟩
  rw [hc]
  intro v H' as bn s r f n
  have := Rep.purev pc r
  subst this
  unfold fApp at hf
  split at hf
  · rename_i hlen
    cases hf
    refine ⟨l, ws, v, rfl, rfl, s _ _ hl, by rw [← hr.length]; exact hlen, fin H' (ws ++ [v]) s ?_⟩
    exact Reps.append (as := []) (bs := []) (hr.same s) (Reps.cons (as := []) (bs := []) r Reps.nil)
  · cases hf
/-- x.clear() -/
theorem kb_clr (hi : X.N[j]? = some x := by rfl) (hv : Vis X.env.scope x := by first | exact Or.inl rfl | exact Or.inr (Or.inl rfl) | exact Or.inr (Or.inr rfl)) (hd : (x == ("__debug__" : Str)) = false := by decide) (hcd : (x == ("__classdict__" : Str)) = false := by decide)
    (hbase : attributeBase (.Name x p1) "clear" X.env (eval (.Name x p1) X.env) = eval (.Name x p1) X.env := by rfl) (hline : (apos.endLine == cpos.line) = true := by rfl) (hsw : swapsWith (.Call (.Attribute (.Name x p1) "clear" apos) [] [] cpos) none pos.line X.env = pure false := by rfl) :
    ∃ tb, PSs X [.Expr (.Call (.Attribute (.Name x p1) "clear" apos) [] [] cpos) pos] tb ∧ KB X j fClr tb := by
  refine ⟨_, pss_one (ps_expr (pe_bm0 PySem.F.plainAttrs_list PySem.F.slot_list_clear PySem.F.type_list_clear mt_clear (pe_var hi hv hd hcd) hbase hline) hsw), ?_⟩
  intro Dn σ H l ws ys ys' B bd hσ hl hr hf fin
  cases hf
  exact ⟨.ref l, hσ, tyV_list hl, l, ws, rfl, rfl, hl, fin H [] (Same.refl _) Reps.nil⟩
/-- for x in l: x.append(c) -/
def mforA (i j : Nat) (f : List D → Option (List D)) : En → Out := fun ρ => match ρ[i]? with
  | some (some (.node (.lst true) xs)) => if i = j then .no else match mapCh f xs with
    | some xs' => .nx ((ρ.set j none).set i (some (.node (.lst true) xs')))
    | none => .no
  | _ => .no
theorem ds_forA {f : List D → Option (List D)} (hp' : PassesOwn (model X.prog X.w) X.A X.env X.xe) (hc : X.calm = true) (hP : ∀ k, F.P0 k = none) (hb : ∃ tb, PSs X sts tb ∧ KB X j f tb) (hg : PG X tg ((Tg.nm j).tg X.K)) (hN : X.N[i]? = some x := by rfl) (hjN : X.N[j]? = some y := by rfl)
    (hv : Vis X.env.scope x := by first | exact Or.inl rfl | exact Or.inr (Or.inl rfl) | exact Or.inr (Or.inr rfl)) (hd : (x == ("__debug__" : Str)) = false := by decide) (hcd : (x == ("__classdict__" : Str)) = false := by decide) (hs : ∀ y, foldedSetIterable (.Name x p1) X.env y = pure y := by intro _; rfl) :
    DS X F W (.For tg (.Name x p1) sts [] pos) (mforA i j f) := by
  obtain ⟨tb, hbs, kb⟩ := hb
  have hj := ltN hjN
  refine PS.mk (ps_for (pos := pos) hp' hc (pi_list (tg := tg) (pe_var (X := X) (pos := p1) hN hv hd hcd)) hg hbs hs) fun D σ H bn ⟨ω, ρ, b, hp⟩ => ?_
  unfold mforA at hp
  split at hp
  · rename_i xs ex
    split at hp
    · exact hp.elim
    · rename_i hij
      cases em : mapCh f xs with
      | none => rw [em] at hp; exact hp.elim
      | some xs' =>
        rw [em] at hp
        obtain ⟨hlen, hget⟩ := mapCh_get em
        obtain ⟨a, vs0, cs, h1, h2, h3, _, _⟩ := b.lst ex
        have hil := ltN hN
        have hiρ : i < ρ.length := by rw [b.lr]; exact hil
        let M : Nat → En := fun k => (ρ.set j none).set i (some (.node (.lst true) (xs'.take k ++ xs.drop k)))
        refine ⟨.ref a, h1, a, rfl, ⟨vs0, .inl (.inl h2)⟩, fun k n σ' H' => n = xs.length - k ∧ k ≤ xs.length ∧ σ'[i]? = some (some (.ref a)) ∧ ∃ ω', BI X F ω' (M k) σ' H' ∧ Step X ω H ω' H', ⟨xs.length, by simp, Nat.zero_le _, h1, ω, ?_, Step.refl⟩, ?_⟩
        · have b0 := b.void0 hP j
          have e : (ρ.set j none).set i (some (.node (.lst true) xs)) = ρ.set j none := by
            apply List.ext_getElem?
            intro q
            by_cases hq : i = q
            · subst hq
              rw [List.getElem?_set_self (by rw [List.length_set]; exact hiρ), List.getElem?_set_ne (Ne.symm hij), ex]
            · rw [List.getElem?_set_ne hq]
          show BI X F ω ((ρ.set j none).set i (some (.node (.lst true) (xs'.take 0 ++ xs.drop 0)))) σ H
          rw [List.take_zero, List.drop_zero, List.nil_append, e]
          exact b0
        · rintro k n σ' H' ⟨rfl, hk, hσ', ω', b', s'⟩
          have eM : (M k)[i]? = some (some (.node (.lst true) (xs'.take k ++ xs.drop k))) := List.getElem?_set_self (by rw [List.length_set]; exact hiρ)
          obtain ⟨a', vs, cs', g1, g2, g3, g4, g5⟩ := b'.lst eM
          rw [hσ'] at g1
          cases g1
          have hvl : vs.length = xs.length := by
            rw [← g3.length, List.length_append, List.length_take, List.length_drop]; omega
          by_cases hlt : k < xs.length
          · right
            obtain ⟨ys, ys', q1, q2, q3, q4, q5⟩ := hget k hlt
            have hxk : (xs'.take k ++ xs.drop k)[k]? = some (.node (.lst true) ys) := by
              rw [List.getElem?_append_right (by rw [List.length_take]; omega), List.length_take, List.getElem?_drop]
              rw [show k + (k - min k xs'.length) = k by omega]
              exact q1
            have hvk : vs[k]? = some vs[k] := List.getElem?_eq_getElem (by omega)
            refine ⟨⟨vs, vs[k], .inl (.inl g2), hvk⟩, fun σ2 H2 => σ2[i]? = some (some (.ref a)) ∧ ∃ ω2, BI X F ω2 (M (k + 1)) σ2 H2 ∧ Step X ω H ω2 H2, fun σ2 H2 ⟨z1, z2⟩ => ⟨xs.length - (k + 1), by omega, rfl, hlt, z1, z2⟩, fun v H2 yl => ?_⟩
            obtain ⟨rfl, yl⟩ := yl
            have hv := yl vs (.inl (.inl g2))
            have bv := b'.void hP j v
            have eM2 : ((M k).set j none)[i]? = some (some (.node (.lst true) (xs'.take k ++ xs.drop k))) := by rw [List.getElem?_set_ne (Ne.symm hij)]; exact eM
            have evoid : (M k).set j none = M k := by
              show ((ρ.set j none).set i _).set j none = (ρ.set j none).set i _
              rw [List.set_comm _ _ hij, List.set_set]
            obtain ⟨a2, vs2, l, ws, k1, k2, k3, k4, k5, k6, k7⟩ := bv.nestT hil rfl eM2 hxk q4
            rw [List.getElem?_set_ne (Ne.symm hij), hσ'] at k1
            cases k1
            have k2' : H2 a = some (.lst vs2) := k2
            rw [g2] at k2'
            cases k2'
            rw [hv] at k4
            cases k4
            have hjl : (σ'.set j (some (V.ref l)))[j]? = some (some (.ref l)) := List.getElem?_set_self (by rw [b'.ls]; exact hj)
            refine kb (B := fun c => ω' c ≠ none) ⟨fun c hc => by
              cases e : ω' c with
              | none => exact absurd e hc
              | some q => exact b'.dom c q e, b'.tab⟩ hjl k5 k6 q3 fun H3 ws' s3 r3 => ?_
            obtain ⟨ω3, b3, s4⟩ := k7 H3 ys' ws' s3 q5 r3
            refine ⟨by rw [List.getElem?_set_ne (Ne.symm hij)]; exact hσ', ω3, ?_, s'.trans s4⟩
            have e3 : ((M k).set j none).set i (some (.node (.lst true) ((xs'.take k ++ xs.drop k).set k (.node (.lst true) ys')))) = M (k + 1) := by
              rw [evoid]
              show ((ρ.set j none).set i _).set i _ = (ρ.set j none).set i _
              rw [List.set_set]
              congr 3
              apply List.ext_getElem?
              intro q
              have hkx' : k < xs'.length := by omega
              by_cases hq : k = q
              · subst hq
                rw [List.getElem?_set_self (by rw [List.length_append, List.length_take, List.length_drop]; omega), List.getElem?_append_left (by rw [List.length_take]; omega), List.getElem?_take, if_pos (by omega), q2]
              · rw [List.getElem?_set_ne hq]
                by_cases hqk : q < k
                · rw [List.getElem?_append_left (by rw [List.length_take]; omega), List.getElem?_append_left (by rw [List.length_take]; omega), List.getElem?_take, List.getElem?_take, if_pos hqk, if_pos (by omega)]
                · rw [List.getElem?_append_right (by rw [List.length_take]; omega), List.getElem?_append_right (by rw [List.length_take]; omega), List.length_take, List.length_take, List.getElem?_drop, List.getElem?_drop]
                  congr 1
                  omega
            rw [e3] at b3
            exact b3
          · left
            have hke : k = xs.length := by omega
            refine ⟨⟨vs, .inl (.inl g2), by omega⟩, hp ω' σ' H' ?_ s'⟩
            have e4 : M k = (ρ.set j none).set i (some (.node (.lst true) xs')) := by
              show (ρ.set j none).set i _ = _
              rw [hke, List.drop_length, List.append_nil, List.take_of_length_le (by omega)]
            rw [e4] at b'
            exact b'
  · exact hp.elim
end
end Ev

/-! Ev, part S: reckoning with denotations, in plain Lean. -/
namespace Ev
open PySem PySem.Spec L2
open PyProof.Rows hiding St
/-- cells -/
abbrev Cl := Int × Int × Int
def cD (c : Cl) : D := .tup [.int c.1, .int c.2.1, .int c.2.2]
@[simp] theorem frzE_nil : frzE [] = [] := rfl
@[simp] theorem frzE_cons (o : Option D) (ρ : En) : frzE (o :: ρ) = o.map D.frz :: frzE ρ := rfl
@[simp] theorem frz_int (i : Int) : (D.int i).frz = .int i := rfl
@[simp] theorem frz_str (i : Str) : (D.str i).frz = .str i := rfl
@[simp] theorem frz_bl (i : Bool) : (D.bl i).frz = .bl i := rfl
@[simp] theorem frz_non : D.non.frz = .non := rfl
@[simp] theorem frz_tupN (xs : List D) : (D.node .tup xs).frz = .node .tup (frzs xs) := rfl
@[simp] theorem frz_lstN (o : Bool) (xs : List D) : (D.node (.lst o) xs).frz = .node (.lst false) (frzs xs) := rfl
@[simp] theorem frz_dctN (o t : Bool) (ks : List Ky) (xs : List D) : (D.node (.dct o t ks) xs).frz = .node (.dct false t ks) (frzs xs) := rfl
@[simp] theorem frzs_nil : frzs [] = [] := rfl
@[simp] theorem frzs_cons (x : D) (xs : List D) : frzs (x :: xs) = x.frz :: frzs xs := rfl
@[simp] theorem frz_cD (c : Cl) : (cD c).frz = cD c := rfl
theorem frzs_id : ∀ {xs : List D}, (∀ x ∈ xs, x.frz = x) → frzs xs = xs
  | [], _ => rfl
  | x :: xs, h => by rw [frzs, h x List.mem_cons_self, frzs_id fun y hy => h y (List.mem_cons_of_mem _ hy)]
@[simp] theorem mvar_zero (d : D) (ρ : En) : mvar 0 (some d :: ρ) = .ok d := rfl
@[simp] theorem mvar_succ (n : Nat) (o : Option D) (ρ : En) : mvar (n + 1) (o :: ρ) = mvar n ρ := rfl
@[simp] theorem mk_ap (d : D) (ρ : En) : mk d ρ = .ok d := rfl
@[simp] theorem seqs_nil (ρ : En) : seqs [] ρ = .ok [] := rfl
@[simp] theorem seqs_cons (m : En → Res D) (ms : List (En → Res D)) (ρ : En) : seqs (m :: ms) ρ = (m ρ).bind fun x => (seqs ms ρ).bind fun xs => .ok (x :: xs) := rfl
@[simp] theorem bin_ap (g : D → D → Option D) (ma mb : En → Res D) (ρ : En) : bin g ma mb ρ = (ma ρ).bind fun x => (mb ρ).bind fun y => Res.of (g x.frz y.frz) := rfl
@[simp] theorem un_ap (g : D → Option D) (ma : En → Res D) (ρ : En) : un g ma ρ = (ma ρ).bind fun x => Res.of (g x.frz) := rfl
@[simp] theorem mcall_ap (g : List D → Option D) (ms : List (En → Res D)) (ρ : En) : mcall g ms ρ = (seqs ms ρ).bind fun xs => Res.of (g (frzs xs)) := rfl
@[simp] theorem mfn_ap (f : List D → Res D) (ms : List (En → Res D)) (ρ : En) : mfn f ms ρ = (seqs ms ρ).bind fun xs => f (frzs xs) := rfl
@[simp] theorem mtup_ap (ms : List (En → Res D)) (ρ : En) : mtup ms ρ = (seqs ms ρ).bind fun xs => .ok (.node .tup xs) := rfl
@[simp] theorem mlst_ap (ms : List (En → Res D)) (ρ : En) : mlst ms ρ = (seqs ms ρ).bind fun xs => .ok (.node (.lst true) xs) := rfl
@[simp] theorem tst_ap (m : En → Res D) (ρ : En) : tst m ρ = (m ρ).bind fun x => Res.of (truD x) := rfl
@[simp] theorem mand_ap (a b : En → Res Bool) (ρ : En) : mand a b ρ = (a ρ).bind fun c => if c = true then b ρ else .ok false := rfl
@[simp] theorem mor_ap (a b : En → Res Bool) (ρ : En) : mor a b ρ = (a ρ).bind fun c => if c = true then .ok true else b ρ := rfl
@[simp] theorem mnot_ap (a : En → Res Bool) (ρ : En) : mnot a ρ = (a ρ).bind fun c => .ok (!c) := rfl
@[simp] theorem mif_ap (t : En → Res Bool) (a b : En → Res D) (ρ : En) : mif t a b ρ = (t ρ).bind fun c => if c = true then a ρ else b ρ := rfl
@[simp] theorem vand_ap (a b : En → Res D) (ρ : En) : vand a b ρ = (a ρ).bind fun x => (Res.of (truD x)).bind fun c => if c = true then b ρ else .ok (.bl false) := rfl
@[simp] theorem vor_ap (a b : En → Res D) (ρ : En) : vor a b ρ = (a ρ).bind fun x => (Res.of (truD x)).bind fun c => if c = true then .ok (.bl true) else b ρ := rfl
@[simp] theorem vnot_ap (a : En → Res D) (ρ : En) : vnot a ρ = (a ρ).bind fun x => (Res.of (truD x)).bind fun c => .ok (.bl (!c)) := rfl
@[simp] theorem truD_bl (b : Bool) : truD (.bl b) = some b := rfl
@[simp] theorem misi_ap (T : String) (m : En → Res D) (ρ : En) : misi T m ρ = (m ρ).bind fun x => Res.of (isiD T x.frz) := rfl
@[simp] theorem msl_ap (m : En → Res D) (l h : En → Res (Option Int)) (ρ : En) : msl m l h ρ = (m ρ).bind fun x => (l ρ).bind fun a => (h ρ).bind fun b => Res.of (slD a b x.frz) := rfl
@[simp] theorem pno_ap (ρ : En) : pno ρ = .ok none := rfl
@[simp] theorem psome_ap (m : En → Res D) (ρ : En) : psome m ρ = (m ρ).bind fun x => Res.of (intO x) := rfl
@[simp] theorem intO_int (i : Int) : intO (.int i) = some (some i) := rfl
@[simp] theorem mdct_ap (t : Bool) (ρ : En) : mdct t ρ = .ok (.node (.dct true t []) []) := rfl
@[simp] theorem mmeth_ap (T : String) (g : D → List D → Option D) (mo : En → Res D) (ms : List (En → Res D)) (ρ : En) : mmeth T g mo ms ρ = (mo ρ).bind fun x => if x.frz.ty = T then (seqs ms ρ).bind fun xs => Res.of (g x.frz (frzs xs)) else .no := rfl
/-! statements -/
@[simp] theorem thenE_ok {α : Type} (d : α) (ρ : En) (k : α → Out) : thenE (.ok d) ρ k = k d := rfl
@[simp] theorem thenE_ex {α : Type} (x : Ex) (ρ : En) (k : α → Out) : thenE (.ex x) ρ k = .ex x ρ := rfl
@[simp] theorem mskip_ap (ρ : En) : mskip ρ = .nx ρ := rfl
theorem mseq_ap (a b : En → Out) (ρ : En) : mseq a b ρ = match a ρ with | .nx ρ' => b ρ' | o => o := rfl
@[simp] theorem mset_ap (i : Nat) (fv : List Nat) (m : En → Res D) (ρ : En) : mset i fv m ρ = thenE (m (frzE ρ)) ρ fun d => .nx (sto i fv d ρ) := rfl
@[simp] theorem mret_ap (fv : List Nat) (m : En → Res D) (ρ : En) : mret fv m ρ = thenE (m (frzE ρ)) ρ fun d => .rt d (frzAt fv ρ) := rfl
@[simp] theorem mifs_ap (t : En → Res Bool) (a b : En → Out) (ρ : En) : mifs t a b ρ = thenE (t (frzE ρ)) ρ fun c => if c = true then a ρ else b ρ := rfl
@[simp] theorem mdrop_ap (m : En → Res D) (ρ : En) : mdrop m ρ = thenE (m (frzE ρ)) ρ fun _ => .nx ρ := rfl
theorem sto_pure {i : Nat} {fv : List Nat} {d : D} {ρ : En} (h : d.shr = false) : sto i fv d ρ = ρ.set i (some d) := by unfold sto; rw [if_neg (by rw [h]; decide)]
@[simp] theorem sto_int (i : Nat) (fv : List Nat) (j : Int) (ρ : En) : sto i fv (.int j) ρ = ρ.set i (some (.int j)) := rfl
@[simp] theorem sto_str (i : Nat) (fv : List Nat) (j : Str) (ρ : En) : sto i fv (.str j) ρ = ρ.set i (some (.str j)) := rfl
@[simp] theorem sto_bl (i : Nat) (fv : List Nat) (j : Bool) (ρ : En) : sto i fv (.bl j) ρ = ρ.set i (some (.bl j)) := rfl
@[simp] theorem sto_non (i : Nat) (fv : List Nat) (ρ : En) : sto i fv .non ρ = ρ.set i (some .non) := rfl
theorem shr_cD (c : Cl) : (cD c).shr = false := rfl
@[simp] theorem sto_cD (i : Nat) (fv : List Nat) (c : Cl) (ρ : En) : sto i fv (cD c) ρ = ρ.set i (some (cD c)) := rfl
/-! operators -/
@[simp] theorem addD_int (i j : Int) : addD (.int i) (.int j) = some (.int (i + j)) := rfl
@[simp] theorem subD_int (i j : Int) : subD (.int i) (.int j) = some (.int (i - j)) := rfl
@[simp] theorem negD_int (i : Int) : negD (.int i) = some (.int (-i)) := rfl
theorem mulD_int {i j : Int} (h : mulOk i j = true) : mulD (.int i) (.int j) = some (.int (i * j)) := by
  show (if mulOk i j = true then some (D.int (i * j)) else none) = _
  rw [if_pos h]
theorem p64 : (2 : Int) ^ 64 = 18446744073709551616 := by decide
theorem mulD_l {i j : Int} (h1 : -18446744073709551616 < i) (h2 : i < 18446744073709551616) : mulD (.int i) (.int j) = some (.int (i * j)) := mulD_int (by
  unfold mulOk
  rw [p64, Bool.or_eq_true, Bool.and_eq_true, Bool.and_eq_true, decide_eq_true_iff, decide_eq_true_iff, decide_eq_true_iff, decide_eq_true_iff]
  exact .inr ⟨h1, h2⟩)
theorem mulD_r {i j : Int} (h1 : -18446744073709551616 < j) (h2 : j < 18446744073709551616) : mulD (.int i) (.int j) = some (.int (i * j)) := mulD_int (by
  unfold mulOk
  rw [p64, Bool.or_eq_true, Bool.and_eq_true, Bool.and_eq_true, decide_eq_true_iff, decide_eq_true_iff, decide_eq_true_iff, decide_eq_true_iff]
  exact .inl ⟨h1, h2⟩)
theorem fdivD_int {i j : Int} (h : CDiv i j) : fdivD (.int i) (.int j) = some (.int (i / j)) := by
  show (if CDiv i j then some (D.int (i / j)) else none) = _
  rw [if_pos h]
theorem modD_int {i j : Int} (h : 0 < j) : modD (.int i) (.int j) = some (.int (i % j)) := by
  show (if 0 < j then some (D.int (i % j)) else none) = _
  rw [if_pos h]
@[simp] theorem ltD_int (i j : Int) : ltD (.int i) (.int j) = some (.bl (decide (i < j))) := rfl
@[simp] theorem leD_int (i j : Int) : leD (.int i) (.int j) = some (.bl (decide (i ≤ j))) := rfl
@[simp] theorem gtD_int (i j : Int) : gtD (.int i) (.int j) = some (.bl (decide (j < i))) := rfl
@[simp] theorem geD_int (i j : Int) : geD (.int i) (.int j) = some (.bl (decide (j ≤ i))) := rfl
@[simp] theorem eqD_int (i j : Int) : eqD (.int i) (.int j) = some (.bl (decide (i = j))) := by
  show some (D.bl (i == j)) = _
  rw [Bool.beq_eq_decide_eq]
@[simp] theorem neD_int (i j : Int) : neD (.int i) (.int j) = some (.bl (!decide (i = j))) := by
  show some (D.bl (!(i == j))) = _
  rw [Bool.beq_eq_decide_eq]
@[simp] theorem own_tup : Tag.own .tup = false := rfl
@[simp] theorem own_lst (o : Bool) : Tag.own (.lst o) = o := rfl
@[simp] theorem own_dct (o t : Bool) (ks : List Ky) : Tag.own (.dct o t ks) = o := rfl
@[simp] theorem shr_int (i : Int) : (D.int i).shr = false := rfl
@[simp] theorem shr_str (i : Str) : (D.str i).shr = false := rfl
@[simp] theorem shr_bl (i : Bool) : (D.bl i).shr = false := rfl
@[simp] theorem shr_non : D.non.shr = false := rfl
@[simp] theorem shr_tup (xs : List D) : (D.node .tup xs).shr = shrs xs := rfl
@[simp] theorem shr_lst (o : Bool) (xs : List D) : (D.node (.lst o) xs).shr = (!o || shrs xs) := rfl
@[simp] theorem shr_dct (o t : Bool) (ks : List Ky) (xs : List D) : (D.node (.dct o t ks) xs).shr = (!o || shrs xs) := rfl
@[simp] theorem shrs_nil : shrs [] = false := rfl
@[simp] theorem shrs_cons (x : D) (xs : List D) : shrs (x :: xs) = (x.shr || shrs xs) := rfl
@[simp] theorem shr_cl (c : Cl) : (cD c).shr = false := rfl
@[simp] theorem frzAt_nil (ρ : En) : frzAt [] ρ = ρ := rfl
@[simp] theorem frzAt_cons (j : Nat) (js : List Nat) (ρ : En) : frzAt (j :: js) ρ = frzAt js (ρ.modify j fun o => o.map D.frz) := rfl
@[simp] theorem modify0 {α : Type} (f : α → α) (x : α) (xs : List α) : (x :: xs).modify 0 f = f x :: xs := rfl
@[simp] theorem modifyS {α : Type} (f : α → α) (n : Nat) (x : α) (xs : List α) : (x :: xs).modify (n + 1) f = x :: xs.modify n f := rfl
@[simp] theorem dep_int (n : Nat) (i : Int) : (D.int i).dep n = true := by cases n <;> rfl
@[simp] theorem dep_bl (n : Nat) (i : Bool) : (D.bl i).dep n = true := by cases n <;> rfl
@[simp] theorem dep_non (n : Nat) : D.non.dep n = true := by cases n <;> rfl
@[simp] theorem dep_str (n : Nat) (x : Str) : (D.str x).dep n = PyData.strOk x := by cases n <;> rfl
@[simp] theorem dep_tup (n : Nat) (xs : List D) : (D.node .tup xs).dep (n + 1) = deps n xs := by rw [D.dep]
@[simp] theorem dep_lst (n : Nat) (o : Bool) (xs : List D) : (D.node (.lst o) xs).dep (n + 1) = deps n xs := by rw [D.dep]
@[simp] theorem deps_nil (n : Nat) : deps n [] = true := by cases n <;> rfl
@[simp] theorem deps_cons (n : Nat) (x : D) (xs : List D) : deps n (x :: xs) = (x.dep n && deps n xs) := by cases n <;> rfl
theorem deps_all (n : Nat) (xs : List D) : deps n xs = xs.all (D.dep n) := by
  induction xs with
  | nil => simp
  | cons x xs ih => simp [ih]
theorem eqD_str {a b : Str} (ha : PyData.strOk a = true) (hb : PyData.strOk b = true) : eqD (.str a) (.str b) = some (.bl (a == b)) := by
  unfold eqD; rw [if_pos ⟨(dep_str 20 a).trans ha, (dep_str 20 b).trans hb⟩]; rfl
theorem neD_str {a b : Str} (ha : PyData.strOk a = true) (hb : PyData.strOk b = true) : neD (.str a) (.str b) = some (.bl (!(a == b))) := by
  unfold neD; rw [if_pos ⟨(dep_str 20 a).trans ha, (dep_str 20 b).trans hb⟩]; rfl
theorem eqD_of {a b : D} (ha : a.dep 20 = true) (hb : b.dep 20 = true) : eqD a b = some (.bl (eqT a b)) := by unfold eqD; rw [if_pos ⟨ha, hb⟩]
theorem neD_of {a b : D} (ha : a.dep 20 = true) (hb : b.dep 20 = true) : neD a b = some (.bl (!eqT a b)) := by unfold neD; rw [if_pos ⟨ha, hb⟩]
mutual
theorem eqT_refl : ∀ {n : Nat} {d : D}, d.dep n = true → eqT d d = true
  | _, .non, _ => rfl
  | _, .bl b, _ => by simp [eqT]
  | _, .int i, _ => by simp [eqT]
  | _, .str x, _ => by simp [eqT]
  | n + 1, .node .tup xs, h => by rw [eqT]; exact eqTs_refl (n := n) (by simpa [D.dep] using h)
  | n + 1, .node (.lst _) xs, h => by rw [eqT]; exact eqTs_refl (n := n) (by simpa [D.dep] using h)
  | 0, .node t xs, h => by cases t <;> simp [D.dep] at h
  | n + 1, .node (.dct _ _ _) xs, h => by simp [D.dep] at h
  | n + 1, .node (.ins _ _ _) xs, h => by simp [D.dep] at h
  | n + 1, .node (.io _ _ _) xs, h => by simp [D.dep] at h
  | n + 1, .node (.exc _) xs, h => by simp [D.dep] at h
  | n + 1, .node (.xd _) xs, h => by simp [D.dep] at h
theorem eqTs_refl : ∀ {n : Nat} {xs : List D}, deps n xs = true → eqTs xs xs = true
  | _, [], _ => rfl
  | n, x :: xs, h => by
    rw [deps, Bool.and_eq_true] at h
    rw [eqTs, eqT_refl h.1, eqTs_refl h.2]; rfl
end
theorem eqD_refl {d : D} (h : d.dep 20 = true) : eqD d d = some (.bl true) := by unfold eqD; rw [if_pos ⟨h, h⟩, eqT_refl h]
theorem neD_refl {d : D} (h : d.dep 20 = true) : neD d d = some (.bl false) := by unfold neD; rw [if_pos ⟨h, h⟩, eqT_refl h]; rfl
@[simp] theorem dep_cD (n : Nat) (c : Cl) : (cD c).dep (n + 1) = true := by cases n <;> rfl
@[simp] theorem eqT_cD (a b : Cl) : eqT (cD a) (cD b) = decide (a = b) := by
  obtain ⟨x, y, z⟩ := a
  obtain ⟨x', y', z'⟩ := b
  show ((x == x') && ((y == y') && ((z == z') && true))) = _
  by_cases h : ((x, y, z) : Cl) = (x', y', z')
  · rw [decide_eq_true h]
    cases h
    simp
  · rw [decide_eq_false h]
    simp only [Bool.and_true, Bool.and_eq_false_iff, beq_eq_false_iff_ne]
    by_cases h1 : x = x'
    · by_cases h2 : y = y'
      · by_cases h3 : z = z'
        · exact absurd (by rw [h1, h2, h3]) h
        · exact .inr (.inr h3)
      · exact .inr (.inl h2)
    · exact .inl h1
@[simp] theorem eqD_cD (a b : Cl) : eqD (cD a) (cD b) = some (.bl (decide (a = b))) := by unfold eqD; rw [if_pos ⟨dep_cD _ a, dep_cD _ b⟩, eqT_cD]
@[simp] theorem neD_cD (a b : Cl) : neD (cD a) (cD b) = some (.bl (!decide (a = b))) := by unfold neD; rw [if_pos ⟨dep_cD _ a, dep_cD _ b⟩, eqT_cD]
/-! loops -/
/-- a for whose turns all go on, by an invariant over what is left -/
theorem forF_inv {t : Tg} {body : En → Out} (I : List D → En → Prop) : ∀ (ds : List D) (ρ : En), I ds ρ → (∀ d ds ρ, I (d :: ds) ρ → ∃ xs, t.parts d = some xs ∧ ∃ ρ', (body (setAll t.slots xs ρ) = .nx ρ' ∨ body (setAll t.slots xs ρ) = .ct ρ') ∧ I ds ρ') → ∃ ρ', forF t body ds ρ = .nx ρ' ∧ I [] ρ'
  | [], ρ, h, _ => ⟨ρ, rfl, h⟩
  | d :: ds, ρ, h, s => by
    obtain ⟨xs, e1, ρ', e2, h2⟩ := s d ds ρ h
    obtain ⟨ρ2, e3, h3⟩ := forF_inv I ds ρ' h2 s
    refine ⟨ρ2, ?_, h3⟩
    rcases e2 with e2 | e2
    · simp only [forF, e1, e2]; exact e3
    · simp only [forF, e1, e2]; exact e3
@[simp] theorem frzs_numsD (ns : List Int) : frzs (numsD ns) = numsD ns := frzs_nums ns
theorem cut_nums (ns : List Int) (lo hi : Option Int) : cutD (numsD ns) lo hi = numsD (cutD ns lo hi) := by
  unfold cutD numsD
  rw [List.length_map, List.map_take, List.map_drop]
@[simp] theorem lstItems_lst (o : Bool) (xs : List D) : lstItems (.node (.lst o) xs) = some xs := rfl
@[simp] theorem tupItems_tup (xs : List D) : tupItems (.node .tup xs) = some xs := rfl
@[simp] theorem mfor_ap (fv : List Nat) (me : En → Res D) (t : Tg) (body : En → Out) (ρ : En) : mfor fv me t body ρ = thenE (me (frzE ρ)) ρ fun d => match lstItems d.frz with
  | some xs => forF t body xs (if d.shr = true then frzAt fv ρ else ρ)
  | none => .no := rfl
@[simp] theorem mforf_ap (mi : En → Res (List D)) (t : Tg) (body : En → Out) (ρ : En) : mforf mi t body ρ = thenE (mi (frzE ρ)) ρ fun ds => forF t body (frzs ds) ρ := rfl
@[simp] theorem mforv_ap (fv : List Nat) (mi : En → Res (List D)) (t : Tg) (body : En → Out) (ρ : En) : mforv fv mi t body ρ = thenE (mi (frzE ρ)) ρ fun ds => forF t body (frzs ds) (frzAt fv ρ) := rfl
@[simp] theorem slD_lst (o : Bool) (xs : List D) (lo hi : Option Int) : slD lo hi (.node (.lst o) xs) = some (.lst true (cutD xs lo hi)) := rfl
@[simp] theorem slD_tup (xs : List D) (lo hi : Option Int) : slD lo hi (.node .tup xs) = some (.tup (cutD xs lo hi)) := rfl
/-- the law's loop over the script's numbers -/
theorem loop_nums {i : Nat} {body : En → Out} (I : En → Prop) (step : ∀ (n : Int) (ρ : En), I ρ → ∃ ρ', (body (ρ.set i (some (.int n))) = .nx ρ' ∨ body (ρ.set i (some (.int n))) = .ct ρ') ∧ I ρ') : ∀ (ns : List Int) (ρ : En), I ρ → ∃ ρ', forF (.nm i) body (numsD ns) ρ = .nx ρ' ∧ I ρ'
  | [], ρ, h => ⟨ρ, rfl, h⟩
  | n :: ns, ρ, h => by
    obtain ⟨ρ', e2, h2⟩ := step n ρ h
    obtain ⟨ρ2, e3, h3⟩ := loop_nums I step ns ρ' h2
    refine ⟨ρ2, ?_, h3⟩
    show (match body (ρ.set i (some (.int n))) with
      | .nx ρ' => forF (.nm i) body (numsD ns) ρ'
      | .ct ρ' => forF (.nm i) body (numsD ns) ρ'
      | .bk ρ' => .nx ρ'
      | o => o) = _
    rcases e2 with e2 | e2
    · rw [e2]; exact e3
    · rw [e2]; exact e3
end Ev

/-! Ev, part Y: lists of cells in plain Lean; rules for loops. -/
namespace Ev
open PySem PySem.Spec L2
open PyProof.Rows hiding St
/-! ### loops by an invariant over what is left -/
/-- what a loop's turn does: goes on in R, or ends the loop in P -/
def Go (R : En → Prop) (P : Out → Prop) : Out → Prop
  | .nx ρ => R ρ
  | .ct ρ => R ρ
  | .bk ρ => P (.nx ρ)
  | .rt d ρ => P (.rt d ρ)
  | .ex x ρ => P (.ex x ρ)
  | .no => False
theorem forF_wp {α : Type} {t : Tg} {body : En → Out} (enc : α → D) (ps : α → List D) (R : List α → En → Prop) (P : Out → Prop) (hps : ∀ x, t.parts (enc x) = some (ps x)) (hend : ∀ ρ, R [] ρ → P (.nx ρ))
    (hstep : ∀ x xs ρ, R (x :: xs) ρ → Go (R xs) P (body (setAll t.slots (ps x) ρ))) : ∀ (xs : List α) (ρ : En), R xs ρ → P (forF t body (xs.map enc) ρ)
  | [], ρ, h => hend ρ h
  | x :: xs, ρ, h => by
    have q := hstep x xs ρ h
    rw [List.map_cons, forF, hps x]
    show P (match body (setAll t.slots (ps x) ρ) with
      | .nx ρ' => forF t body (xs.map enc) ρ'
      | .ct ρ' => forF t body (xs.map enc) ρ'
      | .bk ρ' => .nx ρ'
      | o => o)
    generalize body (setAll t.slots (ps x) ρ) = o at q
    cases o with
    | nx ρ' => exact forF_wp enc ps R P hps hend hstep xs ρ' q
    | ct ρ' => exact forF_wp enc ps R P hps hend hstep xs ρ' q
    | bk ρ' => exact q
    | rt d ρ' => exact q
    | ex d ρ' => exact q
    | no => exact q.elim
/-- the same, one name as the target -/
theorem forF_wp1 {α : Type} {i : Nat} {body : En → Out} (enc : α → D) (R : List α → En → Prop) (P : Out → Prop) (hend : ∀ ρ, R [] ρ → P (.nx ρ))
    (hstep : ∀ x xs ρ, R (x :: xs) ρ → Go (R xs) P (body (ρ.set i (some (enc x))))) (xs : List α) (ρ : En) (h : R xs ρ) : P (forF (.nm i) body (xs.map enc) ρ) :=
  forF_wp (t := .nm i) enc (fun x => [enc x]) R P (fun _ => rfl) hend hstep xs ρ h
/-- a while whose measure falls -/
theorem whF_wp {c : En → Res Bool} {body : En → Out} (R : Nat → En → Prop) (P : Out → Prop) (hstep : ∀ k ρ, R k ρ → ∃ b, c (frzE ρ) = .ok b ∧ if b = true then Go (fun ρ' => ∃ k', k' < k ∧ R k' ρ') P (body ρ) else P (.nx ρ)) : ∀ (n k : Nat) (ρ : En), k < n → R k ρ → P (whF c body n ρ)
  | 0, _, _, h, _ => by omega
  | n + 1, k, ρ, h, r => by
    obtain ⟨b, e, q⟩ := hstep k ρ r
    rw [whF, e]
    show P (if b = true then (match body ρ with
      | .nx ρ' => whF c body n ρ'
      | .ct ρ' => whF c body n ρ'
      | .bk ρ' => .nx ρ'
      | o => o) else .nx ρ)
    cases b with
    | false => exact q
    | true =>
      rw [if_pos rfl] at q ⊢
      generalize body ρ = o at q
      cases o with
      | nx ρ' => obtain ⟨k', l, q⟩ := q; exact whF_wp R P hstep n k' ρ' (by omega) q
      | ct ρ' => obtain ⟨k', l, q⟩ := q; exact whF_wp R P hstep n k' ρ' (by omega) q
      | bk ρ' => exact q
      | rt d ρ' => exact q
      | ex d ρ' => exact q
      | no => exact q.elim
theorem mwhile_wp {c : En → Res Bool} {body : En → Out} (R : Nat → En → Prop) (P : Out → Prop) (hstep : ∀ k ρ, R k ρ → ∃ b, c (frzE ρ) = .ok b ∧ if b = true then Go (fun ρ' => ∃ k', k' < k ∧ R k' ρ') P (body ρ) else P (.nx ρ)) (k : Nat) (ρ : En) (h : k < 1000000000000) (r : R k ρ) : P (mwhile c body ρ) :=
  whF_wp R P hstep big k ρ h r
/-! ### what comes behind -/
def thenO (o : Out) (b : En → Out) : Out := match o with | .nx ρ' => b ρ' | o => o
@[simp] theorem thenO_nx (ρ : En) (b : En → Out) : thenO (.nx ρ) b = b ρ := rfl
@[simp] theorem thenO_rt (d : D) (ρ : En) (b : En → Out) : thenO (.rt d ρ) b = .rt d ρ := rfl
@[simp] theorem thenO_ex (x : Ex) (ρ : En) (b : En → Out) : thenO (.ex x ρ) b = .ex x ρ := rfl
@[simp] theorem thenO_bk (ρ : En) (b : En → Out) : thenO (.bk ρ) b = .bk ρ := rfl
@[simp] theorem thenO_ct (ρ : En) (b : En → Out) : thenO (.ct ρ) b = .ct ρ := rfl
@[simp] theorem mseq_th (a b : En → Out) (ρ : En) : mseq a b ρ = thenO (a ρ) b := rfl
def outV : Out → Res D
  | .rt d _ => .ok d
  | .nx _ => .ok .non
  | .ex x _ => .ex x
  | _ => .no
@[simp] theorem outV_rt (d : D) (ρ : En) : outV (.rt d ρ) = .ok d := rfl
@[simp] theorem outV_nx (ρ : En) : outV (.nx ρ) = .ok .non := rfl
@[simp] theorem outV_ex (x : Ex) (ρ : En) : outV (.ex x ρ) = .ex x := rfl
theorem body_eq (n : Nat) (m : En → Out) (xs : List D) : bodyF n m xs = outV (m (ent n xs)) := rfl
@[simp] theorem Go_nx (R : En → Prop) (P : Out → Prop) (ρ : En) : Go R P (.nx ρ) = R ρ := rfl
@[simp] theorem Go_ct (R : En → Prop) (P : Out → Prop) (ρ : En) : Go R P (.ct ρ) = R ρ := rfl
@[simp] theorem Go_bk (R : En → Prop) (P : Out → Prop) (ρ : En) : Go R P (.bk ρ) = P (.nx ρ) := rfl
@[simp] theorem Go_rt (R : En → Prop) (P : Out → Prop) (d : D) (ρ : En) : Go R P (.rt d ρ) = P (.rt d ρ) := rfl
@[simp] theorem Go_ex (R : En → Prop) (P : Out → Prop) (x : Ex) (ρ : En) : Go R P (.ex x ρ) = P (.ex x ρ) := rfl
theorem Go_of {R : En → Prop} {P : Out → Prop} {o o' : Out} (h : o = o') (g : Go R P o') : Go R P o := by rw [h]; exact g
@[simp] theorem isiD_list (o : Bool) (xs : List D) : isiD "list" (.node (.lst o) xs) = some (.bl true) := rfl
@[simp] theorem isiD_tuple (xs : List D) : isiD "tuple" (.node .tup xs) = some (.bl true) := rfl
@[simp] theorem sto_ap (i : Nat) (fv : List Nat) (d : D) (ρ : En) : sto i fv d ρ = if d.shr = true then (frzAt fv ρ).set i (some d.frz) else ρ.set i (some d) := rfl
@[simp] theorem into_ap (d : D) : into d = if d.shr = true then d.frz else d := rfl
@[simp] theorem intoE_ap (fv : List Nat) (d : D) (ρ : En) : intoE fv d ρ = if d.shr = true then frzAt fv ρ else ρ := rfl
@[simp] theorem mutL_ap (k : List D → D → Option (List D)) (i : Nat) (fv : List Nat) (me : En → Res D) (ρ : En) : mutL k i fv me ρ = match ρ[i]? with
  | some (some (.node (.lst true) xs)) => thenE (me (frzE ρ)) ρ fun d => if d.shr = true ∧ i ∈ fv then .no else match k xs (into d) with
    | some ys => .nx ((intoE fv d ρ).set i (some (.lst true ys)))
    | none => .no
  | _ => .no := rfl
@[simp] theorem mretv_ap (i : Nat) (ρ : En) : mretv i ρ = match ρ[i]? with
  | some (some d) => .rt d (ρ.set i none)
  | _ => .no := rfl
theorem kApp_ok {xs : List D} {d : D} (h : xs.length < sizeLine) : kApp xs d = some (xs ++ [d]) := by unfold kApp; rw [if_pos h]
@[simp] theorem setAll_nil (ts : List Nat) (ρ : En) : setAll ts [] ρ = ρ := by cases ts <;> rfl
@[simp] theorem setAll_cons (t : Nat) (ts : List Nat) (d : D) (ds : List D) (ρ : En) : setAll (t :: ts) (d :: ds) ρ = setAll ts ds (ρ.set t (some d)) := rfl
@[simp] theorem slots_nm (i : Nat) : (Tg.nm i).slots = [i] := rfl
@[simp] theorem slots_tp (ts : List Nat) : (Tg.tp ts).slots = ts := rfl
@[simp] theorem into_cD (c : Cl) : into (cD c) = cD c := rfl
/-! ### comprehensions -/
theorem lcGo_map {α : Type} {t : Tg} {mt : En → Res Bool} {me : En → Res D} {ρ : En} (enc : α → D) (ps : α → List D) (p : α → Bool) (g : α → D) (hps : ∀ x, t.parts (enc x) = some (ps x)) : ∀ (xs : List α), (∀ x ∈ xs, mt (setAll t.slots (ps x) ρ) = .ok (p x)) →
    (∀ x ∈ xs, p x = true → me (setAll t.slots (ps x) ρ) = .ok (g x)) → lcGo t mt me ρ (xs.map enc) = .ok ((xs.filter p).map g)
  | [], _, _ => rfl
  | x :: xs, h1, h2 => by
    have ih := lcGo_map enc ps p g hps xs (fun y hy => h1 y (List.mem_cons_of_mem _ hy)) fun y hy => h2 y (List.mem_cons_of_mem _ hy)
    rw [List.map_cons, lcGo, hps x]
    show ((nox (mt (setAll t.slots (ps x) ρ))).bind fun c => if c = true then (nox (me (setAll t.slots (ps x) ρ))).bind fun y => (lcGo t mt me ρ (xs.map enc)).bind fun ys => .ok (y :: ys) else lcGo t mt me ρ (xs.map enc)) = _
    rw [h1 x List.mem_cons_self, ih]
    show (if p x = true then (nox (me (setAll t.slots (ps x) ρ))).bind fun y => .ok (y :: (xs.filter p).map g) else .ok ((xs.filter p).map g)) = _
    by_cases hp : p x = true
    · rw [if_pos hp, h2 x List.mem_cons_self hp, List.filter_cons_of_pos hp]; rfl
    · rw [if_neg hp, List.filter_cons_of_neg hp]
/-- without a condition -/
theorem lcGo_all {α : Type} {t : Tg} {me : En → Res D} {ρ : En} (enc : α → D) (ps : α → List D) (g : α → D) (hps : ∀ x, t.parts (enc x) = some (ps x)) (xs : List α) (h2 : ∀ x ∈ xs, me (setAll t.slots (ps x) ρ) = .ok (g x)) : lcGo t yes me ρ (xs.map enc) = .ok (xs.map g) := by
  rw [lcGo_map enc ps (fun _ => true) g hps xs (fun _ _ => rfl) fun x hx _ => h2 x hx, List.filter_eq_self.mpr fun _ _ => rfl]
theorem mlc_ap (mi : En → Res (List D)) (t : Tg) (mt : En → Res Bool) (me : En → Res D) (ρ : En) : mlc mi t mt me ρ = (mi ρ).bind fun ds => (lcGo t mt me ρ (frzs ds)).bind fun ys => .ok (.node (.lst true) ys) := rfl
@[simp] theorem mrange_ap (ms : List (En → Res D)) (ρ : En) : mrange ms ρ = (seqs ms ρ).bind fun xs => Res.of (rangeD (frzs xs)) := rfl
@[simp] theorem menum_ap (m : En → Res D) (ρ : En) : menum m ρ = (m ρ).bind fun x => (Res.of (lstItems x.frz)).bind fun xs => .ok (enumL 0 xs) := rfl
@[simp] theorem int1D_bl (b : Bool) : int1D [.bl b] = some (.int (if b then 1 else 0)) := rfl
@[simp] theorem int1D_int (i : Int) : int1D [.int i] = some (.int i) := rfl
@[simp] theorem isD_lst (o : Bool) (xs : List D) : isD (.node (.lst o) xs) .non = some (.bl false) := rfl
@[simp] theorem isD_cD (c : Cl) : isD (cD c) .non = some (.bl false) := rfl
@[simp] theorem isnD_cD (c : Cl) : isnD (cD c) .non = some (.bl true) := rfl
@[simp] theorem isnD_non : isnD .non .non = some (.bl false) := rfl
@[simp] theorem isnD_lst (o : Bool) (xs : List D) : isnD (.node (.lst o) xs) .non = some (.bl true) := rfl
@[simp] theorem isnD_tup (xs : List D) : isnD (.node .tup xs) .non = some (.bl true) := rfl
@[simp] theorem isD_tup (xs : List D) : isD (.node .tup xs) .non = some (.bl false) := rfl
@[simp] theorem isD_non : isD .non .non = some (.bl true) := rfl
@[simp] theorem frz_frzD (d : D) : d.frz.frz = d.frz := D.frz_frz d
@[simp] theorem minD_two (i j : Int) : minD [.int i, .int j] = some (.int (min i j)) := rfl
@[simp] theorem maxD_two (i j : Int) : maxD [.int i, .int j] = some (.int (max i j)) := rfl
@[simp] theorem eqD_bl (a b : Bool) : eqD (.bl a) (.bl b) = some (.bl (a == b)) := by rw [eqD_of (dep_bl 20 a) (dep_bl 20 b)]; rfl
@[simp] theorem neD_bl (a b : Bool) : neD (.bl a) (.bl b) = some (.bl (!(a == b))) := by rw [neD_of (dep_bl 20 a) (dep_bl 20 b)]; rfl
@[simp] theorem mrange3_ap (ms : List (En → Res D)) (ρ : En) : mrange3 ms ρ = (seqs ms ρ).bind fun xs => Res.of (rangeD3 (frzs xs)) := rfl
theorem addD_lst (o o' : Bool) {xs ys : List D} (h : xs.length + ys.length ≤ sizeLine) : addD (.node (.lst o) xs) (.node (.lst o') ys) = some (.node (.lst true) (xs ++ ys)) := by
  show (if xs.length + ys.length ≤ sizeLine then some (D.lst true (xs ++ ys)) else none) = _
  rw [if_pos h]
@[simp] theorem mitl_ap (m : En → Res D) (ρ : En) : mitl m ρ = (m ρ).bind fun x => Res.of (lstItems x.frz) := rfl
@[simp] theorem mitt_ap (m : En → Res D) (ρ : En) : mitt m ρ = (m ρ).bind fun x => Res.of (tupItems x.frz) := rfl
@[simp] theorem mzip_ap (ma mb : En → Res D) (ρ : En) : mzip ma mb ρ = (ma ρ).bind fun x => (mb ρ).bind fun y => (Res.of (lstItems x.frz)).bind fun xs => (Res.of (lstItems y.frz)).bind fun ys => .ok ((xs.zip ys).map fun p => .tup [p.1, p.2]) := rfl
@[simp] theorem mrev_ap (m : En → Res D) (ρ : En) : mrev m ρ = (m ρ).bind fun x => (Res.of (lstItems x.frz)).bind fun xs => .ok xs.reverse := rfl
/-! ### lists of cells -/
@[simp] theorem frzs_cs (cs : List Cl) : frzs (cs.map cD) = cs.map cD := frzs_id fun x hx => by
  obtain ⟨c, _, rfl⟩ := List.mem_map.mp hx; rfl
@[simp] theorem shrs_cs (cs : List Cl) : shrs (cs.map cD) = false := by
  induction cs with
  | nil => rfl
  | cons c cs ih => simp [ih]
@[simp] theorem deps_cs (n : Nat) (cs : List Cl) : deps (n + 1) (cs.map cD) = true := by
  induction cs with
  | nil => simp
  | cons c cs ih => simp [ih]
theorem dep_cs (o : Bool) (cs : List Cl) : (D.node (.lst o) (cs.map cD)).dep 20 = true := by
  rw [show (20 : Nat) = 19 + 1 from rfl, dep_lst, show (19 : Nat) = 18 + 1 from rfl, deps_cs]
@[simp] theorem eqTs_cs : ∀ as bs : List Cl, eqTs (as.map cD) (bs.map cD) = decide (as = bs)
  | [], [] => rfl
  | [], _ :: _ => rfl
  | _ :: _, [] => rfl
  | a :: as, b :: bs => by
    rw [List.map_cons, List.map_cons, eqTs, eqT_cD, eqTs_cs as bs]
    by_cases h : a = b
    · by_cases h2 : as = bs
      · rw [h, h2]; simp
      · simp [h, h2]
    · simp [h]
@[simp] theorem eqD_cs (o o' : Bool) (as bs : List Cl) : eqD (.node (.lst o) (as.map cD)) (.node (.lst o') (bs.map cD)) = some (.bl (decide (as = bs))) := by
  rw [eqD_of (dep_cs o as) (dep_cs o' bs), ← eqTs_cs]; rfl
@[simp] theorem neD_cs (o o' : Bool) (as bs : List Cl) : neD (.node (.lst o) (as.map cD)) (.node (.lst o') (bs.map cD)) = some (.bl (!decide (as = bs))) := by
  rw [neD_of (dep_cs o as) (dep_cs o' bs), ← eqTs_cs]; rfl
@[simp] theorem eqD_csN (o o' : Bool) (as : List Cl) : eqD (.node (.lst o) (as.map cD)) (.node (.lst o') []) = some (.bl (decide (as = []))) := eqD_cs o o' as []
@[simp] theorem neD_csN (o o' : Bool) (as : List Cl) : neD (.node (.lst o) (as.map cD)) (.node (.lst o') []) = some (.bl (!decide (as = []))) := neD_cs o o' as []
@[simp] theorem lenD_lst (o : Bool) (xs : List D) : lenD [.node (.lst o) xs] = some (.int xs.length) := rfl
@[simp] theorem lenD_tup (xs : List D) : lenD [.node .tup xs] = some (.int xs.length) := rfl
@[simp] theorem listD_lst (o : Bool) (xs : List D) : listD [.node (.lst o) xs] = some (.node (.lst true) xs) := rfl
/-! the order of cells -/
def c3 (c : Cl) : List Int := [c.1, c.2.1, c.2.2]
def clt (a b : Cl) : Bool := decide (a.1 < b.1 ∨ a.1 = b.1 ∧ (a.2.1 < b.2.1 ∨ a.2.1 = b.2.1 ∧ a.2.2 < b.2.2))
def cle (a b : Cl) : Bool := !clt b a
theorem clt_iff {a b : Cl} : clt a b = true ↔ a.1 < b.1 ∨ a.1 = b.1 ∧ (a.2.1 < b.2.1 ∨ a.2.1 = b.2.1 ∧ a.2.2 < b.2.2) := by unfold clt; rw [decide_eq_true_iff]
theorem cle_iff {a b : Cl} : cle a b = true ↔ ¬ (b.1 < a.1 ∨ b.1 = a.1 ∧ (b.2.1 < a.2.1 ∨ b.2.1 = a.2.1 ∧ b.2.2 < a.2.2)) := by unfold cle clt; rw [Bool.not_eq_true', decide_eq_false_iff_not]
theorem cl_eq {a b : Cl} (h1 : a.1 = b.1) (h2 : a.2.1 = b.2.1) (h3 : a.2.2 = b.2.2) : a = b := by
  obtain ⟨x, y, z⟩ := a; obtain ⟨x', y', z'⟩ := b; simp only at h1 h2 h3; rw [h1, h2, h3]
theorem cle_total (a b : Cl) : (cle a b || cle b a) = true := by
  rw [Bool.or_eq_true, cle_iff, cle_iff]; omega
theorem cle_trans (a b c : Cl) (h : cle a b = true) (h2 : cle b c = true) : cle a c = true := by
  rw [cle_iff] at *; omega
theorem cle_anti {a b : Cl} (h : cle a b = true) (h2 : cle b a = true) : a = b := by
  rw [cle_iff] at *; exact cl_eq (by omega) (by omega) (by omega)
theorem clt_irrefl (a : Cl) : clt a a = false := by rw [Bool.eq_false_iff, Ne, clt_iff]; omega
theorem clt_trans {a b c : Cl} (h : clt a b = true) (h2 : clt b c = true) : clt a c = true := by rw [clt_iff] at *; omega
theorem clt_of_le_ne {a b : Cl} (h : cle a b = true) (h2 : a ≠ b) : clt a b = true := by
  rw [cle_iff] at h; rw [clt_iff]
  by_cases e1 : a.1 = b.1
  · by_cases e2 : a.2.1 = b.2.1
    · by_cases e3 : a.2.2 = b.2.2
      · exact absurd (cl_eq e1 e2 e3) h2
      · omega
    · omega
  · omega
theorem cle_of_lt {a b : Cl} (h : clt a b = true) : cle a b = true := by rw [clt_iff] at h; rw [cle_iff]; omega
theorem clt_asymm {a b : Cl} (h : clt a b = true) : clt b a = false := by
  rw [Bool.eq_false_iff]; intro h2; have := clt_trans h h2; rw [clt_irrefl] at this; cases this
theorem lt3 (x y z x' y' z' : Int) : ([x, y, z] : List Int) < [x', y', z'] ↔ x < x' ∨ x = x' ∧ (y < y' ∨ y = y' ∧ z < z') := by
  rw [List.cons_lt_cons_iff, List.cons_lt_cons_iff, List.cons_lt_cons_iff]
  have : ¬ ([] : List Int) < [] := by intro h; cases h
  simp [this]
theorem dataLt_cD (a b : Cl) : PySem.W.dataLt (cD a).py (cD b).py = clt a b := by
  have q : PySem.W.rowLt ([a.1, a.2.1, a.2.2].map .int) ([b.1, b.2.1, b.2.2].map .int) = decide (([a.1, a.2.1, a.2.2] : List Int) < [b.1, b.2.1, b.2.2]) := PySem.W.dataLt_ints _ _
  refine Eq.trans (show PySem.W.dataLt (cD a).py (cD b).py = PySem.W.rowLt ([a.1, a.2.1, a.2.2].map .int) ([b.1, b.2.1, b.2.2].map .int) from rfl) (q.trans ?_)
  unfold clt
  exact decide_eq_decide.mpr (lt3 ..)
theorem leD3_cD (a b : Cl) : leD3 (cD a) (cD b) = cle a b := by
  unfold leD3 cle
  rw [PySem.W.dataLe_eq]
  show (!PySem.W.dataLt (cD b).py (cD a).py) = _
  rw [dataLt_cD]
def sortC (cs : List Cl) : List Cl := cs.mergeSort cle
theorem sortC_perm (cs : List Cl) : (sortC cs).Perm cs := List.mergeSort_perm ..
theorem sortC_sorted (cs : List Cl) : (sortC cs).Pairwise (fun a b => cle a b = true) := List.pairwise_mergeSort (fun a b c h1 h2 => cle_trans a b c h1 h2) (fun a b => cle_total a b) cs
theorem sortOk_cs (cs : List Cl) : sortOk (cs.map cD) = true := by
  unfold sortOk
  rw [Bool.and_eq_true, Bool.and_eq_true, Bool.or_eq_true]
  refine ⟨?_, ?_, .inl ?_⟩
  · rw [List.all_map, List.all_eq_true]; intro c _; exact dep_cD _ c
  · rw [List.all_map, List.all_eq_true]; intro c _
    show (cs.map cD).all _ = true
    rw [List.all_map, List.all_eq_true]; intro d _; rfl
  · rw [List.all_map, List.all_eq_true]; intro c _; rfl
@[simp] theorem sortD_cs (o : Bool) (cs : List Cl) : sortD [.node (.lst o) (cs.map cD)] = some (.node (.lst true) ((sortC cs).map cD)) := by
  show (if sortOk (cs.map cD) = true then some (D.lst true ((cs.map cD).mergeSort leD3)) else none) = _
  rw [if_pos (sortOk_cs cs)]
  unfold sortC
  rw [PySem.W.sort_maps (s := leD3) cD fun a _ b _ => (leD3_cD a b).symm]
theorem mem_sortC {c : Cl} {cs : List Cl} : c ∈ sortC cs ↔ c ∈ cs := (sortC_perm cs).mem_iff
theorem length_sortC (cs : List Cl) : (sortC cs).length = cs.length := (sortC_perm cs).length_eq
/-- two lists in order with the same items are one -/
theorem sorted_unique {as bs : List Cl} (ha : as.Pairwise (fun a b => cle a b = true)) (hb : bs.Pairwise (fun a b => cle a b = true)) (h : as.Perm bs) : as = bs :=
  h.eq_of_pairwise (fun a b _ _ h1 h2 => cle_anti h1 h2) ha hb
/-- a body: its cells in order, each once -/
def Bd (cs : List Cl) : Prop := cs.Pairwise fun a b => clt a b = true
theorem Bd.le {cs : List Cl} (h : Bd cs) : cs.Pairwise (fun a b => cle a b = true) := List.Pairwise.imp (fun {a b} h => cle_of_lt h) h
theorem Bd.nodup {cs : List Cl} (h : Bd cs) : cs.Nodup := List.Pairwise.imp (fun {a b} h e => by rw [e, clt_irrefl] at h; cases h) h
theorem Bd.eq {as bs : List Cl} (ha : Bd as) (hb : Bd bs) (h : ∀ c, c ∈ as ↔ c ∈ bs) : as = bs :=
  sorted_unique ha.le hb.le ((List.perm_ext_iff_of_nodup ha.nodup hb.nodup).mpr h)
theorem bd_sort {cs : List Cl} (h : cs.Nodup) : Bd (sortC cs) := by
  have h1 := sortC_sorted cs
  have h2 : (sortC cs).Nodup := (sortC_perm cs).nodup_iff.mpr h
  exact List.Pairwise.imp (fun {a b} ⟨x, y⟩ => clt_of_le_ne x y) (List.Pairwise.and h1 h2)
/-- the body of some cells -/
def addB (acc : List Cl) (c : Cl) : List Cl := if acc.getLast? = some c then acc else acc ++ [c]
def bodyC (cs : List Cl) : List Cl := (sortC cs).foldl addB []
theorem addB_ok : ∀ (cs acc : List Cl), cs.Pairwise (fun a b => cle a b = true) → Bd acc → (∀ a ∈ acc, ∀ c ∈ cs, cle a c = true) → Bd (cs.foldl addB acc) ∧ ∀ c, c ∈ cs.foldl addB acc ↔ c ∈ acc ∨ c ∈ cs
  | [], acc, _, h, _ => ⟨h, fun c => by simp⟩
  | c :: cs, acc, hc, h, hl => by
    rw [List.pairwise_cons] at hc
    have hl2 : ∀ a ∈ addB acc c, ∀ d ∈ cs, cle a d = true := by
      intro a ha d hd
      unfold addB at ha
      split at ha
      · exact hl a ha d (List.mem_cons_of_mem _ hd)
      · rcases List.mem_append.mp ha with ha | ha
        · exact hl a ha d (List.mem_cons_of_mem _ hd)
        · rw [List.mem_singleton.mp ha]; exact hc.1 d hd
    have hb : Bd (addB acc c) := by
      unfold addB
      split
      · exact h
      · rename_i hn
        refine List.pairwise_append.mpr ⟨h, List.pairwise_singleton .., fun a ha d hd => ?_⟩
        rw [List.mem_singleton.mp hd]
        refine clt_of_le_ne (hl a ha c List.mem_cons_self) fun e => hn ?_
        rw [e] at ha
        obtain ⟨s, t, et⟩ := List.append_of_mem ha
        cases t with
        | nil => rw [et]; simp
        | cons u t =>
          exfalso
          have hu : u ∈ acc := by rw [et]; simp
          have h1 : clt c u = true := by
            unfold Bd at h
            rw [et, List.pairwise_append] at h
            exact (List.pairwise_cons.mp h.2.1).1 u List.mem_cons_self
          have h2 := hl u hu c List.mem_cons_self
          rw [clt_iff] at h1; rw [cle_iff] at h2
          omega
    obtain ⟨q1, q2⟩ := addB_ok cs (addB acc c) hc.2 hb hl2
    refine ⟨q1, fun d => (q2 d).trans ?_⟩
    unfold addB
    split
    · rename_i hn
      have hm : c ∈ acc := List.mem_of_getLast? hn
      constructor
      · rintro (x | x)
        · exact .inl x
        · exact .inr (List.mem_cons_of_mem _ x)
      · rintro (x | x)
        · exact .inl x
        · rcases List.mem_cons.mp x with rfl | x
          · exact .inl hm
          · exact .inr x
    · rw [List.mem_append, List.mem_singleton, List.mem_cons, or_assoc]
theorem bodyC_bd (cs : List Cl) : Bd (bodyC cs) := (addB_ok (sortC cs) [] (sortC_sorted cs) .nil fun _ z => nomatch z).1
theorem mem_bodyC {c : Cl} {cs : List Cl} : c ∈ bodyC cs ↔ c ∈ cs := by
  unfold bodyC
  rw [(addB_ok (sortC cs) [] (sortC_sorted cs) .nil fun _ z => nomatch z).2 c, mem_sortC]
  simp
theorem foldB_len : ∀ (cs acc : List Cl), (cs.foldl addB acc).length ≤ acc.length + cs.length
  | [], _ => by simp
  | c :: cs, acc => by
    have q := foldB_len cs (addB acc c)
    have : (addB acc c).length ≤ acc.length + 1 := by unfold addB; split <;> simp
    rw [List.foldl_cons, List.length_cons]; omega
theorem bodyC_len (cs : List Cl) : (bodyC cs).length ≤ cs.length := by
  have := foldB_len (sortC cs) []
  rw [length_sortC] at this
  simpa [bodyC] using this
theorem bodyC_of_bd {cs : List Cl} (h : Bd cs) : bodyC cs = cs := (bodyC_bd cs).eq h fun _ => mem_bodyC
theorem sortC_bd {cs : List Cl} (h : cs.Nodup) : sortC cs = bodyC cs := (bd_sort h).eq (bodyC_bd cs) fun c => by rw [mem_sortC, mem_bodyC]
theorem ix_last (o : Bool) (cs : List Cl) (h : cs ≠ []) : ixD (.node (.lst o) (cs.map cD)) (.int (-1)) = (cs.getLast?).map cD := by
  have h0 : 0 < cs.length := List.length_pos_iff.mpr h
  have e : ixN cs.length (-1) = some (cs.length - 1) := by
    unfold ixN; rw [if_neg (by omega), if_pos (by omega)]; congr 1; omega
  show ((ixN (cs.map cD).length (-1)).bind fun j => (cs.map cD)[j]?) = _
  rw [List.length_map, e, List.getLast?_eq_getElem?]
  simp
end Ev

/-! Ev, part Z: dicts that hold cells, in plain Lean. -/
namespace Ev
open PySem PySem.Spec L2
open PyProof.Rows hiding St
@[simp] theorem mutN_ap (k : Tag → List D → D → Option (Tag × List D)) (i : Nat) (fv : List Nat) (me : En → Res D) (ρ : En) : mutN k i fv me ρ = match ρ[i]? with
  | some (some (.node t xs)) => if t.own = true then thenE (me (frzE ρ)) ρ fun d => if d.shr = true ∧ i ∈ fv then .no else match k t xs (into d) with
    | some (t', ys) => .nx ((intoE fv d ρ).set i (some (.node t' ys)))
    | none => .no
    else .no
  | _ => .no := rfl
@[simp] theorem mputD_ap (i : Nat) (fv : List Nat) (mk me : En → Res D) (ρ : En) : mputD i fv mk me ρ = match mk (frzE ρ) with
  | .ok kd => (match keyD kd.frz with
    | some k => mutN (kPut k) i fv me ρ
    | none => .no)
  | _ => .no := rfl
@[simp] theorem msettl_ap (ts : List Nat) (fv : List Nat) (me : En → Res D) (ρ : En) : msettl ts fv me ρ = thenE (me (frzE ρ)) ρ fun d => match (Tg.tl ts).parts d.frz with
  | some xs => .nx (stoL ts fv d ρ xs)
  | none => .no := rfl
@[simp] theorem msett_ap (ts : List Nat) (fv : List Nat) (me : En → Res D) (ρ : En) : msett ts fv me ρ = thenE (me (frzE ρ)) ρ fun d => match (Tg.tp ts).parts d with
  | some xs => .nx (stoT ts fv d ρ xs)
  | none => .no := rfl
@[simp] theorem stoT_ap (ts : List Nat) (fv : List Nat) (d : D) (ρ : En) (xs : List D) : stoT ts fv d ρ xs = setAll ts (frzs xs) (if d.shr = true then frzAt fv ρ else ρ) := rfl
@[simp] theorem stoL_ap (ts : List Nat) (fv : List Nat) (d : D) (ρ : En) (xs : List D) : stoL ts fv d ρ xs = setAll ts xs (if d.shr = true then frzAt fv ρ else ρ) := rfl
@[simp] theorem parts_nm (i : Nat) (d : D) : (Tg.nm i).parts d = some [d] := rfl
@[simp] theorem parts_tp (ts : List Nat) (xs : List D) : (Tg.tp ts).parts (.node .tup xs) = if xs.length = ts.length then some xs else none := rfl
@[simp] theorem parts_tl (ts : List Nat) (xs : List D) : (Tg.tl ts).parts (.node (.lst false) xs) = if xs.length = ts.length then some xs else none := rfl
theorem mputL_ap (i : Nat) (fv : List Nat) (mk me : En → Res D) (ρ : En) : mputL i fv mk me ρ = match mk (frzE ρ) with
  | .ok (.int j) => mutL (kSet j) i fv me ρ
  | _ => .no := rfl
/-- a cell as a key -/
def cK (c : Cl) : Ky := .inr [.inl c.1, .inl c.2.1, .inl c.2.2]
@[simp] theorem keyD_cD (c : Cl) : keyD (cD c) = some (cK c) := rfl
@[simp] theorem kyD_cK (c : Cl) : kyD (cK c) = cD c := rfl
theorem cK_inj {a b : Cl} (h : cK a = cK b) : a = b := by
  have h1 := Sum.inr.inj h
  simp only [List.cons.injEq, Sum.inl.injEq] at h1
  exact cl_eq h1.1 h1.2.1 h1.2.2.1
/-- the dict with the keys cs and a value each -/
def dcD (o : Bool) (kvs : List (Cl × D)) : D := .node (.dct o true (kvs.map fun p => cK p.1)) (kvs.map (·.2))
def putC (kvs : List (Cl × D)) (c : Cl) (d : D) : List (Cl × D) := put kvs c d
theorem putT_dc (c : Cl) (d : D) (kvs : List (Cl × D)) (hn : (kvs.map (·.1)).Nodup) : putT (kvs.map fun p => cK p.1) (kvs.map (·.2)) (cK c) d = ((putC kvs c d).map (fun p => cK p.1), (putC kvs c d).map (·.2)) := by
  have hm : kvs.map (fun p => cK p.1) = (kvs.map (·.1)).map cK := by rw [List.map_map]; rfl
  have e1 : idxG (kvs.map fun p => cK p.1) (cK c) = idxG (kvs.map (·.1)) c := by rw [hm]; exact idxG_map (fun _ _ z => cK_inj z) c _
  unfold putT putC put
  rw [e1]
  cases ei : idxG (kvs.map (·.1)) c with
  | none =>
    have hc := idxG_none ei
    have ha : (kvs.any fun p => decide (p.1 = c)) = false := by
      rw [List.any_eq_false]
      intro p hp h
      exact hc (List.mem_map.mpr ⟨p, hp, by simpa using h⟩)
    rw [if_neg (by rw [ha]; decide)]
    simp
  | some n =>
    have key : ∀ (kvs : List (Cl × D)) (n : Nat), (kvs.map (·.1)).Nodup → idxG (kvs.map (·.1)) c = some n → (kvs.any fun p => decide (p.1 = c)) = true ∧ (kvs.map (·.2)).set n d = (kvs.map fun p => if p.1 = c then (p.1, d) else p).map (·.2) ∧ kvs.map (fun p => cK p.1) = (kvs.map fun p => if p.1 = c then (p.1, d) else p).map (fun p => cK p.1) := by
      intro kvs
      induction kvs with
      | nil => intro n _ h; cases h
      | cons p kvs ih =>
        intro n hn h
        rw [List.map_cons, List.nodup_cons] at hn
        rw [List.map_cons, idxG] at h
        by_cases e : p.1 = c
        · rw [if_pos e] at h; cases h
          have aux : ∀ q ∈ kvs, (if q.1 = c then (q.1, d) else q) = q := fun q hq => if_neg fun z => hn.1 (by rw [e, ← z]; exact List.mem_map.mpr ⟨q, hq, rfl⟩)
          have aux2 : (kvs.map fun p => if p.1 = c then (p.1, d) else p) = kvs := by
            rw [List.map_congr_left aux]; simp
          refine ⟨by simp [e], ?_, ?_⟩
          · rw [List.map_cons, List.map_cons, List.map_cons, aux2, List.set_cons_zero, if_pos e]
          · rw [List.map_cons, List.map_cons, List.map_cons, aux2, if_pos e]
        · rw [if_neg e] at h
          obtain ⟨m, hm, rfl⟩ := Option.map_eq_some_iff.mp h
          obtain ⟨a1, a2, a3⟩ := ih m hn.2 hm
          refine ⟨by rw [List.any_cons, a1, Bool.or_true], ?_, ?_⟩
          · rw [List.map_cons, List.set_cons_succ, a2, List.map_cons, List.map_cons, if_neg e]
          · rw [List.map_cons, a3, List.map_cons, List.map_cons, if_neg e]
    obtain ⟨a1, a2, a3⟩ := key kvs n hn ei
    rw [if_pos a1]
    exact Prod.ext a3 a2
theorem kPut_dc (c : Cl) (d : D) (kvs : List (Cl × D)) (hn : (kvs.map (·.1)).Nodup) (hl : kvs.length < sizeLine) : kPut (cK c) (.dct true true (kvs.map fun p => cK p.1)) (kvs.map (·.2)) d = some (.dct true true ((putC kvs c d).map fun p => cK p.1), (putC kvs c d).map (·.2)) := by
  show (if Kd true (cK c) = true ∧ (kvs.map fun p => cK p.1).Nodup ∧ (kvs.map fun p => cK p.1).length < sizeLine then _ else none) = _
  have hm : kvs.map (fun p => cK p.1) = (kvs.map (·.1)).map cK := by rw [List.map_map]; rfl
  rw [if_pos ⟨rfl, by rw [hm]; exact List.pairwise_map.mpr (List.Pairwise.imp (fun {a b} h e => h (cK_inj e)) hn), by rw [List.length_map]; exact hl⟩, putT_dc c d kvs hn]
theorem put_keys (kvs : List (Cl × D)) (c : Cl) (d : D) : (putC kvs c d).map (·.1) = if c ∈ kvs.map (·.1) then kvs.map (·.1) else kvs.map (·.1) ++ [c] := by
  unfold putC put
  by_cases h : c ∈ kvs.map (·.1)
  · have ha : (kvs.any fun p => decide (p.1 = c)) = true := by
      obtain ⟨p, hp, e⟩ := List.mem_map.mp h
      exact List.any_eq_true.mpr ⟨p, hp, by simpa using e⟩
    rw [if_pos ha, if_pos h, List.map_map]
    refine List.map_congr_left fun p _ => ?_
    show (if p.1 = c then (p.1, d) else p).1 = p.1
    split <;> rfl
  · have ha : ¬ (kvs.any fun p => decide (p.1 = c)) = true := by
      intro z
      obtain ⟨p, hp, e⟩ := List.any_eq_true.mp z
      exact h (List.mem_map.mpr ⟨p, hp, by simpa using e⟩)
    rw [if_neg ha, if_neg h, List.map_append]; rfl
theorem put_nodup {kvs : List (Cl × D)} (c : Cl) (d : D) (hn : (kvs.map (·.1)).Nodup) : ((putC kvs c d).map (·.1)).Nodup := by
  rw [put_keys]
  split
  · exact hn
  · rename_i h
    exact List.nodup_append.mpr ⟨hn, by simp, fun a ha b hb e => h (by rw [← List.mem_singleton.mp hb, ← e]; exact ha)⟩
theorem mem_put {kvs : List (Cl × D)} {c c' : Cl} {d : D} : c' ∈ (putC kvs c d).map (·.1) ↔ c' = c ∨ c' ∈ kvs.map (·.1) := by
  rw [put_keys]
  split
  · rename_i h
    constructor
    · exact .inr
    · rintro (rfl | z)
      · exact h
      · exact z
  · rw [List.mem_append, List.mem_singleton]; exact or_comm
theorem length_put (kvs : List (Cl × D)) (c : Cl) (d : D) : (putC kvs c d).length ≤ kvs.length + 1 := by
  unfold putC put
  split
  · rw [List.length_map]; omega
  · simp
/-- a look-up by a cell -/
theorem lkp_dc (c : Cl) : ∀ kvs : List (Cl × D), lkp ((kvs.map fun p => cK p.1).zip (kvs.map (·.2))) (cK c) = lkp kvs c
  | [] => rfl
  | p :: kvs => by
    rw [List.map_cons, List.map_cons, List.zip_cons_cons, lkp_cons, lkp_cons, lkp_dc c kvs]
    by_cases h : p.1 = c
    · rw [if_pos h, if_pos (by rw [h])]
    · rw [if_neg h, if_neg fun z => h (cK_inj z)]
theorem lookD_dc (o : Bool) (kvs : List (Cl × D)) (c : Cl) : lookD (.node (.dct o true (kvs.map fun p => cK p.1)) (kvs.map (·.2))) (cD c) = some (lkp kvs c) := by
  show (if Kd true (cK c) = true then some (lkp ((kvs.map fun p => cK p.1).zip (kvs.map (·.2))) (cK c)) else none) = _
  rw [if_pos (show Kd true (cK c) = true from rfl), lkp_dc]
theorem lkp_some {kvs : List (Cl × D)} {c : Cl} : (lkp kvs c).isSome = decide (c ∈ kvs.map (·.1)) := by
  induction kvs with
  | nil => rfl
  | cons p kvs ih =>
    rw [lkp_cons]
    by_cases h : p.1 = c
    · simp [h]
    · rw [if_neg h, ih, List.map_cons]
      simp [Ne.symm h]
theorem inD_dc (o : Bool) (kvs : List (Cl × D)) (c : Cl) : inD (cD c) (.node (.dct o true (kvs.map fun p => cK p.1)) (kvs.map (·.2))) = some (.bl (decide (c ∈ kvs.map (·.1)))) := by
  show (lookD (.node (.dct o true (kvs.map fun p => cK p.1)) (kvs.map (·.2))) (cD c)).map (fun r => D.bl r.isSome) = _
  rw [lookD_dc, ← lkp_some]; rfl
theorem ninD_dc (o : Bool) (kvs : List (Cl × D)) (c : Cl) : ninD (cD c) (.node (.dct o true (kvs.map fun p => cK p.1)) (kvs.map (·.2))) = some (.bl (!decide (c ∈ kvs.map (·.1)))) := by
  unfold ninD
  rw [inD_dc]
theorem ixD_dc (o : Bool) {kvs : List (Cl × D)} {c : Cl} {d : D} (h : lkp kvs c = some d) : ixD (.node (.dct o true (kvs.map fun p => cK p.1)) (kvs.map (·.2))) (cD c) = some d := by
  show (lookD (.node (.dct o true (kvs.map fun p => cK p.1)) (kvs.map (·.2))) (cD c)).bind id = _
  rw [lookD_dc, h]; rfl
theorem lkp_put (kvs : List (Cl × D)) (c c' : Cl) (d : D) : lkp (putC kvs c d) c' = if c' = c then some d else lkp kvs c' := by
  unfold putC put
  by_cases ha : (kvs.any fun p => decide (p.1 = c)) = true
  · rw [if_pos ha]
    have key : ∀ kvs : List (Cl × D), lkp (kvs.map fun p => if p.1 = c then (p.1, d) else p) c' = (if c' = c then (if c ∈ kvs.map (·.1) then some d else none) else lkp kvs c') := by
      intro kvs
      induction kvs with
      | nil => simp
      | cons p kvs ih =>
        rw [List.map_cons, lkp_cons, ih, lkp_cons]
        by_cases h1 : p.1 = c
        · by_cases h2 : c' = c
          · simp [h1, h2]
          · have : ¬ c = c' := fun z => h2 z.symm
            simp [h1, h2, this]
        · by_cases h2 : c' = c
          · subst h2
            have hq : (c' ∈ (p :: kvs).map (·.1)) ↔ c' ∈ kvs.map (·.1) := by
              rw [List.map_cons, List.mem_cons]; exact ⟨fun z => z.resolve_left (Ne.symm h1), .inr⟩
            rw [if_neg h1, if_neg h1, if_pos rfl, if_pos rfl]
            by_cases hk : c' ∈ kvs.map (·.1)
            · rw [if_pos hk, if_pos (hq.mpr hk)]
            · rw [if_neg hk, if_neg fun z => hk (hq.mp z)]
          · simp [h1, h2]
    rw [key]
    have hm : c ∈ kvs.map (·.1) := by
      obtain ⟨p, hp, e⟩ := List.any_eq_true.mp ha
      exact List.mem_map.mpr ⟨p, hp, by simpa using e⟩
    rw [if_pos hm]
  · rw [if_neg ha]
    have key : ∀ kvs : List (Cl × D), (kvs.any fun p => decide (p.1 = c)) = false → lkp (kvs ++ [(c, d)]) c' = if c' = c then some d else lkp kvs c' := by
      intro kvs
      induction kvs with
      | nil =>
        intro _
        rw [List.nil_append, lkp_cons]
        by_cases h : c' = c
        · simp [h]
        · rw [if_neg fun z => h z.symm, if_neg h]
      | cons p kvs ih =>
        intro h
        rw [List.any_cons, Bool.or_eq_false_iff] at h
        rw [List.cons_append, lkp_cons, ih h.2, lkp_cons]
        have hp : ¬ p.1 = c := by simpa using h.1
        by_cases h2 : c' = c
        · subst h2; simp [hp]
        · simp [h2]
    exact key kvs (Bool.eq_false_iff.mpr ha)
@[simp] theorem frz_dc (o : Bool) (kvs : List (Cl × D)) : (dcD o kvs).frz = dcD false (kvs.map fun p => (p.1, p.2.frz)) := by
  show D.node (.dct false true (kvs.map fun p => cK p.1)) (frzs (kvs.map (·.2))) = D.node (.dct false true ((kvs.map fun p => (p.1, p.2.frz)).map fun p => cK p.1)) ((kvs.map fun p => (p.1, p.2.frz)).map (·.2))
  have : frzs (kvs.map (·.2)) = (kvs.map fun p => (p.1, p.2.frz)).map (·.2) := by
    induction kvs with
    | nil => rfl
    | cons p kvs ih => rw [List.map_cons, frzs, ih]; rfl
  rw [this]
  simp [Function.comp_def]
/-- a set of cells: a dict with True for each -/
def setK (cs : List Cl) : List Ky := cs.map cK
def setV (cs : List Cl) : List D := cs.map fun _ => .bl true
def addS (cs : List Cl) (c : Cl) : List Cl := if c ∈ cs then cs else cs ++ [c]
def kvS (cs : List Cl) : List (Cl × D) := cs.map fun c => (c, .bl true)
theorem kvS_k (cs : List Cl) : (kvS cs).map (fun p => cK p.1) = setK cs := by unfold kvS setK; rw [List.map_map]; rfl
theorem kvS_v (cs : List Cl) : (kvS cs).map (·.2) = setV cs := by unfold kvS setV; rw [List.map_map]; rfl
theorem kvS_1 (cs : List Cl) : (kvS cs).map (·.1) = cs := by unfold kvS; rw [List.map_map]; exact List.map_id _
theorem kvS_put (cs : List Cl) (c : Cl) : putC (kvS cs) c (.bl true) = kvS (addS cs c) := by
  unfold putC put addS
  have hm : ((kvS cs).any fun p => decide (p.1 = c)) = decide (c ∈ cs) := by
    unfold kvS
    rw [List.any_map]
    induction cs with
    | nil => rfl
    | cons x cs ih =>
      rw [List.any_cons, ih]
      by_cases h : x = c
      · simp [h]
      · simp [h, Ne.symm h]
  rw [hm]
  by_cases h : c ∈ cs
  · rw [if_pos h, if_pos (decide_eq_true h)]
    unfold kvS
    rw [List.map_map]
    refine List.map_congr_left fun x _ => ?_
    show (if x = c then (x, D.bl true) else (x, D.bl true)) = _
    split <;> rfl
  · rw [if_neg h, if_neg (by simpa using h)]
    unfold kvS
    simp
@[simp] theorem kPut_set (c : Cl) {cs : List Cl} (hn : cs.Nodup) (hl : cs.length < sizeLine) : kPut (cK c) (.dct true true (setK cs)) (setV cs) (.bl true) = some (.dct true true (setK (addS cs c)), setV (addS cs c)) := by
  have q := kPut_dc c (.bl true) (kvS cs) (by rw [kvS_1]; exact hn) (by unfold kvS; rw [List.length_map]; exact hl)
  rw [kvS_k, kvS_v, kvS_put, kvS_k, kvS_v] at q
  exact q
@[simp] theorem inD_set (o : Bool) (cs : List Cl) (c : Cl) : inD (cD c) (.node (.dct o true (setK cs)) (setV cs)) = some (.bl (decide (c ∈ cs))) := by
  have q := inD_dc o (kvS cs) c
  rw [kvS_k, kvS_v] at q
  rw [q]; simp only [kvS_1]
@[simp] theorem ninD_set (o : Bool) (cs : List Cl) (c : Cl) : ninD (cD c) (.node (.dct o true (setK cs)) (setV cs)) = some (.bl (!decide (c ∈ cs))) := by
  unfold ninD; rw [inD_set]
@[simp] theorem frzs_setV (cs : List Cl) : frzs (setV cs) = setV cs := frzs_id fun x hx => by
  obtain ⟨c, _, rfl⟩ := List.mem_map.mp hx; rfl
@[simp] theorem shrs_setV (cs : List Cl) : shrs (setV cs) = false := by
  induction cs with
  | nil => rfl
  | cons c cs ih => exact ih
theorem addS_nodup {cs : List Cl} (c : Cl) (h : cs.Nodup) : (addS cs c).Nodup := by
  unfold addS
  split
  · exact h
  · rename_i hc
    exact List.nodup_append.mpr ⟨h, by simp, fun a ha b hb e => hc (by rw [← List.mem_singleton.mp hb, ← e]; exact ha)⟩
theorem mem_addS {cs : List Cl} {c d : Cl} : d ∈ addS cs c ↔ d = c ∨ d ∈ cs := by
  unfold addS
  split
  · rename_i h
    constructor
    · exact .inr
    · rintro (rfl | z)
      · exact h
      · exact z
  · rw [List.mem_append, List.mem_singleton]; exact or_comm
theorem addS_len (cs : List Cl) (c : Cl) : (addS cs c).length ≤ cs.length + 1 := by unfold addS; split <;> simp
theorem addS_new {cs : List Cl} {c : Cl} (h : c ∉ cs) : addS cs c = cs ++ [c] := by unfold addS; rw [if_neg h]
theorem keys_set (cs : List Cl) : (setK cs).map kyD = cs.map cD := by unfold setK; rw [List.map_map]; rfl
@[simp] theorem listD_set (o : Bool) (cs : List Cl) : listD [.node (.dct o true (setK cs)) (setV cs)] = some (.node (.lst true) (cs.map cD)) := by
  show some (D.lst true ((setK cs).map kyD)) = _
  rw [keys_set]
theorem sortD_set (o : Bool) {cs : List Cl} (hl : cs.length ≤ sizeLine) : sortD [.node (.dct o true (setK cs)) (setV cs)] = some (.node (.lst true) ((sortC cs).map cD)) := by
  have e : sortD [.node (.dct o true (setK cs)) (setV cs)] = if sortOk ((setK cs).map kyD) = true ∧ (setK cs).length ≤ sizeLine then some (.lst true (((setK cs).map kyD).mergeSort leD3)) else none := rfl
  rw [e, keys_set, if_pos ⟨sortOk_cs cs, by unfold setK; rw [List.length_map]; exact hl⟩]
  unfold sortC
  rw [PySem.W.sort_maps (s := leD3) cD fun a _ b _ => (leD3_cD a b).symm]
theorem setN : (D.node (.dct true true []) [] : D) = .node (.dct true true (setK [])) (setV []) := rfl
end Ev

/-! Ev, part Za: plain Lean that more than one law needs. -/
namespace Ev
open PySem PySem.Spec L2
open PyProof.Rows hiding St
/-! ### loops -/
/-- a loop that goes through: what it comes to is a fold -/
theorem forF_sim {α S : Type} {i : Nat} {body : En → Out} (enc : α → D) (R : S → List α → En → Prop) (step : S → α → S) (hs : ∀ s x xs ρ, R s (x :: xs) ρ → Go (R (step s x) xs) (fun _ => False) (body (ρ.set i (some (enc x))))) :
    ∀ (xs : List α) (s : S) (ρ : En), R s xs ρ → ∃ ρ', forF (.nm i) body (xs.map enc) ρ = .nx ρ' ∧ R (xs.foldl step s) [] ρ'
  | [], s, ρ, h => ⟨ρ, rfl, h⟩
  | x :: xs, s, ρ, h => by
    have q := hs s x xs ρ h
    cases e : body (ρ.set i (some (enc x))) with
    | nx ρ' =>
      rw [e] at q
      obtain ⟨ρ2, e2, h2⟩ := forF_sim enc R step hs xs (step s x) ρ' q
      exact ⟨ρ2, by rw [List.map_cons, forF, parts_nm]; simp only [setAll_cons, slots_nm, setAll_nil, e]; exact e2, h2⟩
    | ct ρ' =>
      rw [e] at q
      obtain ⟨ρ2, e2, h2⟩ := forF_sim enc R step hs xs (step s x) ρ' q
      exact ⟨ρ2, by rw [List.map_cons, forF, parts_nm]; simp only [setAll_cons, slots_nm, setAll_nil, e]; exact e2, h2⟩
    | bk ρ' => rw [e] at q; exact q.elim
    | rt d ρ' => rw [e] at q; exact q.elim
    | ex d ρ' => rw [e] at q; exact q.elim
    | no => rw [e] at q; exact q.elim
/-- the same, with more names as the target -/
theorem forF_simT {α S : Type} {t : Tg} {body : En → Out} (enc : α → D) (ps : α → List D) (hps : ∀ x, t.parts (enc x) = some (ps x)) (R : S → List α → En → Prop) (step : S → α → S) (hs : ∀ s x xs ρ, R s (x :: xs) ρ → Go (R (step s x) xs) (fun _ => False) (body (setAll t.slots (ps x) ρ))) :
    ∀ (xs : List α) (s : S) (ρ : En), R s xs ρ → ∃ ρ', forF t body (xs.map enc) ρ = .nx ρ' ∧ R (xs.foldl step s) [] ρ'
  | [], s, ρ, h => ⟨ρ, rfl, h⟩
  | x :: xs, s, ρ, h => by
    have q := hs s x xs ρ h
    cases e : body (setAll t.slots (ps x) ρ) with
    | nx ρ' =>
      rw [e] at q
      obtain ⟨ρ2, e2, h2⟩ := forF_simT enc ps hps R step hs xs (step s x) ρ' q
      exact ⟨ρ2, by rw [List.map_cons, forF, hps]; simp only [e]; exact e2, h2⟩
    | ct ρ' =>
      rw [e] at q
      obtain ⟨ρ2, e2, h2⟩ := forF_simT enc ps hps R step hs xs (step s x) ρ' q
      exact ⟨ρ2, by rw [List.map_cons, forF, hps]; simp only [e]; exact e2, h2⟩
    | bk ρ' => rw [e] at q; exact q.elim
    | rt d ρ' => rw [e] at q; exact q.elim
    | ex d ρ' => rw [e] at q; exact q.elim
    | no => rw [e] at q; exact q.elim
/-- a loop that ends with the first item of which f tells something -/
theorem forF_find {α : Type} {i : Nat} {body : En → Out} (enc : α → D) (R : En → Prop) (f : α → Option D) (hs : ∀ x ρ, R ρ → (f x = none → Go R (fun _ => False) (body (ρ.set i (some (enc x))))) ∧ (∀ d, f x = some d → ∃ ρ', body (ρ.set i (some (enc x))) = .rt d ρ')) :
    ∀ (xs : List α) (ρ : En), R ρ → (xs.findSome? f = none → ∃ ρ', forF (.nm i) body (xs.map enc) ρ = .nx ρ' ∧ R ρ') ∧ (∀ d, xs.findSome? f = some d → ∃ ρ', forF (.nm i) body (xs.map enc) ρ = .rt d ρ')
  | [], ρ, h => ⟨fun _ => ⟨ρ, rfl, h⟩, fun _ z => nomatch z⟩
  | x :: xs, ρ, h => by
    obtain ⟨h1, h2⟩ := hs x ρ h
    rw [List.findSome?_cons]
    cases ef : f x with
    | none =>
      have q := h1 ef
      cases e : body (ρ.set i (some (enc x))) with
      | nx ρ' =>
        rw [e] at q
        have r := forF_find enc R f hs xs ρ' q
        have st : forF (.nm i) body ((x :: xs).map enc) ρ = forF (.nm i) body (xs.map enc) ρ' := by
          rw [List.map_cons, forF, parts_nm]; simp only [setAll_cons, slots_nm, setAll_nil, e]
        rw [st]; exact r
      | ct ρ' =>
        rw [e] at q
        have r := forF_find enc R f hs xs ρ' q
        have st : forF (.nm i) body ((x :: xs).map enc) ρ = forF (.nm i) body (xs.map enc) ρ' := by
          rw [List.map_cons, forF, parts_nm]; simp only [setAll_cons, slots_nm, setAll_nil, e]
        rw [st]; exact r
      | bk ρ' => rw [e] at q; exact q.elim
      | rt d ρ' => rw [e] at q; exact q.elim
      | ex d ρ' => rw [e] at q; exact q.elim
      | no => rw [e] at q; exact q.elim
    | some d =>
      obtain ⟨ρ', e⟩ := h2 d ef
      refine ⟨fun z => (by cases z), fun d' z => ?_⟩
      cases z
      exact ⟨ρ', by rw [List.map_cons, forF, parts_nm]; simp only [setAll_cons, slots_nm, setAll_nil, e]⟩
@[simp] theorem length_frzs (xs : List D) : (frzs xs).length = xs.length := by rw [frzs_map, List.length_map]
/-- numbers as data -/
theorem frzs_rng (l : List Nat) : frzs (l.map fun (i : Nat) => D.int (0 + (i : Int))) = l.map fun (i : Nat) => D.int (0 + (i : Int)) := frzs_id fun x hx => by obtain ⟨c, _, rfl⟩ := List.mem_map.mp hx; rfl
@[simp] theorem frzs_rng0 (l : List Nat) : frzs (l.map fun (i : Nat) => D.int (i : Int)) = l.map fun (i : Nat) => D.int (i : Int) := frzs_id fun x hx => by obtain ⟨c, _, rfl⟩ := List.mem_map.mp hx; rfl
theorem rng_k (k : Nat) (hk : k ≤ 16777216) : rangeD [.int (k : Nat)] = some ((List.range k).map fun (i : Nat) => D.int (i : Int)) := by
  have e : rangeD [.int (k : Nat)] = some ((List.range k).map fun (i : Nat) => D.int (0 + (i : Int))) := by
    show (if ((k : Nat) : Int) ≤ 16777216 ∧ -(2 ^ 62) ≤ ((k : Nat) : Int) then some (rngD 0 ((k : Nat) : Int).toNat) else none) = _
    rw [if_pos (by omega)]; rfl
  rw [e]; simp only [Int.zero_add]
theorem kApp_nums (xs : List Int) (n : Int) (h : xs.length < sizeLine) : kApp (numsD xs) (.int n) = some (numsD (xs ++ [n])) := by
  rw [kApp_ok (by unfold numsD; rw [List.length_map]; exact h)]; unfold numsD; rw [List.map_append]; rfl
theorem kApp_cs (xs : List Cl) (c : Cl) (h : xs.length < sizeLine) : kApp (xs.map cD) (cD c) = some ((xs ++ [c]).map cD) := by
  rw [kApp_ok (by rw [List.length_map]; exact h), List.map_append]; rfl
@[simp] theorem shrs_nums (xs : List Int) : shrs (numsD xs) = false := by
  induction xs with
  | nil => rfl
  | cons x xs ih => exact ih
@[simp] theorem length_numsD (xs : List Int) : (numsD xs).length = xs.length := by unfold numsD; rw [List.length_map]
theorem ix_nums (o : Bool) (ns : List Int) (k : Nat) (h : k < ns.length) : ixD (.node (.lst o) (numsD ns)) (.int k) = some (.int (ns.getD k 0)) := by
  have e : ixN ns.length (k : Int) = some k := by
    unfold ixN; rw [if_pos (by omega), if_pos (by omega)]; rfl
  show ((ixN (numsD ns).length (k : Int)).bind fun j => (numsD ns)[j]?) = _
  unfold numsD
  rw [List.length_map, e]
  simp [List.getD, List.getElem?_eq_getElem h]
theorem ixN_nat {n k : Nat} (h : k < n) : ixN n (k : Int) = some k := by
  unfold ixN; rw [if_pos (by omega), if_pos (by omega)]; rfl
theorem ix_lst (o : Bool) (xs : List D) (k : Nat) (h : k < xs.length) : ixD (.node (.lst o) xs) (.int (k : Int)) = some xs[k] := by
  show ((ixN xs.length (k : Int)).bind fun j => xs[j]?) = _
  rw [ixN_nat h]
  simp [List.getElem?_eq_getElem h]
/-! ### axes -/
def ax : Nat → Str
  | 0 => "x"
  | 1 => "y"
  | _ => "z"
theorem ax0 : ax 0 = "x" := rfl
theorem ax1 : ax 1 = "y" := rfl
theorem ax2 : ax 2 = "z" := rfl
def gi (c : Cl) : Nat → Int
  | 0 => c.1
  | 1 => c.2.1
  | _ => c.2.2
def st (c : Cl) : Nat → Int → Cl
  | 0, v => (v, c.2.1, c.2.2)
  | 1, v => (c.1, v, c.2.2)
  | _, v => (c.1, c.2.1, v)
theorem gi_st (c : Cl) : ∀ (a : Nat) (v : Int), gi (st c a v) a = v
  | 0, _ => rfl
  | 1, _ => rfl
  | _ + 2, _ => rfl
theorem gi_st_ne (c : Cl) {a b : Nat} (ha : a < 3) (hb : b < 3) (h : a ≠ b) (v : Int) : gi (st c a v) b = gi c b := by
  have ha : a = 0 ∨ a = 1 ∨ a = 2 := by omega
  have hb : b = 0 ∨ b = 1 ∨ b = 2 := by omega
  rcases ha with rfl | rfl | rfl <;> rcases hb with rfl | rfl | rfl <;> first | rfl | exact absurd rfl h
theorem st_st (c : Cl) : ∀ (a : Nat) (v w : Int), st (st c a v) a w = st c a w
  | 0, _, _ => rfl
  | 1, _, _ => rfl
  | _ + 2, _, _ => rfl
theorem st_gi (c : Cl) : ∀ a : Nat, st c a (gi c a) = c
  | 0 => rfl
  | 1 => rfl
  | _ + 2 => rfl
theorem cl_ext {c d : Cl} (h : ∀ a < 3, gi c a = gi d a) : c = d := cl_eq (h 0 (by decide)) (h 1 (by decide)) (h 2 (by decide))
theorem ix_cl (c : Cl) : ∀ a < 3, ixD (cD c) (.int (a : Nat)) = some (.int (gi c a))
  | 0, _ => rfl
  | 1, _ => rfl
  | 2, _ => rfl
def cl (c : Cl) : List D := [.int c.1, .int c.2.1, .int c.2.2]
@[simp] theorem frzs_cl (c : Cl) : frzs (cl c) = cl c := rfl
@[simp] theorem shrs_cl (c : Cl) : shrs (cl c) = false := rfl
@[simp] theorem listD_cD (c : Cl) : listD [cD c] = some (.node (.lst true) (cl c)) := rfl
theorem ix_ll (o : Bool) (c : Cl) : ∀ a < 3, ixD (.node (.lst o) (cl c)) (.int (a : Nat)) = some (.int (gi c a))
  | 0, _ => rfl
  | 1, _ => rfl
  | 2, _ => rfl
@[simp] theorem ix_ll0 (o : Bool) (c : Cl) : ixD (.node (.lst o) (cl c)) (.int 0) = some (.int c.1) := rfl
@[simp] theorem ix_ll1 (o : Bool) (c : Cl) : ixD (.node (.lst o) (cl c)) (.int 1) = some (.int c.2.1) := rfl
@[simp] theorem ix_ll2 (o : Bool) (c : Cl) : ixD (.node (.lst o) (cl c)) (.int 2) = some (.int c.2.2) := rfl
theorem set_ll (c : Cl) (v : Int) : ∀ a < 3, kSet (a : Nat) (cl c) (.int v) = some (cl (st c a v))
  | 0, _ => rfl
  | 1, _ => rfl
  | 2, _ => rfl
@[simp] theorem tup_ll (o : Bool) (c : Cl) : tupleD [.node (.lst o) (cl c)] = some (cD c) := rfl
theorem find_ax : ∀ a < 3, sfindD (.str "xyz") [.str (ax a)] = some (.int (a : Nat))
  | 0, _ => by kernel_rfl
  | 1, _ => by kernel_rfl
  | 2, _ => by kernel_rfl
theorem index_ax : ∀ a < 3, sindexD (.str "xyz") [.str (ax a)] = some (.int (a : Nat))
  | 0, _ => by kernel_rfl
  | 1, _ => by kernel_rfl
  | 2, _ => by kernel_rfl
theorem ix_ax : ∀ a < 3, ixD (.str "xyz") (.int (a : Nat)) = some (.str (ax a))
  | 0, _ => by kernel_rfl
  | 1, _ => by kernel_rfl
  | 2, _ => by kernel_rfl
theorem mod3 (v : Int) : ∃ a : Nat, a < 3 ∧ v % 3 = a := ⟨(v % 3).toNat, by omega, by omega⟩
theorem lt3c {a : Nat} (h : a < 3) : a = 0 ∨ a = 1 ∨ a = 2 := by omega
@[simp] theorem frz_axs (a : Nat) : (D.str (ax a)).frz = .str (ax a) := rfl
/-! ### sets of cells laid cell by cell -/
theorem set_loop {body : En → Out} {i : Nat} (Sh : List Cl → Option D → En) (hset : ∀ cs o c, (Sh cs o).set i (some (cD c)) = Sh cs (some (cD c))) (hb : ∀ cs c, cs.Nodup → cs.length < sizeLine → body (Sh cs (some (cD c))) = .nx (Sh (addS cs c) (some (cD c)))) :
    ∀ (r cs : List Cl) (o : Option D), (cs ++ r).Nodup → (cs ++ r).length ≤ sizeLine → ∃ o', forF (.nm i) body (r.map cD) (Sh cs o) = .nx (Sh (cs ++ r) o')
  | [], cs, o, _, _ => ⟨o, by rw [List.append_nil]; rfl⟩
  | c :: r, cs, o, hn, hl => by
    have hc : c ∉ cs := fun z => by
      rw [List.nodup_append] at hn
      exact hn.2.2 c z c List.mem_cons_self rfl
    have hcs : cs.Nodup := (List.nodup_append.mp hn).1
    have e : cs ++ c :: r = (cs ++ [c]) ++ r := by simp
    rw [e] at hn hl ⊢
    obtain ⟨o', q⟩ := set_loop Sh hset hb r (cs ++ [c]) (some (cD c)) hn hl
    refine ⟨o', ?_⟩
    rw [List.map_cons, forF]
    show (match body ((Sh cs o).set i (some (cD c))) with
      | .nx ρ' => forF (.nm i) body (r.map cD) ρ'
      | .ct ρ' => forF (.nm i) body (r.map cD) ρ'
      | .bk ρ' => .nx ρ'
      | o => o) = _
    rw [hset, hb cs c hcs (by simp at hl; omega), addS_new hc]
    exact q
/-! ### cells that are let -/
def in60 (c : Cl) : Prop := (-60 ≤ c.1 ∧ c.1 ≤ 60) ∧ (-60 ≤ c.2.1 ∧ c.2.1 ≤ 60) ∧ (-60 ≤ c.2.2 ∧ c.2.2 ≤ 60)
theorem in60_gi {c : Cl} : in60 c ↔ ∀ a < 3, -60 ≤ gi c a ∧ gi c a ≤ 60 := by
  constructor
  · intro h a ha
    rcases lt3c ha with rfl | rfl | rfl
    · exact h.1
    · exact h.2.1
    · exact h.2.2
  · intro h
    exact ⟨h 0 (by decide), h 1 (by decide), h 2 (by decide)⟩
/-! ### some more operators -/
@[simp] theorem mforK_ap (i : Nat) (t : Tg) (body : En → Out) (ρ : En) : mforK i t body ρ = match ρ[i]? with
  | some (some (.node (.dct o tt ks) xs)) => noEx (forF t body (frzs (ks.map kyD)) (frzAt [i] ρ))
  | _ => .no := rfl
@[simp] theorem mforH_ap (i : Nat) (t : Tg) (body : En → Out) (ρ : En) : mforH i t body ρ = match ρ[i]? with
  | some (some (.node (.lst true) xs)) => if pures xs = true then holdR i xs (forF t body xs (ρ.set i none)) else .no
  | _ => .no := rfl
@[simp] theorem holdR_nx (i : Nat) (xs : List D) (ρ' : En) : holdR i xs (.nx ρ') = (match ρ'[i]? with
    | some none => .nx (ρ'.set i (some (.node (.lst true) xs)))
    | _ => .no) := rfl
@[simp] theorem holdR_rt (i : Nat) (xs : List D) (d : D) (ρ' : En) : holdR i xs (.rt d ρ') = .rt d ρ' := rfl
@[simp] theorem noEx_nx (ρ : En) : noEx (.nx ρ) = .nx ρ := rfl
@[simp] theorem noEx_rt (d : D) (ρ : En) : noEx (.rt d ρ) = .rt d ρ := rfl
@[simp] theorem mrep_ap (ma mb : En → Res D) (ρ : En) : mrep ma mb ρ = (ma ρ).bind fun x => (mb ρ).bind fun y => Res.of (repD x y.frz) := rfl
@[simp] theorem mappT_ap (mo me : En → Res D) (ρ : En) : mappT mo me ρ = thenE (mo (frzE ρ)) ρ fun x => match x with
  | .node (.lst true) xs => if xs.length < sizeLine then thenE (me (frzE ρ)) ρ fun _ => .nx ρ else .no
  | _ => .no := rfl
theorem keys_frz (cs : List Cl) : frzs ((setK cs).map kyD) = cs.map cD := by rw [keys_set, frzs_cs]
@[simp] theorem maxI_nums (ns : List Int) : maxI (numsD ns) = some ns := by
  induction ns with
  | nil => rfl
  | cons n ns ih => show (maxI (numsD ns)).map _ = _; rw [ih]; rfl
theorem min_nums (o : Bool) {ns : List Int} {m : Int} (h : ns.min? = some m) : minD [.node (.lst o) (numsD ns)] = some (.int m) := by
  have e : ∀ xs : List D, minD [.node (.lst o) xs] = (maxI xs).bind fun ns => ns.min?.map .int := fun xs => by cases xs <;> rfl
  rw [e, maxI_nums]; simp [h]
theorem max_nums (o : Bool) {ns : List Int} {m : Int} (h : ns.max? = some m) : maxD [.node (.lst o) (numsD ns)] = some (.int m) := by
  have e : ∀ xs : List D, maxD [.node (.lst o) xs] = (maxI xs).bind fun ns => ns.max?.map .int := fun xs => by cases xs <;> rfl
  rw [e, maxI_nums]; simp [h]
/-! ### ways -/
def wy (u : Bool) : Nat → Str
  | 0 => if u = true then "+x" else "-x"
  | 1 => if u = true then "+y" else "-y"
  | _ => if u = true then "+z" else "-z"
/-- the next one of a cell, up or down along an axis -/
def nx (u : Bool) (a : Nat) (c : Cl) : Cl := st c a (gi c a + if u = true then 1 else -1)
theorem add_dn : ∀ a < 3, addD (.str "-") (.str (ax a)) = some (.str (wy false a))
  | 0, _ => by kernel_rfl
  | 1, _ => by kernel_rfl
  | 2, _ => by kernel_rfl
theorem add_up : ∀ a < 3, addD (.str "+") (.str (ax a)) = some (.str (wy true a))
  | 0, _ => by kernel_rfl
  | 1, _ => by kernel_rfl
  | 2, _ => by kernel_rfl
theorem fold_filter {α : Type} (p : α → Bool) : ∀ (xs acc : List α), xs.foldl (fun acc x => if p x = true then acc ++ [x] else acc) acc = acc ++ xs.filter p
  | [], acc => by simp
  | x :: xs, acc => by
    rw [List.foldl_cons, fold_filter p xs]
    by_cases h : p x = true
    · rw [if_pos h, List.filter_cons_of_pos h]; simp
    · rw [if_neg h, List.filter_cons_of_neg h]
theorem fold_map {α β : Type} (f : α → β) : ∀ (xs : List α) (acc : List β), xs.foldl (fun acc x => acc ++ [f x]) acc = acc ++ xs.map f
  | [], acc => by simp
  | x :: xs, acc => by rw [List.foldl_cons, fold_map f xs]; simp
theorem filter_len {α : Type} (p : α → Bool) (xs : List α) : (xs.filter p).length ≤ xs.length := List.length_filter_le _ _
@[simp] theorem frz_map_tup2 {α : Type} (f g : α → Cl) (xs : List α) : frzs (xs.map fun x => D.node .tup [cD (f x), cD (g x)]) = xs.map fun x => D.node .tup [cD (f x), cD (g x)] := frzs_id fun x hx => by
  obtain ⟨c, _, rfl⟩ := List.mem_map.mp hx; rfl
@[simp] theorem shrs_map_tup2 {α : Type} (f g : α → Cl) (xs : List α) : shrs (xs.map fun x => D.node .tup [cD (f x), cD (g x)]) = false := by
  induction xs with
  | nil => rfl
  | cons x xs ih => rw [List.map_cons, shrs, ih]; rfl
theorem minmax (L : List Int) (h : L ≠ []) : ∃ m M, L.min? = some m ∧ L.max? = some M ∧ m ∈ L ∧ M ∈ L ∧ ∀ x ∈ L, m ≤ x ∧ x ≤ M := by
  cases e1 : L.min? with
  | none => exact absurd (List.min?_eq_none_iff.mp e1) h
  | some m =>
    cases e2 : L.max? with
    | none => exact absurd (List.max?_eq_none_iff.mp e2) h
    | some M =>
      obtain ⟨h1, h2⟩ := List.min?_eq_some_iff.mp e1
      obtain ⟨h3, h4⟩ := List.max?_eq_some_iff.mp e2
      exact ⟨m, M, rfl, rfl, h1, h3, fun x hx => ⟨h2 x hx, h4 x hx⟩⟩

@[simp] theorem mmE_ap (i : Nat) (k : List D → List D → Option (D × List D)) (ms : List (En → Res D)) (ρ : En) : mmE i k ms ρ = match ρ[i]? with
  | some (some (.node (.lst true) xs)) => if pures xs = true then thenE (seqs ms (frzE ρ)) ρ fun ds => match k xs (frzs ds) with
      | some (d, ys) => if pures ys = true then .nx (ρ.set i (some (.node (.lst true) ys))) else .no
      | none => .no
    else .no
  | _ => .no := rfl
@[simp] theorem mmS_ap (i j : Nat) (k : List D → List D → Option (D × List D)) (ms : List (En → Res D)) (ρ : En) : mmS i j k ms ρ = match ρ[i]? with
  | some (some (.node (.lst true) xs)) => if pures xs = true then thenE (seqs ms (frzE ρ)) ρ fun ds => match k xs (frzs ds) with
      | some (d, ys) => if pures ys = true ∧ d.pure = true then .nx ((ρ.set i (some (.node (.lst true) ys))).set j (some d)) else .no
      | none => .no
    else .no
  | _ => .no := rfl
@[simp] theorem mext_ap (i : Nat) (me : En → Res D) (ρ : En) : mext i me ρ = match ρ[i]? with
  | some (some (.node (.lst true) xs)) => if pures xs = true then thenE (me (frzE ρ)) ρ fun d => match d with
      | .node (.lst true) ys => if pures ys = true ∧ xs.length + ys.length ≤ sizeLine then .nx (ρ.set i (some (.node (.lst true) (xs ++ ys)))) else .no
      | _ => .no
    else .no
  | _ => .no := rfl
@[simp] theorem dmE_ap (i : Nat) (k : DKn) (ms : List (En → Res D)) (ρ : En) : dmE i k ms ρ = match ρ[i]? with
  | some (some (.node (.dct true t ks) xs)) => if pures xs = true then thenE (seqs ms (frzE ρ)) ρ fun ds => match k t ks xs (frzs ds) with
      | some (d, ks', ys) => if pures ys = true then .nx (ρ.set i (some (.node (.dct true t ks') ys))) else .no
      | none => .no
    else .no
  | _ => .no := rfl
@[simp] theorem mdapp2_ap (i : Nat) (t : Bool) (ks : List Ky) (xs : List D) (n : Nat) (me : En → Res D) (ρ : En) : mdapp2 i t ks xs n me ρ = match xs[n]? with
  | some (.node (.lst true) ys) => if pures ys = true ∧ ys.length < sizeLine then thenE (me (frzE ρ)) ρ fun d => if d.pure = true then .nx (ρ.set i (some (.node (.dct true t ks) (xs.set n (.node (.lst true) (ys ++ [d])))))) else .no else .no
  | _ => .no := rfl
@[simp] theorem mdapp_ap (i : Nat) (mk me : En → Res D) (ρ : En) : mdapp i mk me ρ = match ρ[i]? with
  | some (some (.node (.dct true t ks) xs)) => thenE (seqs [mk, mlst []] (frzE ρ)) ρ fun ds => match ds with
      | [kd, .node (.lst true) []] => (match keyD kd.frz with
        | some k => if Kd t k = true ∧ ks.Nodup ∧ ks.length < sizeLine then (match idxG ks k with
            | some n => mdapp2 i t ks xs n me ρ
            | none => mdapp2 i t (ks ++ [k]) (xs ++ [.node (.lst true) []]) xs.length me (ρ.set i (some (.node (.dct true t (ks ++ [k])) (xs ++ [.node (.lst true) []]))))) else .no
        | none => .no)
      | _ => .no
  | _ => .no := rfl
theorem mlcK_ap (i : Nat) (t : Tg) (mt : En → Res Bool) (me : En → Res D) (ρ : En) : mlcK i t mt me ρ = match ρ[i]? with
  | some (some (.node (.dct _ _ ks) _)) => (lcGo t mt me ρ (frzs (ks.map kyD))).bind fun ys => .ok (.node (.lst true) ys)
  | _ => .no := rfl
@[simp] theorem mforA_ap (i j : Nat) (f : List D → Option (List D)) (ρ : En) : mforA i j f ρ = match ρ[i]? with
  | some (some (.node (.lst true) xs)) => if i = j then .no else match mapCh f xs with
    | some xs' => .nx ((ρ.set j none).set i (some (.node (.lst true) xs')))
    | none => .no
  | _ => .no := rfl
@[simp] theorem mlrng_ap (ms : List (En → Res D)) (ρ : En) : mlrng ms ρ = (mrange ms ρ).bind fun ds => .ok (.node (.lst true) ds) := rfl
theorem blsD_map {α : Type} (f : α → Bool) : ∀ l : List α, blsD (l.map fun x => .bl (f x)) = some (l.map f)
  | [] => rfl
  | x :: l => by
    show (blsD (l.map fun x => .bl (f x))).map (f x :: ·) = _
    rw [blsD_map f l]; rfl
theorem anyD_map {α : Type} (o : Bool) (f : α → Bool) (l : List α) : anyD [.node (.lst o) (l.map fun x => .bl (f x))] = some (.bl (l.any f)) := by
  show (blsD (l.map fun x => .bl (f x))).map (fun bs => D.bl (bs.any id)) = _
  rw [blsD_map]
  simp [List.any_map]
theorem allD_map {α : Type} (o : Bool) (f : α → Bool) (l : List α) : allD [.node (.lst o) (l.map fun x => .bl (f x))] = some (.bl (l.all f)) := by
  show (blsD (l.map fun x => .bl (f x))).map (fun bs => D.bl (bs.all id)) = _
  rw [blsD_map]
  simp [List.all_map]
end Ev

/-! Ev, part Zb: bodies turned and mirrored, in plain Lean. -/
namespace Ev
open PySem PySem.Spec L2
open PyProof.Rows hiding St
def qc : Nat → Cl → Cl
  | 0, (x, y, z) => (x, 0 - z, y)
  | 1, (x, y, z) => (z, y, 0 - x)
  | _, (x, y, z) => (0 - y, x, z)
def mc : Nat → Cl → Cl
  | 0, (x, y, z) => (0 - x, y, z)
  | 1, (x, y, z) => (x, 0 - y, z)
  | _, (x, y, z) => (x, y, 0 - z)
theorem nn (x : Int) : 0 - (0 - x) = x := by omega
theorem qc4 (c : Cl) : ∀ a < 3, qc a (qc a (qc a (qc a c))) = c
  | 0, _ => by simp only [qc, nn]
  | 1, _ => by simp only [qc, nn]
  | 2, _ => by simp only [qc, nn]
theorem mc2 (c : Cl) : ∀ a < 3, mc a (mc a c) = c
  | 0, _ => by simp only [mc, nn]
  | 1, _ => by simp only [mc, nn]
  | 2, _ => by simp only [mc, nn]
/-- one turn -/
def tf (p : Bool × Nat) : Cl → Cl := if p.1 = true then qc p.2 else mc p.2
theorem tf_inj {p : Bool × Nat} (h : p.2 < 3) {c d : Cl} (e : tf p c = tf p d) : c = d := by
  unfold tf at e
  split at e
  · rw [← qc4 c _ h, e, qc4 d _ h]
  · rw [← mc2 c _ h, e, mc2 d _ h]
def tr (cs : List Cl) (p : Bool × Nat) : List Cl := bodyC (cs.map (tf p))
theorem mem_tr {cs : List Cl} {p : Bool × Nat} {c : Cl} : c ∈ tr cs p ↔ ∃ d ∈ cs, tf p d = c := by unfold tr; rw [mem_bodyC, List.mem_map]
theorem tr_bd (cs : List Cl) (p : Bool × Nat) : Bd (tr cs p) := bodyC_bd _
theorem sort_tr {cs : List Cl} {p : Bool × Nat} (hp : p.2 < 3) (h : Bd cs) : sortC (cs.map (tf p)) = tr cs p :=
  sortC_bd (List.pairwise_map.mpr (List.Pairwise.imp (fun {a b} n e => n (tf_inj hp e)) h.nodup))
theorem tr_len {cs : List Cl} (h : Bd cs) {p : Bool × Nat} (hp : p.2 < 3) : (tr cs p).length = cs.length := by
  rw [← sort_tr hp h, length_sortC, List.length_map]
theorem tr_nil (p : Bool × Nat) : tr [] p = [] := by unfold tr bodyC sortC; simp
theorem tr_ne {cs : List Cl} {p : Bool × Nat} (h : cs ≠ []) : tr cs p ≠ [] := fun e => by
  cases cs with
  | nil => exact h rfl
  | cons c cs =>
    have : tf p c ∈ tr (c :: cs) p := mem_tr.mpr ⟨c, List.mem_cons_self, rfl⟩
    rw [e] at this; cases this
theorem tf_in60 {p : Bool × Nat} (hp : p.2 < 3) {c : Cl} (h : in60 c) : in60 (tf p c) := by
  obtain ⟨t, a⟩ := p
  obtain ⟨x, y, z⟩ := c
  obtain ⟨⟨h1, h2⟩, ⟨h3, h4⟩, ⟨h5, h6⟩⟩ := h
  simp only at h1 h2 h3 h4 h5 h6
  rcases lt3c (show a < 3 from hp) with rfl | rfl | rfl <;> cases t <;> simp only [tf, qc, mc, in60, if_true, if_false, Bool.false_eq_true] <;> omega
theorem tr_in60 {cs : List Cl} {p : Bool × Nat} (hp : p.2 < 3) (h : ∀ c ∈ cs, in60 c) : ∀ c ∈ tr cs p, in60 c := fun c hc => by
  obtain ⟨d, hd, rfl⟩ := mem_tr.mp hc
  exact tf_in60 hp (h d hd)
/-- along the axis about which it is turned -/
theorem qc_gi (c : Cl) : ∀ a < 3, gi (qc a c) a = gi c a
  | 0, _ => rfl
  | 1, _ => rfl
  | 2, _ => rfl
theorem qc_nx (u : Bool) (c : Cl) : ∀ a < 3, nx u a (qc a c) = qc a (nx u a c)
  | 0, _ => rfl
  | 1, _ => rfl
  | 2, _ => rfl
/-- the axis to which a quarter about another one leads an axis -/
def axN : Nat → Nat
  | 0 => 1
  | 1 => 2
  | _ => 0
def axP : Nat → Nat
  | 0 => 2
  | 1 => 0
  | _ => 1
theorem axN_lt (a : Nat) : axN a < 3 := by unfold axN; split <;> decide
theorem axP_lt (a : Nat) : axP a < 3 := by unfold axP; split <;> decide
theorem qn_gi (c : Cl) : ∀ a < 3, gi (qc (axP a) c) (axN a) = gi c a
  | 0, _ => rfl
  | 1, _ => rfl
  | 2, _ => rfl
theorem qn_nx (u : Bool) (c : Cl) : ∀ a < 3, nx u (axN a) (qc (axP a) c) = qc (axP a) (nx u a c)
  | 0, _ => rfl
  | 1, _ => rfl
  | 2, _ => rfl
theorem mo_gi (c : Cl) : ∀ a < 3, ∀ b < 3, b ≠ a → gi (mc b c) a = gi c a
  | 0, _, 1, _, _ => rfl
  | 0, _, 2, _, _ => rfl
  | 1, _, 0, _, _ => rfl
  | 1, _, 2, _, _ => rfl
  | 2, _, 0, _, _ => rfl
  | 2, _, 1, _, _ => rfl
  | 0, _, 0, _, h => absurd rfl h
  | 1, _, 1, _, h => absurd rfl h
  | 2, _, 2, _, h => absurd rfl h
theorem mo_nx (u : Bool) (c : Cl) : ∀ a < 3, ∀ b < 3, b ≠ a → nx u a (mc b c) = mc b (nx u a c)
  | 0, _, 1, _, _ => rfl
  | 0, _, 2, _, _ => rfl
  | 1, _, 0, _, _ => rfl
  | 1, _, 2, _, _ => rfl
  | 2, _, 0, _, _ => rfl
  | 2, _, 1, _, _ => rfl
  | 0, _, 0, _, h => absurd rfl h
  | 1, _, 1, _, h => absurd rfl h
  | 2, _, 2, _, h => absurd rfl h
theorem mm_gi (c : Cl) : ∀ a < 3, gi (mc a c) a = 0 - gi c a
  | 0, _ => rfl
  | 1, _ => rfl
  | 2, _ => rfl
theorem mm_nx (u : Bool) (c : Cl) : ∀ a < 3, nx u a (mc a c) = mc a (nx (!u) a c) := by
  obtain ⟨x, y, z⟩ := c
  intro a ha
  rcases lt3c ha with rfl | rfl | rfl <;> cases u <;> simp [nx, mc, st, gi] <;> omega
end Ev

/-! Ev, part Zc: dicts of cells with a cell or none each, floods. -/
namespace Ev
open PySem PySem.Spec L2
open PyProof.Rows hiding St
theorem nodup_len {α : Type} [DecidableEq α] : ∀ {as bs : List α}, as.Nodup → (∀ a ∈ as, a ∈ bs) → as.length ≤ bs.length
  | [], _, _, _ => by simp
  | a :: as, bs, h, s => by
    rw [List.nodup_cons] at h
    have ha := s a List.mem_cons_self
    have q := nodup_len (bs := bs.erase a) h.2 fun x hx => by
      have hne : x ≠ a := fun e => h.1 (by rw [← e]; exact hx)
      exact (List.mem_erase_of_ne hne).mpr (s x (List.mem_cons_of_mem _ hx))
    rw [List.length_erase_of_mem ha] at q
    have := List.length_pos_of_mem ha
    rw [List.length_cons]; omega
/-! ### neighbours -/
def nbC (c : Cl) : List Cl := [(c.1 - 1, c.2.1, c.2.2), (c.1, c.2.1 - 1, c.2.2), (c.1, c.2.1, c.2.2 - 1), (c.1, c.2.1, c.2.2 + 1), (c.1, c.2.1 + 1, c.2.2), (c.1 + 1, c.2.1, c.2.2)]
/-- the same, axis by axis -/
def bsC (c : Cl) : List Cl := [(c.1 - 1, c.2.1, c.2.2), (c.1 + 1, c.2.1, c.2.2), (c.1, c.2.1 - 1, c.2.2), (c.1, c.2.1 + 1, c.2.2), (c.1, c.2.1, c.2.2 - 1), (c.1, c.2.1, c.2.2 + 1)]
theorem mem_bs {c d : Cl} : d ∈ bsC c ↔ d ∈ nbC c := by
  simp only [bsC, nbC, List.mem_cons, List.not_mem_nil, or_false]
  constructor <;> (rintro (h | h | h | h | h | h) <;> simp [h])
theorem mem_nb {c d : Cl} : d ∈ nbC c ↔ (d.2 = c.2 ∧ (d.1 = c.1 - 1 ∨ d.1 = c.1 + 1)) ∨ (d.1 = c.1 ∧ d.2.2 = c.2.2 ∧ (d.2.1 = c.2.1 - 1 ∨ d.2.1 = c.2.1 + 1)) ∨ (d.1 = c.1 ∧ d.2.1 = c.2.1 ∧ (d.2.2 = c.2.2 - 1 ∨ d.2.2 = c.2.2 + 1)) := by
  obtain ⟨x, y, z⟩ := c
  obtain ⟨u, v, w⟩ := d
  simp only [nbC, List.mem_cons, List.not_mem_nil, or_false, Prod.mk.injEq]
  omega
theorem nb_comm {c d : Cl} : d ∈ nbC c ↔ c ∈ nbC d := by
  rw [mem_nb, mem_nb]
  obtain ⟨x, y, z⟩ := c
  obtain ⟨u, v, w⟩ := d
  simp only [Prod.mk.injEq]
  omega
theorem nb_ne {c d : Cl} (h : d ∈ nbC c) : d ≠ c := by
  rintro rfl
  rw [mem_nb] at h
  omega
@[simp] theorem inD_lcs (o : Bool) (cs : List Cl) (c : Cl) : inD (cD c) (.node (.lst o) (cs.map cD)) = some (.bl (decide (c ∈ cs))) := by
  have e : inT (cD c) (cs.map cD) = decide (c ∈ cs) := by
    induction cs with
    | nil => rfl
    | cons x cs ih =>
      have ih' : (cs.map cD).any (fun y => eqT y (cD c)) = decide (c ∈ cs) := ih
      show ((cD x :: cs.map cD).any fun y => eqT y (cD c)) = _
      rw [List.any_cons, ih', eqT_cD]
      by_cases h : c = x
      · simp [h]
      · simp [h, Ne.symm h]
  show (if (cD c).dep 20 = true ∧ deps 19 (cs.map cD) = true then some (D.bl (inT (cD c) (cs.map cD))) else none) = _
  rw [if_pos ⟨dep_cD _ c, by rw [show (19 : Nat) = 18 + 1 from rfl, deps_cs]⟩, e]
@[simp] theorem ninD_lcs (o : Bool) (cs : List Cl) (c : Cl) : ninD (cD c) (.node (.lst o) (cs.map cD)) = some (.bl (!decide (c ∈ cs))) := by
  unfold ninD; rw [inD_lcs]
/-! ### dicts with a cell or none each -/
def oC : Option Cl → D
  | none => .non
  | some c => cD c
@[simp] theorem oC_none : oC none = .non := rfl
@[simp] theorem oC_some (c : Cl) : oC (some c) = cD c := rfl
abbrev Km := List (Cl × Option Cl)
def kK (K : Km) : List Ky := K.map fun p => cK p.1
def kV' (K : Km) : List D := K.map fun p => oC p.2
def kvO (K : Km) : List (Cl × D) := K.map fun p => (p.1, oC p.2)
abbrev keys (K : Km) : List Cl := K.map (·.1)
theorem kvO_k (K : Km) : (kvO K).map (fun p => cK p.1) = kK K := by unfold kvO kK; rw [List.map_map]; rfl
theorem kvO_v (K : Km) : (kvO K).map (·.2) = kV' K := by unfold kvO kV'; rw [List.map_map]; rfl
theorem kvO_1 (K : Km) : (kvO K).map (·.1) = keys K := by unfold kvO keys; rw [List.map_map]; rfl
theorem put_new {kvs : List (Cl × D)} {c : Cl} (d : D) (h : c ∉ kvs.map (·.1)) : putC kvs c d = kvs ++ [(c, d)] := by
  unfold putC put
  rw [if_neg]
  intro z
  obtain ⟨p, hp, e⟩ := List.any_eq_true.mp z
  exact h (List.mem_map.mpr ⟨p, hp, by simpa using e⟩)
theorem kPut_K {c : Cl} (o : Option Cl) {K : Km} (hn : (keys K).Nodup) (hl : K.length < sizeLine) (hc : c ∉ keys K) : kPut (cK c) (.dct true true (kK K)) (kV' K) (oC o) = some (.dct true true (kK (K ++ [(c, o)])), kV' (K ++ [(c, o)])) := by
  have q := kPut_dc c (oC o) (kvO K) (by rw [kvO_1]; exact hn) (by unfold kvO; rw [List.length_map]; exact hl)
  rw [put_new _ (by rw [kvO_1]; exact hc)] at q
  have e : kvO K ++ [(c, oC o)] = kvO (K ++ [(c, o)]) := by unfold kvO; rw [List.map_append]; rfl
  rw [e, kvO_k, kvO_v, kvO_k, kvO_v] at q
  exact q
@[simp] theorem inD_K (o : Bool) (K : Km) (c : Cl) : inD (cD c) (.node (.dct o true (kK K)) (kV' K)) = some (.bl (decide (c ∈ keys K))) := by
  have q := inD_dc o (kvO K) c
  rw [kvO_k, kvO_v] at q
  rw [q]; simp only [kvO_1]
@[simp] theorem ninD_K (o : Bool) (K : Km) (c : Cl) : ninD (cD c) (.node (.dct o true (kK K)) (kV' K)) = some (.bl (!decide (c ∈ keys K))) := by
  unfold ninD; rw [inD_K]
theorem lkp_nth {κ α : Type} [DecidableEq κ] : ∀ {kvs : List (κ × α)} {n : Nat} {c : κ} {d : α}, (kvs.map (·.1)).Nodup → kvs[n]? = some (c, d) → lkp kvs c = some d
  | [], n, c, d, _, h => by simp at h
  | p :: kvs, n, c, d, hn, h => by
    rw [List.map_cons, List.nodup_cons] at hn
    rw [lkp_cons]
    cases n with
    | zero =>
      have e : p = (c, d) := by simpa using h
      rw [e]; simp
    | succ n =>
      have h' : kvs[n]? = some (c, d) := by simpa using h
      have hm : c ∈ kvs.map (·.1) := List.mem_map.mpr ⟨_, List.mem_of_getElem? h', rfl⟩
      rw [if_neg fun e => hn.1 (by rw [e]; exact hm)]
      exact lkp_nth hn.2 h'
theorem ixD_K (o : Bool) {K : Km} {n : Nat} {c : Cl} {q : Option Cl} (hn : (keys K).Nodup) (h : K[n]? = some (c, q)) : ixD (.node (.dct o true (kK K)) (kV' K)) (cD c) = some (oC q) := by
  have e : lkp (kvO K) c = some (oC q) := lkp_nth (n := n) (by rw [kvO_1]; exact hn) (by unfold kvO; rw [List.getElem?_map, h]; rfl)
  have r := ixD_dc o e
  rw [kvO_k, kvO_v] at r
  exact r
@[simp] theorem frzs_kV (K : Km) : frzs (kV' K) = kV' K := frzs_id fun x hx => by
  obtain ⟨p, _, rfl⟩ := List.mem_map.mp hx
  cases p.2 <;> rfl
@[simp] theorem shrs_kV (K : Km) : shrs (kV' K) = false := by
  unfold kV'
  induction K with
  | nil => rfl
  | cons p K ih =>
    rw [List.map_cons, shrs, ih]
    cases p.2 <;> rfl
@[simp] theorem frz_oC (o : Option Cl) : (oC o).frz = oC o := by cases o <;> rfl
@[simp] theorem shr_oC (o : Option Cl) : (oC o).shr = false := by cases o <;> rfl
theorem pop0_cs (c : Cl) (cs : List Cl) : popAtK ((c :: cs).map cD) [.int 0] = some (cD c, cs.map cD) := by
  have e : ixN ((c :: cs).map cD).length 0 = some 0 := by unfold ixN; rw [if_pos (by decide), if_pos (by simp)]; rfl
  show ((ixN ((c :: cs).map cD).length 0).bind fun n => (((c :: cs).map cD)[n]?).map fun d => (d, ((c :: cs).map cD).eraseIdx n)) = _
  rw [e]; rfl
theorem pop_cs (cs : List Cl) (c : Cl) : popK ((cs ++ [c]).map cD) [] = some (cD c, cs.map cD) := by
  show ((((cs ++ [c]).map cD)[((cs ++ [c]).map cD).length - 1]?).map fun d => (d, ((cs ++ [c]).map cD).dropLast)) = _
  have e : (((cs ++ [c]).map cD).length - 1) = cs.length := by simp
  rw [e]
  simp
@[simp] theorem pures_cs (cs : List Cl) : pures (cs.map cD) = true := by
  induction cs with
  | nil => rfl
  | cons c cs ih => rw [List.map_cons, pures, ih]; rfl
@[simp] theorem pure_cD (c : Cl) : (cD c).pure = true := rfl
/-! ### floods -/
/-- come to from the cells V by steps -/
inductive Rch (V : Cl → Prop) (stp : Cl → Cl → Prop) : Cl → Prop
  | base {c : Cl} : V c → Rch V stp c
  | step {c d : Cl} : Rch V stp c → stp c d → Rch V stp d
/-- what a flood has come to: K told with whence, E to be looked at, op: steps that are still open -/
structure Fl (V : List Cl) (stp : Cl → Cl → Prop) (K : Km) (E : List Cl) (op : Cl → Cl → Prop) : Prop where
  nd : (keys K).Nodup
  es : ∀ c ∈ E, c ∈ keys K
  cl : ∀ c ∈ keys K, c ∉ E → ∀ d, stp c d → ¬ op c d → d ∈ keys K
  par : ∀ (n : Nat) (c p : Cl), K[n]? = some (c, some p) → stp p c ∧ ∃ m, m < n ∧ (K[m]?).map (·.1) = some p
  vs : ∀ (n : Nat) (c : Cl), K[n]? = some (c, none) → c ∈ V
  vk : ∀ v ∈ V, v ∈ keys K
def noOp : Cl → Cl → Prop := fun _ _ => False
def opAt (h : Cl) (r : List Cl) : Cl → Cl → Prop := fun c d => c = h ∧ d ∈ r
section
variable {V : List Cl} {stp : Cl → Cl → Prop} {K : Km} {E E' : List Cl}
theorem Fl.init {cs : List Cl} (h : cs.Nodup) : Fl cs stp (cs.map fun c => (c, none)) cs noOp := by
  have e : keys (cs.map fun c => (c, (none : Option Cl))) = cs := by unfold keys; rw [List.map_map]; exact List.map_id _
  refine ⟨by rw [e]; exact h, fun c hc => by rw [e]; exact hc, fun c hc hn => absurd (by rw [e] at hc; exact hc) hn, fun n c p hp => ?_, fun n c hp => ?_, fun v hv => by rw [e]; exact hv⟩
  · rw [List.getElem?_map] at hp
    cases e0 : cs[n]? with
    | none => rw [e0] at hp; cases hp
    | some d => rw [e0] at hp; cases hp
  · rw [List.getElem?_map] at hp
    cases e0 : cs[n]? with
    | none => rw [e0] at hp; cases hp
    | some d => rw [e0] at hp; cases hp; exact List.mem_of_getElem? e0
theorem Fl.pop {h : Cl} {r : List Cl} (f : Fl V stp K E noOp) (hs : ∀ c ∈ E', c ∈ E) (he : ∀ c ∈ E, c = h ∨ c ∈ E') (hr : ∀ d, stp h d → d ∈ r) : Fl V stp K E' (opAt h r) :=
  ⟨f.nd, fun c hc => f.es c (hs c hc), fun c hc hn d hd ho => by
    by_cases e : c = h
    · exact absurd ⟨e, hr d (by rw [← e]; exact hd)⟩ ho
    · exact f.cl c hc (fun z => (he c z).elim e hn) d hd (fun z => z), f.par, f.vs, f.vk⟩
theorem Fl.skip {h d : Cl} {r : List Cl} (f : Fl V stp K E (opAt h (d :: r))) (hk : stp h d → d ∈ keys K) : Fl V stp K E (opAt h r) :=
  ⟨f.nd, f.es, fun c hc hn d' hd ho => by
    by_cases e : c = h ∧ d' = d
    · obtain ⟨rfl, rfl⟩ := e
      exact hk hd
    · refine f.cl c hc hn d' hd fun z => ?_
      obtain ⟨z1, z2⟩ := z
      rcases List.mem_cons.mp z2 with z2 | z2
      · exact e ⟨z1, z2⟩
      · exact ho ⟨z1, z2⟩, f.par, f.vs, f.vk⟩
theorem keys_app (K : Km) (c : Cl) (o : Option Cl) : keys (K ++ [(c, o)]) = keys K ++ [c] := by unfold keys; rw [List.map_append]; rfl
theorem Fl.add {h d : Cl} {r : List Cl} (f : Fl V stp K E (opAt h (d :: r))) (hh : h ∈ keys K) (hd : d ∉ keys K) (hst : stp h d) : Fl V stp (K ++ [(d, some h)]) (E ++ [d]) (opAt h r) := by
  have ek := keys_app K d (some h)
  refine ⟨?_, fun c hc => ?_, fun c hc hn d' hd' ho => ?_, fun n c p hp => ?_, fun n c hp => ?_, fun v hv => by rw [ek]; exact List.mem_append_left _ (f.vk v hv)⟩
  · rw [ek]
    exact List.nodup_append.mpr ⟨f.nd, by simp, fun a ha b hb e => hd (by rw [← List.mem_singleton.mp hb, ← e]; exact ha)⟩
  · rw [ek]
    rcases List.mem_append.mp hc with z | z
    · exact List.mem_append_left _ (f.es c z)
    · exact List.mem_append_right _ z
  · rw [ek] at hc ⊢
    have hcd : c ≠ d := fun z => hn (List.mem_append_right _ (by rw [z]; exact List.mem_cons_self))
    have hc' : c ∈ keys K := (List.mem_append.mp hc).resolve_right fun z => hcd (List.mem_singleton.mp z)
    by_cases e : d' = d
    · exact List.mem_append_right _ (by rw [e]; exact List.mem_cons_self)
    · refine List.mem_append_left _ (f.cl c hc' (fun z => hn (List.mem_append_left _ z)) d' hd' fun z => ?_)
      obtain ⟨z1, z2⟩ := z
      rcases List.mem_cons.mp z2 with z2 | z2
      · exact e z2
      · exact ho ⟨z1, z2⟩
  · by_cases hn : n < K.length
    · rw [List.getElem?_append_left hn] at hp
      obtain ⟨q1, m, q2, q3⟩ := f.par n c p hp
      exact ⟨q1, m, q2, by rw [List.getElem?_append_left (by omega)]; exact q3⟩
    · rw [List.getElem?_append_right (by omega)] at hp
      have hp0 : n - K.length = 0 := by
        have := (List.getElem?_eq_some_iff.mp hp).1
        simp at this; omega
      rw [hp0] at hp
      simp at hp
      obtain ⟨rfl, rfl⟩ := hp
      obtain ⟨x, hx, e⟩ := List.mem_map.mp hh
      obtain ⟨m, hm⟩ := List.getElem?_of_mem hx
      have hml := (List.getElem?_eq_some_iff.mp hm).1
      exact ⟨hst, m, by omega, by rw [List.getElem?_append_left hml, hm]; simp [e]⟩
  · by_cases hn : n < K.length
    · rw [List.getElem?_append_left hn] at hp
      exact f.vs n c hp
    · rw [List.getElem?_append_right (by omega)] at hp
      have hp0 : n - K.length = 0 := by
        have := (List.getElem?_eq_some_iff.mp hp).1
        simp at this; omega
      rw [hp0] at hp
      simp at hp
theorem Fl.fin {h : Cl} (f : Fl V stp K E (opAt h [])) : Fl V stp K E noOp := ⟨f.nd, f.es, fun c hc hn d hd _ => f.cl c hc hn d hd (fun z => nomatch z.2), f.par, f.vs, f.vk⟩
theorem Fl.rch {op : Cl → Cl → Prop} (f : Fl V stp K E op) : ∀ (n : Nat) (c : Cl) (o : Option Cl), K[n]? = some (c, o) → Rch (· ∈ V) stp c := by
  intro n
  induction n using Nat.strongRecOn with
  | ind n ih =>
    intro c o h
    cases o with
    | none => exact .base (f.vs n c h)
    | some p =>
      obtain ⟨q1, m, q2, q3⟩ := f.par n c p h
      cases em : K[m]? with
      | none => rw [em] at q3; cases q3
      | some x =>
        rw [em] at q3
        obtain ⟨x1, x2⟩ := x
        cases q3
        exact .step (ih m q2 _ _ em) q1
theorem Fl.done (f : Fl V stp K [] noOp) (c : Cl) : c ∈ keys K ↔ Rch (· ∈ V) stp c := by
  constructor
  · intro h
    obtain ⟨x, hx, e⟩ := List.mem_map.mp h
    obtain ⟨n, hn⟩ := List.getElem?_of_mem hx
    obtain ⟨x1, x2⟩ := x
    cases e
    exact f.rch n _ _ hn
  · intro h
    induction h with
    | base h => exact f.vk _ h
    | step _ hs ih => exact f.cl _ ih (fun z => nomatch z) _ hs fun z => z
end
/-- what can be come to lies in V or there -/
theorem Fl.in_ {V : List Cl} {stp : Cl → Cl → Prop} {K : Km} {E : List Cl} {op : Cl → Cl → Prop} {U : List Cl} (f : Fl V stp K E op) (hU : ∀ c d, stp c d → d ∈ U) (hV : ∀ v ∈ V, v ∈ U) : ∀ c ∈ keys K, c ∈ U := by
  intro c h
  obtain ⟨x, hx, e⟩ := List.mem_map.mp h
  obtain ⟨n, hn⟩ := List.getElem?_of_mem hx
  obtain ⟨x1, x2⟩ := x
  cases e
  cases f.rch n _ _ hn with
  | base h => exact hV _ h
  | step _ hs => exact hU _ _ hs
theorem Fl.len {V : List Cl} {stp : Cl → Cl → Prop} {K : Km} {E : List Cl} {op : Cl → Cl → Prop} {U : List Cl} (f : Fl V stp K E op) (hU : ∀ c d, stp c d → d ∈ U) (hV : ∀ v ∈ V, v ∈ U) : K.length ≤ U.length := by
  have := nodup_len f.nd (f.in_ hU hV)
  unfold keys at this
  rwa [List.length_map] at this
/-- sets laid by any cells -/
theorem addS_fold : ∀ (r cs : List Cl), cs.Nodup → (r.foldl addS cs).Nodup ∧ (∀ c, c ∈ r.foldl addS cs ↔ c ∈ cs ∨ c ∈ r) ∧ (r.foldl addS cs).length ≤ cs.length + r.length
  | [], cs, h => ⟨h, fun c => by simp, by simp⟩
  | x :: r, cs, h => by
    obtain ⟨h1, h2, h3⟩ := addS_fold r (addS cs x) (addS_nodup x h)
    refine ⟨h1, fun c => ?_, ?_⟩
    · rw [List.foldl_cons, h2, mem_addS, List.mem_cons]
      constructor
      · rintro ((q | q) | q)
        · exact .inr (.inl q)
        · exact .inl q
        · exact .inr (.inr q)
      · rintro (q | q | q)
        · exact .inl (.inr q)
        · exact .inl (.inl q)
        · exact .inr q
    · rw [List.foldl_cons, List.length_cons]
      have := addS_len cs x
      omega
/-- a loop that lays a set -/
theorem set_any {body : En → Out} {i : Nat} (Sh : List Cl → Option D → En) (hset : ∀ cs o c, (Sh cs o).set i (some (cD c)) = Sh cs (some (cD c))) (hb : ∀ cs c, cs.Nodup → cs.length < sizeLine → body (Sh cs (some (cD c))) = .nx (Sh (addS cs c) (some (cD c)))) :
    ∀ (r cs : List Cl) (o : Option D), cs.Nodup → cs.length + r.length ≤ sizeLine → ∃ o', forF (.nm i) body (r.map cD) (Sh cs o) = .nx (Sh (r.foldl addS cs) o')
  | [], cs, o, _, _ => ⟨o, rfl⟩
  | c :: r, cs, o, hn, hl => by
    rw [List.length_cons] at hl
    have := addS_len cs c
    obtain ⟨o', q⟩ := set_any Sh hset hb r (addS cs c) (some (cD c)) (addS_nodup c hn) (by omega)
    refine ⟨o', ?_⟩
    rw [List.map_cons, forF]
    show (match body ((Sh cs o).set i (some (cD c))) with
      | .nx ρ' => forF (.nm i) body (r.map cD) ρ'
      | .ct ρ' => forF (.nm i) body (r.map cD) ρ'
      | .bk ρ' => .nx ρ'
      | o => o) = _
    rw [hset, hb cs c hn (by omega)]
    exact q
/-! ### cells taken out of a set -/
def delS (cs : List Cl) (c : Cl) : List Cl := cs.filter fun x => !decide (x = c)
theorem mem_delS {cs : List Cl} {c x : Cl} : x ∈ delS cs c ↔ x ∈ cs ∧ x ≠ c := by unfold delS; rw [List.mem_filter]; simp
theorem delS_nodup {cs : List Cl} (c : Cl) (h : cs.Nodup) : (delS cs c).Nodup := h.sublist List.filter_sublist
theorem delS_len (cs : List Cl) (c : Cl) : (delS cs c).length ≤ cs.length := List.length_filter_le _ _
theorem delS_lt {cs : List Cl} {c : Cl} (h : c ∈ cs) : (delS cs c).length < cs.length := by
  unfold delS
  refine Nat.lt_of_le_of_ne (List.length_filter_le _ _) fun e => ?_
  have := List.length_filter_eq_length_iff.mp e c h
  simp at this
theorem delS_out {cs : List Cl} {c : Cl} (h : c ∉ cs) : delS cs c = cs := List.filter_eq_self.mpr fun x hx => by
  have : x ≠ c := fun e => h (by rw [← e]; exact hx)
  simp [this]
theorem erase_delS {c : Cl} : ∀ {cs : List Cl} {n : Nat}, cs.Nodup → idxG cs c = some n → cs.eraseIdx n = delS cs c
  | [], _, _, h => by cases h
  | x :: cs, n, hn, h => by
    rw [List.nodup_cons] at hn
    rw [idxG] at h
    by_cases e : x = c
    · rw [if_pos e] at h
      cases h
      have := delS_out (cs := cs) (c := c) (by rw [← e]; exact hn.1)
      unfold delS at this ⊢
      rw [List.filter_cons_of_neg (by simp [e]), this]
      rfl
    · rw [if_neg e] at h
      obtain ⟨m, hm, rfl⟩ := Option.map_eq_some_iff.mp h
      have := erase_delS hn.2 hm
      unfold delS at this ⊢
      rw [List.eraseIdx_cons_succ, List.filter_cons_of_pos (by simp [e]), this]
theorem setK_nodup {cs : List Cl} (h : cs.Nodup) : (setK cs).Nodup := List.pairwise_map.mpr (List.Pairwise.imp (fun {a b} h e => h (cK_inj e)) h)
theorem dpop_set {cs : List Cl} {c : Cl} (hn : cs.Nodup) (hc : c ∈ cs) : dpopK true (setK cs) (setV cs) [cD c] = some (.bl true, setK (delS cs c), setV (delS cs c)) := by
  obtain ⟨n, en⟩ := idxG_of_mem hc
  have e1 : idxG (setK cs) (cK c) = some n := by unfold setK; rw [idxG_map (fun _ _ z => cK_inj z)]; exact en
  have hlt : n < cs.length := (List.getElem?_eq_some_iff.mp (idxG_some en)).1
  show (if Kd true (cK c) = true ∧ (setK cs).Nodup then (idxG (setK cs) (cK c)).bind fun n => ((setV cs)[n]?).map fun d => (d, (setK cs).eraseIdx n, (setV cs).eraseIdx n) else none) = _
  rw [if_pos ⟨rfl, setK_nodup hn⟩, e1]
  have e2 : (setV cs)[n]? = some (.bl true) := by unfold setV; rw [List.getElem?_map, List.getElem?_eq_getElem hlt]; rfl
  show ((setV cs)[n]?).map (fun d => (d, (setK cs).eraseIdx n, (setV cs).eraseIdx n)) = _
  rw [e2]
  unfold setK setV
  rw [map_eraseIdx', map_eraseIdx', erase_delS hn en]
  rfl
@[simp] theorem pures_setV (cs : List Cl) : pures (setV cs) = true := by
  induction cs with
  | nil => rfl
  | cons c cs ih => exact ih
/-! ### ways back -/
inductive Ptr (K : Km) : Nat → List Cl → Prop
  | nil {n : Nat} {c : Cl} : K[n]? = some (c, none) → Ptr K n [c]
  | cons {n m : Nat} {c p : Cl} {P : List Cl} : K[n]? = some (c, some p) → m < n → (K[m]?).map (·.1) = some p → Ptr K m P → Ptr K n (c :: P)
theorem Fl.ptr {V : List Cl} {stp : Cl → Cl → Prop} {K : Km} {E : List Cl} {op : Cl → Cl → Prop} (f : Fl V stp K E op) : ∀ (n : Nat) (c : Cl) (o : Option Cl), K[n]? = some (c, o) → ∃ P, Ptr K n P := by
  intro n
  induction n using Nat.strongRecOn with
  | ind n ih =>
    intro c o h
    cases o with
    | none => exact ⟨_, .nil h⟩
    | some p =>
      obtain ⟨_, m, q2, q3⟩ := f.par n c p h
      cases em : K[m]? with
      | none => rw [em] at q3; cases q3
      | some x =>
        obtain ⟨x1, x2⟩ := x
        obtain ⟨P, hP⟩ := ih m q2 _ _ em
        exact ⟨c :: P, .cons h q2 q3 hP⟩
theorem Ptr.head {K : Km} {n : Nat} {P : List Cl} (h : Ptr K n P) : ∃ c o, K[n]? = some (c, o) ∧ P.head? = some c := by
  cases h with
  | nil h => exact ⟨_, _, h, rfl⟩
  | cons h _ _ _ => exact ⟨_, _, h, rfl⟩
theorem Ptr.mem {K : Km} {n : Nat} {P : List Cl} (h : Ptr K n P) : ∀ x ∈ P, ∃ m, m ≤ n ∧ (K[m]?).map (·.1) = some x := by
  induction h with
  | nil h =>
    intro x hx
    rw [List.mem_singleton.mp hx]
    exact ⟨_, Nat.le_refl _, by rw [h]; rfl⟩
  | cons h hm _ _ ih =>
    intro x hx
    rcases List.mem_cons.mp hx with rfl | hx
    · exact ⟨_, Nat.le_refl _, by rw [h]; rfl⟩
    · obtain ⟨m', h1, h2⟩ := ih x hx
      exact ⟨m', by omega, h2⟩
theorem Ptr.nodup {K : Km} (hn : (keys K).Nodup) {n : Nat} {P : List Cl} (h : Ptr K n P) : P.Nodup := by
  induction h with
  | nil h => simp
  | @cons n m c p P h hm hp hP ih =>
    rw [List.nodup_cons]
    refine ⟨fun z => ?_, ih⟩
    obtain ⟨m', h1, h2⟩ := hP.mem _ z
    have e1 : (keys K)[m']? = some c := by unfold keys; rw [List.getElem?_map]; exact h2
    have e2 : (keys K)[n]? = some c := by unfold keys; rw [List.getElem?_map, h]; rfl
    obtain ⟨l1, g1⟩ := List.getElem?_eq_some_iff.mp e1
    obtain ⟨l2, g2⟩ := List.getElem?_eq_some_iff.mp e2
    have := (List.pairwise_iff_getElem.mp hn) m' n l1 l2 (by omega)
    exact this (g1.trans g2.symm)
theorem Ptr.len {K : Km} (hn : (keys K).Nodup) {n : Nat} {P : List Cl} (h : Ptr K n P) : P.length ≤ K.length := by
  have := nodup_len (bs := keys K) (h.nodup hn) fun x hx => by
    obtain ⟨m, _, h2⟩ := h.mem x hx
    cases em : K[m]? with
    | none => rw [em] at h2; cases h2
    | some y =>
      rw [em] at h2
      exact List.mem_map.mpr ⟨y, List.mem_of_getElem? em, by cases h2; rfl⟩
  unfold keys at this
  rwa [List.length_map] at this
theorem Ptr.chain {V : List Cl} {stp : Cl → Cl → Prop} {K : Km} {E : List Cl} {op : Cl → Cl → Prop} (f : Fl V stp K E op) {n : Nat} {P : List Cl} (h : Ptr K n P) : ∀ (j : Nat) (a b : Cl), P[j]? = some a → P[j + 1]? = some b → stp b a := by
  induction h with
  | nil h => intro j a b _ hb; simp at hb
  | @cons n m c p P h hm hp hP ih =>
    intro j a b ha hb
    cases j with
    | zero =>
      have e1 : c = a := by simpa using ha
      have e2 : P[0]? = some b := by simpa using hb
      subst e1
      obtain ⟨c', o', k1, k2⟩ := hP.head
      rw [List.head?_eq_getElem?] at k2
      rw [e2] at k2
      cases k2
      rw [k1] at hp
      cases hp
      exact (f.par n c b h).1
    | succ j => exact ih j a b (by simpa using ha) (by simpa using hb)
theorem Ptr.last {V : List Cl} {stp : Cl → Cl → Prop} {K : Km} {E : List Cl} {op : Cl → Cl → Prop} (f : Fl V stp K E op) {n : Nat} {P : List Cl} (h : Ptr K n P) : ∃ v ∈ V, P.getLast? = some v := by
  induction h with
  | nil h => exact ⟨_, f.vs _ _ h, rfl⟩
  | @cons n m c p P h hm hp hP ih =>
    obtain ⟨v, h1, h2⟩ := ih
    exact ⟨v, h1, by rw [List.getLast?_cons, h2]; rfl⟩
end Ev

/-! Ev, part Zd: dicts of lists, by lines; sorted numbers. -/
namespace Ev
open PySem PySem.Spec L2
open PyProof.Rows hiding St
/-! ### numbers in order -/
theorem leD3_int (a b : Int) : leD3 (.int a) (.int b) = decide (a ≤ b) := by
  unfold leD3
  rw [PySem.W.dataLe_eq]
  show (!PySem.W.dataLt (.int b) (.int a)) = _
  rw [PySem.W.dataLt_int]
  by_cases h : a ≤ b
  · have : ¬ b < a := by omega
    simp [h, this]
  · have : b < a := by omega
    simp [h, this]
theorem sortOk_nums (ns : List Int) : sortOk (numsD ns) = true := by
  unfold sortOk numsD
  rw [Bool.and_eq_true, Bool.and_eq_true, Bool.or_eq_true]
  refine ⟨?_, ?_, .inr ?_⟩
  · rw [List.all_map, List.all_eq_true]; intro c _; rfl
  · rw [List.all_map, List.all_eq_true]; intro c _
    show (ns.map D.int).all _ = true
    rw [List.all_map, List.all_eq_true]; intro d _; rfl
  · rw [List.all_map, List.all_eq_true]; intro c _; rfl
def leI (a b : Int) : Bool := decide (a ≤ b)
theorem sortD_nums (o : Bool) (ns : List Int) : sortD [.node (.lst o) (numsD ns)] = some (.node (.lst true) (numsD (ns.mergeSort leI))) := by
  show (if sortOk (numsD ns) = true then some (D.lst true ((numsD ns).mergeSort leD3)) else none) = _
  rw [if_pos (sortOk_nums ns)]
  unfold numsD
  rw [PySem.W.sort_maps (s := leD3) (r := leI) D.int fun a _ b _ => (leD3_int a b).symm]
theorem sortI_id {ns : List Int} (h : ns.Pairwise (fun a b => a < b)) : ns.mergeSort leI = ns := List.mergeSort_of_pairwise (List.Pairwise.imp (fun {a b} h => by unfold leI; exact decide_eq_true (by omega)) h)
theorem pigeon {α : Type} [DecidableEq α] {as bs : List α} (h : as.Nodup) (s : ∀ a ∈ as, a ∈ bs) (l : bs.length ≤ as.length) : ∀ b ∈ bs, b ∈ as := fun b hb => by
  by_cases z : b ∈ as
  · exact z
  · have := nodup_len (as := b :: as) (bs := bs) (List.nodup_cons.mpr ⟨z, h⟩) fun x hx => by
      rcases List.mem_cons.mp hx with rfl | hx
      · exact hb
      · exact s x hx
    rw [List.length_cons] at this; omega
/-- the whole numbers from lo, n of them -/
def runI (lo : Int) (n : Nat) : List Int := (List.range n).map fun (i : Nat) => lo + (i : Int)
theorem mem_run {lo x : Int} {n : Nat} : x ∈ runI lo n ↔ lo ≤ x ∧ x < lo + n := by
  unfold runI
  rw [List.mem_map]
  constructor
  · rintro ⟨i, hi, rfl⟩
    have := List.mem_range.mp hi
    omega
  · rintro ⟨h1, h2⟩
    exact ⟨(x - lo).toNat, List.mem_range.mpr (by omega), by omega⟩
theorem run_nodup (lo : Int) (n : Nat) : (runI lo n).Nodup := by
  unfold runI List.Nodup
  rw [List.pairwise_map]
  refine List.Pairwise.imp (fun {a b} h => ?_) (List.nodup_range (n := n))
  omega
theorem run_len (lo : Int) (n : Nat) : (runI lo n).length = n := by unfold runI; rw [List.length_map, List.length_range]
/-- unlike numbers between two ends fill them just where there are as many -/
theorem fill {A : List Int} (hn : A.Nodup) {lo hi : Int} (hb : ∀ x ∈ A, lo ≤ x ∧ x ≤ hi) (h0 : lo ≤ hi + 1) : ((A.length : Int) = hi + 1 - lo) ↔ ∀ x, lo ≤ x → x ≤ hi → x ∈ A := by
  have s : ∀ x ∈ A, x ∈ runI lo (hi + 1 - lo).toNat := fun x hx => mem_run.mpr (by have := hb x hx; omega)
  have l1 := nodup_len hn s
  rw [run_len] at l1
  constructor
  · intro h x h1 h2
    exact pigeon hn s (by rw [run_len]; omega) x (mem_run.mpr (by omega))
  · intro h
    have l2 := nodup_len (run_nodup lo (hi + 1 - lo).toNat) (bs := A) fun x hx => by
      have := mem_run.mp hx
      exact h x (by omega) (by omega)
    rw [run_len] at l2
    omega
/-! ### grouping -/
section
variable {κ α β : Type} [DecidableEq κ]
def addG (G : List (κ × List α)) (k : κ) (v : α) : List (κ × List α) := match idxG (G.map (·.1)) k with
  | some n => G.set n (k, ((G[n]?.map (·.2)).getD []) ++ [v])
  | none => G ++ [(k, [v])]
theorem addG_keys (G : List (κ × List α)) (k : κ) (v : α) : (addG G k v).map (·.1) = match idxG (G.map (·.1)) k with
  | some _ => G.map (·.1)
  | none => G.map (·.1) ++ [k] := by
  unfold addG
  cases e : idxG (G.map (·.1)) k with
  | none => simp
  | some n =>
    simp only
    rw [List.map_set]
    have h := idxG_some e
    apply List.ext_getElem?
    intro m
    by_cases hm : n = m
    · subst hm
      rw [List.getElem?_set_self (List.getElem?_eq_some_iff.mp h).1, h]
    · rw [List.getElem?_set_ne hm]
/-- the groups of what was walked -/
structure Gr (f : β → κ) (g : β → α) (cs : List β) (G : List (κ × List α)) : Prop where
  nd : (G.map (·.1)).Nodup
  eq : ∀ p ∈ G, p.2 = (cs.filter fun c => decide (f c = p.1)).map g ∧ p.2 ≠ []
  all : ∀ c ∈ cs, f c ∈ G.map (·.1)
theorem Gr.nil {f : β → κ} {g : β → α} : Gr f g [] ([] : List (κ × List α)) := ⟨List.nodup_nil, (fun _ z => nomatch z), (fun _ z => nomatch z)⟩
theorem Gr.add {f : β → κ} {g : β → α} {cs : List β} {G : List (κ × List α)} (h : Gr f g cs G) (c : β) : Gr f g (cs ++ [c]) (addG G (f c) (g c)) := by
  have ek := addG_keys G (f c) (g c)
  cases e : idxG (G.map (·.1)) (f c) with
  | none =>
    have hn := idxG_none e
    have ea : addG G (f c) (g c) = G ++ [(f c, [g c])] := by unfold addG; rw [e]
    rw [e] at ek
    refine ⟨?_, fun p hp => ?_, fun d hd => ?_⟩
    · rw [ek]
      exact List.nodup_append.mpr ⟨h.nd, by simp, fun a ha b hb z => hn (by rw [← List.mem_singleton.mp hb, ← z]; exact ha)⟩
    · rw [ea] at hp
      rcases List.mem_append.mp hp with hp | hp
      · obtain ⟨h1, h2⟩ := h.eq p hp
        have hne : ¬ f c = p.1 := fun z => hn (by rw [z]; exact List.mem_map.mpr ⟨p, hp, rfl⟩)
        refine ⟨?_, h2⟩
        rw [List.filter_append, List.filter_cons_of_neg (by simpa using hne)]
        simpa using h1
      · rw [List.mem_singleton.mp hp]
        have : (cs.filter fun c' => decide (f c' = f c)) = [] := List.filter_eq_nil_iff.mpr fun d hd z => hn (by rw [← of_decide_eq_true z]; exact h.all d hd)
        refine ⟨?_, by simp⟩
        rw [List.filter_append, this]
        simp
    · rw [ek]
      rcases List.mem_append.mp hd with hd | hd
      · exact List.mem_append_left _ (h.all d hd)
      · rw [List.mem_singleton.mp hd]; exact List.mem_append_right _ List.mem_cons_self
  | some n =>
    have hk := idxG_some e
    rw [List.getElem?_map] at hk
    obtain ⟨q, hq, eq⟩ := Option.map_eq_some_iff.mp hk
    obtain ⟨q1, q2⟩ := q
    have eq : q1 = f c := eq
    subst eq
    have ea : addG G (f c) (g c) = G.set n (f c, q2 ++ [g c]) := by
      unfold addG; rw [e]
      simp [hq]
    rw [e] at ek
    have hn := (List.getElem?_eq_some_iff.mp hq).1
    refine ⟨by rw [ek]; exact h.nd, fun p hp => ?_, fun d hd => ?_⟩
    · rw [ea] at hp
      obtain ⟨m, hm⟩ := List.getElem?_of_mem hp
      by_cases hmn : n = m
      · subst hmn
        rw [List.getElem?_set_self hn] at hm
        cases hm
        obtain ⟨h1, _⟩ := h.eq _ (List.mem_of_getElem? hq)
        refine ⟨?_, by simp⟩
        rw [List.filter_append, List.map_append, ← h1]
        simp
      · rw [List.getElem?_set_ne hmn] at hm
        obtain ⟨h1, h2⟩ := h.eq p (List.mem_of_getElem? hm)
        have hne : ¬ f c = p.1 := fun z => by
          have g1 : (G.map (·.1))[n]? = some (f c) := by rw [List.getElem?_map, hq]; rfl
          have g2 : (G.map (·.1))[m]? = some (f c) := by rw [List.getElem?_map, hm, z]; rfl
          obtain ⟨l1, e1⟩ := List.getElem?_eq_some_iff.mp g1
          obtain ⟨l2, e2⟩ := List.getElem?_eq_some_iff.mp g2
          rcases Nat.lt_or_gt_of_ne hmn with z | z
          · exact (List.pairwise_iff_getElem.mp h.nd) n m l1 l2 z (e1.trans e2.symm)
          · exact (List.pairwise_iff_getElem.mp h.nd) m n l2 l1 z (e2.trans e1.symm)
        refine ⟨?_, h2⟩
        rw [List.filter_append, List.filter_cons_of_neg (by simpa using hne)]
        simpa using h1
    · rw [ek]
      rcases List.mem_append.mp hd with hd | hd
      · exact h.all d hd
      · rw [List.mem_singleton.mp hd]
        exact List.mem_map.mpr ⟨_, List.mem_of_getElem? hq, rfl⟩
end
theorem Gr.len {κ α β : Type} [DecidableEq κ] {f : β → κ} {g : β → α} {cs : List β} {G : List (κ × List α)} (h : Gr f g cs G) : G.length ≤ cs.length := by
  have := nodup_len (bs := cs.map f) h.nd fun k hk => by
    obtain ⟨p, hp, rfl⟩ := List.mem_map.mp hk
    obtain ⟨h1, h2⟩ := h.eq p hp
    cases e : cs.filter (fun c => decide (f c = p.1)) with
    | nil => rw [e] at h1; exact absurd h1 h2
    | cons c r =>
      have hc : c ∈ cs.filter (fun c => decide (f c = p.1)) := by rw [e]; exact List.mem_cons_self
      rw [List.mem_filter] at hc
      exact List.mem_map.mpr ⟨c, hc.1, of_decide_eq_true hc.2⟩
  rwa [List.length_map, List.length_map] at this
theorem Gr.item {κ α β : Type} [DecidableEq κ] {f : β → κ} {g : β → α} {cs : List β} {G : List (κ × List α)} (h : Gr f g cs G) : ∀ p ∈ G, p.2.length ≤ cs.length := fun p hp => by
  rw [(h.eq p hp).1, List.length_map]; exact List.length_filter_le _ _
/-- a dict of lists: keys by lK, items by enc -/
def dG {κ α : Type} (o : Bool) (t : Bool) (lK : κ → Ky) (enc : α → D) (G : List (κ × List α)) : D := .node (.dct o t (G.map fun p => lK p.1)) (G.map fun p => .node (.lst o) (p.2.map enc))
theorem mdapp_G {κ α : Type} [DecidableEq κ] {i : Nat} {mk me : En → Res D} {ρ : En} {t : Bool} {lK : κ → Ky} (li : ∀ a b, lK a = lK b → a = b) (lt : ∀ k, Kd t (lK k) = true) {enc : α → D} (ep : ∀ a, (enc a).pure = true) {G : List (κ × List α)} {k : κ} {v : α} {kd : D} (hi : i < ρ.length)
    (e : ρ[i]? = some (some (dG true t lK enc G))) (hn : (G.map (·.1)).Nodup) (hl : G.length < sizeLine) (hv : ∀ p ∈ G, p.2.length < sizeLine) (ek : mk (frzE ρ) = .ok kd) (kk : keyD kd.frz = some (lK k)) (ev : ∀ d, me (frzE (ρ.set i (some d))) = .ok (enc v)) (ev0 : me (frzE ρ) = .ok (enc v)) :
    mdapp i mk me ρ = .nx (ρ.set i (some (dG true t lK enc (addG G k v)))) := by
  have pe : ∀ l : List α, pures (l.map enc) = true := fun l => by rw [pures_all, List.all_map, List.all_eq_true]; exact fun a _ => ep a
  have hkn : (G.map fun p => lK p.1).Nodup := by
    have : (G.map fun p => lK p.1) = (G.map (·.1)).map lK := by rw [List.map_map]; rfl
    rw [this]
    exact List.pairwise_map.mpr (List.Pairwise.imp (fun {a b} h e => h (li _ _ e)) hn)
  have ei : idxG (G.map fun p => lK p.1) (lK k) = idxG (G.map (·.1)) k := by
    have : (G.map fun p => lK p.1) = (G.map (·.1)).map lK := by rw [List.map_map]; rfl
    rw [this]; exact idxG_map li k _
  rw [mdapp_ap, e]
  show thenE (seqs [mk, mlst []] (frzE ρ)) ρ _ = _
  have es : seqs [mk, mlst []] (frzE ρ) = .ok [kd, .node (.lst true) []] := by
    show ((mk (frzE ρ)).bind fun x => ((mlst [] (frzE ρ)).bind fun y => (Res.ok []).bind fun ys => .ok (y :: ys)).bind fun xs => .ok (x :: xs)) = _
    rw [ek]; rfl
  rw [es]
  have step : ∀ (X Y : Ky → Out), (match keyD kd.frz with
      | some k => if Kd t k = true ∧ (G.map fun (p : κ × List α) => lK p.1).Nodup ∧ (G.map fun (p : κ × List α) => lK p.1).length < sizeLine then X k else Out.no
      | none => Out.no) = X (lK k) := fun X _ => by
    rw [kk]
    exact if_pos ⟨lt k, hkn, by rw [List.length_map]; exact hl⟩
  refine (step (fun k => match idxG (G.map fun (p : κ × List α) => lK p.1) k with
            | some n => mdapp2 i t (G.map fun (p : κ × List α) => lK p.1) (G.map fun (p : κ × List α) => .node (.lst true) (p.2.map enc)) n me ρ
            | none => mdapp2 i t ((G.map fun (p : κ × List α) => lK p.1) ++ [k]) ((G.map fun (p : κ × List α) => D.node (.lst true) (p.2.map enc)) ++ [.node (.lst true) []]) (G.map fun (p : κ × List α) => D.node (.lst true) (p.2.map enc)).length me (ρ.set i (some (.node (.dct true t ((G.map fun (p : κ × List α) => lK p.1) ++ [k])) ((G.map fun (p : κ × List α) => D.node (.lst true) (p.2.map enc)) ++ [.node (.lst true) []]))))) (fun _ => .no)).trans ?_
  simp only [ei]
  cases en : idxG (G.map (·.1)) k with
  | some n =>
    have hk := idxG_some en
    rw [List.getElem?_map] at hk
    obtain ⟨q, hq, eq⟩ := Option.map_eq_some_iff.mp hk
    obtain ⟨q1, q2⟩ := q
    have eq : q1 = k := eq
    subst eq
    have ea : addG G q1 v = G.set n (q1, q2 ++ [v]) := by
      unfold addG; rw [en]
      simp [hq]
    show mdapp2 i t (G.map fun (p : κ × List α) => lK p.1) (G.map fun (p : κ × List α) => .node (.lst true) (p.2.map enc)) n me ρ = _
    rw [mdapp2_ap, List.getElem?_map, hq]
    show (if pures (q2.map enc) = true ∧ (q2.map enc).length < sizeLine then _ else Out.no) = _
    rw [if_pos ⟨pe q2, by rw [List.length_map]; exact hv _ (List.mem_of_getElem? hq)⟩, ev0]
    show (if (enc v).pure = true then _ else Out.no) = _
    rw [if_pos (ep v), ea]
    unfold dG
    rw [List.map_set, List.map_set]
    have : (G.map fun p => lK p.1).set n (lK q1) = G.map fun p => lK p.1 := by
      apply List.ext_getElem?
      intro m
      by_cases hm : n = m
      · subst hm
        rw [List.getElem?_set_self (by rw [List.length_map]; exact (List.getElem?_eq_some_iff.mp hq).1), List.getElem?_map, hq]; rfl
      · rw [List.getElem?_set_ne hm]
    rw [this, List.map_append]
    rfl
  | none =>
    have ea : addG G k v = G ++ [(k, [v])] := by unfold addG; rw [en]
    show mdapp2 i t ((G.map fun (p : κ × List α) => lK p.1) ++ [lK k]) ((G.map fun (p : κ × List α) => D.node (.lst true) (p.2.map enc)) ++ [.node (.lst true) []]) (G.map fun (p : κ × List α) => D.node (.lst true) (p.2.map enc)).length me (ρ.set i _) = _
    rw [mdapp2_ap, List.getElem?_append_right (Nat.le_refl _), Nat.sub_self]
    show (if pures [] = true ∧ ([] : List D).length < sizeLine then _ else Out.no) = _
    have sz : (0 : Nat) < sizeLine := by rw [sizeLine_eq]; decide
    rw [if_pos ⟨rfl, sz⟩, ev]
    show (if (enc v).pure = true then _ else Out.no) = _
    rw [if_pos (ep v), ea]
    unfold dG
    rw [List.set_append_right _ _ (Nat.le_refl _), Nat.sub_self, List.map_append, List.map_append, List.set_set]
    rfl
theorem zip_fg {α β γ : Type} (f : α → β) (g : α → γ) : ∀ l : List α, (l.map f).zip (l.map g) = l.map fun x => (f x, g x)
  | [] => rfl
  | x :: l => by rw [List.map_cons, List.map_cons, List.zip_cons_cons, zip_fg f g l]; rfl
theorem ixD_G {κ α : Type} {o : Bool} {t : Bool} {lK : κ → Ky} (li : ∀ a b, lK a = lK b → a = b) (lt : ∀ k, Kd t (lK k) = true) {enc : α → D} {G : List (κ × List α)} (hn : (G.map (·.1)).Nodup) {p : κ × List α} (h : p ∈ G) {kd : D} (kk : keyD kd = some (lK p.1)) :
    ixD (dG o t lK enc G) kd = some (.node (.lst o) (p.2.map enc)) := by
  obtain ⟨n, hp⟩ := List.getElem?_of_mem h
  have hkn : ((G.map fun p => (lK p.1, D.node (.lst o) (p.2.map enc))).map (·.1)).Nodup := by
    have : (G.map fun p => (lK p.1, D.node (.lst o) (p.2.map enc))).map (·.1) = (G.map (·.1)).map lK := by rw [List.map_map, List.map_map]; rfl
    rw [this]
    exact List.pairwise_map.mpr (List.Pairwise.imp (fun {a b} h e => h (li _ _ e)) hn)
  have e : lkp (G.map fun p => (lK p.1, D.node (.lst o) (p.2.map enc))) (lK p.1) = some (D.node (.lst o) (p.2.map enc)) := lkp_nth (n := n) hkn (by rw [List.getElem?_map, hp]; rfl)
  show (lookD (.node (.dct o t (G.map fun p => lK p.1)) (G.map fun p => .node (.lst o) (p.2.map enc))) kd).bind id = _
  have e2 : lookD (.node (.dct o t (G.map fun p => lK p.1)) (G.map fun p => .node (.lst o) (p.2.map enc))) kd = some (lkp ((G.map fun p => lK p.1).zip (G.map fun p => .node (.lst o) (p.2.map enc))) (lK p.1)) := by
    show (keyD kd).bind (fun q => if Kd t q = true then some (lkp ((G.map fun p => lK p.1).zip (G.map fun p => D.node (.lst o) (p.2.map enc))) q) else none) = _
    rw [kk]
    exact if_pos (lt _)
  rw [e2, zip_fg, e]
  rfl
theorem frz_dG {κ α : Type} {o : Bool} {t : Bool} {lK : κ → Ky} {enc : α → D} (ep : ∀ a, (enc a).frz = enc a) (G : List (κ × List α)) : (dG o t lK enc G).frz = dG false t lK enc G := by
  unfold dG
  rw [D.frz, frzs_map, List.map_map]
  have : (D.frz ∘ fun p : κ × List α => D.node (.lst o) (p.2.map enc)) = fun p => D.node (.lst false) (p.2.map enc) := by
    funext p
    show D.node (.lst false) (frzs (p.2.map enc)) = _
    rw [frzs_id fun x hx => by obtain ⟨a, _, rfl⟩ := List.mem_map.mp hx; exact ep a]
  rw [this]; rfl
/-! ### lines -/
def ln (a : Nat) (c : Cl) : Int × Int := match a with
  | 0 => c.2
  | 1 => (c.1, c.2.2)
  | _ => (c.1, c.2.1)
def lK2 (k : Int × Int) : Ky := .inr [.inl k.1, .inl k.2]
def pkD (k : Int × Int) : D := .node .tup [.int k.1, .int k.2]
theorem lK2_inj (a b : Int × Int) (h : lK2 a = lK2 b) : a = b := by
  have h1 := Sum.inr.inj h
  simp only [List.cons.injEq, Sum.inl.injEq] at h1
  exact Prod.ext h1.1 h1.2.1
theorem keyD_pk (k : Int × Int) : keyD (pkD k) = some (lK2 k) := rfl
theorem kyD_lK2 (k : Int × Int) : kyD (lK2 k) = pkD k := rfl
theorem ln_ext {a : Nat} (ha : a < 3) {c d : Cl} (h : ln a c = ln a d) (g : gi c a = gi d a) : c = d := by
  obtain ⟨x, y, z⟩ := c
  obtain ⟨u, v, w⟩ := d
  rcases lt3c ha with rfl | rfl | rfl <;> simp_all [ln, gi]
theorem ln_st {a : Nat} (ha : a < 3) (c : Cl) (v : Int) : ln a (st c a v) = ln a c := by
  rcases lt3c ha with rfl | rfl | rfl <;> rfl
/-- the numbers of a body on its lines, rising -/
theorem line_lt {cs : List Cl} (hb : Bd cs) {a : Nat} (ha : a < 3) (k : Int × Int) : ((cs.filter fun c => decide (ln a c = k)).map (gi · a)).Pairwise (fun x y => x < y) := by
  rw [List.pairwise_map]
  have h1 : (cs.filter fun c => decide (ln a c = k)).Pairwise fun x y => clt x y = true := hb.sublist List.filter_sublist
  refine List.Pairwise.imp_of_mem (fun {x y} hx hy h => ?_) h1
  have ex := of_decide_eq_true (List.mem_filter.mp hx).2
  have ey := of_decide_eq_true (List.mem_filter.mp hy).2
  rw [clt_iff] at h
  obtain ⟨x1, x2, x3⟩ := x
  obtain ⟨y1, y2, y3⟩ := y
  rw [← ey] at ex
  rcases lt3c ha with rfl | rfl | rfl <;> simp only [ln, gi, Prod.mk.injEq] at ex h ⊢ <;> omega
theorem dep_nums (o : Bool) (ns : List Int) : (D.node (.lst o) (numsD ns)).dep 20 = true := by
  rw [show (20 : Nat) = 19 + 1 from rfl, dep_lst, deps_all]
  unfold numsD
  rw [List.all_map, List.all_eq_true]
  intro x _; exact dep_int _ x
theorem eqTs_nums : ∀ as bs : List Int, eqTs (numsD as) (numsD bs) = decide (as = bs)
  | [], [] => rfl
  | [], _ :: _ => rfl
  | _ :: _, [] => rfl
  | a :: as, b :: bs => by
    show (eqT (.int a) (.int b) && eqTs (numsD as) (numsD bs)) = _
    rw [eqTs_nums as bs]
    have : eqT (.int a) (.int b) = (a == b) := rfl
    rw [this, Bool.beq_eq_decide_eq]
    by_cases h : a = b
    · by_cases h2 : as = bs
      · simp [h, h2]
      · simp [h, h2]
    · simp [h]
theorem eqD_nums (o o' : Bool) (as bs : List Int) : eqD (.node (.lst o) (numsD as)) (.node (.lst o') (numsD bs)) = some (.bl (decide (as = bs))) := by
  rw [eqD_of (dep_nums o as) (dep_nums o' bs), ← eqTs_nums]; rfl
theorem neD_nums (o o' : Bool) (as bs : List Int) : neD (.node (.lst o) (numsD as)) (.node (.lst o') (numsD bs)) = some (.bl (!decide (as = bs))) := by
  rw [neD_of (dep_nums o as) (dep_nums o' bs), ← eqTs_nums]; rfl
theorem eqD_nil_nums (L : List Int) : eqD (.node (.lst false) (numsD L)) (.node (.lst false) []) = some (.bl (decide (L = []))) := eqD_nums false false L []
theorem neD_nil_nums (L : List Int) : neD (.node (.lst false) (numsD L)) (.node (.lst false) []) = some (.bl (!decide (L = []))) := neD_nums false false L []
end Ev

/-! Ev, part Ze: dicts by any keys that are told apart. -/
namespace Ev
open PySem PySem.Spec L2
open PyProof.Rows hiding St
section
variable {κ : Type} [DecidableEq κ] {lK : κ → Ky}
def putG (kvs : List (κ × D)) (c : κ) (d : D) : List (κ × D) := put kvs c d
theorem putT_g (li : ∀ a b, lK a = lK b → a = b) (c : κ) (d : D) (kvs : List (κ × D)) (hn : (kvs.map (·.1)).Nodup) : putT (kvs.map fun p => lK p.1) (kvs.map (·.2)) (lK c) d = ((putG kvs c d).map (fun p => lK p.1), (putG kvs c d).map (·.2)) := by
  have hm : kvs.map (fun p => lK p.1) = (kvs.map (·.1)).map lK := by rw [List.map_map]; rfl
  have e1 : idxG (kvs.map fun p => lK p.1) (lK c) = idxG (kvs.map (·.1)) c := by rw [hm]; exact idxG_map (fun a b z => li a b z) c _
  unfold putT putG put
  rw [e1]
  cases ei : idxG (kvs.map (·.1)) c with
  | none =>
    have hc := idxG_none ei
    have ha : (kvs.any fun p => decide (p.1 = c)) = false := by
      rw [List.any_eq_false]
      intro p hp h
      exact hc (List.mem_map.mpr ⟨p, hp, by simpa using h⟩)
    rw [if_neg (by rw [ha]; decide)]
    simp
  | some n =>
    have key : ∀ (kvs : List (κ × D)) (n : Nat), (kvs.map (·.1)).Nodup → idxG (kvs.map (·.1)) c = some n → (kvs.any fun p => decide (p.1 = c)) = true ∧ (kvs.map (·.2)).set n d = (kvs.map fun p => if p.1 = c then (p.1, d) else p).map (·.2) ∧ kvs.map (fun p => lK p.1) = (kvs.map fun p => if p.1 = c then (p.1, d) else p).map (fun p => lK p.1) := by
      intro kvs
      induction kvs with
      | nil => intro n _ h; cases h
      | cons p kvs ih =>
        intro n hn h
        rw [List.map_cons, List.nodup_cons] at hn
        rw [List.map_cons, idxG] at h
        by_cases e : p.1 = c
        · rw [if_pos e] at h; cases h
          have aux : ∀ q ∈ kvs, (if q.1 = c then (q.1, d) else q) = q := fun q hq => if_neg fun z => hn.1 (by rw [e, ← z]; exact List.mem_map.mpr ⟨q, hq, rfl⟩)
          have aux2 : (kvs.map fun p => if p.1 = c then (p.1, d) else p) = kvs := by
            rw [List.map_congr_left aux]; simp
          refine ⟨by simp [e], ?_, ?_⟩
          · rw [List.map_cons, List.map_cons, List.map_cons, aux2, List.set_cons_zero, if_pos e]
          · rw [List.map_cons, List.map_cons, List.map_cons, aux2, if_pos e]
        · rw [if_neg e] at h
          obtain ⟨m, hm, rfl⟩ := Option.map_eq_some_iff.mp h
          obtain ⟨a1, a2, a3⟩ := ih m hn.2 hm
          refine ⟨by rw [List.any_cons, a1, Bool.or_true], ?_, ?_⟩
          · rw [List.map_cons, List.set_cons_succ, a2, List.map_cons, List.map_cons, if_neg e]
          · rw [List.map_cons, a3, List.map_cons, List.map_cons, if_neg e]
    obtain ⟨a1, a2, a3⟩ := key kvs n hn ei
    rw [if_pos a1]
    exact Prod.ext a3 a2
theorem kPut_g (li : ∀ a b, lK a = lK b → a = b) (lt : ∀ k, Kd true (lK k) = true) (c : κ) (d : D) (kvs : List (κ × D)) (hn : (kvs.map (·.1)).Nodup) (hl : kvs.length < sizeLine) : kPut (lK c) (.dct true true (kvs.map fun p => lK p.1)) (kvs.map (·.2)) d = some (.dct true true ((putG kvs c d).map fun p => lK p.1), (putG kvs c d).map (·.2)) := by
  show (if Kd true (lK c) = true ∧ (kvs.map fun p => lK p.1).Nodup ∧ (kvs.map fun p => lK p.1).length < sizeLine then _ else none) = _
  have hm : kvs.map (fun p => lK p.1) = (kvs.map (·.1)).map lK := by rw [List.map_map]; rfl
  rw [if_pos ⟨lt c, by rw [hm]; exact List.pairwise_map.mpr (List.Pairwise.imp (fun {a b} h e => h (li _ _ e)) hn), by rw [List.length_map]; exact hl⟩, putT_g li c d kvs hn]
theorem put_keysG (kvs : List (κ × D)) (c : κ) (d : D) : (putG kvs c d).map (·.1) = if c ∈ kvs.map (·.1) then kvs.map (·.1) else kvs.map (·.1) ++ [c] := by
  unfold putG put
  by_cases h : c ∈ kvs.map (·.1)
  · have ha : (kvs.any fun p => decide (p.1 = c)) = true := by
      obtain ⟨p, hp, e⟩ := List.mem_map.mp h
      exact List.any_eq_true.mpr ⟨p, hp, by simpa using e⟩
    rw [if_pos ha, if_pos h, List.map_map]
    refine List.map_congr_left fun p _ => ?_
    show (if p.1 = c then (p.1, d) else p).1 = p.1
    split <;> rfl
  · have ha : ¬ (kvs.any fun p => decide (p.1 = c)) = true := by
      intro z
      obtain ⟨p, hp, e⟩ := List.any_eq_true.mp z
      exact h (List.mem_map.mpr ⟨p, hp, by simpa using e⟩)
    rw [if_neg ha, if_neg h, List.map_append]; rfl
theorem put_nodupG {kvs : List (κ × D)} (c : κ) (d : D) (hn : (kvs.map (·.1)).Nodup) : ((putG kvs c d).map (·.1)).Nodup := by
  rw [put_keysG]
  split
  · exact hn
  · rename_i h
    exact List.nodup_append.mpr ⟨hn, by simp, fun a ha b hb e => h (by rw [← List.mem_singleton.mp hb, ← e]; exact ha)⟩
theorem mem_putG {kvs : List (κ × D)} {c c' : κ} {d : D} : c' ∈ (putG kvs c d).map (·.1) ↔ c' = c ∨ c' ∈ kvs.map (·.1) := by
  rw [put_keysG]
  split
  · rename_i h
    constructor
    · exact .inr
    · rintro (rfl | z)
      · exact h
      · exact z
  · rw [List.mem_append, List.mem_singleton]; exact or_comm
theorem length_putG (kvs : List (κ × D)) (c : κ) (d : D) : (putG kvs c d).length ≤ kvs.length + 1 := by
  unfold putG put
  split
  · rw [List.length_map]; omega
  · simp
/-- a look-up by a cell -/
theorem lkp_g (li : ∀ a b, lK a = lK b → a = b) (c : κ) : ∀ kvs : List (κ × D), lkp ((kvs.map fun p => lK p.1).zip (kvs.map (·.2))) (lK c) = lkp kvs c
  | [] => rfl
  | p :: kvs => by
    rw [List.map_cons, List.map_cons, List.zip_cons_cons, lkp_cons, lkp_cons, lkp_g li c kvs]
    by_cases h : p.1 = c
    · rw [if_pos h, if_pos (by rw [h])]
    · rw [if_neg h, if_neg fun z => h (li _ _ z)]
theorem lookD_g (li : ∀ a b, lK a = lK b → a = b) (lt : ∀ k, Kd true (lK k) = true) {kd : D} (o : Bool) (kvs : List (κ × D)) (c : κ) (hk : keyD kd = some (lK c)) : lookD (.node (.dct o true (kvs.map fun p => lK p.1)) (kvs.map (·.2))) kd = some (lkp kvs c) := by
  have e : lookD (.node (.dct o true (kvs.map fun p => lK p.1)) (kvs.map (·.2))) kd = (keyD kd).bind fun q => if Kd true q = true then some (lkp ((kvs.map fun p => lK p.1).zip (kvs.map (·.2))) q) else none := rfl
  rw [e, hk]
  show (if Kd true (lK c) = true then some (lkp ((kvs.map fun p => lK p.1).zip (kvs.map (·.2))) (lK c)) else none) = _
  rw [if_pos (lt c), lkp_g li]
theorem lkp_someG {kvs : List (κ × D)} {c : κ} : (lkp kvs c).isSome = decide (c ∈ kvs.map (·.1)) := by
  induction kvs with
  | nil => rfl
  | cons p kvs ih =>
    rw [lkp_cons]
    by_cases h : p.1 = c
    · simp [h]
    · rw [if_neg h, ih, List.map_cons]
      simp [Ne.symm h]
theorem inD_g (li : ∀ a b, lK a = lK b → a = b) (lt : ∀ k, Kd true (lK k) = true) {kd : D} (o : Bool) (kvs : List (κ × D)) (c : κ) (hk : keyD kd = some (lK c)) : inD kd (.node (.dct o true (kvs.map fun p => lK p.1)) (kvs.map (·.2))) = some (.bl (decide (c ∈ kvs.map (·.1)))) := by
  show (lookD (.node (.dct o true (kvs.map fun p => lK p.1)) (kvs.map (·.2))) kd).map (fun r => D.bl r.isSome) = _
  rw [lookD_g li lt o kvs c hk, ← lkp_someG]; rfl
theorem ninD_g (li : ∀ a b, lK a = lK b → a = b) (lt : ∀ k, Kd true (lK k) = true) {kd : D} (o : Bool) (kvs : List (κ × D)) (c : κ) (hk : keyD kd = some (lK c)) : ninD kd (.node (.dct o true (kvs.map fun p => lK p.1)) (kvs.map (·.2))) = some (.bl (!decide (c ∈ kvs.map (·.1)))) := by
  unfold ninD
  rw [inD_g li lt o kvs c hk]
theorem ixD_g (li : ∀ a b, lK a = lK b → a = b) (lt : ∀ k, Kd true (lK k) = true) {kd : D} (o : Bool) {kvs : List (κ × D)} {c : κ} {d : D} (hk : keyD kd = some (lK c)) (h : lkp kvs c = some d) : ixD (.node (.dct o true (kvs.map fun p => lK p.1)) (kvs.map (·.2))) kd = some d := by
  show (lookD (.node (.dct o true (kvs.map fun p => lK p.1)) (kvs.map (·.2))) kd).bind id = _
  rw [lookD_g li lt o _ c hk, h]; rfl
theorem lkp_putG (kvs : List (κ × D)) (c c' : κ) (d : D) : lkp (putG kvs c d) c' = if c' = c then some d else lkp kvs c' := by
  unfold putG put
  by_cases ha : (kvs.any fun p => decide (p.1 = c)) = true
  · rw [if_pos ha]
    have key : ∀ kvs : List (κ × D), lkp (kvs.map fun p => if p.1 = c then (p.1, d) else p) c' = (if c' = c then (if c ∈ kvs.map (·.1) then some d else none) else lkp kvs c') := by
      intro kvs
      induction kvs with
      | nil => simp
      | cons p kvs ih =>
        rw [List.map_cons, lkp_cons, ih, lkp_cons]
        by_cases h1 : p.1 = c
        · by_cases h2 : c' = c
          · simp [h1, h2]
          · have : ¬ c = c' := fun z => h2 z.symm
            simp [h1, h2, this]
        · by_cases h2 : c' = c
          · subst h2
            have hq : (c' ∈ (p :: kvs).map (·.1)) ↔ c' ∈ kvs.map (·.1) := by
              rw [List.map_cons, List.mem_cons]; exact ⟨fun z => z.resolve_left (Ne.symm h1), .inr⟩
            rw [if_neg h1, if_neg h1, if_pos rfl, if_pos rfl]
            by_cases hk : c' ∈ kvs.map (·.1)
            · rw [if_pos hk, if_pos (hq.mpr hk)]
            · rw [if_neg hk, if_neg fun z => hk (hq.mp z)]
          · simp [h1, h2]
    rw [key]
    have hm : c ∈ kvs.map (·.1) := by
      obtain ⟨p, hp, e⟩ := List.any_eq_true.mp ha
      exact List.mem_map.mpr ⟨p, hp, by simpa using e⟩
    rw [if_pos hm]
  · rw [if_neg ha]
    have key : ∀ kvs : List (κ × D), (kvs.any fun p => decide (p.1 = c)) = false → lkp (kvs ++ [(c, d)]) c' = if c' = c then some d else lkp kvs c' := by
      intro kvs
      induction kvs with
      | nil =>
        intro _
        rw [List.nil_append, lkp_cons]
        by_cases h : c' = c
        · simp [h]
        · rw [if_neg fun z => h z.symm, if_neg h]
      | cons p kvs ih =>
        intro h
        rw [List.any_cons, Bool.or_eq_false_iff] at h
        rw [List.cons_append, lkp_cons, ih h.2, lkp_cons]
        have hp : ¬ p.1 = c := by simpa using h.1
        by_cases h2 : c' = c
        · subst h2; simp [hp]
        · simp [h2]
    exact key kvs (Bool.eq_false_iff.mpr ha)
end
end Ev

/-! Ev, part Zf: == of dicts with tuples for keys, dict(pairs), d.clear(), list(reversed(..)). -/
namespace Ev
open PySem PySem.Spec L2
open PyProof.Rows hiding St
section
variable {prog : Program} {w : World} {K : Type} [DecidableEq K] {knd : HeapKind prog w K} {A : Around} {E : Value → Shared → Prop} {s : Shared}
/-- the pairs of two dicts, one behind the other -/
theorem same_heapPairs {nm : String} {a b : Addr} {xs ys : List (K × Addr × Value)} {e : K → Bool} {Q : Bool → Shared → Prop} (ha : (a == sysModules) = false) (hb : (b == sysModules) = false) (hu : knd.room A)
    (da : s.heap.DictOfH knd a xs) (db : s.heap.DictOfH knd b ys) (hv : ∀ k p q, (k, p) ∈ xs → atKey ys k = some q → PySem.SeqAt.EqIn prog w A s p.2 q.2 (e k))
    (h : Q (xs.length == ys.length && xs.all fun x => (atKey ys x.1).isSome && e x.1) s) : wpAny (model prog w) A (Builtin.Dict.samePairs nm a b) Q E s := by
  obtain ⟨o1, es1, ep1, g1, _, d1, l1, i1, n1⟩ := da
  obtain ⟨o2, es2, ep2, g2, _, d2, l2, i2, n2⟩ := db
  have z1 := size_of_entries l1
  have z2 := size_of_entries l2
  unfold Builtin.Dict.samePairs Builtin.Dict.showsAll
  rw [if_neg (by rw [ha]; decide), if_neg (by rw [hb]; decide)]
  refine wpAny_bind (wpAny_pure (wpAny_bind (wpAny_pure (wpAny_bind (wpAny_dictEntries g1 d1 ?_)))))
  dsimp only
  refine wpAny_bind (wpAny_dictEntries g2 d2 ?_)
  by_cases hl : xs.length = ys.length
  case neg =>
    rw [if_pos (by simpa [z1, z2] using hl)]
    rw [show (xs.length == ys.length) = false by simpa using hl, Bool.false_and] at h
    exact wpAny_bind (wpAny_rule (wpAny_pure h))
  rw [show (xs.length == ys.length) = true by simpa using hl, Bool.true_and] at h
  rw [if_neg (by simp [z1, z2, hl])]
  refine wpAny_bind (wpAny_dictEpoch g1 d1 (wpAny_bind ?_))
  rw [Std.Legacy.Range.forIn_eq_forIn_range']; simp only [Std.Legacy.Range.size, Nat.sub_zero, Nat.add_sub_cancel, Nat.div_one]
  refine wpAny_forIn_list _ (fun r q t => t = s ∧ q = (none, ()) ∧ ∃ i, r = List.range' i (es1.size - i) ∧ i ≤ es1.size ∧ Q ((xs.drop i).all fun x => (atKey ys x.1).isSome && e x.1) s) _ ?_ ?_ _ _ ⟨rfl, rfl, 0, by simp, by omega, h⟩
  · rintro j r q t ⟨rfl, rfl, i, er, hi, hQ⟩
    obtain ⟨lt, rfl, rr⟩ : i < es1.size ∧ j = i ∧ r = List.range' (i + 1) (es1.size - (i + 1)) := by
      by_cases z : i < es1.size
      · rw [show es1.size - i = (es1.size - (i + 1)) + 1 by omega, List.range'_succ] at er
        exact ⟨z, (List.cons.inj er).1, (List.cons.inj er).2⟩
      · rw [show es1.size - i = 0 by omega] at er; cases er
    have lx : j < xs.length := z1 ▸ lt
    obtain ⟨⟨k, c, v⟩, ek⟩ : ∃ p, xs[j]? = some p := ⟨_, List.getElem?_eq_getElem lx⟩
    have ee : es1[j]? = some (entryOfKey knd (k, c, v)) := by rw [entry_at l1, ek]; rfl
    have mk : (k, c, v) ∈ xs := List.mem_of_getElem? ek
    have dr : xs.drop j = (k, c, v) :: xs.drop (j + 1) := by
      rw [List.drop_eq_getElem_cons lx, ← Option.some.inj ((List.getElem?_eq_getElem lx).symm.trans ek)]
    rw [dr, List.all_cons] at hQ
    refine wpAny_bind (wpAny_dictEntries g1 d1 ?_)
    rw [ee]
    refine wpAny_bind (wpAny_holding (wpAny_bind (wpAny_dictFind_heap (knd := knd) (k := k) hu (i1 _ mk) g2 d2 l2 i2 n2 (fun no => ?_) fun m p em => ?_)))
    · rw [atKey_none_of_get no] at hQ
      refine wpAny_pure ?_
      show wpAny _ _ (if (!false) = true then _ else _) _ _ _
      rw [if_pos (by decide)]
      exact wpAny_pure (wpAny_pure hQ)
    · have ea := atKey_of_get n2 em
      have ey : es2[m]? = some (entryOfKey knd (k, p)) := by rw [entry_at l2, em]; rfl
      rw [ea] at hQ
      refine wpAny_bind (wpAny_dictEntries g2 d2 ?_)
      rw [ey]
      have eq := hv k (c, v) p mk ea
      generalize e k = ek' at eq hQ
      refine wpAny_holding (eq _ _ ?_)
      cases ek' with
      | false =>
        show wpAny _ _ (if (!false) = true then _ else _) _ _ _
        rw [if_pos (by decide)]
        exact wpAny_pure (wpAny_pure hQ)
      | true =>
        show wpAny _ _ (if (!true) = true then _ else _) _ _ _
        rw [if_neg (by decide)]
        refine wpAny_bind (wpAny_dictEpoch g1 d1 ?_)
        rw [if_neg (by simp)]
        exact wpAny_pure ⟨rfl, rfl, j + 1, rr, lt, hQ⟩
  · rintro q t ⟨rfl, rfl, i, er, hi, hQ⟩
    have : i = es1.size := by
      by_cases z : i < es1.size
      · rw [show es1.size - i = (es1.size - (i + 1)) + 1 by omega, List.range'_succ] at er; cases er
      · omega
    rw [this, z1, List.drop_length] at hQ
    exact wpAny_pure hQ
theorem eq_heapDicts {a b : Addr} {xs ys : List (K × Addr × Value)} {e : K → Bool} {Q : Value → Shared → Prop} (ha : (a == sysModules) = false) (hb : (b == sysModules) = false) (hu : knd.room A.in1) (hu2 : A.units < cLine)
    (da : s.heap.DictOfH knd a xs) (db : s.heap.DictOfH knd b ys) (hv : ∀ k p q, (k, p) ∈ xs → atKey ys k = some q → PySem.SeqAt.EqIn prog w A.in1 s p.2 q.2 (e k))
    (h : Q (.bool (xs.length == ys.length && xs.all fun x => (atKey ys x.1).isSome && e x.1)) s) : wpAny (model prog w) A (compareOp .Eq (.ref a) (.ref b)) Q E s := by
  have ta := da.typeIs
  have tb := db.typeIs
  refine wpAny_richCompare_same_room (op := .Eq) ta tb PySem.F.slot_dict_eq (wpAny_call_entry PySem.F.slot_dict_eq ta PySem.F.entry_dict_eq ?_ (PySem.F.args_dict_eq_2 _ _)) hu2
  show wpAny _ _ (Builtin.Dict.dictSlotArgs "__eq__" ⟨[.ref a, .ref b], []⟩ >>= _) _ _ s
  unfold Builtin.Dict.dictSlotArgs
  refine wpAny_bind (wpAny_bind (wpAny_notOrdered_dict ta ?_))
  show wpAny _ _ (pure (Value.ref a, Value.ref b)) _ _ s
  refine wpAny_pure (wpAny_bind (wpAny_isInstance (T := "dict") tb PySem.F.sub_dict_dict ?_))
  simp only [Bool.not_true, Bool.false_eq_true, if_false]
  refine wpAny_bind (wpAny_pure (wpAny_bind (wpAny_pure (wpAny_bind (same_heapPairs ha hb hu da db hv (wpAny_pure ⟨_, rfl, (fun x => nomatch x), ?_⟩))))))
  simpa using h
end
end Ev
namespace Ev
open PySem PySem.Spec L2
open PyProof.Rows hiding St
section
variable {prog : Program} {w : World} {K : Type} [DecidableEq K] {knd : HeapKind prog w K} {A : Around} {E : Value → Shared → Prop} {s : Shared}
theorem ne_heapDicts {a b : Addr} {xs ys : List (K × Addr × Value)} {e : K → Bool} {Q : Value → Shared → Prop} (ha : (a == sysModules) = false) (hb : (b == sysModules) = false) (hu : knd.room A.in1) (hu2 : A.units < cLine)
    (da : s.heap.DictOfH knd a xs) (db : s.heap.DictOfH knd b ys) (hv : ∀ k p q, (k, p) ∈ xs → atKey ys k = some q → PySem.SeqAt.EqIn prog w A.in1 s p.2 q.2 (e k))
    (h : Q (.bool (!(xs.length == ys.length && xs.all fun x => (atKey ys x.1).isSome && e x.1))) s) : wpAny (model prog w) A (compareOp .NotEq (.ref a) (.ref b)) Q E s := by
  have ta := da.typeIs
  have tb := db.typeIs
  refine wpAny_richCompare_same_room (op := .NotEq) ta tb PySem.F.slot_dict_ne (wpAny_call_entry PySem.F.slot_dict_ne ta PySem.F.entry_dict_ne ?_ (PySem.F.args_dict_ne_2 _ _)) hu2
  show wpAny _ _ (Builtin.Dict.dictSlotArgs "__ne__" ⟨[.ref a, .ref b], []⟩ >>= _) _ _ s
  unfold Builtin.Dict.dictSlotArgs
  refine wpAny_bind (wpAny_bind (wpAny_notOrdered_dict ta ?_))
  show wpAny _ _ (pure (Value.ref a, Value.ref b)) _ _ s
  refine wpAny_pure (wpAny_bind (wpAny_isInstance (T := "dict") tb PySem.F.sub_dict_dict ?_))
  simp only [Bool.not_true, Bool.false_eq_true, if_false]
  refine wpAny_bind (wpAny_pure (wpAny_bind (wpAny_pure (wpAny_bind (same_heapPairs ha hb hu da db hv (wpAny_pure ⟨_, rfl, (fun x => nomatch x), ?_⟩))))))
  simpa using h
end
/-- two dicts by keys and values -/
def dictEq (ks : List Ky) (xs : List D) (ls : List Ky) (ys : List D) : Bool := ks.length == ls.length && ks.all fun k => match lkp (ks.zip xs) k, lkp (ls.zip ys) k with
  | some x, some y => eqT x y
  | _, _ => false
/-- ==, for dicts with tuples for keys too -/
def eqB2 : D → D → Option Bool
  | .node (.dct _ true ks) xs, .node (.dct _ true ls) ys => if xs.all flD = true ∧ ys.all flD = true then some (dictEq ks xs ls ys) else none
  | x, y => if x.dep 20 = true ∧ y.dep 20 = true then some (eqT x y) else none
def eq2D (x y : D) : Option D := (eqB2 x y).map .bl
def ne2D (x y : D) : Option D := (eqB2 x y).map fun b => .bl (!b)
section
variable {mg : Str → Option Value} {H : Hp} {B : Addr → Prop}
theorem flD_flat {d : D} {v : V} {u : Value} {as : List Addr} (h : flD d = true) (r : Rep mg H B d v as) (ru : RelV v u) : PyProof.V.Flat u d.py := fun h' => by
  cases d with
  | node _ _ => cases h
  | non => obtain ⟨rfl, _⟩ := r; obtain rfl : u = .none := ru; exact Reads.none
  | bl b => obtain ⟨rfl, _⟩ := r; obtain rfl : u = .bool b := ru; exact Reads.bool b
  | int b => obtain ⟨rfl, _⟩ := r; obtain ⟨t, rfl⟩ := ru; exact Reads.int b t
  | str b => obtain ⟨rfl, _⟩ := r; obtain ⟨t, rfl⟩ := ru; exact Reads.str b t
theorem lkp_val {κ : Type} [DecidableEq κ] (k : κ) : ∀ {ks : List κ} {xs : List D} {vs : List V}, Reps mg H B xs vs [] → (∀ d, lkp (ks.zip xs) k = some d → ∃ v, valV (ks.zip vs) k = some v ∧ Rep mg H B d v []) ∧ (lkp (ks.zip xs) k = none → valV (ks.zip vs) k = none)
  | [], xs, vs, _ => ⟨fun d z => by simp at z, fun _ => by simp [valV]⟩
  | l :: ks, [], vs, h => by
    rw [Reps] at h
    obtain ⟨rfl, _⟩ := h
    exact ⟨fun d z => by simp at z, fun _ => by simp [valV]⟩
  | l :: ks, x :: xs, vs, h => by
    rw [Reps] at h
    obtain ⟨v, ws, a1, a2, rfl, e, h1, h2⟩ := h
    obtain ⟨rfl, rfl⟩ := List.append_eq_nil_iff.mp e.symm
    have ih := lkp_val k (ks := ks) h2
    rw [List.zip_cons_cons, List.zip_cons_cons, lkp_cons]
    have ev : valV ((l, v) :: ks.zip ws) k = if l = k then some v else valV (ks.zip ws) k := by
      unfold valV
      by_cases z : l = k <;> simp [z]
    rw [ev]
    by_cases z : l = k
    · simp only [z, if_true]
      exact ⟨fun d q => ⟨v, rfl, by cases q; exact h1⟩, fun q => by cases q⟩
    · simp only [z, if_false]
      exact ih
theorem lkp_inr (k : List Key) : ∀ (ks : List (List Key)) (xs : List D), lkp ((ks.map (Sum.inr : List Key → Ky)).zip xs) (Sum.inr k) = lkp (ks.zip xs) k
  | [], _ => by simp
  | _ :: _, [] => by simp
  | l :: ks, x :: xs => by
    rw [List.map_cons, List.zip_cons_cons, List.zip_cons_cons, lkp_cons, lkp_cons, lkp_inr k ks xs]
    by_cases z : l = k
    · simp [z]
    · have : ¬ ((Sum.inr l : Ky) = Sum.inr k) := fun q => z (Sum.inr.inj q)
      simp [z]
end
section
variable {X : Cx}
theorem dict_vals {mg : Str → Option Value} {B B' : Addr → Prop} {H : Hp} {s : Shared} {A : Around} {P : Program} {w : World} {k1 k2 : List (List Key)} {xs ys : List D} {vs ws : List V} {L1 L2 : List (List Key × Addr × Value)}
    (hx : xs.all flD = true) (hy : ys.all flD = true) (rx : Reps mg H B xs vs []) (ry : Reps mg H B' ys ws []) (l1 : vs.length = k1.length) (l2 : ws.length = k2.length) (t1 : KT H (k1.zip vs) L1) (t2 : KT H (k2.zip ws) L2) (n1 : (L1.map (·.1)).Nodup) :
    ∃ e : List Key → Bool, (∀ k p q, (k, p) ∈ L1 → atKey L2 k = some q → PySem.SeqAt.EqIn P w A s p.2 q.2 (e k)) ∧
      (L1.length == L2.length && L1.all fun x => (atKey L2 x.1).isSome && e x.1) = dictEq (k1.map Sum.inr) xs (k2.map Sum.inr) ys := by
  have q1 : L1.map (·.1) = k1 := by
    have := pairedKeys (fun p q (z : p.1 = q.1 ∧ _) => z.1) t1
    rw [← this, List.map_fst_zip (by omega)]
  have q2 : L2.map (·.1) = k2 := by
    have := pairedKeys (fun p q (z : p.1 = q.1 ∧ _) => z.1) t2
    rw [← this, List.map_fst_zip (by omega)]
  refine ⟨fun k => match lkp (k1.zip xs) k, lkp (k2.zip ys) k with | some x, some y => eqT x y | _, _ => false, fun k p q hp hq => ?_, ?_⟩
  · obtain ⟨j, hj⟩ := List.getElem?_of_mem hp
    have a1 := atKey_of_get n1 hj
    have v1 := t1.val k
    have v2 := t2.val k
    rw [a1] at v1
    rw [hq] at v2
    obtain ⟨b1, c1⟩ := lkp_val (mg := mg) (H := H) (B := B) k (ks := k1) rx
    obtain ⟨b2, c2⟩ := lkp_val (mg := mg) (H := H) (B := B') k (ks := k2) ry
    cases e1 : lkp (k1.zip xs) k with
    | none => rw [c1 e1] at v1; exact v1.elim
    | some x =>
      cases e2 : lkp (k2.zip ys) k with
      | none => rw [c2 e2] at v2; exact v2.elim
      | some y =>
        obtain ⟨v, ev, rv⟩ := b1 x e1
        obtain ⟨u, eu, ru⟩ := b2 y e2
        rw [ev] at v1
        rw [eu] at v2
        have inl : ∀ {ks : List (List Key)} {zs : List D} {z : D}, lkp (ks.zip zs) k = some z → z ∈ zs := fun {ks zs z} h => by
          unfold lkp at h
          obtain ⟨p, hp, rfl⟩ := Option.map_eq_some_iff.mp h
          exact (List.of_mem_zip (List.mem_of_find?_eq_some hp)).2
        have fx := List.all_eq_true.mp hx x (inl e1)
        have fy := List.all_eq_true.mp hy y (inl e2)
        have := PySem.W.keq_flat (A := A) (s := s) (flD_flat fx rv v1) (flD_flat fy ru v2)
        rw [eqv_py] at this
        dsimp only
        rw [e1, e2]
        exact PySem.SeqAt.EqAt.inModel this P w
  · have e1 : L1.length = k1.length := by rw [← q1, List.length_map]
    have e2 : L2.length = k2.length := by rw [← q2, List.length_map]
    unfold dictEq
    rw [List.length_map, List.length_map, e1, e2]
    congr 1
    have ea : ∀ G : List Key → Bool, (L1.all fun x => G x.1) = k1.all G := fun G => by
      rw [← q1, List.all_map]; rfl
    rw [List.all_map, ← ea]
    rw [Bool.eq_iff_iff, List.all_eq_true, List.all_eq_true]
    refine forall_congr' fun x => imp_congr_right fun hm => ?_
    show _ ↔ (match lkp ((k1.map (Sum.inr : List Key → Ky)).zip xs) (Sum.inr x.1), lkp ((k2.map (Sum.inr : List Key → Ky)).zip ys) (Sum.inr x.1) with | some x, some y => eqT x y | _, _ => false) = true
    rw [lkp_inr, lkp_inr, Bool.and_eq_true]
    refine ⟨fun z => z.2, fun z => ⟨?_, z⟩⟩
    have v2 := t2.val x.1
    obtain ⟨b2, c2⟩ := lkp_val (mg := mg) (H := H) (B := B') x.1 (ks := k2) ry
    cases e3 : lkp (k2.zip ys) x.1 with
    | none => rw [e3] at z; cases lkp (k1.zip xs) x.1 <;> simp at z
    | some y =>
      obtain ⟨u, eu, ru⟩ := b2 y e3
      rw [eu] at v2
      cases e4 : atKey L2 x.1 with
      | none => rw [e4] at v2; exact v2.elim
      | some q => rfl
end
end Ev
namespace Ev
open PySem PySem.Spec L2
open PyProof.Rows hiding St
section
variable {X : Cx}
theorem eqB2_read {x y : D} {b : Bool} (h : eqB2 x y = some b) : (∃ o1 o2 ks xs ls ys, x = .node (.dct o1 true ks) xs ∧ y = .node (.dct o2 true ls) ys ∧ xs.all flD = true ∧ ys.all flD = true ∧ b = dictEq ks xs ls ys) ∨ (x.dep 20 = true ∧ y.dep 20 = true ∧ b = eqT x y) := by
  unfold eqB2 at h
  split at h
  · rename_i o1 ks xs o2 ls ys
    split at h
    · rename_i hh; cases h
      exact .inl ⟨o1, o2, ks, xs, ls, ys, rfl, rfl, hh.1, hh.2, rfl⟩
    · cases h
  · split at h
    · rename_i hh; cases h
      exact .inr ⟨hh.1, hh.2, rfl⟩
    · cases h
theorem od_eq2 (hu : X.A.units + 64 < cLine) : OpD X (compareOp .Eq) eq2D := by
  intro pins s σ H v w vv ww Q I rv rw' h
  obtain ⟨x, y, B, rx, ry, bd, bn, d, e, q⟩ := h
  obtain ⟨b, eb, rfl⟩ := Option.map_eq_some_iff.mp e
  rcases eqB2_read eb with ⟨o1, o2, ks, xs, ls, ys, rfl, rfl, hx, hy, rfl⟩ | ⟨h1, h2, rfl⟩
  · obtain ⟨a, vs, u1, rfl, l1, dd1, rd1, rr1, _⟩ := rx.dctE
    obtain ⟨c, ws, u2, rfl, l2, dd2, rd2, rr2, _⟩ := ry.dctE
    obtain ⟨k1, rfl, rfl⟩ := dd1
    obtain ⟨k2, rfl, rfl⟩ := dd2
    rw [List.length_map] at l1 l2
    obtain rfl : vv = Value.ref a := rv
    obtain rfl : ww = Value.ref c := rw'
    obtain ⟨_, y1, L1, t1, m1⟩ := dt_rd I.hok rd1
    obtain ⟨_, y2, L2, t2, m2⟩ := dt_rd I.hok rd2
    obtain ⟨f, hf, ef⟩ := dict_vals (P := X.prog) (w := X.w) (s := s) (A := X.A.in1) hx hy rr1 rr2 (by have := rr1.length; omega) (by have := rr2.length; omega) t1 t2 (by obtain ⟨_, _, _, _, _, _, _, _, n⟩ := m1; exact n)
    refine eq_heapDicts y1 y2 (show X.A.in1.units < cLine from by have : X.A.in1.units = X.A.units + 1 := rfl; omega) (by omega) m1 m2 hf ?_
    rw [ef]
    exact ⟨.bl _, H, I, rfl, q _ _ [] (Same.refl _) rep_bl fresh0 List.nodup_nil⟩
  · exact od_eq hu pins s σ H v w vv ww Q I rv rw' ⟨x, y, B, rx, ry, bd, bn, .bl (eqT x y), by unfold eqD; rw [if_pos ⟨h1, h2⟩], q⟩
theorem od_ne2 (hu : X.A.units + 64 < cLine) : OpD X (compareOp .NotEq) ne2D := by
  intro pins s σ H v w vv ww Q I rv rw' h
  obtain ⟨x, y, B, rx, ry, bd, bn, d, e, q⟩ := h
  obtain ⟨b, eb, rfl⟩ := Option.map_eq_some_iff.mp e
  rcases eqB2_read eb with ⟨o1, o2, ks, xs, ls, ys, rfl, rfl, hx, hy, rfl⟩ | ⟨h1, h2, rfl⟩
  · obtain ⟨a, vs, u1, rfl, l1, dd1, rd1, rr1, _⟩ := rx.dctE
    obtain ⟨c, ws, u2, rfl, l2, dd2, rd2, rr2, _⟩ := ry.dctE
    obtain ⟨k1, rfl, rfl⟩ := dd1
    obtain ⟨k2, rfl, rfl⟩ := dd2
    rw [List.length_map] at l1 l2
    obtain rfl : vv = Value.ref a := rv
    obtain rfl : ww = Value.ref c := rw'
    obtain ⟨_, y1, L1, t1, m1⟩ := dt_rd I.hok rd1
    obtain ⟨_, y2, L2, t2, m2⟩ := dt_rd I.hok rd2
    obtain ⟨f, hf, ef⟩ := dict_vals (P := X.prog) (w := X.w) (s := s) (A := X.A.in1) hx hy rr1 rr2 (by have := rr1.length; omega) (by have := rr2.length; omega) t1 t2 (by obtain ⟨_, _, _, _, _, _, _, _, n⟩ := m1; exact n)
    refine ne_heapDicts y1 y2 (show X.A.in1.units < cLine from by have : X.A.in1.units = X.A.units + 1 := rfl; omega) (by omega) m1 m2 hf ?_
    rw [ef]
    exact ⟨.bl _, H, I, rfl, q _ _ [] (Same.refl _) rep_bl fresh0 List.nodup_nil⟩
  · exact od_ne hu pins s σ H v w vv ww Q I rv rw' ⟨x, y, B, rx, ry, bd, bn, .bl (!eqT x y), by unfold neD; rw [if_pos ⟨h1, h2⟩], q⟩
end
end Ev
namespace Ev
open PySem PySem.Spec L2
open PyProof.Rows hiding St
/-! ### list(reversed(x)) -/
section
variable {prog : Program} {w : World} {A : Around} {E : Value → Shared → Prop} {s : Shared}
/-- list(it), it the iterator of reversed(l) -/
theorem list_of_revIter {it l : Addr} {vs : Array Value} {Q : Value → Shared → Prop} (hh : A.handled = none) (hi : s.heap.IsRevIter it l ((vs.size : Int) - 1)) (hl : s.heap.IsList l vs) (ne : l ≠ it) (hz : vs.size ≤ sizeLine)
    (hQ : ∀ (h' : Heap) (tk : Nat) (acc : Array Value) (c : Nat), (∀ b o, b ≠ it → s.heap.get? b = some o → h'.get? b = some o) → h'.get? s.heap.objs.size = some { cls := .type "list", dict := none, data := .seq acc c, slots := #[] } →
      ItemsOf (fun i v => vs[vs.size - 1 - i]? = some v) acc vs.size → Q (.ref s.heap.objs.size) { s with heap := h', toks := tk }) : wpAny (model prog w) A (call (.type "list") [.ref it]) Q E s := by
  obtain ⟨o1, g1, _⟩ := id hi
  obtain ⟨o2, g2, _⟩ := id hl
  have n1 : s.heap.objs.size ≠ it := Nat.ne_of_gt (Heap.lt_size g1)
  have n2 : s.heap.objs.size ≠ l := Nat.ne_of_gt (Heap.lt_size g2)
  have nm : s.heap.objs.size ∉ [it, l] := by simp [n1, n2]
  refine callType_codes (Q₁ := fun z t => z = .ref s.heap.objs.size ∧ t = { s with heap := s.heap.push { cls := .type "list", data := .seq #[] } }) PySem.F.called_list (PySem.F.typeCall_list_1 _) PySem.F.entry_list_init (code_list_new _ ⟨rfl, rfl⟩) fun z t ⟨ez, et⟩ => ?_
  subst ez et
  have gS : (s.heap.push { cls := .type "list", data := .seq #[] }).get? s.heap.objs.size = some { cls := .type "list", data := .seq #[] } := Heap.get?_push_size _ rfl
  refine ⟨⟨_, gS, rfl⟩, PySem.F.args_list_init_2 _ _, ?_⟩
  have W := (Walks.listRev (prog := prog) (w := w) (A := A.in1.in1) hh it l ne vs).toS
  show wpAny _ A.in1.in1 (do let old ← Builtin.List.listItems (.ref s.heap.objs.size); Builtin.List.listUpdate (.ref s.heap.objs.size) (fun _ => #[]); letGo old.toList.reverse; Builtin.List.listExtendWith (.ref s.heap.objs.size) (.ref it) .none) _ _ _
  refine wpAny_bind ?_
  unfold Builtin.List.listItems
  refine wpAny_bind (wpAny_seqItems gS rfl (wpAny_pure ?_))
  show wpAny _ A.in1.in1 (updateSeq s.heap.objs.size (fun _ => #[]) >>= fun _ => letGo (#[] : Array Value).toList.reverse >>= fun _ => Builtin.List.listExtendWith (.ref s.heap.objs.size) (.ref it) .none) _ _ _
  refine wpAny_bind (wpAny_updateSeq gS rfl (wpAny_bind (wpAny_letGo ?_)))
  have gS2 := Heap.get?_update_self (Obj.mapSeq (fun _ => (#[] : Array Value))) gS rfl
  generalize eh : (s.heap.push { cls := .type "list", data := .seq #[] }).update s.heap.objs.size (Obj.mapSeq (fun _ => (#[] : Array Value))) = hp at gS2 ⊢
  have oth : ∀ b o, s.heap.get? b = some o → hp.get? b = some o := fun b o e => by
    rw [← eh]
    exact (Heap.get?_update_other _ _ (Nat.ne_of_gt (Heap.lt_size e))).trans (Heap.get?_push_of_some _ e)
  have hi2 : hp.IsRevIter it l ((vs.size : Int) - 1) := hi.at fun o e => oth _ _ e
  have hl2 : hp.IsList l vs := hl.at fun o e => oth _ _ e
  have hT : ({ s with heap := hp } : Shared).TypeIs (.ref it) "list_reverseiterator" := Heap.IsRevIter.typeIs (s := { s with heap := hp }) hi2
  unfold Builtin.List.listExtendWith
  refine wpAny_bind (wpAny_typeOf hT ?_)
  rw [if_neg (by simp [Builtin.List.listSameRef, n1])]
  refine wpAny_bind (wpAny_pyIter_revIter (s := { s with heap := hp }) hi2 (wpAny_bind (wpAny_holding ?_)))
  unfold Builtin.List.listLengthHint
  refine wpAny_bind (wpAny_specialOf hT RT.nolen_lri ?_)
  show wpAny _ A.in1.in1 (specialOf (Value.ref it) (Str.ofString "__length_hint__") >>= _) _ _ _
  refine wpAny_bind (wpAny_specialOf hT RT.hint_lri ?_)
  generalize hd : ("list_reverseiterator.__length_hint__" : String) = ix
  wp_delta
  rw [show splitId ix = some ("list_reverseiterator", "__length_hint__") from by subst hd; decide +kernel]
  subst hd
  refine wpAny_bind (wpAny_isInstance (b := true) hT (by rw [isSubtype_type]; kernel_rfl) (wpAny_pure ?_))
  rw [if_neg (by decide)]
  refine wpAny_pure ⟨plainId_quiet PySem.F.plain_extend_loop _, codeAny_extend_loopS W hz _ nm _ vs.size 0 _ _ _ rfl (Nat.zero_le _) ⟨Nat.zero_le _, by rw [show ((vs.size : Nat) : Int) - 1 - ((0 : Nat) : Int) = (vs.size : Int) - 1 by omega]; exact hi2, hl2⟩ gS2 (ItemsOf.nil _) fun t acc c hm gt ha => ?_⟩
  refine ⟨rfl, ?_⟩
  rw [Moved.eq_with hm]
  refine hQ t.heap t.toks acc c (fun b o hb e => hm.heap b o (fun hx => ?_) (oth b o e)) gt ha
  rcases List.mem_cons.mp hx with z | z
  · exact Nat.lt_irrefl _ (z ▸ Heap.lt_size e)
  · exact hb (List.mem_singleton.mp z)
end
section
variable {X : Cx} {W : WX} {a : Expr} {m : En → Res D} {fa : List Nat} {p p2 pos pos2 : Pos}
def tLRev (K : PySem.W.Frag) (te : TE) : TE := fun σ H Q => te σ H fun v H1 => ∃ (a : Addr) (xs : List V), v = .ref a ∧ SqL K H1 a xs ∧ ∀ q, H1 q = none → Q (.ref q) (upd H1 q (.lst xs.reverse))
theorem pe_lrev {e : Expr} {te : TE} (hc : X.calm = true) (hg : Gl X "list") (hm : X.mg "list" = none) (hg2 : Gl X "reversed") (hm2 : X.mg "reversed" = none) (he : PE X e te)
    (hs : starEach [e] X.env = (false, eval e X.env) :: starEach [] X.env) (hs2 : starEach [.Call (.Name "reversed" p2) [e] [] pos2] X.env = (false, eval (.Call (.Name "reversed" p2) [e] [] pos2) X.env) :: starEach [] X.env) :
    PE X (.Call (.Name "list" p) [.Call (.Name "reversed" p2) [e] [] pos2] [] pos) (tLRev X.K te) := ⟨fun pins s σ H Q I h => by
  refine Call_ (ld_blt I hg hm boot_list (PyProof.Rows.callWith_type1 (args_cons (Call_ (ld_blt I hg2 hm2 PyProof.Rows.boot_reversed (PyProof.Rows.callWith_type1 (args_cons (thn (he.run pins s σ H _ I h) fun u t ⟨v, H1, I1, r1, b, xs, ev, hq, q⟩ => args_nil ?_) hs) hs rfl))) hs2) hs2 rfl))
  subst ev
  obtain rfl : u = Value.ref b := r1
  obtain ⟨its, rv, pl, hz⟩ := I1.list hq
  have hl := pl.isList
  obtain ⟨ol, hol, _⟩ := id hl
  refine call_reversed_list hl (args_nil ?_)
  have hzz : its.toArray.size ≤ sizeLine := by rw [List.size_toArray, ← rv.length]; exact hz
  refine list_of_revIter (s := { t with heap := t.heap.push (revObj b ((its.toArray.size : Int) - 1)) }) (I1.ok.hd hc) ⟨_, Heap.get?_push_size _ rfl, rfl, rfl⟩ (hl.push _) (Nat.ne_of_lt (Heap.lt_size hol)) hzz fun h' tk acc c hk hS hi => ?_
  have sz : (t.heap.push (revObj b ((its.toArray.size : Int) - 1))).objs.size = t.heap.objs.size + 1 := Heap.size_push _ _
  rw [sz] at hS ⊢
  have hp : t.heap.objs.size ≤ t.heap.objs.size + 1 := Nat.le_succ _
  exact ⟨.ref (t.heap.objs.size + 1), upd H1 (t.heap.objs.size + 1) (.lst xs.reverse), I1.laid (t' := tk) (fun b o e => hk b o (Nat.ne_of_lt (Heap.lt_size e)) (Heap.get?_push_of_some _ e)) hp
    (show ObjOk X.prog X.w _ _ _ (.lst xs.reverse) from ⟨by rw [List.length_reverse]; exact hz, acc.toList, c, RT.vals_rev rv hi, by rw [Array.toArray_toList]; exact hS⟩), rfl, q _ (I1.hok.fresh hp)⟩⟩
def mlrev (m : En → Res D) : En → Res D := fun ρ => (m ρ).bind fun x => (Res.of (lstItems x.frz)).bind fun xs => .ok (.node (.lst true) xs.reverse)
theorem de_lrev (hc : X.calm = true) (hm : X.mg "list" = none) (hm2 : X.mg "reversed" = none) (ha : DE X W a fa m) (hg : Gl X "list" := by rfl) (hg2 : Gl X "reversed" := by rfl) (hs : starEach [a] X.env = (false, eval a X.env) :: starEach [] X.env := by rfl)
    (hs2 : starEach [.Call (.Name "reversed" p2) [a] [] pos2] X.env = (false, eval (.Call (.Name "reversed" p2) [a] [] pos2) X.env) :: starEach [] X.env := by rfl) : DE X W (.Call (.Name "list" p) [.Call (.Name "reversed" p2) [a] [] pos2] [] pos) fa (mlrev m) := by
  refine PE.mk (pe_lrev hc hg hm hg2 hm2 ha hs hs2) fun σ H Q bn ⟨ρ, B, en, bd, hp⟩ => ?_
  refine Tv.bind en bd hp fun x ex v H1 as bn1 s1 r1 f1 n1 hp1 => ?_
  cases el : lstItems x.frz with
  | none => rw [el] at hp1; exact hp1.elim
  | some xs =>
    rw [el] at hp1
    have rv := r1.view bd f1
    obtain ⟨e1, e2⟩ := frz_lst el
    rw [e1] at rv
    obtain ⟨c, vs, rfl, ha', hr, nb⟩ := rv.lstE
    refine ⟨c, vs, rfl, .inl ha', fun q nq bn' => ?_⟩
    have hr' : Reps X.mg H1 B xs.reverse vs.reverse [] := Reps.of_get (by simp [hr.length]) fun i x v e3 e4 => by
      have hi : i < xs.length := by
        have := (List.getElem?_eq_some_iff.mp e3).1
        simpa using this
      rw [List.getElem?_reverse hi] at e3
      rw [List.getElem?_reverse (by rw [← hr.length]; exact hi), ← hr.length] at e4
      obtain ⟨u, hu, r⟩ := hr.get e3
      rw [hu] at e4; cases e4
      exact r
    exact hp1 _ _ [q] bn' (same_new nq) (rep_newlst nq hr') (fresh1 nq) nodup1
end
end Ev
namespace Ev
open PySem PySem.Spec L2
open PyProof.Rows hiding St
/-! ### d.clear() -/
def rClrD : V → List V → Hp → VK → Prop := fun x vs H Q => ∃ a, x = .ref a ∧ vs = [] ∧ ((∃ kvs, H a = some (.dK kvs) ∧ Q .non (upd H a (.dK []))) ∨ ∃ kvs, H a = some (.dT kvs) ∧ Q .non (upd H a (.dT [])))
theorem mt_clrD {X : Cx} : MtR X "dict.clear" rClrD := by
  intro pins s σ H x vs v us Q I rx rv h
  obtain ⟨a, ex, ev, ⟨kvs, e, q⟩ | ⟨kvs, e, q⟩⟩ := h
  · exact mtd_clear pins s σ H x vs v us Q I rx rv ⟨a, kvs, ex, ev, e, q⟩
  · subst ex ev
    obtain rfl : v = Value.ref a := rx
    obtain rfl := rv.zero
    obtain ⟨z, ns, L, kt, o, es, ep, g, ed, dd, el, _, _⟩ := dt_rd I.hok (.inl e)
    have hl : es.size ≤ sizeLine := by
      have h1 := size_of_entries el
      have h2 := kt.length
      omega
    have raw : s.heap.DictRaw a es ep := ⟨o, g, ed, dd⟩
    refine call_meetsIn PySem.F.slot_dict_clear raw.typeIs PySem.F.entry_dict_clear (PySem.F.args_dict_clear_1 _) (PySem.meets_dict_clear_raw a) ⟨es, ep, raw, hl, fun h' raw' sb => ?_⟩
    obtain ⟨o', g', ed', dd'⟩ := raw'
    exact ⟨.non, _, d_write (t' := s.toks) I (by rw [e]; exact True.intro) sb ⟨_, g'⟩ (ob := .dT []) ⟨Nat.zero_le _, ns, [], .nil, o', _, _, g', ed', dd', by simp, List.nodup_nil⟩, rfl, q⟩
def dclrK : DKn := fun _ _ _ ds => match ds with
  | [] => some (.non, [], [])
  | _ => none
theorem hr_dclr {mg : Str → Option Value} : HrD mg rClrD dclrK := by
  intro H B a t ks vs us o xs ds ys d ks' Q hl dob ha rx rd hk q
  cases ds with
  | cons _ _ => cases hk
  | nil =>
    cases hk
    obtain rfl := reps_len0 rd
    refine ⟨a, rfl, rfl, ?_⟩
    cases t with
    | false =>
      obtain ⟨k', _, rfl⟩ := dob
      exact .inl ⟨_, ha, q .non [] (.dK []) rep_non Reps.nil rfl ⟨[], rfl, rfl⟩ fun _ z => HO.noConfusion z⟩
    | true =>
      obtain ⟨k', _, rfl⟩ := dob
      exact .inr ⟨_, ha, q .non [] (.dT []) rep_non Reps.nil rfl ⟨[], rfl, rfl⟩ fun _ z => HO.noConfusion z⟩
section
variable {X : Cx} {F : Fr} {W : WX} {pos p1 apos cpos : Pos} {i : Nat} {x name : Str} {id : String} {r : V → List V → Hp → VK → Prop} {k : DKn}
theorem ds_dmE0 (slot : Slot "dict" name id) (hty : typeOf (.builtin id) = pure (.type "method_descriptor")) (hm : MtR X id r) (hr : HrD X.mg r k) (hN : X.N[i]? = some x := by rfl) (hv : Vis X.env.scope x := by first | exact Or.inl rfl | exact Or.inr (Or.inl rfl) | exact Or.inr (Or.inr rfl)) (hd : (x == ("__debug__" : Str)) = false := by decide) (hcd : (x == ("__classdict__" : Str)) = false := by decide)
    (hbase : attributeBase (.Name x p1) name X.env (eval (.Name x p1) X.env) = eval (.Name x p1) X.env := by rfl) (hline : (apos.endLine == cpos.line) = true := by rfl) (hsw : swapsWith (.Call (.Attribute (.Name x p1) name apos) [] [] cpos) none pos.line X.env = pure false := by rfl) :
    DS X F W (.Expr (.Call (.Attribute (.Name x p1) name apos) [] [] cpos) pos) (dmE i k []) := by
  refine PS.mk (ps_expr (pe_bm0 PySem.F.plainAttrs_dict slot hty hm (pe_var hN hv hd hcd) hbase hline) hsw) fun D σ H bn ⟨ω, ρ, b, hp⟩ => ?_
  unfold dmE at hp
  split at hp
  · rename_i t ks xs ex
    split at hp
    · rename_i hx
      obtain ⟨a, vs, cs, h1, h2, h3, h4, h5⟩ := b.node rfl ex
      obtain rfl := Reps.purev hx h3
      have ha := h5 a List.mem_cons_self
      obtain ⟨hl, o, dob, ho⟩ := h2
      have hp0 : PostS X F W ω H (match k t ks xs [] with
        | some (d, ks', ys) => if pures ys = true then .nx (ρ.set i (some (.node (.dct true t ks') ys))) else .no
        | none => .no) D := hp
      refine ⟨.ref a, h1, tyV_dict dob ho, ?_⟩
      cases ek : k t ks xs [] with
      | none => rw [ek] at hp0; exact hp0.elim
      | some dy =>
        obtain ⟨d, ks', ys⟩ := dy
        rw [ek] at hp0
        have hp1 : PostS X F W ω H (if pures ys = true then .nx (ρ.set i (some (.node (.dct true t ks') ys))) else .no) D := hp0
        split at hp1
        · rename_i py
          refine hr H (Bx X ω []) a t ks vs [] o xs [] ys d ks' _ hl dob ho (Reps.step h3 (fun _ _ z _ => z) fun c _ h z => h (bx_sub z)) Reps.nil ek fun u ws o' rd ry hlw dob' nt' => ?_
          obtain ⟨ω', b2, s2⟩ := b.putn (t := .dct true t ks') (ys := ys) (ws := ws) (u := o') (cs := []) (ltN hN) h1 (Same.refl _) ha (fun _ z => nomatch z) (by simp) rfl ⟨hlw, o', dob', upd_same⟩ nt'
            (Reps.unsh (fun c hc zs z => by
              rcases hc with hc | hc
              · exact b.nt c hc zs z
              · cases hc) (pures_shr _ py) ry) fun _ z => nomatch z
          exact hp1 ω' σ _ b2 s2
        · exact hp1.elim
    · exact hp.elim
  · exact hp.elim
end
end Ev

/-! Ev, part Zg: dict(pairs), the keys tuples. -/
namespace Ev
open PySem PySem.Spec L2
open PyProof.Rows hiding St
def pairD : D → Option (List Key × D)
  | .node .tup [k, v] => match keyD k with
    | some (.inr q) => if v.pure = true then some (q, v) else none
    | _ => none
  | _ => none
def pairsD : List D → Option (List (List Key × D))
  | [] => some []
  | d :: ds => (pairD d).bind fun p => (pairsD ds).map (p :: ·)
def dictD : List D → Option D
  | [.node (.lst _) ds] => if ds.length < sizeLine then (pairsD ds).map fun l => let r := l.foldl (fun acc p => put acc p.1 p.2) []; .node (.dct true true (r.map fun p => Sum.inr p.1)) (r.map (·.2)) else none
  | _ => none
section
variable {mg : Str → Option Value} {H : Hp} {B : Addr → Prop}
/-- pairs of trees, pairs of values -/
abbrev PR (mg : Str → Option Value) (H : Hp) (B : Addr → Prop) : List (List Key × D) → List (List Key × V) → Prop := Paired fun p q => p.1 = q.1 ∧ Rep mg H B p.2 q.2 []
theorem pr_put {k : List Key} {d : D} {v : V} (r : Rep mg H B d v []) : ∀ {l : List (List Key × D)} {m : List (List Key × V)}, PR mg H B l m → PR mg H B (put l k d) (putK m k v) := fun {l m} h => by
  have e : (l.any fun p => decide (p.1 = k)) = m.any fun p => decide (p.1 = k) := by
    induction h with
    | nil => rfl
    | cons h1 _ ih => rw [List.any_cons, List.any_cons, ih, h1.1]
  unfold put putK
  rw [e]
  split
  · rename_i hcond
    clear hcond e
    induction h with
    | nil => exact .nil
    | @cons p q _ _ h1 _ ih =>
      rw [List.map_cons, List.map_cons]
      refine .cons ?_ ih
      by_cases z : p.1 = k
      · rw [if_pos z, if_pos (by rw [← h1.1]; exact z)]
        exact ⟨h1.1, r⟩
      · rw [if_neg z, if_neg (by rw [← h1.1]; exact z)]
        exact h1
  · have app : ∀ {l : List (List Key × D)} {m : List (List Key × V)}, PR mg H B l m → PR mg H B (l ++ [(k, d)]) (m ++ [(k, v)]) := fun {l m} h => by
      induction h with
      | nil => exact .cons ⟨rfl, r⟩ .nil
      | cons h1 _ ih => exact .cons h1 ih
    exact app h
theorem pr_reps : ∀ {l : List (List Key × D)} {m : List (List Key × V)}, PR mg H B l m → Reps mg H B (l.map (·.2)) (m.map (·.2)) [] ∧ l.map (·.1) = m.map (·.1)
  | _, _, .nil => ⟨Reps.nil, rfl⟩
  | _, _, .cons h t => ⟨Reps.cons (as := []) (bs := []) h.2 (pr_reps t).1, by rw [List.map_cons, List.map_cons, h.1, (pr_reps t).2]⟩
/-- what the pairs are on the heap -/
structure PAt (H : Hp) (d : D) (w : V) (k : List Key) (T b : Addr) (v : V) (x : D) (mg : Str → Option Value) (B : Addr → Prop) : Prop where
  ew : w = .ref T
  tu : H T = some (.tup [.ref b, v])
  kb : H b = some (.tup (k.map kV))
  rv : Rep mg H B x v []
theorem pairD_at {d : D} {w : V} {k : List Key} {x : D} (h : pairD d = some (k, x)) (r : Rep mg H B d w []) : x.pure = true ∧ ∃ T b v, PAt H d w k T b v x mg B := by
  unfold pairD at h
  split at h
  · rename_i kd vd
    split at h
    · rename_i q eq
      split at h
      · rename_i hp
        cases h
        obtain ⟨T, ws, rfl, hT, hr⟩ := r.tupE
        obtain ⟨u, v, rfl, ru, rv⟩ := reps2 hr
        obtain ⟨b, eu, hb⟩ : ∃ b, u = .ref b ∧ H b = some (.tup (k.map kV)) := key_rep eq ru
        subst eu
        exact ⟨hp, T, b, v, rfl, hT, hb, rv⟩
      · cases h
    · cases h
  · cases h
end
section
variable {X : Cx}
theorem cd_dict (hc : X.calm = true) (hu : X.A.units + 2 < cLine) : CallD X (.type "dict") dictD := by
  intro pins s σ H vs us Q I r h
  obtain ⟨xs, B, rx, bd, bn, d, e, q⟩ := h
  unfold dictD at e
  split at e
  · rename_i o ds
    split at e
    · rename_i hz
      obtain ⟨l, el, rfl⟩ := Option.map_eq_some_iff.mp e
      obtain ⟨v, rfl, r1⟩ := reps1 rx
      obtain ⟨a, ws, rfl, ha, hr, _⟩ := r1.lstE
      obtain ⟨u, rfl, ru⟩ := vals1 r
      obtain rfl : u = Value.ref a := ru
      -- the pairs, one by one
      have key : ∀ {ds : List D} {ws : List V} {its : List Value} {l : List (List Key × D)}, pairsD ds = some l → Reps X.mg H B ds ws [] → Vals ws its →
          ∃ (Ts : List Addr) (ps : List (List Key × Addr × Value)) (m : List (List Key × V)), its = Ts.map Value.ref ∧ ps.length = its.length ∧ Ts.length = its.length ∧ PR X.mg H B l m ∧
            (∀ (j : Nat) (p : List Key × Addr × Value), ps[j]? = some p → ∃ T, Ts[j]? = some T ∧ IsTup s.heap T #[.ref p.2.1, p.2.2] ∧ H p.2.1 = some (.tup (p.1.map kV))) ∧
            KT H m ps := by
        intro ds
        induction ds with
        | nil =>
          intro ws its l e1 e2 e3
          rw [Reps] at e2
          obtain ⟨rfl, _⟩ := e2
          cases e3
          cases e1
          exact ⟨[], [], [], rfl, rfl, rfl, .nil, (fun j p z => by simp at z), .nil⟩
        | cons d ds ih =>
          intro ws its l e1 e2 e3
          obtain ⟨⟨k, x⟩, ep, e1'⟩ := Option.bind_eq_some_iff.mp e1
          obtain ⟨l', el', rfl⟩ := Option.map_eq_some_iff.mp e1'
          rw [Reps] at e2
          obtain ⟨w, ws', a1, a2, rfl, ea, h1, h2⟩ := e2
          obtain ⟨rfl, rfl⟩ := List.append_eq_nil_iff.mp ea.symm
          cases e3 with
          | @cons _ uu _ its' ru' rr' =>
            obtain ⟨px, T, b, y, P⟩ := pairD_at ep h1
            obtain ⟨Ts, ps, m, q1, q2, q3, q4, q5, q6⟩ := ih el' h2 rr'
            have ew := P.ew
            subst ew
            obtain rfl : uu = Value.ref T := ru'
            obtain ⟨uy, ry, it⟩ : ∃ u, RelV y u ∧ IsTup s.heap T #[.ref b, u] := by
              obtain ⟨_, us, ruu, it⟩ := (show ObjOk X.prog X.w H s.heap T (.tup [.ref b, y]) from I.hok T _ P.tu)
              cases ruu with
              | @cons _ z1 _ _ h1 t => cases t with
                | @cons _ z _ _ hz t2 =>
                  cases t2
                  obtain rfl : z1 = Value.ref b := h1
                  exact ⟨z, hz, it⟩
            refine ⟨T :: Ts, (k, b, uy) :: ps, (k, y) :: m, by rw [q1]; rfl, by simp [q2], by simp [q3], .cons ⟨rfl, P.rv⟩ q4, fun j p z => ?_, .cons ⟨rfl, P.kb, ry⟩ q6⟩
            cases j with
            | zero => simp at z; subst z; exact ⟨T, rfl, it, P.kb⟩
            | succ j => exact q5 j p (by simpa using z)
      obtain ⟨_, its, n, rv, ga⟩ := (show ObjOk X.prog X.w H s.heap a (.lst ws) from Rd.ok ha I.hok)
      obtain ⟨Ts, ps, m, q1, q2, q3, q4, q5, q6⟩ := key el hr rv
      have lw := rv.length
      have ld := hr.length
      have hroom : (tupleKind (mixKind X.prog X.w)).room X.A.in1.in1 := show X.A.in1.in1.units < cLine from by
        have : X.A.in1.in1.units = X.A.units + 1 + 1 := rfl
        omega
      have pget : ∀ (j : Nat) (k v : Value), (ps.map fun p => (Value.ref p.2.1, p.2.2))[j]? = some (k, v) → ∃ p, ps[j]? = some p ∧ k = .ref p.2.1 ∧ v = p.2.2 := fun j k v z => by
        rw [List.getElem?_map] at z
        cases e : ps[j]? with
        | none => rw [e] at z; cases z
        | some p => rw [e] at z; cases z; exact ⟨p, rfl, rfl, rfl⟩
      have stay : KeysStay (tupleKind (mixKind X.prog X.w)) s.heap s.heap.objs.size [] ps := fun h' hk x hx => by
        obtain ⟨j, hj⟩ := List.getElem?_of_mem hx
        obtain ⟨T, _, _, hb⟩ := q5 j x hj
        obtain ⟨o', it', n', g1, g2, g3, g4⟩ := key_of (P := X.prog) (w := X.w) I.hok hb
        exact ⟨o', it', n', hk _ _ (Nat.ne_of_lt (Heap.lt_size g1)) (by simp) g1, g2, g3, g4⟩
      refine call_dict_pairsH (knd := tupleKind (mixKind X.prog X.w)) (ps := ps) (PairArg.list a its.toArray (fun j => Ts.getD j 0) (ps.map fun p => (Value.ref p.2.1, p.2.2))) (I.ok.hd hc) hroom
        ⟨⟨_, n, ga, rfl, rfl, rfl⟩, by simp [q2], fun j k v z => ?_⟩ ⟨by simp, fun j k v z => ?_⟩ stay (by simp; omega) fun h' tk hd hk => ?_
      · obtain ⟨p, e1, rfl, rfl⟩ := pget j k v z
        obtain ⟨T, e2, e3, _⟩ := q5 j p e1
        refine ⟨?_, .inl ?_⟩
        · rw [q1]
          simp [e2]
        · simp only [List.getD_eq_getElem?_getD, e2, Option.getD_some]
          obtain ⟨o', g1, g2, n', g3⟩ := e3
          exact ⟨o', g1, g2, n', g3⟩
      · obtain ⟨p, e1, rfl, rfl⟩ := pget j k v z
        exact ⟨p.1, p.2.1, e1, rfl⟩
      · have kf : ∀ {m : List (List Key × V)} {ps : List (List Key × Addr × Value)} {acc L}, KT H m ps → KT H acc L → KT H (m.foldl (fun acc p => putK acc p.1 p.2) acc) (storedAllH L ps) := by
          intro m ps acc L h1
          induction h1 generalizing acc L with
          | nil => exact fun z => z
          | @cons p q _ _ hpq _ ih =>
            intro h2
            obtain ⟨e1, e2, e3⟩ := hpq
            obtain ⟨k', b', u'⟩ := q
            have e1' : p.1 = k' := e1
            subst e1'
            exact ih (h2.put p.1 e2 e3)
        have pf : ∀ {l : List (List Key × D)} {m : List (List Key × V)} {acc acc'}, PR X.mg H B l m → PR X.mg H B acc acc' → PR X.mg H B (l.foldl (fun acc p => put acc p.1 p.2) acc) (m.foldl (fun acc p => putK acc p.1 p.2) acc') := by
          intro l m acc acc' h1
          induction h1 generalizing acc acc' with
          | nil => exact fun z => z
          | @cons p q _ _ hpq _ ih =>
            intro h2
            obtain ⟨k', v'⟩ := q
            obtain ⟨e1, e2⟩ := hpq
            have e1' : p.1 = k' := e1
            subst e1'
            exact ih (pr_put e2 h2)
        have lf : ∀ (m acc : List (List Key × V)), (m.foldl (fun acc p => putK acc p.1 p.2) acc).length ≤ acc.length + m.length := by
          intro m
          induction m with
          | nil => intro acc; simp
          | cons p m ih =>
            intro acc
            have h1 := ih (putK acc p.1 p.2)
            have h2 : (putK acc p.1 p.2).length ≤ acc.length + 1 := by
              unfold putK
              split <;> simp
            rw [List.foldl_cons, List.length_cons]
            omega
        have kt := kf q6 (acc := []) (L := []) .nil
        have pr := pf q4 (acc := []) (acc' := []) .nil
        have lm := lf m []
        have lk := q6.length
        generalize l.foldl (fun acc p => put acc p.1 p.2) [] = r at pr q
        generalize m.foldl (fun acc p => putK acc p.1 p.2) [] = kvs at kt pr lm
        obtain ⟨pr1, pr2⟩ := pr_reps pr
        have nH := I.hok.fresh (Nat.le_refl s.heap.objs.size)
        have kt' : KT (upd H s.heap.objs.size (.dT kvs)) kvs (storedAllH [] ps) := kt.keeps fun b ys z => by rw [upd_ne (ne_of_none z nH)]; exact z
        obtain ⟨o', es, ep, g1, g2, g3, g4, _, g5⟩ := hd
        have big := I.big
        refine ⟨.ref s.heap.objs.size, upd H s.heap.objs.size (.dT kvs), I.laid (t' := tk) (fun b o e => hk b o (by simp) e) (Nat.le_refl _) (show ObjOk X.prog X.w _ _ _ (.dT kvs) from ⟨?_, beq_eq_false_iff_ne.mpr (Nat.ne_of_gt big), _, kt', o', es, ep, g1, g2, g3, g4, g5⟩), rfl, q _ _ [s.heap.objs.size] (same_new nH) ?_ (fresh1 nH) nodup1⟩
        · simp at lm; omega
        · rw [Rep]
          refine ⟨s.heap.objs.size, kvs.map (·.2), [], rfl, ?_, pr1.same (same_new nH), .inl ⟨rfl, rfl⟩⟩
          refine ⟨?_, _, ⟨r.map (·.1), by rw [List.map_map]; rfl, ?_⟩, upd_same⟩
          · rw [List.length_map, List.length_map]
            have := congrArg List.length pr2
            simpa using this.symm
          · rw [pr2]
            have zz : ∀ l : List (List Key × V), (l.map (·.1)).zip (l.map (·.2)) = l := fun l => by induction l with
              | nil => rfl
              | cons p l ih => rw [List.map_cons, List.map_cons, List.zip_cons_cons, ih]
            rw [zz]
    · cases e
  · cases e
end
end Ev
namespace Ev
open PySem L2
theorem hu2 {k : Nat} {A : Around} (r : Room k A) : A.units + 2 < cLine := by have := r.un; omega
end Ev

/-! Ev, part Zh: a def f(x, d) that changes the dict d for its caller. -/
namespace Ev
open PySem PySem.Spec L2
open PyProof.Rows hiding St
/-- what f(x, d) keeps: d (pure values) stands at a, and is changed there alone -/
def spIO (mg : Str → Option Value) (N : Nat) (m : En → Out) : Sp := fun vs H Q _ => ∃ (x : D) (v : V) (a : Addr) (B : Addr → Prop) (t : Bool) (ks : List Ky) (ds : List D) (ws : List V),
  vs = [v, .ref a] ∧ pures ds = true ∧ Head mg H a ws (.io a t ks) ∧ Reps mg H B ds ws [] ∧ Rep mg H (fun c => B c ∨ c = a) x.frz v [] ∧ ¬ B a ∧ BDom B H ∧
  ∃ d ρ ks' ds', m (ent N [x.frz, .node (.io a t ks) ds]) = .rt d ρ ∧ ρ[1]? = some (some (.node (.io a t ks') ds')) ∧ pures ds' = true ∧
    ∀ v H' as ws', (∀ c o, c ≠ a → H c = some o → NTb o → H' c = some o) → TbK H H' → Head mg H' a ws' (.io a t ks') → Reps mg H' B ds' ws' [] → Rep mg H' (fun c => B c ∨ c = a) d v as → (∀ c ∈ as, H c = none) → as.Nodup → Q v H'
section
variable {P : Program} {w : World} {K : PySem.W.Frag} {mg : Str → Option Value} {base : Heap}
theorem Head.nt_io {H : Hp} {a : Addr} {ws : List V} {b : Addr} {t : Bool} {ks : List Ky} (h : Head mg H a ws (.io b t ks)) : ∃ o, H a = some o ∧ ∀ xs, o ≠ .tup xs := by
  obtain ⟨_, _, u, d, h⟩ := h
  exact ⟨u, h, d.nt⟩
theorem fn_of_bodyIO {x qual : Str} {st : Stmt} {f : Addr} {fd : FuncData} {N ps : List Str} {k : Nat} {m : En → Out} (F : Fun K x qual st f fd) (S : FnScope N ps (defScope st)) (hl : ps.length ≤ N.length) (h2 : ps.length = 2)
    (hbody : ∀ (X : Cx) (Fr : Fr) (cdv : Value) (A : Around) (outer : List PySem.Env) (s : Shared) (H : Hp) (E : XK), X = cxOf (L2.CX P w) P w K mg base N qual (defScope st) f cdv A outer s H E → Room k X.A →
      Takes X (fun c od _ H' => E c od H') → PassesOwn (model X.prog X.w) X.A X.env X.xe → DSs X Fr (fun c od _ H' => E c od H') (defBody st) m) :
    FnOk P w K mg base (L2.CX P w) (k + 1) f fd ps (spIO mg N.length m) := by
  refine F.okX S (fun vs H Q E ⟨x, v, a, B, t, ks, ds, ws, h1, _⟩ => by rw [h1, h2]; rfl) (fun cdv A outer s H vs Q E hr h => ?_)
  obtain ⟨x, v, a, B, t, ks, ds, ws, rfl, pd, hd, rd, rx, nB, bd, d, ρ, ks', ds', em, ej, pd', hq⟩ := h
  have hb := hbody (cxOf (L2.CX P w) P w K mg base N qual (defScope st) f cdv A outer s H E) ⟨H, B, fun c => c = a, fun _ => none⟩ cdv A outer s H E rfl hr (takes_of rfl rfl rfl rfl) (passes_of (K := fun e s' => L2.CX P w outer H s E e s') rfl)
  refine ⟨_, hb, ?_⟩
  have lN : 2 ≤ N.length := by omega
  have nta := hd.nt_io
  open Classical in
  refine ⟨fun c => if B c then some N.length else if c = a then some 1 else none, ent N.length [x.frz, .node (.io a t ks) ds], ⟨?_, ?_, fun b o e _ _ => e, .refl, bd.tab, fun c hc o ho => ?_, fun c i e hi o ho => ?_, fun b h => h, fun c hc => if_pos hc, fun c i e => ?_, fun c i e => ?_, fun i d' e => ?_, fun _ _ z => by cases z⟩, ?_⟩
  · show (ent N.length [x.frz, .node (.io a t ks) ds]).length = N.length
    unfold ent; simp; omega
  · show (L2.start N [v, .ref a]).length = N.length
    unfold L2.start; simp; omega
  · have hca : c = a := hc
    have ho' : H c = some o := ho
    obtain ⟨_, _, u, d, hu⟩ := hd
    rw [hca, hu] at ho'
    cases ho'
    exact Pl.dobj d
  · have e' : (if B c then some N.length else if c = a then some 1 else none) = some i := e
    split at e'
    · cases e'; exact absurd rfl hi
    · split at e'
      · rename_i hca
        have ho' : H c = some o := ho
        obtain ⟨_, _, u, d, hu⟩ := hd
        rw [hca, hu] at ho'
        cases ho'
        exact Pl.dobj d
      · cases e'
  · have e' : (if B c then some N.length else if c = a then some 1 else none) = some i := e
    split at e'
    · cases e'; exact .inl rfl
    · split at e'
      · exact .inr (.inr ‹_›)
      · cases e'
  · have e' : (if B c then some N.length else if c = a then some 1 else none) = some i := e
    split at e'
    · rename_i hB; exact bd c hB
    · split at e'
      · rename_i hc; rw [hc]; exact nta
      · cases e'
  · have hx := ent_get e
    have av : ∀ c, (fun c => (if B c then some N.length else if c = a then some 1 else none) ≠ (none : Option Nat)) c → B c ∨ c = a := fun c z => by
      by_cases hB : B c
      · exact .inl hB
      · by_cases hc : c = a
        · exact .inr hc
        · exact absurd (by simp [hB, hc]) z
    match i, hx with
    | 0, hx =>
      cases hx
      exact ⟨v, [], start_get rfl, rx.step (fun _ _ z _ => z) fun c _ h z => h (av c z), List.nodup_nil, fun _ z => nomatch z⟩
    | 1, hx =>
      cases hx
      refine ⟨.ref a, [a], start_get rfl, ?_, by simp, fun c hc => ?_⟩
      · rw [Rep]
        refine ⟨a, ws, [], rfl, hd, Reps.unsh (fun c hc xs z => ?_) (pures_shr _ pd) rd, .inl ⟨rfl, rfl⟩⟩
        rcases av c hc with hB | hc'
        · obtain ⟨o, ho, ht⟩ := bd c hB
          rw [ho] at z; exact ht xs (Option.some.inj z)
        · subst hc'
          obtain ⟨o, ho, ht⟩ := nta
          rw [ho] at z; exact ht xs (Option.some.inj z)
      · have : c = a := by simpa using hc
        subst this
        simp [nB]
    | n + 2, hx => simp at hx
  · have hm : m (ent N.length [x.frz, .node (.io a t ks) ds]) = .rt d ρ := em
    rw [show m (ent N.length [x.frz, .node (.io a t ks) ds]) = .rt d ρ from em]
    intro v' as ω' σ' H' b _ r n ha
    obtain ⟨v1, as1, g1, g2, g3, g4⟩ := b.env 1 _ ej
    rw [Rep] at g2
    obtain ⟨a1, ws1, bs1, rfl, hd1, rd1, q1⟩ := g2
    obtain ⟨rfl, _⟩ := id hd1
    have hbs := Reps.purev pd' rd1
    subst hbs
    have wa : ω' a1 ≠ none := by
      rcases q1 with ⟨_, q1⟩ | ⟨z, _⟩
      · rw [g4 a1 (by rw [q1]; exact List.mem_cons_self)]; simp
      · cases z
    have wB : ∀ c, B c ∨ c = a1 → ω' c ≠ none := fun c hc => by
      rcases hc with hc | hc
      · rw [b.out c hc]; simp
      · subst hc; exact wa
    refine hq v' H' as ws1 (fun c o hc ho n => b.same c o ho hc n) b.ts hd1 (Reps.step rd1 (fun _ _ z _ => z) fun c _ h z => h (wB c (.inl z))) (r.step (fun _ _ z _ => z) fun c _ h z => h (wB c z)) (fun c hc => (ha c hc).2) n
end
section
variable {X : Cx} {F : Fr} {W : WX} {e a b c : Expr} {es : List Expr} {fv fa fb fc : List Nat} {me ma mb mc : En → Res D} {ms : List (En → Res D)} {pos pos' p1 p2 apos apos2 cpos cpos2 : Pos} {i j : Nat} {x y name : Str} {id : String} {r : V → List V → Hp → VK → Prop} {k : DKn}
/-- d.m(..) as a statement, d the dict that is changed for the caller -/
def dmO (i : Nat) (k : DKn) (ms : List (En → Res D)) : En → Out := fun ρ => match ρ[i]? with
  | some (some (.node (.io a0 t ks) xs)) => if pures xs = true then thenE (seqs ms (frzE ρ)) ρ fun ds => match k t ks xs (frzs ds) with
      | some (d, ks', ys) => if pures ys = true then .nx (ρ.set i (some (.node (.io a0 t ks') ys))) else .no
      | none => .no
    else .no
  | _ => .no
theorem ds_dmO (slot : Slot "dict" name id) (hty : typeOf (.builtin id) = pure (.type "method_descriptor")) (hm : MtR X id r) (hr : HrD X.mg r k) (ha : DA X W (e :: es) fv (seqs ms)) (hN : X.N[i]? = some x := by rfl) (hv : Vis X.env.scope x := by first | exact Or.inl rfl | exact Or.inr (Or.inl rfl) | exact Or.inr (Or.inr rfl)) (hd : (x == ("__debug__" : Str)) = false := by decide) (hcd : (x == ("__classdict__" : Str)) = false := by decide)
    (hbase : attributeBase (.Name x p1) name X.env (eval (.Name x p1) X.env) = eval (.Name x p1) X.env := by rfl)
    (hfew : ((backTo cpos (starEach (e :: es) X.env)).all (fun x => !x.1) && (backToKw cpos (keywordEach [] X.env)).all (fun x => x.1.isSome) && decide ((e :: es).length + ([] : List Keyword).length + (if ([] : List Keyword).isEmpty then 0 else 1) < 30)) = true := by rfl)
    (hline : (apos.endLine == cpos.line) = true := by rfl) (hs : starEach (e :: es) X.env = (false, eval e X.env) :: starEach es X.env := by rfl) (hplain : (backTo cpos (starEach es X.env)).any (·.1) = false := by rfl) (hsw : swapsWith (.Call (.Attribute (.Name x p1) name apos) (e :: es) [] cpos) none pos.line X.env = pure false := by rfl) :
    DS X F W (.Expr (.Call (.Attribute (.Name x p1) name apos) (e :: es) [] cpos) pos) (dmO i k ms) := by
  refine PS.mk (ps_expr (pe_bm PySem.F.plainAttrs_dict slot hty hm (pe_var hN hv hd hcd) ha hbase hfew hline hs hplain) hsw) fun D σ H bn ⟨ω, ρ, b, hp⟩ => ?_
  unfold dmO at hp
  split at hp
  · rename_i a0 t ks xs ex
    split at hp
    · rename_i hx
      obtain ⟨a, vs, cs, h1, h2, h3, h4, h5⟩ := b.node rfl ex
      have hcs := Reps.purev hx h3
      subst hcs
      have ha := h5 a List.mem_cons_self
      obtain ⟨rfl, hl, o, dob, ho⟩ := h2
      refine ⟨.ref a, h1, tyV_dict dob ho, b.eval hp fun ds ed us H' as bn' s r' f n hp3 b' => ?_⟩
      rw [ed] at hp
      have hp0 : PostS X F W ω H (match k t ks xs (frzs ds) with
      | some (d, ks', ys) => if pures ys = true then .nx (ρ.set i (some (.node (.io a t ks') ys))) else .no
      | none => .no) D := hp
      cases ek : k t ks xs (frzs ds) with
      | none => rw [ek] at hp0; exact hp0.elim
      | some dy =>
        obtain ⟨d, ks', ys⟩ := dy
        rw [ek] at hp0
        have hp1 : PostS X F W ω H (if pures ys = true then .nx (ρ.set i (some (.node (.io a t ks') ys))) else .no) D := hp0
        split at hp1
        · rename_i py
          refine hr H' (Bx X ω fv) a t ks vs us o xs (frzs ds) ys d ks' _ hl dob (s _ _ ho) (Reps.step (h3.same s) (fun _ _ z _ => z) fun c _ h z => h (bx_sub z)) (r'.view (b.bdom fv) f) ek fun u ws o' rd ry hlw dob' nt' => ?_
          obtain ⟨ω', b2, s2⟩ := b'.putn (t := .io a t ks') (ys := ys) (ws := ws) (u := o') (cs := []) (ltN hN) h1 (Same.refl _) ha (fun _ z => nomatch z) (by simp) rfl ⟨rfl, hlw, o', dob', upd_same⟩ nt'
            (Reps.unsh (fun c hc zs z => by
              rcases hc with hc | hc
              · exact b'.nt c hc zs z
              · cases hc) (pures_shr _ py) ry) fun _ z => nomatch z
          exact hp1 ω' σ _ b2 ((Step.same s).trans s2)
        · exact hp1.elim
    · exact hp.elim
  · exact hp.elim
end
open Classical in
/-- what f(x, d) tells and leaves, wherever d stands -/
noncomputable def ioG (N : Nat) (m : En → Out) (x : D) (t : Bool) (ks : List Ky) (ds : List D) : Option (D × List Ky × List D) :=
  if h : ∃ r : D × List Ky × List D, pures r.2.2 = true ∧ ∀ a, ∃ ρ, m (ent N [x, .node (.io a t ks) ds]) = .rt r.1 ρ ∧ ρ[1]? = some (some (.node (.io a t r.2.1) r.2.2)) then some (Classical.choose h) else none
theorem ioG_spec {N : Nat} {m : En → Out} {x : D} {t : Bool} {ks : List Ky} {ds : List D} {r : D × List Ky × List D} (h : ioG N m x t ks ds = some r) : pures r.2.2 = true ∧ ∀ a, ∃ ρ, m (ent N [x, .node (.io a t ks) ds]) = .rt r.1 ρ ∧ ρ[1]? = some (some (.node (.io a t r.2.1) r.2.2)) := by
  unfold ioG at h
  split at h
  · rename_i hx
    cases h
    exact Classical.choose_spec hx
  · cases h
theorem ioG_of {N : Nat} {m : En → Out} {x d : D} {t : Bool} {ks ks' : List Ky} {ds ds' : List D} (hp : pures ds' = true) (h : ∀ a, ∃ ρ, m (ent N [x, .node (.io a t ks) ds]) = .rt d ρ ∧ ρ[1]? = some (some (.node (.io a t ks') ds'))) : ioG N m x t ks ds = some (d, ks', ds') := by
  have hx : ∃ r : D × List Ky × List D, pures r.2.2 = true ∧ ∀ a, ∃ ρ, m (ent N [x, .node (.io a t ks) ds]) = .rt r.1 ρ ∧ ρ[1]? = some (some (.node (.io a t r.2.1) r.2.2)) := ⟨(d, ks', ds'), hp, h⟩
  have e : ioG N m x t ks ds = some (Classical.choose hx) := by unfold ioG; rw [dif_pos hx]
  rw [e]
  obtain ⟨_, h2⟩ := Classical.choose_spec hx
  generalize Classical.choose hx = r at h2
  obtain ⟨ρ, e1, e2⟩ := h 0
  obtain ⟨ρ', e3, e4⟩ := h2 0
  rw [e1] at e3
  cases e3
  rw [e2] at e4
  have e5 := Option.some.inj (Option.some.inj e4)
  obtain ⟨a, b, c⟩ := r
  cases e5
  rfl
def mappIO (jf il : Nat) (g : D → Bool → List Ky → List D → Option (D × List Ky × List D)) (me : En → Res D) : En → Out := fun ρ => match ρ[jf]?, ρ[il]? with
  | some (some (.node (.lst true) ys)), some (some (.node (.dct true t ks) ds)) => if pures ds = true ∧ ys.length < sizeLine ∧ jf ≠ il then thenE (me (frzE ρ)) ρ fun x => if x.pure = true then (match g x t ks ds with
      | some (d, ks', ds') => if d.shr = false ∧ ds'.all flD = true then .nx ((ρ.set il (some (.node (.dct true t ks') ds'))).set jf (some (.node (.lst true) (ys ++ [d])))) else .no
      | none => .no) else .no
    else .no
  | _, _ => .no
theorem reps_fl {mg : Str → Option Value} {H H' : Hp} {B B' : Addr → Prop} : ∀ {xs : List D} {vs : List V} {as : List Addr}, xs.all flD = true → Reps mg H B xs vs as → Reps mg H' B' xs vs as
  | [], _, _, _, h => by rw [Reps] at h ⊢; exact h
  | x :: xs, vs, as, p, h => by
    rw [List.all_cons, Bool.and_eq_true] at p
    rw [Reps] at h ⊢
    obtain ⟨v, ws, a1, a2, e1, e2, h1, h2⟩ := h
    refine ⟨v, ws, a1, a2, e1, e2, ?_, reps_fl p.2 h2⟩
    cases x with
    | node _ _ => exact absurd p.1 (by simp [flD])
    | non => exact h1
    | bl _ => exact h1
    | int _ => exact h1
    | str _ => exact h1
section
variable {X : Cx} {F : Fr} {ω : Own} {ρ : En} {σ : St} {H H' : Hp}
/-- a new value goes to the end of the list that the slot i owns -/
theorem BI.appv (b : BI X F ω ρ σ H) {i : Nat} (hi : i < X.N.length) {xs : List D} {l : Addr} (ex : ρ[i]? = some (some (.node (.lst true) xs))) (hl : σ[i]? = some (some (.ref l))) (s : Same H H') {fv : List Nat} {d : D} {v : V} {as : List Addr}
    (r : Rep X.mg H' (Bx X ω fv) d v as) (f : ∀ a ∈ as, H a = none) (n : as.Nodup) (hd : d.shr = false) :
    ∃ vs, H l = some (.lst vs) ∧ xs.length = vs.length ∧ ∃ ω', BI X F ω' (ρ.set i (some (.node (.lst true) (xs ++ [d])))) σ (upd H' l (.lst (vs ++ [v]))) ∧ Step X ω H ω' (upd H' l (.lst (vs ++ [v]))) := by
  obtain ⟨ω', bs, b2, s2, rv, nb, fb, hb⟩ := b.into s r f n
  unfold intoE at b2
  unfold Ev.into at rv
  rw [if_neg (by rw [hd]; decide)] at b2 rv
  obtain ⟨a', vs, cs', g1, g2, g3, g4, g5⟩ := b2.lst ex
  rw [hl] at g1
  cases g1
  obtain ⟨hac, hnc⟩ := List.nodup_cons.mp g4
  have hcb : ∀ c ∈ cs', c ∉ bs := fun c hc hb => by
    obtain ⟨o, ho, _⟩ := b2.dom c i (g5 c (List.mem_cons_of_mem _ hc))
    rw [fb c hb] at ho
    cases ho
  have hcs : ∀ c ∈ cs' ++ bs, ω' c = some i ∨ H c = none := fun c hc => (List.mem_append.mp hc).imp (fun z => g5 c (List.mem_cons_of_mem _ z)) (fb c)
  have r2 := Reps.cons (rv (fun c => c ∈ cs' ++ bs) fun c hc => (List.mem_append.mp hc).imp (fun z => by rw [g5 c (List.mem_cons_of_mem _ z)]; intro q; cases q) id) Reps.nil
  rw [List.append_nil] at r2
  refine ⟨vs, g2, g3.length, ?_⟩
  obtain ⟨ω2, b3, s3⟩ := b2.putn (t := .lst true) (u := .lst (vs ++ [v])) hi hl s (g5 l List.mem_cons_self) hcs (List.nodup_cons.mpr ⟨fun z => (List.mem_append.mp z).elim hac (fun z => by rw [fb l z] at g2; cases g2), List.nodup_append.mpr ⟨hnc, nb, fun c hc c' hc' e => hcb c hc (by rw [e]; exact hc')⟩⟩) rfl upd_same (fun _ z => HO.noConfusion z)
    ((b2.old hcs s g3).append r2) (fun c hc => (List.mem_append.mp hc).elim (fun z => by
      obtain ⟨o, ho, t⟩ := b2.dom c i (g5 c (List.mem_cons_of_mem _ z))
      exact s.nt ho t) (hb c))
  exact ⟨ω2, b3, s2.trans s3⟩
end
section
variable {X : Cx} {F : Fr} {W : WX} {e : Expr} {fv : List Nat} {me : En → Res D} {pos p1 p2 p3 apos cpos cpos2 : Pos} {jf il N k : Nat} {x y fn : Str} {fA : Addr} {fd : FuncData} {ps : List Str} {m : En → Out}
theorem ds_appIO (Fk : FnOk X.prog X.w X.K X.mg X.base (L2.CX X.prog X.w) k fA fd ps (spIO X.mg N m)) (hr : Room k X.A) (hm : X.mg fn = some (.ref fA)) (hk : PySem.W.keepIn X.K (.ref fA) = true) (hb : Binds X.K fd ps []) (tk : Takes X W)
    (he : DE X W e fv me) (hi : X.N[jf]? = some x := by rfl) (hv : Vis X.env.scope x := by first | exact Or.inl rfl | exact Or.inr (Or.inl rfl) | exact Or.inr (Or.inr rfl)) (hd : (x == ("__debug__" : Str)) = false := by decide) (hcd : (x == ("__classdict__" : Str)) = false := by decide)
    (hi2 : X.N[il]? = some y := by rfl) (hv2 : Vis X.env.scope y := by first | exact Or.inl rfl | exact Or.inr (Or.inl rfl) | exact Or.inr (Or.inr rfl)) (hd2 : (y == ("__debug__" : Str)) = false := by decide) (hcd2 : (y == ("__classdict__" : Str)) = false := by decide)
    (hg : Gl X fn := by rfl) (hdb : (fn == ("__debug__" : Str)) = false := by decide)
    (h1 : starEach [e, .Name y p3] X.env = (false, eval e X.env) :: starEach [.Name y p3] X.env := by rfl) (h1b : starEach [.Name y p3] X.env = (false, eval (.Name y p3) X.env) :: starEach [] X.env := by rfl) (hpl1 : (backTo cpos2 (starEach [.Name y p3] X.env)).any (·.1) = false := by rfl)
    (hs0 : starEach [.Call (.Name fn p2) [e, .Name y p3] [] cpos2] X.env = (false, eval (.Call (.Name fn p2) [e, .Name y p3] [] cpos2) X.env) :: starEach [] X.env := by rfl) (hbase : attributeBase (.Name x p1) "append" X.env (eval (.Name x p1) X.env) = eval (.Name x p1) X.env := by rfl)
    (hfew : ((backTo cpos (starEach [.Call (.Name fn p2) [e, .Name y p3] [] cpos2] X.env)).all (fun x => !x.1) && (backToKw cpos (keywordEach [] X.env)).all (fun x => x.1.isSome) && decide ([Expr.Call (.Name fn p2) [e, .Name y p3] [] cpos2].length + ([] : List Keyword).length + (if ([] : List Keyword).isEmpty then 0 else 1) < 30)) = true := by rfl)
    (hline : (apos.endLine == cpos.line) = true := by rfl) (hplain : (backTo cpos (starEach [] X.env)).any (·.1) = false := by rfl) (hsw : swapsWith (.Call (.Attribute (.Name x p1) "append" apos) [.Call (.Name fn p2) [e, .Name y p3] [] cpos2] [] cpos) none pos.line X.env = pure false := by rfl) :
    DS X F W (.Expr (.Call (.Attribute (.Name x p1) "append" apos) [.Call (.Name fn p2) [e, .Name y p3] [] cpos2] [] cpos) pos) (mappIO jf il (ioG N m) me) := by
  refine PS.mk (ps_expr (pe_bm PySem.F.plainAttrs_list PySem.F.slot_list_append PySem.F.type_list_append mt_append (pe_var hi hv hd hcd)
    (pa_cons (pe_callSD (E := fun σ c od H' => W c od σ H') Fk hr hg hm hk hb .nil (fun σ => passAt tk σ) (pa_cons he (pa_cons (pe_var hi2 hv2 hd2 hcd2) pa_nil h1b) h1) hdb h1 hpl1) pa_nil hs0) hbase hfew hline hs0 hplain) hsw) fun Dn σ H bn ⟨ω, ρ, b, hp⟩ => ?_
  unfold mappIO at hp
  split at hp
  · rename_i ys t ks ds ex ey
    split at hp
    · rename_i hc
      obtain ⟨pd, hly, hne⟩ := hc
      obtain ⟨l, vs, cs, l1, l2, l3, l4, l5⟩ := b.lst ex
      obtain ⟨a, ws, cs2, a1, a2, a3, a4, a5⟩ := b.node rfl ey
      obtain rfl := Reps.purev pd a3
      have wa := a5 a List.mem_cons_self
      refine ⟨.ref l, l1, tyV_list l2, b.eval hp fun xd ed v H1 as bn1 s1 r1 f1 n1 hp1 b1 => ⟨.ref a, a1, ?_⟩⟩
      split at hp1
      · rename_i px
        cases eg : ioG N m xd t ks ds with
        | none => rw [eg] at hp1; exact hp1.elim
        | some rr =>
          obtain ⟨d, ks', ds'⟩ := rr
          rw [eg] at hp1
          have hp2 : PostS X F W ω H1 (if d.shr = false ∧ ds'.all flD = true then .nx ((ρ.set il (some (.node (.dct true t ks') ds'))).set jf (some (.node (.lst true) (ys ++ [d])))) else .no) Dn := hp1
          split at hp2
          · rename_i hsd
            obtain ⟨hsd, hfl⟩ := hsd
            obtain ⟨pd', hm'⟩ := ioG_spec eg
            obtain ⟨ρc, em, ej⟩ := hm' a
            have fx : xd.frz = xd := D.pure_frz _ px
            have has : as = [] := Rep.purev px r1
            subst has
            have nl : l ≠ a := fun z => by
              have h1 := l5 l List.mem_cons_self
              rw [z, wa] at h1
              exact hne (Option.some.inj h1).symm
            have hda : Head X.mg H1 a ws (.io a t ks) := by
              obtain ⟨q1, u, q2, q3⟩ := a2
              exact ⟨rfl, q1, u, q2, s1 _ _ q3⟩
            have bda : BDom (fun c => ω c ≠ none) H1 := ⟨fun c hc => by
              cases ew : ω c with
              | none => exact absurd ew hc
              | some i => exact b1.dom c i ew, b1.tab⟩
            have eqB : ∀ c, ((ω c ≠ none ∧ c ≠ a) ∨ c = a) ↔ ω c ≠ none := fun c => ⟨fun z => z.elim (fun q => q.1) (fun q => by rw [q, wa]; simp), fun z => by
              by_cases hc : c = a
              · exact .inr hc
              · exact .inl ⟨z, hc⟩⟩
            refine ⟨xd, v, a, fun c => ω c ≠ none ∧ c ≠ a, t, ks, ds, ws, rfl, pd, hda, Reps.step (a3.same s1) (fun _ _ z _ => z) fun c _ h z => h z.1, ?_, fun z => z.2 rfl, ⟨fun c hc => bda.dom c hc.1, bda.tab⟩,
              d, ρc, ks', ds', by rw [fx]; exact em, ej, pd', fun u H2 as2 ws2 ke tk hd2 rd2 ru fu nu => ?_⟩
            · rw [fx]
              exact r1.unsh (fun c hc xs z => by
                obtain ⟨o, ho, ht⟩ := bda c ((eqB c).mp hc)
                rw [ho] at z; exact ht xs (Option.some.inj z)) (D.pure_shr _ px)
            · obtain ⟨_, q1, u2, q2, q3⟩ := hd2
              -- the dict, as it is left, alone
              have eHa : upd H2 a u2 = H2 := upd_id q3
              have hT : TbK (upd H1 a u2) H2 := by
                obtain ⟨_, _, uo, _, huo⟩ := id hda
                have e1 : upd (upd H1 a u2) a uo = H1 := by rw [upd_upd]; exact upd_id huo
                have := tbk_upd (H := upd H1 a u2) (a := a) (w := uo) upd_same (Pl.dobj q2)
                rw [e1] at this
                exact this.trans tk
              have sm : Same (upd H1 a u2) H2 := ⟨fun c o hc n => by
                by_cases hca : c = a
                · subst hca; rw [upd_same] at hc; cases hc; exact q3
                · rw [upd_ne hca] at hc; exact ke c o hca hc n, hT.tb, hT.tt⟩
              have nt2 : ∀ xs, u2 ≠ .tup xs := q2.nt
              obtain ⟨ω2, b2, st2⟩ := b1.putn (t := .dct true t ks') (ys := ds') (ws := ws2) (u := u2) (cs := []) (ltN hi2) a1 (Same.refl _) wa (fun _ z => nomatch z) (by simp) rfl ⟨q1, u2, q2, upd_same⟩ nt2 (reps_fl hfl rd2) (fun _ z => nomatch z)
              have fu2 : ∀ c ∈ as2, upd H1 a u2 c = none := fun c hc => by
                have h0 := fu c hc
                rw [upd_ne]
                · exact h0
                · intro z
                  obtain ⟨_, _, o, _, ho⟩ := hda
                  rw [z, ho] at h0; cases h0
              have ru2 : Rep X.mg H2 (Bx X ω2 []) d u as2 := ru.step (fun _ _ z _ => z) fun c _ h ⟨i, z, _⟩ => by
                have w0 : ω c = none := Classical.byContradiction fun q => h ((eqB c).mpr q)
                have w2 : ω2 c = none := by
                  by_cases hc : H1 c = none
                  · refine b2.noO ?_
                    rw [upd_ne]
                    · exact hc
                    · intro q; rw [q, wa] at w0; cases w0
                  · exact st2.nn c hc w0
                rw [w2] at z; cases z
              have ex2 : (ρ.set il (some (.node (.dct true t ks') ds')))[jf]? = some (some (.node (.lst true) ys)) := by
                rw [List.getElem?_set_ne (Ne.symm hne)]; exact ex
              obtain ⟨vs3, v1, v2, ω3, b3, st3⟩ := b2.appv (ltN hi) ex2 l1 sm ru2 fu2 nu hsd
              exact ⟨l, vs3, u, rfl, rfl, sm _ _ v1, by rw [← v2]; exact hly, hp2 ω3 σ _ b3 (st2.trans st3)⟩
          · exact hp2.elim
      · exact hp1.elim
    · exact hp.elim
  · exact hp.elim
end
end Ev

/-! Ev, part Zi: {k: v} of one pair, the key a tuple. -/
namespace Ev
open PySem PySem.Spec L2
open PyProof.Rows hiding St
def tDisp1 (tk tv : TE) : TE := fun σ H Q => ∀ p, H p = none → tk σ (upd H p (.dT [])) fun x H1 => tv σ H1 fun y H2 => H2 p = some (.dT []) ∧ ∃ (ks : List Key) (b : Addr), x = .ref b ∧ H2 b = some (.tup (ks.map kV)) ∧ Q (.ref p) (upd H2 p (.dT [(ks, y)]))
theorem pe_disp1 {X : Cx} {pos : Pos} {k v : Expr} {tk tv : TE} (hu : X.A.units + 1 < cLine) (hk : PE X k tk) (hv : PE X v tv) : PE X (.Dict [some k] [v] pos) (tDisp1 tk tv) := by
  refine ⟨fun pins s σ H Q I q => ?_⟩
  have hn := I.hok.fresh (Nat.le_refl s.heap.objs.size)
  have I1 := I.laid (a := s.heap.objs.size) (o := .dT []) (h' := s.heap.push { cls := .type "dict", data := .dict #[] }) (t' := s.toks) (fun _ _ q => Heap.get?_push_of_some _ q) (Nat.le_refl _) (dt_empty s.heap I.big)
  have hroom : (tupleKind (mixKind X.prog X.w)).room X.A := show X.A.units < cLine by omega
  have hsh := zip_pairTrees [some k] [v] X.env pos rfl rfl
  rw [arm_eval_Dict, hsh, dictDisplay_pairs (pairTrees [some k] [v] X.env pos) (by intro z; cases z) (show 1 < 17 by decide)]
  refine wpAny_bind (wpAny_standAt (wpAny_bind (wpAny_subDictH (knd := tupleKind (mixKind X.prog X.w)) (Q := fun d s' => wpAny (model X.prog X.w) X.A (pure (Value.ref d)) _ _ s') hroom (show 1 ≤ 15 by decide) ?_)))
  refine pairTrees_cons_walk (thn (hk.run pins _ σ _ _ I1 (q _ hn)) fun u s1 ⟨x, H1, I2, rx, q1⟩ => thn (hv.run pins s1 σ H1 _ I2 q1) fun w2 s2 ⟨y, H2, I3, ry, e, ks, b, ex, hb, q2⟩ => pairTrees_nil_walk ?_)
  subst ex
  obtain rfl : u = Value.ref b := rx
  obtain ⟨z, hd, xs, kt, dd⟩ := L2.dt_of I3.hok e
  cases kt
  refine ⟨[(ks, b, w2)], ⟨rfl, rfl, key_of I3.hok hb, trivial⟩, dd, fun h' tk' dd' hs => wpAny_pure ⟨.ref s.heap.objs.size, _, ?_, rfl, q2⟩⟩
  obtain ⟨o', es, ep, hq, h2, h3, h4, _, h5⟩ := dd'
  have kt : KT H2 [(ks, y)] [(ks, b, w2)] := .cons ⟨rfl, hb, ry⟩ .nil
  refine d_write I3 (by rw [e]; exact True.intro) hs ⟨o', hq⟩ ⟨by rw [sizeLine_eq]; show 1 ≤ _; decide, hd, _, kt.keeps fun c ys ec => ?_, o', es, ep, hq, h2, h3, h4, h5⟩
  rw [upd_ne (ne_of ec e (fun z => nomatch z))]
  exact ec
def mdispT (mk mv : En → Res D) : En → Res D := fun ρ => (mk ρ).bind fun k => (mv ρ).bind fun v => match keyD k.frz with
  | some (.inr q) => .ok (.node (.dct true true [.inr q]) [v.frz])
  | _ => .no
section
variable {X : Cx} {W : WX} {e a b c : Expr} {fa fb : List Nat} {ma mb : En → Res D} {pos : Pos}
theorem de_dispT (hu : X.A.units + 1 < cLine) (ha : DE X W a fa ma) (hb : DE X W b fb mb) : DE X W (.Dict [some a] [b] pos) (fa ++ fb) (mdispT ma mb) := by
  refine PE.mk (pe_disp1 hu ha hb) fun σ H Q bn ⟨ρ, B, en, bd, hp⟩ p np => ?_
  have sp := same_new (o := .dT []) np
  have hp0 : Post (Rep X.mg) W X.mg B σ H ((ma ρ).bind fun k => (mb ρ).bind fun v => match keyD k.frz with | some (.inr q) => .ok (.node (.dct true true [.inr q]) [v.frz]) | _ => .no) Q := hp
  have en' : EnOn X.mg (fa ++ fb) ρ σ (upd H p (.dT [])) (fun a => B a ∨ a = p) := fun i hi d hd => by
    obtain ⟨v, h1, h2⟩ := en i hi d hd
    exact ⟨v, h1, h2.stepN (fun a o e n _ => sp.kp a o e n) fun a h3 h4 z => z.elim h4 fun z => h3 (by rw [z]; exact np)⟩
  have bd0 : BDom (fun a => B a ∨ a = p) (upd H p (.dT [])) := (bd.same sp).of fun a z => z.elim (bd.same sp a) fun z => ⟨.dT [], (congrArg _ z).trans upd_same, fun _ z => HO.noConfusion z⟩
  refine Tv.bind en'.l bd0 ((hp0.same sp).more fun a z => .inl z) fun x ex xv H1 as bn1 s1 r1 f1 n1 hp1 => ?_
  refine Tv.bind (en'.r.same s1) (bd0.same s1) hp1 fun y ey yv H2 bs bn2 s2 r2 f2 n2 hp2 => ?_
  split at hp2
  · rename_i q ek
    obtain ⟨b, rfl, hb⟩ : ∃ b, xv = .ref b ∧ H1 b = some (.tup (q.map kV)) := key_rep ek (r1.view bd0 f1)
    refine ⟨s2 _ _ (s1 _ _ upd_same), q, b, rfl, s2 _ _ hb, fun bn => ?_⟩
    have s3 : Same H (upd H2 p (.dT [(q, yv)])) := ((sp.trans s1).trans s2).put np (s2 _ _ (s1 _ _ upd_same))
    rw [ex, Res.bind_ok, ey, Res.bind_ok, ek] at hp0
    refine hp0 _ _ [p] bn s3 ?_ (fresh1 np) nodup1
    have ry := r2.view (bd0.same s1) f2
    rw [Rep]
    refine ⟨p, [yv], [], rfl, ⟨rfl, .dT [(q, yv)], ⟨[q], rfl, rfl⟩, upd_same⟩, ?_, .inl ⟨rfl, rfl⟩⟩
    refine Reps.cons (as := []) (bs := []) (Rep.step ry (fun a o e h => ?_) fun _ _ z q => z (.inl q)) Reps.nil
    rcases h with h | h
    · cases h
    · rw [upd_ne]
      · exact e
      · rintro rfl
        exact h (.inr rfl)
  · exact hp2.elim
end
/-! ### l.index(k), the items whole numbers -/
def lindexD : D → List D → Option D
  | .node (.lst _) xs, [.int k] => (maxI xs).bind fun ns => (ns.findIdx? fun z => z == k).map fun (j : Nat) => D.int (j : Int)
  | _, _ => none
theorem tyV_lstD {K : PySem.W.Frag} {mg : Str → Option Value} {H : Hp} {B : Addr → Prop} {y : D} {v : V} (h : y.ty = "list") (r : Rep mg H B y v []) : tyV K "list" v H := by
  cases y with
  | str z => exact absurd h (by simp [D.ty])
  | non => exact absurd h (by simp [D.ty])
  | bl _ => exact absurd h (by simp [D.ty])
  | int _ => exact absurd h (by simp [D.ty])
  | node t xs =>
    cases t with
    | lst o =>
      obtain ⟨a, ws, rfl, ha, hr, _⟩ := r.lstE
      exact .inl ⟨rfl, ws, .inl ha⟩
    | _ => exact absurd h (by simp [D.ty])
section
variable {X : Cx} {W : WX} {e : Expr} {es : List Expr} {fa fo : List Nat} {ms : List (En → Res D)} {o : Expr} {mo : En → Res D} {apos cpos : Pos}
theorem md_lindex : MtR X "list.index" (rMeth X.mg lindexD) := by
  intro pins s σ H x xs v us Q I rv rs ⟨d, ds, B, r1, r2, bd, bn, q⟩
  obtain ⟨z, e, q⟩ := q
  unfold lindexD at e
  split at e
  · rename_i o ys k
    obtain ⟨ns, en, e⟩ := Option.bind_eq_some_iff.mp e
    obtain ⟨j, ej, rfl⟩ := Option.map_eq_some_iff.mp e
    obtain ⟨w, rfl, r3⟩ := reps1 r2
    obtain ⟨rfl, _⟩ := r3
    obtain ⟨a, ws, rfl, ha, hr, _⟩ := r1.lstE
    have ew := maxI_rep en hr
    subst ew
    obtain ⟨hj, e1, e2⟩ := List.findIdx?_eq_some_iff_getElem.mp ej
    refine mt_index pins s σ H _ _ _ _ _ I rv rs ⟨a, ns.map V.int, .int k, j, .int ns[j], rfl, rfl, .inl ha, rfl, ?_, ?_, ?_, ?_, q _ _ [] (Same.refl _) rep_int fresh0 List.nodup_nil⟩
    · rw [List.all_eq_true]
      intro x hx
      obtain ⟨n, _, rfl⟩ := List.mem_map.mp hx
      rfl
    · rw [List.getElem?_map, List.getElem?_eq_getElem hj]; rfl
    · exact e1
    · intro m z' hm hz
      rw [List.getElem?_map, List.getElem?_eq_getElem (by omega)] at hz
      cases hz
      have := e2 m hm
      show (ns[m] == k) = false
      exact beq_eq_false_iff_ne.mpr (by simpa using this)
  · cases e
theorem de_lindex (ho : DE X W o fo mo) (ha : DA X W [e] fa (seqs ms)) (hbase : attributeBase o "index" X.env (eval o X.env) = eval o X.env := by rfl)
    (hfew : ((backTo cpos (starEach [e] X.env)).all (fun x => !x.1) && (backToKw cpos (keywordEach [] X.env)).all (fun x => x.1.isSome) && decide ([e].length + ([] : List Keyword).length + (if ([] : List Keyword).isEmpty then 0 else 1) < 30)) = true := by rfl)
    (hline : (apos.endLine == cpos.line) = true := by rfl) (hs : starEach [e] X.env = (false, eval e X.env) :: starEach [] X.env := by rfl) (hplain : (backTo cpos (starEach [] X.env)).any (·.1) = false := by rfl) : DE X W (.Call (.Attribute o "index" apos) [e] [] cpos) (fo ++ fa) (mmeth "list" lindexD mo ms) := by
  refine PE.mk (pe_bm PySem.F.plainAttrs_list PySem.F.slot_list_index PySem.F.type_list_index md_lindex ho ha hbase hfew hline hs hplain) fun σ H Q bn ⟨ρ, B, en, bd, hp⟩ => ?_
  refine Tv.bind en.l bd hp fun x _ v H1 as bn1 s1 r1 f1 n1 hp1 => ?_
  split at hp1
  · rename_i ht
    refine ⟨tyV_lstD ht (r1.view bd f1), Tv.bind (en.r.same s1) (bd.same s1) hp1 fun xs exs vs H2 bs bn2 s2 r2 f2 n2 hp2 => ?_⟩
    exact ⟨x.frz, frzs xs, B, (r1.view bd f1).same s2, r2.view (bd.same s1) f2, (bd.same s1).same s2, bn2, out_of hp2⟩
  · exact hp1.elim
end
end Ev

/-! Ev, part Pa: min(xs, key=f), the keys data without lists; over the heap alone. -/
namespace MinK
open PySem PySem.W PySem.SeqAt PyProof.Rows
/-- min's own loop over the iterator at I, the best so far in the list at S -/
abbrev lp (I q S : Addr) : Code := .builtin "min.loop" ⟨[.ref I, .ref q, .ref S], []⟩
theorem lp_name : (toString "min" ++ toString ".loop" : String) = "min.loop" := by decide
abbrev itO (l : Addr) : Obj := { cls := .type "list_iterator", data := .fields #[.ref l, .int 0 0] }
abbrev at_ (s : Shared) (h : Heap) (tk : Nat) : Shared := { s with heap := h, toks := tk }
section
variable {prog : Program} {w : World} {A : Around} {E : Value → Shared → Prop} {s : Shared} {l I S : Addr} {q : Addr} {vs : List Value} {kz : List PyData} {R : Result → Shared → Prop} {Q : Value → Shared → Prop}
mutual
/-- data without lists stay, where no tuple changes -/
theorem readsNT {h h' : Heap} {a : Addr} (k : ∀ b o, b ≠ a → h.get? b = some o → h'.get? b = some o) (ha : ∀ o, h.get? a = some o → o.cls ≠ .type "tuple") : ∀ (d : PyData) (v : Value) (as : List Addr), as = [] → Reads h v d as → Reads h' v d as
  | .none, _, _, _, r => by cases r; exact .none
  | .bool _, _, _, _, r => by cases r; exact .bool _
  | .int _, _, _, _, r => by cases r; exact .int _ _
  | .str _, _, _, _, r => by cases r; exact .str _ _
  | .list xs, _, _, e, r => by cases r; cases e
  | .tuple xs, _, _, e, r => by
    cases r with
    | tuple h1 h2 h3 h4 => exact .tuple (k _ _ (fun z => ha _ (z ▸ h1) h2) h1) h2 h3 (readsAllNT k ha xs _ _ e h4)
  | .dict _, _, _, e, r => by cases r; cases e
theorem readsAllNT {h h' : Heap} {a : Addr} (k : ∀ b o, b ≠ a → h.get? b = some o → h'.get? b = some o) (ha : ∀ o, h.get? a = some o → o.cls ≠ .type "tuple") : ∀ (ds : List PyData) (vs : List Value) (as : List Addr), as = [] → ReadsAll h vs ds as → ReadsAll h' vs ds as
  | [], _, _, _, r => by cases r; exact .nil
  | d :: ds, _, _, e, r => by
    cases r with
    | cons h1 h2 =>
      obtain ⟨e1, e2⟩ := List.append_eq_nil_iff.mp e
      exact .cons (readsNT k ha d _ _ e1 h1) (readsAllNT k ha ds _ _ e2 h2)
end
def btK (kz : List PyData) (i j : Nat) : Bool := dataLt (kz.getD i .none) (kz.getD j .none)
theorem loopK (hh : A.handled = none) (h₀ : Heap) (hl : ∀ h : Heap, (∀ b o, h₀.get? b = some o → h.get? b = some o) → h.IsList l vs.toArray) (hlI : l ≠ I) (hSI : S ≠ I) (nS : h₀.get? S = none) (nI : h₀.get? I = none) (hlen : kz.length = vs.length)
    (hal : ∀ x ∈ kz, ∀ y ∈ kz, alike x y = true) (hnn : ∀ x ∈ kz, x ≠ .none) (hu : ∀ x ∈ kz, A.in1.units + x.depth < cLine)
    (turn : ∀ (i : Nat) (v : Value) (k : PyData), vs[i]? = some v → kz[i]? = some k → ∀ (h : Heap) (tk : Nat), (∀ b o, h₀.get? b = some o → h.get? b = some o) →
      wpAny (model prog w) A.in1 (call (.ref q) [v]) (KeyPure k { s with heap := h, toks := tk }) (fun _ _ => False) { s with heap := h, toks := tk })
    (hR : ∀ v h' tk', vs[argBest (btK kz) (vs.length - 1)]? = some v → (∀ b o, h₀.get? b = some o → h'.get? b = some o) → R (.ok (.ret v)) { s with heap := h', toks := tk' }) :
    ∀ (r j : Nat) (h : Heap) (tk : Nat) (vb kb : Value) (c : Nat), vs.length - (j + 1) = r → j + 1 ≤ vs.length → (∀ b o, h₀.get? b = some o → h.get? b = some o) → h.get? S = some (seqObj "list" #[vb, kb] c) → h.IsListIter I l (j + 1) →
      vs[argBest (btK kz) j]? = some vb → Reads h kb (kz.getD (argBest (btK kz) j) .none) [] → argBest (btK kz) j ≤ j →
      codeAny (model prog w) A (lp I q S) R (at_ s h tk) := by
  have W := Walks.list (prog := prog) (w := w) (A := A.in1) hh I l hlI (Array.mk vs)
  have sz : vs.toArray.size = vs.length := by simp
  have notS : ∀ {b : Addr} {o : Obj}, h₀.get? b = some o → b ≠ S := fun e z => by rw [z, nS] at e; cases e
  have notI : ∀ {b : Addr} {o : Obj}, h₀.get? b = some o → b ∉ [I] := fun e z => by rw [List.mem_singleton.mp z, nI] at e; cases e
  intro r
  induction r with
  | zero =>
    intro j h tk vb kb c hr hj K hS hit hvb rb hb
    have last : vs.length = j + 1 := by omega
    refine codeAny_builtin PySem.F.entry_min_loop ?_; rw [Around.under_plainId PySem.F.plain_min_loop _]
    change wpAny _ _ (seqItems? _ >>= _) _ _ _; refine wpAny_bind (wpAny_seqItems hS rfl ?_)
    change wpAny _ _ (tryCatch (pyNext _) _ >>= _) _ _ _
    refine wpAny_bind (wpAny_tryCatch (W.done _ _ _ ⟨by rw [sz, last]; exact hit, hl h K⟩ fun h' tk' hk' => ?_))
    have hS' := hk' S _ (by simpa using hSI) hS
    have s1 := Heap.SameBut.update h' S (Obj.mapSeq fun _ => #[])
    change wpAny _ _ (updateSeq S (fun _ => #[]) >>= _) _ _ _
    refine wpAny_bind (wpAny_updateSeq hS' rfl (wpAny_bind (wpAny_letGo (wpAny_pure ?_))))
    refine hR vb _ _ (by rw [last]; exact hvb) fun b o e => (s1.2 b (notS e)).trans (hk' b o (notI e) (K b o e))
  | succ r ih =>
    intro j h tk vb kb c hr hj K hS hit hvb rb hb
    have more : j + 1 < vs.length := by omega
    refine codeAny_builtin PySem.F.entry_min_loop ?_; rw [Around.under_plainId PySem.F.plain_min_loop _]
    change wpAny _ _ (seqItems? _ >>= _) _ _ _; refine wpAny_bind (wpAny_seqItems hS rfl ?_)
    change wpAny _ _ (tryCatch (pyNext _) _ >>= _) _ _ _
    refine wpAny_bind (wpAny_tryCatch (W.item (j + 1) _ _ _ (by rw [sz]; exact more) ⟨hit, hl h K⟩ fun v h' tk' hP hst' hk' => ?_))
    have ev : vs[j + 1]? = some v := by simpa using hP
    obtain ⟨k, hkj⟩ : ∃ k, kz[j + 1]? = some k := ⟨_, List.getElem?_eq_getElem (by omega)⟩
    have hkm : k ∈ kz := List.mem_of_getElem? hkj
    have hkd : kz.getD (j + 1) .none = k := by rw [List.getD_eq_getElem?_getD, hkj]; rfl
    have hbm : kz.getD (argBest (btK kz) j) .none ∈ kz := by
      rw [List.getD_eq_getElem?_getD, List.getElem?_eq_getElem (by omega)]
      exact List.getElem_mem _
    have K1 : ∀ b o, h₀.get? b = some o → h'.get? b = some o := fun b o e => hk' b o (notI e) (K b o e)
    have hS1 := hk' S _ (by simpa using hSI) hS
    have rb1 : Reads h' kb (kz.getD (argBest (btK kz) j) .none) [] := readsNT (a := I) (fun b o hb' e => hk' b o (by simpa using hb') e) (fun o e => by
      obtain ⟨oI0, hoI0, hc0, _⟩ := hit
      rw [hoI0] at e
      cases e
      rw [hc0]
      decide) _ _ [] rfl rb
    change wpAny _ _ (tryCatch (holding [v] (call (Value.ref q) [v])) _ >>= _) _ _ _
    refine wpAny_bind (wpAny_tryCatch (wpAny_holding (wpAny_mono (turn (j + 1) v k ev hkj h' tk' K1) (fun x s'' he => ?_) fun _ _ hF => hF.elim)))
    obtain ⟨h2, tk2, rfl, g2, rx⟩ := he
    have K2 : ∀ b o, h₀.get? b = some o → h2.get? b = some o := fun b o e => g2 b o (K1 b o e)
    have hS2 := g2 _ _ hS1
    have rb2 := PyProof.Rows.Reads.keeps g2 rb1
    have hit2 : h2.IsListIter I l (j + 1 + 1) := hst'.1.at fun o e => g2 _ _ e
    show wpAny _ A.in1 (tryCatch (holding [v, x] (richCompare .Lt x kb >>= _)) _ >>= _) _ _ _
    refine wpAny_bind (wpAny_tryCatch (wpAny_holding (wpAny_bind (rcLt_alike k _ A.in1 _ x kb _ _ rx rb2 (hal _ hkm _ hbm) (hnn _ hkm) (by have := hu k hkm; have := Nat.min_le_left k.depth (kz.getD (argBest (btK kz) j) .none).depth; omega) prog w _ _ ?_))))
    refine wpAny_bind (wpAny_holding (wpAny_truthy_bool (wpAny_bind (wpAny_letGo (wpAny_pure ?_)))))
    have eb : dataLt k (kz.getD (argBest (btK kz) j) .none) = btK kz (j + 1) (argBest (btK kz) j) := by unfold btK; rw [hkd]
    by_cases hb' : dataLt k (kz.getD (argBest (btK kz) j) .none) = true
    · have s1 := Heap.SameBut.update h2 S (Obj.mapSeq fun _ => #[v, x])
      obtain ⟨c2, hc2⟩ : ∃ c2, (h2.update S (Obj.mapSeq fun _ => #[v, x])).get? S = some (seqObj "list" #[v, x] c2) := ⟨_, get?_update_seq hS2 fun _ => #[v, x]⟩
      have ea : argBest (btK kz) (j + 1) = j + 1 := if_pos (by rw [← eb]; exact hb')
      simp only [hb', if_true]
      refine wpAny_bind (wpAny_updateSeq hS2 rfl (wpAny_bind (wpAny_letGo ?_)))
      rw [lp_name]
      refine wpAny_pure ⟨plainId_quiet PySem.F.plain_min_loop _, ih (j + 1) _ _ v x c2 (by omega) more (fun b o e => (s1.2 b (notS e)).trans (K2 b o e)) hc2 (hit2.at fun o e => (s1.2 I hSI.symm).trans e) (by rw [ea]; exact ev) ?_ (by rw [ea]; exact Nat.le_refl _)⟩
      rw [ea, hkd]
      exact readsNT (a := S) (fun b o hb' e => (s1.2 b hb').trans e) (fun o e => by rw [hS2] at e; rw [← Option.some.inj e]; show Value.type "list" ≠ Value.type "tuple"; decide) _ _ [] rfl rx
    · have ea : argBest (btK kz) (j + 1) = argBest (btK kz) j := if_neg (by rw [← eb]; exact hb')
      simp only [hb', Bool.false_eq_true, if_false]
      refine wpAny_bind (wpAny_letGo ?_); rw [lp_name]
      exact wpAny_pure ⟨plainId_quiet PySem.F.plain_min_loop _, ih (j + 1) _ _ vb kb c (by omega) more K2 hS2 hit2 (by rw [ea]; exact hvb) (by rw [ea]; exact rb2) (by rw [ea]; omega)⟩
/-- min(xs, key=f): the first of the items with the least key -/
theorem min_key {K : Nat} (hh : A.handled = none) (hl : s.heap.IsList l vs.toArray) (hne : 0 < vs.length) (hlen : kz.length = vs.length) (hal : ∀ x ∈ kz, ∀ y ∈ kz, alike x y = true) (hnn : ∀ x ∈ kz, x ≠ .none) (hu : ∀ x ∈ kz, A.in1.units + x.depth < cLine)
    (turn : ∀ (i : Nat) (v : Value) (k : PyData), vs[i]? = some v → kz[i]? = some k → ∀ (h : Heap) (tk : Nat), (∀ b o, s.heap.get? b = some o → h.get? b = some o) →
      wpAny (model prog w) A.in1 (call (.ref q) [v]) (KeyPure k { s with heap := h, toks := tk }) (fun _ _ => False) { s with heap := h, toks := tk })
    (hQ : ∀ v h' tk', vs[argBest (btK kz) (vs.length - 1)]? = some v → (∀ b o, s.heap.get? b = some o → h'.get? b = some o) → Q v { s with heap := h', toks := tk' }) :
    wpAny (model prog w) A (call (Value.builtin "min") [.ref l] [(Str.ofString "key", .ref q)]) Q E s := by
  obtain ⟨ol, hol, _⟩ := id hl
  have ll := Heap.lt_size hol
  refine kmk_tree PySem.F.kind_min PySem.F.plain_min PySem.F.entry_min (kmk_min_key _ _) ?_; show wpAny _ A.in1 (Builtin.Builtins.bindParams "min" ["key", "default"] 0 ⟨[], [(Str.ofString "key", .ref q)]⟩ >>= _) _ _ s
  have ep : Builtin.Builtins.bindParams "min" ["key", "default"] 0 ⟨[], [(Str.ofString "key", .ref q)]⟩ = pure [some (.ref q), none] := rfl
  refine wpAny_bind (wpAny_of_eq ep (wpAny_bind (wpAny_pure (wpAny_bind (wpAny_pyIter_list hl (wpAny_bind (wpAny_newList ?_ (Nat.zero_le _))))))))
  rw [lp_name]
  have hS : (s.heap.push (itO l)).objs.size = s.heap.objs.size + 1 := size_push' ..
  have hlI : l ≠ s.heap.objs.size := fun z => Nat.ne_of_lt ll z
  have hSI : (s.heap.push (itO l)).objs.size ≠ s.heap.objs.size := by rw [hS]; exact Nat.ne_of_gt (Nat.lt_succ_self _)
  refine wpAny_pure (And.intro (plainId_quiet PySem.F.plain_min_loop _) ?_)
  have KH : ∀ b o, s.heap.get? b = some o → ((s.heap.push (itO l)).push (seqObj "list" #[] 0)).get? b = some o := fun b o e => Heap.get?_push_of_some _ (Heap.get?_push_of_some _ e)
  have zI : s.heap.get? s.heap.objs.size = none := Heap.get?_none_of_le (Nat.le_refl _)
  have zS : s.heap.get? (s.heap.push (itO l)).objs.size = none := Heap.get?_none_of_le (by rw [hS]; exact Nat.le_succ _)
  have notS : ∀ {b : Addr} {o : Obj}, s.heap.get? b = some o → b ≠ (s.heap.push (itO l)).objs.size := fun e z => by rw [z, zS] at e; cases e
  have gI : ((s.heap.push (itO l)).push (seqObj "list" #[] 0)).get? s.heap.objs.size = some (itO l) := Heap.get?_push_of_some _ (Heap.get?_push_size _ rfl)
  have gS : ((s.heap.push (itO l)).push (seqObj "list" #[] 0)).get? (s.heap.push (itO l)).objs.size = some (seqObj "list" #[] 0) := Heap.get?_push_size _ rfl
  have W := Walks.list (prog := prog) (w := w) (A := A.in1) hh s.heap.objs.size l hlI (Array.mk vs)
  have sz : vs.toArray.size = vs.length := by simp
  have hlK : ∀ h : Heap, (∀ b o, s.heap.get? b = some o → h.get? b = some o) → h.IsList l vs.toArray := fun h k => hl.at fun o e => k _ _ e
  refine codeAny_builtin PySem.F.entry_min_loop ?_; rw [Around.under_plainId PySem.F.plain_min_loop _]
  change wpAny _ _ (seqItems? _ >>= _) _ _ _; refine wpAny_bind (wpAny_seqItems gS rfl ?_)
  change wpAny _ _ (tryCatch (pyNext _) _ >>= _) _ _ _
  refine wpAny_bind (wpAny_tryCatch (W.item 0 _ _ _ (by rw [sz]; exact hne) ⟨⟨_, gI, rfl, rfl⟩, hlK _ KH⟩ fun v h' tk' hP hst' hk' => ?_))
  have ev : vs[0]? = some v := by simpa using hP
  have K1 : ∀ b o, s.heap.get? b = some o → h'.get? b = some o := fun b o e => hk' b o (fun z => by rw [List.mem_singleton.mp z, zI] at e; cases e) (KH b o e)
  have hS1 := hk' _ _ (by simpa using hSI) gS
  obtain ⟨k, hk0⟩ : ∃ k, kz[0]? = some k := ⟨_, List.getElem?_eq_getElem (by omega)⟩
  have hkd : kz.getD 0 .none = k := by rw [List.getD_eq_getElem?_getD, hk0]; rfl
  change wpAny _ _ (tryCatch (holding [v] (call (Value.ref q) [v])) _ >>= _) _ _ _
  refine wpAny_bind (wpAny_tryCatch (wpAny_holding (wpAny_mono (turn 0 v k ev hk0 h' tk' K1) (fun x s'' he => ?_) fun _ _ hF => hF.elim)))
  obtain ⟨h2, tk2, rfl, g2, rx⟩ := he
  have hS2 := g2 _ _ hS1
  have s1 := Heap.SameBut.update h2 (s.heap.push (itO l)).objs.size (Obj.mapSeq fun _ => #[v, x])
  obtain ⟨c2, hc2⟩ : ∃ c2, (h2.update (s.heap.push (itO l)).objs.size (Obj.mapSeq fun _ => #[v, x])).get? (s.heap.push (itO l)).objs.size = some (seqObj "list" #[v, x] c2) := ⟨_, get?_update_seq hS2 fun _ => #[v, x]⟩
  show wpAny _ A.in1 (updateSeq (s.heap.push (itO l)).objs.size (fun _ => #[v, x]) >>= _) _ _ _
  refine wpAny_bind (wpAny_updateSeq hS2 rfl ?_)
  rw [lp_name]
  have hit2 : h2.IsListIter s.heap.objs.size l (0 + 1) := hst'.1.at fun o e => g2 _ _ e
  refine wpAny_pure ⟨plainId_quiet PySem.F.plain_min_loop _, loopK (s := s) hh s.heap hlK hlI hSI zS zI hlen hal hnn hu turn hQ _ 0 _ _ v x c2 rfl hne (fun b o e => (s1.2 b (notS e)).trans (g2 _ _ (K1 b o e))) hc2 (hit2.at fun o e => (s1.2 _ hSI.symm).trans e) ev ?_ (Nat.le_refl _)⟩
  show Reads _ x (kz.getD 0 .none) []
  rw [hkd]
  exact readsNT (fun b o hb' e => (s1.2 b hb').trans e) (fun o e => by rw [hS2] at e; rw [← Option.some.inj e]; show Value.type "list" ≠ Value.type "tuple"; decide) _ _ [] rfl rx
end
end MinK

/-! Ev, part Pb: a lambda of one parameter is made, and called. -/
namespace Ev
open PySem PySem.Spec L2
open PyProof.Rows hiding St
open PySem.W (KeyPure kla_obj kla_fn envX)
/-- what stands at c has a code object's name -/
def CodeN (h : Heap) (c : Addr) : Prop := ∃ (oc : Obj) (vs : Array Value) (q : Str) (t : Tok), h.get? c = some oc ∧ oc.data = .fields vs ∧ vs[1]? = some (.str q t)
section
variable {X : Cx} {pins : List (Addr × Obj)} {σ : L2.St} {H : Hp} {s : Shared}
/-- a code object, its name forgotten -/
theorem inv_forget {c : Addr} {q : Str} (I : Inv X pins σ H s) (hc : H c = some (LamX.CodeO c q)) : Inv X pins σ (upd H c (CodeR c)) s := by
  have ne : ∀ {b : Addr} {u : HO}, H b = some u → u ≠ LamX.CodeO c q → b ≠ c := fun e n z => by
    rw [z, hc] at e; exact n (Option.some.inj e).symm
  have r := I.step (g' := s.gens) (d' := s.drawn) (t' := s.toks) (h' := s.heap) (H' := upd H c (CodeR c)) (ch := []) (fun b hb => absurd hb (by simp)) (fun b o _ _ _ e n => e) (fun b o _ _ _ e n => ⟨o.slots, e⟩)
    (fun b o _ e n => by rw [upd_ne (fun z => by rw [z, hc] at n; cases n)]; exact n) (fun b o _ e => ⟨o, e⟩) (fun b xs e => by rw [upd_ne (ne e fun z => by unfold LamX.CodeO at z; cases z)]; exact e) (fun b o u e => by rw [upd_ne (ne e fun z => by unfold LamX.CodeO at z; cases z)]; exact e)
    (fun b ps e => ⟨#[], by rw [upd_ne (ne e fun z => by unfold LamX.CodeO at z; cases z)]; simpa using e⟩) (fun m hn => hn) (fun b u e => ?_) I.bare
  · exact r
  · by_cases hb : b = c
    · subst hb
      rw [upd_same] at e; cases e
      obtain ⟨⟨oc, vs, t, e1, e2, e3⟩, e4, _⟩ := I.hok b _ hc
      exact ⟨⟨oc, vs, q, t, e1, e2, e3⟩, e4, fun h1 h2 ⟨oc, vs, q, t, a, b, c⟩ st => ⟨oc, vs, q, t, st _ a, b, c⟩⟩
    · rw [upd_ne hb] at e
      refine (I.hok b u e).stay (fun d v _ q => q) (fun d z => ?_) fun d xs z => ?_
      · rw [upd_ne (ne z fun z => by unfold LamX.CodeO at z; cases z)]; exact z
      · rw [upd_ne (ne z fun z => by unfold LamX.CodeO at z; cases z)]; exact z
theorem codeN_of {c : Addr} (I : Inv X pins σ H s) (hc : H c = some (CodeR c)) : CodeN s.heap c := (I.hok c _ hc).1
/-- the lambda is made -/
theorem lam_mk {c P : Addr} {params : Arguments} {body : Expr} {scope : Scope} {pos : Pos} {E : Value → Shared → Prop} {Q : Value → Shared → Prop} (I : Inv X pins σ H s) (TB : LamX.TabB X.base X.mg c P) (hcode : X.env.code = .ref c) (hT : TblAt H P)
    (hdef : defaultsOf params X.env = ([], [])) (hfree : ∀ y ∈ scope.names, y.2 = .free → ∃ c, X.env.cells.lookup y.1 = some c)
    (h : ∀ (f c' : Addr) (pm ctv : Value) (H1 : Hp) (s' : Shared), Inv X pins σ H1 s' → Same H H1 → s'.heap.get? f = some (kla_obj "<lambda>" (X.env.qual ++ "<lambda>") params body scope (cloFrom X.env.cells scope.names []) pm c' ctv) → CodeN s'.heap c' → Q (.ref f) s') :
    wpAny (model X.prog X.w) X.A (eval (.Lambda params body scope pos) X.env) Q E s := by
  obtain ⟨ps, hP, ht, ha⟩ := id hT
  refine PySem.W.kla_eval hdef ?_
  have bP := TB.bm.keeps I.bk
  have rP := I.hok P _ hP
  cases hc : codeAmong pos ps.toList with
  | some cv =>
    obtain ⟨c', e, hco⟩ := ha pos cv hc
    subst e
    refine PySem.W.kla_makeFunctionHit (mg := X.mg) (c := c) (P := P) (ps := ps) (closure_ok hfree) I.ok.glob (I.mod.glob.keeps I.bk) hcode (TB.code.keeps I.bk) rP ht hc bP fun ctv h' tk hx hsz => ?_
    have I1 := I.kept (t' := tk) (h' := h'.push (kla_obj "<lambda>" (X.env.qual ++ "<lambda>") params body scope (cloFrom X.env.cells scope.names []) ((X.mg "__name__").getD .none) c' ctv)) fun b o e => Heap.get?_push_of_some _ (hx b o e)
    exact h _ c' _ ctv H _ I1 (Same.refl _) (Heap.get?_push_size _ rfl) (codeN_of I1 hco)
  | none =>
    refine PySem.W.kla_makeFunction (mg := X.mg) (c := c) (P := P) (ps := ps) (closure_ok hfree) I.ok.glob (I.mod.glob.keeps I.bk) hcode (TB.code.keeps I.bk) rP ht hc TB.gP bP fun c' ctv h' tk hx hge hlt hrec htb => ?_
    obtain ⟨c2, oc, vs, t, e2, hoc, hd, hv⟩ := hrec
    cases e2
    have nC : H c' = none := I.hok.fresh hge
    have I1 := LamX.inv_table (t' := tk) (q := X.env.qual ++ "<lambda>") (more := #[rawInt pos.line, rawInt pos.col, .ref c']) (h' := h'.push (kla_obj "<lambda>" (X.env.qual ++ "<lambda>") params body scope (cloFrom X.env.cells scope.names []) ((X.mg "__name__").getD .none) c' ctv)) I hP
      (fun b o hb e => Heap.get?_push_of_some _ (hx b o hb e)) (Heap.get?_push_of_some _ htb) hge ⟨oc, vs, t, Heap.get?_push_of_some _ hoc, hd, hv⟩
    have I2 := inv_forget I1 upd_same
    rw [upd_upd] at I2
    have nPc : P ≠ c' := ne_of_none hP nC
    refine h _ c' _ ctv _ _ I2 ⟨fun a o e n => ?_, fun a qs e => ?_, fun P' hP' => ?_⟩ (Heap.get?_push_size _ rfl) (codeN_of I2 upd_same)
    · rw [upd_ne (ne_of_none e nC), upd_ne (fun z => by rw [z, hP] at e; cases e; exact n _ rfl)]
      exact e
    · rw [upd_ne (ne_of_none e nC)]
      by_cases hb : a = P
      · rw [hb, upd_same]; exact ⟨_, rfl⟩
      · rw [upd_ne hb]; exact ⟨qs, e⟩
    · have cd : ∀ {d : Addr}, H d = some (CodeR d) → upd (upd H P (.tbl (ps ++ #[rawInt pos.line, rawInt pos.col, .ref c']))) c' (CodeR c') d = some (CodeR d) := fun {d} e => by
        rw [upd_ne (ne_of_none e nC), upd_ne (fun z => by rw [z, hP] at e; exact absurd (Option.some.inj e).symm (codeR_nt _ _))]
        exact e
      by_cases hb : P' = P
      · subst hb
        have eL : (ps ++ #[rawInt pos.line, rawInt pos.col, .ref c']).toList = ps.toList ++ [rawInt pos.line, rawInt pos.col, .ref c'] := by simp
        refine ⟨_, by rw [upd_ne nPc, upd_same], by rw [eL]; exact PySem.TriplesOk_snoc _ _ _ _ ht, fun p' cv hcv => ?_⟩
        rw [eL] at hcv
        rcases LamX.among_app _ ht hcv with z | z
        · obtain ⟨c0, e1, e2⟩ := ha p' cv z
          exact ⟨c0, e1, cd e2⟩
        · exact ⟨c', z, upd_same⟩
      · obtain ⟨ps', a1, a2, a3⟩ := hP'
        refine ⟨ps', by rw [upd_ne (ne_of_none a1 nC), upd_ne hb]; exact a1, a2, fun p' cv hcv => ?_⟩
        obtain ⟨c0, e1, e2⟩ := a3 p' cv hcv
        exact ⟨c0, e1, cd e2⟩
end
section
variable {prog : Program} {w : World} {A : Around} {s : Shared} {R : Result → Shared → Prop}
/-- the lambda is called -/
theorem lam_call {f c' : Addr} {v pm ctv : Value} {qual y : Str} {params : Arguments} {body : Expr} {scope : Scope} {cl : List (Str × Addr)} (hroom : A.depth < recursionLimit) (ho : s.heap.get? f = some (kla_obj "<lambda>" qual params body scope cl pm c' ctv)) (hcd : CodeN s.heap c')
    (hk : scope.kind = .function) (hco : scope.isCoroutine = false) (hgen : scope.isGenerator = false) (hnc : ∀ x ∈ scope.names, x.2 ≠ .cell) (hy : scope.names.lookup y = some .local) (hbind : bindArgs (kla_fn "<lambda>" qual params body scope cl pm (.ref c') ctv) ⟨[v], []⟩ = pure [(y, v)]) (hlim : s.heap.NoLimit)
    (h : ∀ (q : Str) (L : Addr) (h₁ : Heap) (tk : Tok), h₁.Ns L (fun x => ([(y, v)] : List (Str × Value)).reverse.lookup x) → (∀ b o, s.heap.get? b = some o → h₁.get? b = some o) →
      wpAny (model prog w) (A.deeper (envX q scope L f (.ref c') cl)) (eval body (envX q scope L f (.ref c') cl)) (fun u s' => R (.ok (.ret u)) s') (fun _ _ => False) { s with heap := h₁, toks := tk }) :
    codeAny (model prog w) A (.call (.ref f) ⟨[v], []⟩) R s := by
  obtain ⟨oc, vs, q, t, h1, h2, h3⟩ := hcd
  refine codeAny_of_tree ?_
  change wpAny _ _ (callAny (.ref f) ⟨[v], []⟩) _ _ s
  simp only [callAny]
  refine wpAny_bind (wpAny_load ho ?_)
  simp only [callFunction, hco, hgen]
  refine wpAny_bind (m := field (.ref c') 1) (wpAny_field h1 h2 h3 (wpAny_bind (wpAny_pure ?_)))
  rw [hbind]
  refine wpAny_bind (wpAny_pure (wpAny_bind (wpAny_newFunctionEnv (fun x hx => hnc x hx) (fun x hx => by rw [List.mem_singleton.mp hx]; exact hy) (fun h₁ hns hsb => wpAny_bind (wpAny_enterFrame (hlim.fresh _ hsb) hroom (wpAny_pure (And.intro rfl ?_)))) hk)))
  exact PySem.W.kla_codeExpr (wpAny_mono (h q _ h₁ _ hns fun b o e => hsb.extBut b o (Nat.ne_of_lt (Heap.lt_size e)) (Heap.get?_push_of_some _ e)) (fun _ _ z => z) fun _ _ z => z.elim)
end
end Ev

/-! Ev, part Pc: what the lambdas (o.f[x], x) and (o.f[x], x[2], x) tell. -/
namespace Ev
open PySem PySem.Spec L2
open PyProof.Rows hiding St
open PySem.W (KeyPure kla_obj kla_fn envX)
mutual
theorem reads_pure {h : Heap} : ∀ {d : D} {u : Value} {as : List Addr}, d.pure = true → Reads h u d.py as → as = []
  | .non, _, _, _, r => by cases r; rfl
  | .bl _, _, _, _, r => by cases r; rfl
  | .int _, _, _, _, r => by cases r; rfl
  | .str _, _, _, _, r => by cases r; rfl
  | .node .tup xs, _, _, p, r => by
    rw [D.pure] at p
    cases r with
    | tuple h1 h2 h3 h4 => exact reads_pures p h4
  | .node (.lst _) xs, _, _, p, _ => by simp [D.pure] at p
  | .node (.dct _ _ _) xs, _, _, p, _ => by simp [D.pure] at p
  | .node (.ins _ _ _) xs, _, _, p, _ => by simp [D.pure] at p
  | .node (.io _ _ _) xs, _, _, p, _ => by simp [D.pure] at p
  | .node (.exc _) xs, _, _, p, _ => by simp [D.pure] at p
  | .node (.xd _) xs, _, _, p, _ => by simp [D.pure] at p
theorem reads_pures {h : Heap} : ∀ {ds : List D} {us : List Value} {as : List Addr}, pures ds = true → ReadsAll h us (pys ds) as → as = []
  | [], _, _, _, r => by cases r; rfl
  | d :: ds, _, _, p, r => by
    rw [pures, Bool.and_eq_true] at p
    cases r with
    | cons h1 h2 => rw [reads_pure p.1 h1, reads_pures p.2 h2]; rfl
end
section
variable {prog : Program} {w : World} {K : PySem.W.Frag} {A : Around} {E : Value → Shared → Prop} {H : Hp}
/-- o.f[x], o a captured name, x the lambda's own -/
theorem lam_fld {s : Shared} {env : Env} {z y fld : Str} {p1 p2 p3 p4 : Pos} {cz p d dx C : Addr} {m : Str → Option Value} {fs : List (Str × V)} {v : V} {u : Value} {lv : Int} {Q : Value → Shared → Prop} (hu : A.units + 1 < cLine) (hok : HOk prog w H s.heap) (KX : K.In s.heap) (hk : env.scope.kind = .function)
    (hz : env.kindOf z = some .free) (hcz : env.cells.lookup z = some cz) (hcell : s.heap.IsCell cz (some (.ref p))) (hy : env.kindOf y = some .local) (hn : s.heap.Ns env.locals m) (hm : m y = some u)
    (hp : H p = some (.ins C dx fs)) (c : Cls K C) (n : NoAttr K C fld) (l : fs.lookup fld = some (.ref d)) (g : DGet H d v (some (.int lv))) (rv : RelV v u) (h : ∀ t tk, Q (.int lv t) { s with toks := tk })
    (dz : (z == ("__debug__" : Str)) = false := by decide) (cd : (z == ("__classdict__" : Str)) = false := by decide) (dy : (y == ("__debug__" : Str)) = false := by decide) :
    wpAny (model prog w) A (eval (.Subscript (.Attribute (.Name z p1) fld p2) (.Name y p3) p4) env) Q E s := by
  obtain ⟨mA, O, r, _, _, _⟩ := ins_get hok hp
  obtain ⟨ud, hud, rud⟩ := RelO.some_of (v := .ref d) (o := mA fld) (by rw [← l]; exact r fld)
  have eud : ud = Value.ref d := rud
  subst eud
  refine Subscript_ (attr_of (by rfl) (wpAny_Name (wpAny_loadName_free hk hz hcz hcell (get_map KX O (c.get fld) c.hd n hud (handed_of rud) ?_) cd) dz))
  refine wpAny_Name (wpAny_loadName_local (s := { s with toks := s.toks + 1 }) hk hy hn hm ?_) dy
  rcases g with ⟨kvs, k, e, ey, lk⟩ | ⟨kvs, k, b, e, ey, eb, lk⟩
  · subst ey
    obtain ⟨_, hd, vs, rel, dd⟩ := dk_rd hok e
    obtain ⟨w', hw, rw'⟩ := RelO.some_of (v := .int lv) (o := valueAt vs k) (by rw [lk]; exact rel.val k)
    obtain ⟨t, rfl⟩ := rw'
    exact tail_any (s := { s with toks := s.toks + 1 }) dd.typeIs PySem.F.slot_dict_getitem.lookup (wpAny_getItem_of (kV_is rv) dd.mapOf hw (h t _)) (by rfl)
  · subst ey
    have eu : u = Value.ref b := rv
    subst eu
    obtain ⟨_, hd, xs, rel, dd⟩ := dt_rd hok e
    obtain ⟨w', hw, rw'⟩ := RelO.some_of (v := .int lv) (o := (atKey xs k).map (·.2)) (by rw [lk]; exact rel.val k)
    obtain ⟨t, rfl⟩ := rw'
    obtain ⟨p', hp', hp2⟩ := Option.map_eq_some_iff.mp hw
    have ti : ({ s with toks := s.toks + 1 } : Shared).TypeIs (.ref d) "dict" := by
      obtain ⟨o, es, ep, h1, h2, _⟩ := dd
      exact ⟨o, h1, h2.1⟩
    refine tail_any (s := { s with toks := s.toks + 1 }) ti PySem.F.slot_dict_getitem.lookup (wpAny_getItem_heap (tupleKind_room_in1 hu) (key_of hok eb) dd hp' ?_) (by rfl)
    rw [hp2]
    exact h t _
/-- the keys that the lambdas tell -/
def keyOf (two : Bool) (lv : Int) (x : D) : Option D := if two = true then (match x with
    | .node .tup [_, _, .int c] => some (.tup [.int lv, .int c, x])
    | _ => none) else some (.tup [.int lv, x])
/-- the lambda's body -/
inductive LamB (z y fld : Str) : Bool → Expr → Prop
  | one (p1 p2 p3 p4 p5 pos : Pos) (k : Nat) : LamB z y fld false (.Tuple [.Subscript (.Attribute (.Name z p1) fld p2) (.Name y p3) p4, .Name y p5] k pos)
  | two (p1 p2 p3 p4 p5 p6 p7 p8 pos : Pos) (k j : Nat) : LamB z y fld true (.Tuple [.Subscript (.Attribute (.Name z p1) fld p2) (.Name y p3) p4, .Subscript (.Name y p5) (.Constant (.int 2) j p6) p7, .Name y p8] k pos)
theorem push_read {h : Heap} {us : List Value} {ds : List PyData} (r : ReadsAll h us ds []) : Reads (h.push { cls := .type "tuple", data := .seq us.toArray }) (.ref h.objs.size) (.tuple ds) [] :=
  .tuple (Heap.get?_push_size _ rfl) rfl rfl (by simpa using PyProof.Rows.ReadsAll.keeps (fun b o e => Heap.get?_push_of_some _ e) r)
theorem lam_body {mg : Str → Option Value} {B : Addr → Prop} {two : Bool} {body : Expr} {s : Shared} {env : Env} {z y fld : Str} {cz p d dx C : Addr} {m : Str → Option Value} {fs : List (Str × V)} {v : V} {u : Value} {lv : Int} {x kd : D} {Q : Value → Shared → Prop} (hB : LamB z y fld two body) (hu : A.units + 1 < cLine) (hok : HOk prog w H s.heap) (KX : K.In s.heap) (hk : env.scope.kind = .function)
    (hz : env.kindOf z = some .free) (hcz : env.cells.lookup z = some cz) (hcell : s.heap.IsCell cz (some (.ref p))) (hy : env.kindOf y = some .local) (hn : s.heap.Ns env.locals m) (hm : m y = some u)
    (hp : H p = some (.ins C dx fs)) (c : Cls K C) (n : NoAttr K C fld) (l : fs.lookup fld = some (.ref d)) (g : DGet H d v (some (.int lv))) (rv : RelV v u) (rx : Rep mg H B x v []) (ru : Reads s.heap u x.py []) (ek : keyOf two lv x = some kd)
    (h : ∀ h' tk r, (∀ b o, s.heap.get? b = some o → h'.get? b = some o) → Reads h' r kd.py [] → Q r { s with heap := h', toks := tk })
    (dz : (z == ("__debug__" : Str)) = false := by decide) (cd : (z == ("__classdict__" : Str)) = false := by decide) (dy : (y == ("__debug__" : Str)) = false := by decide) :
    wpAny (model prog w) A (eval body env) Q E s := by
  cases hB with
  | one p1 p2 p3 p4 p5 pos k =>
    cases ek
    refine wpAny_Tuple_spliced ?_
    show wpAny _ _ (spliced ((false, eval (.Subscript (.Attribute (.Name z p1) fld p2) (.Name y p3) p4) env) :: (false, eval (.Name y p5) env) :: [])) _ _ s
    refine Calls.spliced_cons (lam_fld hu hok KX hk hz hcz hcell hy hn hm hp c n l g rv (fun t tk => ?_) dz cd dy)
    refine Calls.spliced_cons (wpAny_Name (wpAny_loadName_local (s := { s with toks := tk }) hk hy hn hm (Calls.spliced_nil ⟨?_, ?_⟩)) dy)
    · show 2 ≤ sizeLine
      decide
    · refine h _ tk _ (fun b o e => Heap.get?_push_of_some _ e) (push_read (us := [.int lv t, u]) ?_)
      exact ReadsAll.cons (as := []) (bs := []) (.int _ _) (ReadsAll.cons (as := []) (bs := []) ru .nil)
  | two p1 p2 p3 p4 p5 p6 p7 p8 pos k j =>
    unfold keyOf at ek
    rw [if_pos rfl] at ek
    split at ek
    · rename_i d1 d2 e3
      cases ek
      refine wpAny_Tuple_spliced ?_
      show wpAny _ _ (spliced ((false, eval (.Subscript (.Attribute (.Name z p1) fld p2) (.Name y p3) p4) env) :: (false, eval (.Subscript (.Name y p5) (.Constant (.int 2) j p6) p7) env) :: (false, eval (.Name y p8) env) :: [])) _ _ s
      refine Calls.spliced_cons (lam_fld hu hok KX hk hz hcz hcell hy hn hm hp c n l g rv (fun t tk => ?_) dz cd dy)
      refine Calls.spliced_cons (Subscript_ (wpAny_Name (wpAny_loadName_local (s := { s with toks := tk }) hk hy hn hm (wpAny_Constant_int ?_)) dy))
      rw [Rep] at rx
      obtain ⟨a, vs, bs, rfl, hd, hr, q⟩ := rx
      have eu : u = Value.ref a := rv
      subst eu
      have hb : bs = [] := by
        rcases q with ⟨q, _⟩ | ⟨_, _, q⟩
        · cases q
        · exact q.symm
      subst hb
      obtain ⟨w2, hw2, r2⟩ := hr.get (i := 2) (x := .int e3) rfl
      rw [r2.1] at hw2
      obtain ⟨hz', its, rit, pl⟩ := hok a _ hd
      obtain ⟨ui, hui, rui⟩ := rit.get hw2
      obtain ⟨ti, rfl⟩ := rui
      have hl : vs.length = 3 := by rw [← hr.length]; rfl
      have hil : its.length = 3 := by rw [← rit.length]; exact hl
      refine subscriptTail_builtinR (x := .int e3 ti) pl.typeIs slot_tuple_getitem.lookup (getItem_tuple (j := 2) pl (by decide) (by decide) (by rw [List.size_toArray, hil]; rfl) (by simpa using hui) ⟨rfl, ?_⟩) (by rfl)
      refine Calls.spliced_cons (wpAny_Name (wpAny_loadName_local hk hy hn hm (Calls.spliced_nil ⟨?_, ?_⟩)) dy)
      · show 3 ≤ sizeLine
        decide
      · refine h _ _ _ (fun b o e => Heap.get?_push_of_some _ e) (push_read (us := [.int lv t, .int e3 ti, .ref a]) ?_)
        exact ReadsAll.cons (as := []) (bs := []) (.int _ _) (ReadsAll.cons (as := []) (bs := []) (.int _ _) (ReadsAll.cons (as := []) (bs := []) ru .nil))
    · cases ek
end
end Ev

/-! Ev, part Pd: min(l, key=lambda x: (o.f[x], x)) as a reading. -/
namespace Ev
open PySem PySem.Spec L2
open PyProof.Rows hiding St
open PySem.W (KeyPure kla_obj kla_fn envX)
/-- a field of an instance of the class c -/
def fldT (c f : Str) : D → Option D
  | .node (.ins _ c' ns) xs => if c' = c then (ns.zip xs).lookup f else none
  | _ => none
theorem zip_rep {mg : Str → Option Value} {H : Hp} {B : Addr → Prop} {f : Str} {t : D} : ∀ {ns : List Str} {xs : List D} {vs : List V}, Reps mg H B xs vs [] → (ns.zip xs).lookup f = some t → ∃ v, (ns.zip vs).lookup f = some v ∧ Rep mg H B t v []
  | [], _, _, _, h => by cases h
  | n :: ns, [], _, _, h => by cases h
  | n :: ns, x :: xs, vs, r, h => by
    rw [Reps] at r
    obtain ⟨v, ws, a1, a2, rfl, ea, h1, h2⟩ := r
    obtain ⟨z1, z2⟩ := List.append_eq_nil_iff.mp ea.symm
    subst z1 z2
    rw [List.zip_cons_cons, List.lookup_cons] at h ⊢
    split at h
    · cases h; exact ⟨v, rfl, h1⟩
    · exact zip_rep h2 h
theorem fld_rep {mg : Str → Option Value} {H : Hp} {B : Addr → Prop} {c f : Str} {d t : D} {v : V} (h : fldT c f d = some t) (r : Rep mg H B d v []) : ∃ a C dx fs w, v = .ref a ∧ mg c = some (.ref C) ∧ H a = some (.ins C dx fs) ∧ fs.lookup f = some w ∧ Rep mg H B t w [] := by
  cases d with
  | node tg xs =>
    cases tg with
    | ins o c' ns =>
      have h' : (if c' = c then (ns.zip xs).lookup f else none) = some t := h
      split at h'
      · rename_i e
        rw [Rep] at r
        obtain ⟨a, vs, bs, rfl, ⟨hl, C, dx, hm, ha⟩, hr, q⟩ := r
        have hb : bs = [] := by
          rcases q with ⟨_, q⟩ | ⟨_, _, q⟩
          · cases q
          · exact q.symm
        subst hb
        obtain ⟨w, h1, h2⟩ := zip_rep hr h'
        exact ⟨a, C, dx, _, w, rfl, by rw [← e]; exact hm, ha, h1, h2⟩
      · cases h'
    | tup => cases h
    | lst _ => cases h
    | dct _ _ _ => cases h
    | io _ _ _ => cases h
    | exc _ => cases h
    | xd _ => cases h
  | non => cases h
  | bl _ => cases h
  | int _ => cases h
  | str _ => cases h
/-- the keys of some items -/
def keysL (two : Bool) (t : D) : List D → Option (List D)
  | [] => some []
  | x :: xs => match lookD t x with
    | some (some (.int lv)) => (keyOf two lv x).bind fun k => (keysL two t xs).map (k :: ·)
    | _ => none
theorem keysL_get {two : Bool} {t : D} : ∀ {xs ks : List D}, keysL two t xs = some ks → ks.length = xs.length ∧ ∀ (i : Nat) (x k : D), xs[i]? = some x → ks[i]? = some k → ∃ lv, lookD t x = some (some (.int lv)) ∧ keyOf two lv x = some k
  | [], ks, h => by cases h; exact ⟨rfl, fun i x k e => by simp at e⟩
  | x :: xs, ks, h => by
    unfold keysL at h
    split at h
    · rename_i lv el
      cases ek : keyOf two lv x with
      | none => rw [ek] at h; cases h
      | some k =>
        rw [ek] at h
        have h' : (keysL two t xs).map (k :: ·) = some ks := h
        cases er : keysL two t xs with
        | none => rw [er] at h'; cases h'
        | some ks' =>
          rw [er] at h'
          cases h'
          obtain ⟨l1, l2⟩ := keysL_get er
          refine ⟨by rw [List.length_cons, List.length_cons, l1], fun i y k' e1 e2 => ?_⟩
          cases i with
          | zero => cases e1; cases e2; exact ⟨lv, el, ek⟩
          | succ i => exact l2 i y k' (by simpa using e1) (by simpa using e2)
    · cases h
def itemOk (xs : List D) : Bool := xs.all fun x => x.pure && x.dep 18
/-- the first of the items with the least key -/
def minLD (c f : Str) (two : Bool) (o : D) : D → Option D
  | .node (.lst _) xs => (fldT c f o).bind fun t => (keysL two t xs).bind fun ks => if xs ≠ [] ∧ itemOk xs = true ∧ sortOk ks = true then xs[PySem.argBest (MinK.btK (ks.map D.py)) (xs.length - 1)]? else none
  | _ => none
/-- how the lambda's names stand: x its own, z of the def around -/
structure LamP (sc scope : Scope) (y z : Str) : Prop where
  kind : scope.kind = .function
  co : scope.isCoroutine = false
  gen : scope.isGenerator = false
  nc : ∀ n ∈ scope.names, n.2 ≠ .cell
  own : scope.names.lookup y = some .local
  cap : scope.names.lookup z = some .free
  free : ∀ n ∈ scope.names, n.2 = .free → sc.names.lookup n.1 = some .cell ∨ sc.names.lookup n.1 = some .free
  up : sc.names.lookup z = some .cell
def lamPB (sc scope : Scope) (y z : Str) : Bool :=
  decide (scope.kind = .function) && !scope.isCoroutine && !scope.isGenerator && (scope.names.all fun n => !decide (n.2 = .cell)) && decide (scope.names.lookup y = some .local) && decide (scope.names.lookup z = some .free) &&
  (scope.names.all fun n => !decide (n.2 = .free) || decide (sc.names.lookup n.1 = some .cell) || decide (sc.names.lookup n.1 = some .free)) && decide (sc.names.lookup z = some .cell)
theorem lamP_by {sc scope : Scope} {y z : Str} (h : lamPB sc scope y z = true) : LamP sc scope y z := by
  unfold lamPB at h
  simp only [Bool.and_eq_true, Bool.or_eq_true, Bool.not_eq_true', decide_eq_true_eq, decide_eq_false_iff_not, List.all_eq_true] at h
  obtain ⟨⟨⟨⟨⟨⟨⟨h1, h2⟩, h3⟩, h4⟩, h5⟩, h6⟩, h7⟩, h8⟩ := h
  refine ⟨h1, h2, h3, h4, h5, h6, fun n hn e => ?_, h8⟩
  rcases h7 n hn with (z | z) | z
  · exact absurd e z
  · exact .inl z
  · exact .inr z
theorem LamP.has {X : Cx} {scope : Scope} {y z : Str} (L : LamP X.env.scope scope y z) (ok : X.Ok) : ∀ n ∈ scope.names, n.2 = .free → ∃ c, X.env.cells.lookup n.1 = some c := fun n hn e => ok.has _ (L.free n hn e)
theorem clo_get {cells : List (Str × Addr)} {names : List (Str × NameKind)} {z : Str} {c : Addr} (hz : names.lookup z = some .free) (hc : cells.lookup z = some c) : (cloFrom cells names []).lookup z = some c := by
  have hy : (z, NameKind.free) ∈ names := PySem.mem_of_lookup hz
  obtain ⟨c', hc'⟩ := mem_lookup (cloFrom_has (cells := cells) (acc := []) hy)
  rcases cloFrom_mem (PySem.mem_of_lookup hc') with hm | ⟨_, h2⟩
  · cases hm
  · rw [hc] at h2
    rw [hc', h2]; rfl
section
variable {X : Cx} {pins : List (Addr × Obj)} {σ : L2.St} {H : Hp} {s : Shared} {B : Addr → Prop}
/-- one call of the lambda -/
theorem lam_turn {A' : Around} {f c' C d dx p : Addr} {pm ctv u : Value} {y z fld : Str} {two : Bool} {params : Arguments} {body : Expr} {scope : Scope} {jz : Nat} {fs : List (Str × V)} {v : V} {x k : D} {lv : Int} (I : Inv X pins σ H s) (hd1 : A'.depth < recursionLimit) (hd2 : A'.units + 5 < cLine)
    (hf : s.heap.get? f = some (kla_obj "<lambda>" (X.env.qual ++ "<lambda>") params body scope (cloFrom X.env.cells scope.names []) pm c' ctv)) (hcd : CodeN s.heap c') (L : LamP X.env.scope scope y z) (hB : LamB z y fld two body)
    (hbind : ∀ (q : Str) (cl : List (Str × Addr)) (pm cv ctv v : Value), bindArgs (kla_fn "<lambda>" q params body scope cl pm cv ctv) ⟨[v], []⟩ = pure [(y, v)])
    (hN : X.N[jz]? = some z) (hσ : σ[jz]? = some (some (.ref p))) (hp : H p = some (.ins C dx fs)) (c : Cls X.K C) (n : NoAttr X.K C fld) (l : fs.lookup fld = some (.ref d)) (g : DGet H d v (some (.int lv))) (rv : RelV v u) (rx : Rep X.mg H B x v []) (px : x.pure = true) (dpx : x.dep 18 = true) (ek : keyOf two lv x = some k)
    (h : Heap) (tk : Nat) (kh : ∀ b o, s.heap.get? b = some o → h.get? b = some o)
    (dz : (z == ("__debug__" : Str)) = false := by decide) (cd : (z == ("__classdict__" : Str)) = false := by decide) (dy : (y == ("__debug__" : Str)) = false := by decide) :
    wpAny (model X.prog X.w) A' (call (.ref f) [u]) (KeyPure k.py { s with heap := h, toks := tk }) (fun _ _ => False) { s with heap := h, toks := tk } := by
  have I1 : Inv X pins σ H { s with heap := h, toks := tk } := I.kept kh
  obtain ⟨m0, hn0, hl0⟩ := I1.loc
  obtain ⟨uz, ruz, q⟩ := hl0 jz z (.ref p) hN hσ (.inr (.inl L.up))
  have euz : uz = Value.ref p := ruz
  subst euz
  obtain ⟨cz, hcz, hcell⟩ : ∃ cz, X.env.cells.lookup z = some cz ∧ h.IsCell cz (some (.ref p)) := by
    rcases q with ⟨q, _⟩ | ⟨_, q⟩
    · have q' : X.env.scope.names.lookup z = some .local := q
      rw [L.up] at q'; cases q'
    · exact q
  obtain ⟨as, ra⟩ := Dp.reads I x.py v u (dp_of 18 x v [] dpx rx) rv
  have has := reads_pure px ra
  subst has
  obtain ⟨oc, vs, qn, t, c1, c2, c3⟩ := hcd
  refine wpAny_call (lam_call (y := y) (s := { s with heap := h, toks := tk }) hd1 (kh _ _ hf) ⟨oc, vs, qn, t, kh _ _ c1, c2, c3⟩ L.kind L.co L.gen L.nc L.own (hbind _ _ _ _ _ _) I1.nolimit fun q L' h₁ tk' hns k1 => ?_)
  have khh : ∀ b o, s.heap.get? b = some o → h₁.get? b = some o := fun b o e => k1 b o (kh b o e)
  have I2 : Inv X pins σ H { s with heap := h₁, toks := tk' } := I.kept khh
  refine lam_body (s := { s with heap := h₁, toks := tk' }) (mg := X.mg) (B := B) hB (by show A'.units + 3 + 1 < cLine; omega) I2.hok I2.kIn L.kind L.cap (clo_get L.cap hcz) (by
    obtain ⟨o, ho, hd⟩ := hcell
    exact ⟨o, k1 _ _ ho, hd⟩) L.own hns (m := fun x => ([(y, u)] : List (Str × Value)).reverse.lookup x) (by simp) hp c n l g rv rx (PyProof.Rows.Reads.keeps khh ra) ek (fun h' tk2 r k2 rr => ?_) dz cd dy
  exact ⟨h', tk2, rfl, fun b o e => k2 b o (k1 b o e), rr⟩
end
end Ev

/-! Ev, part Pe: min(l, key=lambda ..), sorted(d, key=lambda ..). -/
namespace Ev
open PySem PySem.Spec L2
open PyProof.Rows hiding St
open PySem.W (KeyPure kla_obj kla_fn envX EachIs AllAlike Sortable alike dataLt dataLe)
def minLm (c f : Str) (two : Bool) (jz : Nat) (ml : En → Res D) : En → Res D := fun ρ => (ml ρ).bind fun l => (mvar jz ρ).bind fun o => Res.of (minLD c f two o.frz l.frz)
/-- what the making of this def's lambdas asks -/
structure LamC (X : Cx) (c P : Addr) : Prop where
  tb : LamX.TabB X.base X.mg c P
  code : X.env.code = .ref c
  mem : P ∈ tabsT
theorem itemOk_mem {xs : List D} (h : itemOk xs = true) {x : D} (m : x ∈ xs) : x.pure = true ∧ x.dep 18 = true := by
  have := List.all_eq_true.mp h x m
  simpa [Bool.and_eq_true] using this
theorem mvar_ok {i : Nat} {ρ : En} {d : D} (h : mvar i ρ = .ok d) : ρ[i]? = some (some d) := by
  unfold mvar at h
  split at h
  · rename_i e he
    cases h
    exact he
  · cases h
section
variable {X : Cx} {W : WX} {e : Expr} {fv : List Nat} {me : En → Res D} {p pos lpos kpos : Pos}
/-- the keyword key=lambda .. : the function is made -/
theorem kw_lam {pins : List (Addr × Obj)} {σ : St} {H : Hp} {s : Shared} {c0 P : Addr} {params : Arguments} {body : Expr} {scope : Scope} {y z : Str} {E : Value → Shared → Prop} {Q : List Value → Shared → Prop} (I : Inv X pins σ H s) (LC : LamC X c0 P) (L : LamP X.env.scope scope y z) (tab : TblAt H P) (hdef : defaultsOf params X.env = ([], []))
    (h : ∀ (f c' : Addr) (pm ctv : Value) (H1 : Hp) (s' : Shared), Inv X pins σ H1 s' → Same H H1 → s'.heap.get? f = some (kla_obj "<lambda>" (X.env.qual ++ "<lambda>") params body scope (cloFrom X.env.cells scope.names []) pm c' ctv) → CodeN s'.heap c' → Q [.ref f] s') :
    wpAny (model X.prog X.w) X.A (evalAll ((backToKw pos (keywordEach [⟨some "key", .Lambda params body scope lpos, kpos⟩] X.env)).map (·.2))) Q E s := by
  show wpAny _ _ (evalAll ((do let v ← eval (.Lambda params body scope lpos) X.env; standAt pos; pure v) :: [])) _ _ s
  refine wpAny_evalAll_cons (wpAny_bind (lam_mk I LC.tb LC.code tab hdef (L.has I.ok) fun f c' pm ctv H1 s' I1 sm hf hc => wpAny_bind (wpAny_standAt (wpAny_pure (wpAny_evalAll_nil (h f c' pm ctv H1 s' I1 sm hf hc))))))
theorem de_minL {c0 P C : Addr} {cn y z fld : Str} {two : Bool} {params : Arguments} {body : Expr} {scope : Scope} {jz : Nat} (LC : LamC X c0 P) (hc : X.calm = true) (hr : Room 1 X.A) (hm : X.mg "min" = none) (hC : X.mg cn = some (.ref C)) (cl : Cls X.K C) (na : NoAttr X.K C fld) (he : DE X W e fv me) (L : LamP X.env.scope scope y z) (hB : LamB z y fld two body)
    (hbind : ∀ (q : Str) (cl : List (Str × Addr)) (pm cv ctv v : Value), bindArgs (kla_fn "<lambda>" q params body scope cl pm cv ctv) ⟨[v], []⟩ = pure [(y, v)]) (hN : X.N[jz]? = some z := by rfl) (hdef : defaultsOf params X.env = ([], []) := by rfl) (hg : Gl X "min" := by rfl)
    (dz : (z == ("__debug__" : Str)) = false := by decide) (cd : (z == ("__classdict__" : Str)) = false := by decide) (dy : (y == ("__debug__" : Str)) = false := by decide)
    (hs : starEach [e] X.env = (false, eval e X.env) :: starEach [] X.env := by rfl)
    (he' : backTo pos (starEach [e] X.env) = (false, eval e X.env) :: backTo pos (starEach [] X.env) := by rfl) (hpl : (backTo pos (starEach [e] X.env)).any (·.1) = false := by rfl)
    (hall : (backToKw pos (keywordEach [⟨some "key", .Lambda params body scope lpos, kpos⟩] X.env)).all (·.1.isSome) = true := by rfl) (hnone : (backToKw pos (keywordEach [⟨some "key", .Lambda params body scope lpos, kpos⟩] X.env)).any (·.1.isNone) = false := by rfl) (hks : (backToKw pos (keywordEach [⟨some "key", .Lambda params body scope lpos, kpos⟩] X.env)).filterMap (·.1) = [("key" : Str)] := by rfl) :
    DE X W (.Call (.Name "min" p) [e] [⟨some "key", .Lambda params body scope lpos, kpos⟩] pos) (fv ++ [jz]) (minLm cn fld two jz me) := by
  refine ⟨fun pins s σ H Q I h => ?_⟩
  obtain ⟨ρ, B, en, bd, hp⟩ := h
  refine wpAny_Call_Name_kw (ld_blt (u := .builtin "min") I hg hm (by decide +kernel) ?_ (by decide) (by decide))
  refine PyProof.Rows.callWith_kw (thn ((pa_cons he pa_nil hs).run pos pins s σ H (fun vs H1 => ∃ v x as, vs = [v] ∧ me ρ = .ok x ∧ Bnd H1 ∧ Same H H1 ∧ Rep X.mg H1 B x v as ∧ (∀ a ∈ as, H a = none) ∧ Post (Rep X.mg) W X.mg B σ H1 ((mvar jz ρ).bind fun o => Res.of (minLD cn fld two o.frz x.frz)) Q) I ?_) fun us s1 ⟨vs, H1, I1, r1, v, x, as, e1, ex, bn1, s01, rx, fx, hp1⟩ => ?_) he' hpl hall hnone
  · exact Tv.bind en.l bd hp fun x ex v H1 as bn1 s1 r1 f1 n1 hp1 => ⟨v, x, as, rfl, ex, bn1, s1, r1, f1, hp1⟩
  subst e1
  obtain ⟨u, rfl, ru⟩ := vals1 r1
  have bd1 := bd.same s01
  have rxv := rx.view bd fx
  cases eo : mvar jz ρ with
  | ex _ => unfold mvar at eo; split at eo <;> cases eo
  | no => rw [eo] at hp1; exact hp1.elim
  | ok o =>
    rw [eo] at hp1
    have hp2 : Post (Rep X.mg) W X.mg B σ H1 (Res.of (minLD cn fld two o.frz x.frz)) Q := hp1
    cases em : minLD cn fld two o.frz x.frz with
    | none => rw [em] at hp2; exact hp2.elim
    | some d =>
      rw [em] at hp2
      generalize x.frz = xl at em rxv
      unfold minLD at em
      split at em
      · rename_i ow xs
        cases et : fldT cn fld o.frz with
        | none => rw [et] at em; cases em
        | some t =>
          rw [et] at em
          have em1 : ((keysL two t xs).bind fun ks => if xs ≠ [] ∧ itemOk xs = true ∧ sortOk ks = true then xs[PySem.argBest (MinK.btK (ks.map D.py)) (xs.length - 1)]? else none) = some d := em
          cases ek : keysL two t xs with
          | none => rw [ek] at em1; cases em1
          | some ks =>
            rw [ek] at em1
            have em2 : (if xs ≠ [] ∧ itemOk xs = true ∧ sortOk ks = true then xs[PySem.argBest (MinK.btK (ks.map D.py)) (xs.length - 1)]? else none) = some d := em1
            split at em2
            · rename_i hcond
              obtain ⟨hne, hit, hso⟩ := hcond
              obtain ⟨l, ws, rfl, hla, hrs, nb⟩ := rxv.lstE
              obtain ⟨vo, hvo, ro⟩ := (en.r.same s01) jz (by simp) o (mvar_ok eo)
              have rof := Rep.frz ro (fun _ _ z => z) (fun _ z => nomatch z)
              refine kw_lam I1 LC L (bd1.tab P LC.mem) hdef fun f c' pm ctv H2 s2 I2 s12 hf hcd => ?_
              rw [hks]
              have rof2 := rof.same s12
              obtain ⟨a, C', dx, fs, wt, evo, hC', ha, hl, rt⟩ := fld_rep et rof2
              rw [hC] at hC'
              cases hC'
              subst evo
              have rxs := hrs.same s12
              have hla2 : Rd H2 l (.lst ws) := Rd.imp (fun _ z => by cases z) (fun o h n => s12.kp _ o h n) hla
              obtain ⟨its, rv, hlo, _⟩ := I2.list (.inl hla2)
              have eu : u = Value.ref l := ru
              subst eu
              obtain ⟨kl1, kl2⟩ := keysL_get ek
              have hlen : its.length = xs.length := by rw [← rv.length, rxs.length]
              obtain ⟨so1, so2, so3⟩ := sortOk_iff hso
              refine MinK.min_key (K := 0) (kz := ks.map D.py) (I2.ok.hd hc) hlo.isList (by rw [hlen]; exact List.length_pos_iff.mpr hne) (by rw [List.length_map, kl1, hlen]) (fun a ha b hb => so2 a ha b hb) (fun k hk => ?_) (fun k hk => ?_) (fun i u k hi hk h tk kh => ?_) fun r h' tk' hr' kh => ?_
              · rcases so3 with z | z
                · obtain ⟨q1, q2, q3⟩ := z k hk
                  rw [q3]; intro z; cases z
                · exact (z k hk).1
              · obtain ⟨kd, hkd, rfl⟩ := List.mem_map.mp hk
                have := (dep_py 20 kd (so1 kd hkd)).2
                have := hr.un
                show X.A.units + 1 + _ < cLine
                omega
              · rw [List.getElem?_map] at hk
                cases ekd : ks[i]? with
                | none => rw [ekd] at hk; cases hk
                | some kd =>
                  rw [ekd] at hk
                  cases hk
                  obtain ⟨xi, hxi⟩ : ∃ xi, xs[i]? = some xi := ⟨_, List.getElem?_eq_getElem (by have := (List.getElem?_eq_some_iff.mp ekd).1; omega)⟩
                  obtain ⟨vi, hvi, rvi⟩ := rxs.get hxi
                  obtain ⟨ui, hui, rui⟩ := rv.get hvi
                  rw [hi] at hui
                  cases hui
                  obtain ⟨lv, elk, eky⟩ := kl2 i xi kd hxi ekd
                  obtain ⟨ad, ov, ewt, g, ro⟩ := look_rep elk rt rvi
                  subst ewt
                  cases ov with
                  | none => exact ro.elim
                  | some v' =>
                    have ro' : v' = .int lv ∧ _ := ro
                    rw [ro'.1] at g
                    obtain ⟨px, dx'⟩ := itemOk_mem hit (List.mem_of_getElem? hxi)
                    refine lam_turn I2 (by show X.A.depth < _; have := hr.dp; omega) (by show X.A.units + 1 + 5 < _; have := hr.un; omega) hf hcd L hB hbind hN hvo ha cl na hl g rui rvi px dx' eky h tk kh dz cd dy
              · rw [hlen] at hr'
                obtain ⟨vi, hvi, rvi⟩ := rxs.get em2
                obtain ⟨ui, hui, rui⟩ := rv.get hvi
                rw [hr'] at hui
                cases hui
                have I3 : Inv X pins σ H2 { s2 with heap := h', toks := tk' } := I2.kept kh
                exact ⟨vi, H2, I3, rui, hp2 vi H2 [] (bnd_of I3) s12 rvi (fun _ z => nomatch z) List.nodup_nil⟩
            · cases em2
      · cases em
end
end Ev

/-! Ev, part Pf: sorted(d, key=lambda ..), d a dict of tuples. -/
namespace Ev
open PySem PySem.Spec L2
open PyProof.Rows hiding St
open PySem.W (KeyPure kla_obj kla_fn envX EachIs AllAlike Sortable alike dataLt dataLe)
/-- the keys of a dict, by their own keys -/
def sortKD (c f : Str) (two : Bool) (o : D) : D → Option D
  | .node (.dct _ true ks) _ => (fldT c f o).bind fun t => (keysL two t (ks.map kyD)).bind fun zs => if itemOk (ks.map kyD) = true ∧ sortOk zs = true ∧ ks.length ≤ sizeLine then some (.lst true ((((ks.map kyD).zip zs).mergeSort (dataLe false fun p => p.2.py)).map (·.1))) else none
  | _ => none
def sortKm (c f : Str) (two : Bool) (jz : Nat) (ml : En → Res D) : En → Res D := fun ρ => (ml ρ).bind fun l => (mvar jz ρ).bind fun o => Res.of (sortKD c f two o.frz l.frz)
theorem each_zip {R : Value → D → Prop} : ∀ {us : List Value} {xs zs : List D}, EachIs R us xs → zs.length = xs.length → EachIs (fun u (p : D × D) => R u p.1) us (xs.zip zs)
  | _, _, [], .nil, _ => .nil
  | _, _, z :: zs, .nil, l => by cases l
  | _, _, [], .cons _ _, l => by cases l
  | _, _, z :: zs, .cons h t, l => .cons h (each_zip t (by simpa using l))
theorem each_fst {R : Value → D → Prop} : ∀ {us : List Value} {ps : List (D × D)}, EachIs (fun u (p : D × D) => R u p.1) us ps → EachIs R us (ps.map (·.1))
  | _, _, .nil => .nil
  | _, _, .cons h t => .cons h (each_fst t)
theorem zip_snd {α β : Type} : ∀ {xs : List α} {zs : List β}, zs.length = xs.length → (xs.zip zs).map (·.2) = zs
  | [], [], _ => rfl
  | [], _ :: _, l => by cases l
  | _ :: _, [], l => by cases l
  | x :: xs, z :: zs, l => by rw [List.zip_cons_cons, List.map_cons, zip_snd (by simpa using l)]
section
variable {X : Cx}
/-- sorted(.., key=f) of what can be collected -/
theorem sortedK_of_collect {pins : List (Addr × Obj)} {σ : St} {H : Hp} {s : Shared} {r q : Addr} {vs : List V} {xs zs : List D} {B : Addr → Prop} {Q : VK} (hr : Room 1 X.A) (I : Inv X pins σ H s)
    (hcol : ∀ {R : List Value → Shared → Prop}, (∀ (h' : Heap) (tk : Nat) (us : List Value), (∀ b o, s.heap.get? b = some o → h'.get? b = some o) → Vals vs us → R us { s with heap := h', toks := tk }) → wpAny (model X.prog X.w) X.A.in1 (collect (.ref r)) R X.xe s)
    (hrp : Reps X.mg H B xs vs []) (hit : itemOk xs = true) (hz : zs.length = xs.length) (ok : sortOk zs = true) (lz : xs.length ≤ sizeLine)
    (turn : ∀ (i : Nat) (v : V) (u : Value) (x k : D), xs[i]? = some x → zs[i]? = some k → RelV v u → Rep X.mg H B x v [] → ∀ (h : Heap) (tk : Nat), (∀ b o, s.heap.get? b = some o → h.get? b = some o) → wpAny (model X.prog X.w) X.A.in1.in1 (call (.ref q) [u]) (KeyPure k.py { s with heap := h, toks := tk }) (fun _ _ => False) { s with heap := h, toks := tk })
    (q' : ∀ (p : Addr) (ws : List V), H p = none → Bnd (upd H p (.lst ws)) → Reps X.mg H B (((xs.zip zs).mergeSort (dataLe false fun p => p.2.py)).map (·.1)) ws [] → Q (.ref p) (upd H p (.lst ws))) :
    wpAny (model X.prog X.w) X.A (call (.builtin "sorted") [.ref r] [(Str.ofString "key", .ref q)]) (EP X pins σ Q) X.xe s := by
  obtain ⟨c1, c2, c3⟩ := sortOk_iff ok
  refine call_function_entry_kw PyProof.Rows.kind_sorted PyProof.Rows.plain_sorted PyProof.Rows.entry_sorted (ksk_s1 _ _) ?_
  unfold Builtin.«sorted»
  refine wpAny_bind (m := checkCount "sorted" 1 1 _) (wpAny_pure ?_)
  refine wpAny_bind (hcol fun h' tk us hk rv => ?_)
  have hal : us.length = xs.length := by rw [← rv.length, hrp.length]
  have I1 : Inv X pins σ H { s with heap := h', toks := tk } := I.kept hk
  refine wpAny_bind (wpAny_newList ?_ (by rw [hal]; exact lz))
  have hoL : (h'.push (seqObj "list" us.toArray 0)).get? h'.objs.size = some (seqObj "list" us.toArray 0) := Heap.get?_push_size _ rfl
  have old : ∀ {g : Heap}, PySem.W.KeepsBut h'.objs.size (h'.push (seqObj "list" us.toArray 0)) g → ∀ b o, h'.get? b = some o → g.get? b = some o := fun kp b o e => kp b o (Nat.ne_of_lt (Heap.lt_size e)) (Heap.get?_push_of_some _ e)
  have ea := PySem.W.each_mem (each_of hrp rv)
  have ezip : EachIs (fun u (p : D × D) => ∃ v, RelV v u ∧ Rep X.mg H B p.1 v []) us (xs.zip zs) := each_zip (each_of hrp rv) hz
  have em : (xs.zip zs).map (fun p => p.2.py) = zs.map D.py := by
    rw [← zip_snd hz, List.map_map]
    rw [zip_snd hz]
    rfl
  have hL : (xs.zip zs).length ≤ sizeLine := by rw [List.length_zip, hz]; simpa using lz
  refine wpAny_bind (wpAny_holding (PySem.W.list_sort_key_data (β := D × D) (b := false) (fun p => p.2.py) (s := { s with heap := h'.push (seqObj "list" us.toArray 0), toks := tk }) hoL ezip (by rw [em]; exact c2) (by rw [em]; exact c3) hL (fun p hp => ?_) (ksk_l1 _ _) (ksk_t1 _ _) (fun u p hR hp h tk2 kp => ?_) fun out c h2 tk2 kp ho hl eo => ?_))
  · have := (dep_py 20 p.2 (c1 _ (List.of_mem_zip hp).2)).2
    have := hr.un
    show X.A.units + 1 + 1 + _ < cLine
    omega
  · obtain ⟨v, q1, q2⟩ := hR
    obtain ⟨i, hi, e1⟩ := List.mem_iff_getElem.mp hp
    have e2 : (xs.zip zs)[i]? = some p := by rw [List.getElem?_eq_getElem hi, e1]
    rw [List.getElem?_zip_eq_some] at e2
    have := turn i v u p.1 p.2 e2.1 e2.2 q1 q2 h tk2 fun b o e => old kp b o (hk b o e)
    exact this
  · obtain ⟨ws, k1, k2⟩ := of_each (each_fst eo)
    have hlen : ws.length ≤ sizeLine := by rw [k1.length, hl]; exact hL
    have np := I1.hok.fresh (Nat.le_refl h'.objs.size)
    have I9 := I1.laid (t' := tk2) (fun b u e => old kp b u e) (Nat.le_refl _) (show ObjOk X.prog X.w (upd H h'.objs.size (.lst ws)) h2 h'.objs.size (.lst ws) from ⟨hlen, out, c, k1, ho⟩)
    exact wpAny_pure ⟨_, rfl, .ref h'.objs.size, upd H h'.objs.size (.lst ws), I9, rfl, q' _ ws np (bnd_of I9) k2⟩
variable {W : WX} {e : Expr} {fv : List Nat} {me : En → Res D} {p pos lpos kpos : Pos}
theorem de_sortK {c0 P C : Addr} {cn y z fld : Str} {two : Bool} {params : Arguments} {body : Expr} {scope : Scope} {jz : Nat} (LC : LamC X c0 P) (hc : X.calm = true) (hr : Room 1 X.A) (hm : X.mg "sorted" = none) (hC : X.mg cn = some (.ref C)) (cl : Cls X.K C) (na : NoAttr X.K C fld) (he : DE X W e fv me) (L : LamP X.env.scope scope y z) (hB : LamB z y fld two body)
    (hbind : ∀ (q : Str) (cl : List (Str × Addr)) (pm cv ctv v : Value), bindArgs (kla_fn "<lambda>" q params body scope cl pm cv ctv) ⟨[v], []⟩ = pure [(y, v)]) (hN : X.N[jz]? = some z := by rfl) (hdef : defaultsOf params X.env = ([], []) := by rfl) (hg : Gl X "sorted" := by rfl)
    (dz : (z == ("__debug__" : Str)) = false := by decide) (cd : (z == ("__classdict__" : Str)) = false := by decide) (dy : (y == ("__debug__" : Str)) = false := by decide)
    (hs : starEach [e] X.env = (false, eval e X.env) :: starEach [] X.env := by rfl)
    (he' : backTo pos (starEach [e] X.env) = (false, eval e X.env) :: backTo pos (starEach [] X.env) := by rfl) (hpl : (backTo pos (starEach [e] X.env)).any (·.1) = false := by rfl)
    (hall : (backToKw pos (keywordEach [⟨some "key", .Lambda params body scope lpos, kpos⟩] X.env)).all (·.1.isSome) = true := by rfl) (hnone : (backToKw pos (keywordEach [⟨some "key", .Lambda params body scope lpos, kpos⟩] X.env)).any (·.1.isNone) = false := by rfl) (hks : (backToKw pos (keywordEach [⟨some "key", .Lambda params body scope lpos, kpos⟩] X.env)).filterMap (·.1) = [("key" : Str)] := by rfl) :
    DE X W (.Call (.Name "sorted" p) [e] [⟨some "key", .Lambda params body scope lpos, kpos⟩] pos) (fv ++ [jz]) (sortKm cn fld two jz me) := by
  refine ⟨fun pins s σ H Q I h => ?_⟩
  obtain ⟨ρ, B, en, bd, hp⟩ := h
  refine wpAny_Call_Name_kw (ld_blt (u := .builtin "sorted") I hg hm (by decide +kernel) ?_ (by decide) (by decide))
  refine PyProof.Rows.callWith_kw (thn ((pa_cons he pa_nil hs).run pos pins s σ H (fun vs H1 => ∃ v x as, vs = [v] ∧ me ρ = .ok x ∧ Bnd H1 ∧ Same H H1 ∧ Rep X.mg H1 B x v as ∧ (∀ a ∈ as, H a = none) ∧ Post (Rep X.mg) W X.mg B σ H1 ((mvar jz ρ).bind fun o => Res.of (sortKD cn fld two o.frz x.frz)) Q) I ?_) fun us s1 ⟨vs, H1, I1, r1, v, x, as, e1, ex, bn1, s01, rx, fx, hp1⟩ => ?_) he' hpl hall hnone
  · exact Tv.bind en.l bd hp fun x ex v H1 as bn1 s1 r1 f1 n1 hp1 => ⟨v, x, as, rfl, ex, bn1, s1, r1, f1, hp1⟩
  subst e1
  obtain ⟨u, rfl, ru⟩ := vals1 r1
  have bd1 := bd.same s01
  have rxv := rx.view bd fx
  cases eo : mvar jz ρ with
  | ex _ => unfold mvar at eo; split at eo <;> cases eo
  | no => rw [eo] at hp1; exact hp1.elim
  | ok o =>
    rw [eo] at hp1
    have hp2 : Post (Rep X.mg) W X.mg B σ H1 (Res.of (sortKD cn fld two o.frz x.frz)) Q := hp1
    cases em : sortKD cn fld two o.frz x.frz with
    | none => rw [em] at hp2; exact hp2.elim
    | some d =>
      rw [em] at hp2
      generalize x.frz = xl at em rxv
      unfold sortKD at em
      split at em
      · rename_i ow ks ys
        cases et : fldT cn fld o.frz with
        | none => rw [et] at em; cases em
        | some t =>
          rw [et] at em
          have em1 : ((keysL two t (ks.map kyD)).bind fun zs => if itemOk (ks.map kyD) = true ∧ sortOk zs = true ∧ ks.length ≤ sizeLine then some (D.lst true ((((ks.map kyD).zip zs).mergeSort (dataLe false fun p => p.2.py)).map (·.1))) else none) = some d := em
          cases ek : keysL two t (ks.map kyD) with
          | none => rw [ek] at em1; cases em1
          | some zs =>
            rw [ek] at em1
            have em2 : (if itemOk (ks.map kyD) = true ∧ sortOk zs = true ∧ ks.length ≤ sizeLine then some (D.lst true ((((ks.map kyD).zip zs).mergeSort (dataLe false fun p => p.2.py)).map (·.1))) else none) = some d := em1
            split at em2
            · rename_i hcond
              obtain ⟨hit, hso, hlz⟩ := hcond
              cases em2
              obtain ⟨vo, hvo, ro⟩ := (en.r.same s01) jz (by simp) o (mvar_ok eo)
              have rof := Rep.frz ro (fun _ _ z => z) (fun _ z => nomatch z)
              refine kw_lam I1 LC L (bd1.tab P LC.mem) hdef fun f c' pm ctv H2 s2 I2 s12 hf hcd => ?_
              rw [hks]
              have rof2 := rof.same s12
              obtain ⟨a, C', dx, fs, wt, evo, hC', ha, hl, rt⟩ := fld_rep et rof2
              rw [hC] at hC'
              cases hC'
              subst evo
              have bd2 := bd1.same s12
              have rx2 := rxv.same s12
              obtain ⟨a0, ws, uo, rfl, l, dd, rd, rr, _⟩ := rx2.dctE
              have lw := rr.length
              have eu : u = Value.ref a0 := ru
              subst eu
              have lz : (ks.map kyD).length ≤ sizeLine := by rw [List.length_map]; exact hlz
              obtain ⟨kl1, kl2⟩ := keysL_get ek
              obtain ⟨k', rfl, rfl⟩ := dd
              rw [List.length_map] at l
              obtain ⟨z, hs9, kz, pr, ob, es, ep, ho, hx, hdt, hes, hn⟩ := (show ObjOk X.prog X.w H2 s2.heap a0 (.dT (k'.zip ws)) from rd.ok I2.hok)
              have l1 : es.size = kz.length := size_of_entries hes
              have l2 : (k'.zip ws).length = kz.length := Paired.length pr
              refine sortedK_of_collect (q := f) (zs := zs) (vs := (kz.map fun x => x.2.1).map V.ref) (B := B) hr I2 (fun {R} hR => PySem.W.kdu_collect (A := X.A.in1) (kdl_raw hs9 hx hdt) (I2.ok.hd hc) ho (by rw [l1, ← l2]; exact z) fun h' tk acc hk it => hR h' tk _ hk ?_) (reps_keysT bd2 (by omega) (isKeys_of pr)) hit kl1 hso lz (fun i v u x k hxi hki rv rvi h tk kh => ?_)
                fun p ws' np bn9 hr' => hp2 _ _ [p] bn9 (s12.trans (same_new np)) (rep_newlst np hr') (fun b hb => by rw [List.mem_singleton.mp hb]; exact s12.free np) nodup1
              · have ea : acc.toList = kz.map fun x => Value.ref x.2.1 := by
                  have hl : acc.toList.length = kz.length := by rw [Array.length_toList, it.1]; exact l1
                  apply List.ext_getElem?
                  intro j
                  rw [List.getElem?_map]
                  cases hj : acc.toList[j]? with
                  | none =>
                    have h1 := List.getElem?_eq_none_iff.mp hj
                    rw [List.getElem?_eq_none (by omega)]
                    all_goals rfl
                  | some v =>
                    obtain ⟨en, hen, hv⟩ := it.2 j v (by rw [← Array.getElem?_toList]; exact hj)
                    have qe := entry_at hes j
                    rw [hen] at qe
                    cases hb : kz[j]? with
                    | none =>
                      rw [hb] at qe
                      exact nomatch (show some en = none from qe)
                    | some b =>
                      rw [hb] at qe
                      have e2 : en = entryOfKey (tupleKind (mixKind X.prog X.w)) b := Option.some.inj qe
                      rw [hv, e2]
                      all_goals rfl
                rw [show acc.toList = (kz.map fun x => x.2.1).map Value.ref from by rw [ea, List.map_map]; all_goals rfl]
                exact vals_refs _
              · obtain ⟨lv, elk, eky⟩ := kl2 i x k hxi hki
                obtain ⟨ad, ov, ewt, g, ro⟩ := look_rep elk rt rvi
                subst ewt
                cases ov with
                | none => exact ro.elim
                | some v' =>
                  have ro' : v' = .int lv ∧ _ := ro
                  rw [ro'.1] at g
                  obtain ⟨px, dx'⟩ := itemOk_mem hit (List.mem_of_getElem? hxi)
                  exact lam_turn I2 (by show X.A.depth < _; have := hr.dp; omega) (by show X.A.units + 1 + 1 + 5 < _; have := hr.un; omega) hf hcd L hB hbind hN hvo ha cl na hl g rv rvi px dx' eky h tk kh dz cd dy
            · cases em2
      · cases em
end
end Ev

/-! Ev, part Pg: fields of instances: read, their dicts changed. -/
namespace Ev
open PySem PySem.Spec L2
open PyProof.Rows hiding St
section
variable {X : Cx} {F : Fr} {W : WX} {e a b c : Expr} {fv fa fb : List Nat} {me ma mb : En → Res D} {pos p1 p2 p3 apos cpos : Pos} {i j : Nat} {x y cn fld : Str}
/-- e.f -/
theorem de_fld {C : Addr} (hC : X.mg cn = some (.ref C)) (cl : Cls X.K C) (na : NoAttr X.K C fld) (he : DE X W e fv me) (hb : attributeBase e fld X.env (eval e X.env) = eval e X.env := by rfl) : DE X W (.Attribute e fld pos) fv (un (fldT cn fld) me) := by
  refine PE.mk (pe_fld he hb) fun σ H Q bn ⟨ρ, B, en, bd, hp⟩ => ?_
  refine Tv.bind en bd hp fun x ex v H1 as bn1 s1 r1 f1 n1 hp1 => ?_
  have hp2 : Post (Rep X.mg) W X.mg B σ H1 (Res.of (fldT cn fld x.frz)) Q := hp1
  cases ef : fldT cn fld x.frz with
  | none => rw [ef] at hp2; exact hp2.elim
  | some t =>
    rw [ef] at hp2
    obtain ⟨a, C', dx, fs, w, rfl, hC', ha, hl, rt⟩ := fld_rep ef (r1.view bd f1)
    rw [hC] at hC'
    cases hC'
    exact ⟨a, C, dx, fs, w, rfl, ha, cl, na, hl, fun bn' => hp2 w H1 [] bn' (Same.refl _) rt (fun _ z => nomatch z) List.nodup_nil⟩
/-- what stands at one place of the node that the slot i sees, and owns, is changed -/
theorem BI.nestV {ω : Own} {ρ : En} {σ : St} {H : Hp} {t tin : Tag} {xs ys : List D} {n : Nat} (b : BI X F ω ρ σ H) (hi : i < X.N.length) (ht : t.own = false) (hti : tin.own = true) (e : ρ[i]? = some (some (.node t xs))) (hn : xs[n]? = some (.node tin ys)) (py : pures ys = true) :
    ∃ a vs l ws, σ[i]? = some (some (.ref a)) ∧ Head X.mg H a vs t ∧ xs.length = vs.length ∧ vs[n]? = some (.ref l) ∧ Head X.mg H l ws tin ∧ Reps X.mg H (fun c => ω c ≠ none) ys ws [] ∧ ω l = some i ∧ ∀ H' tin' ys' ws' u, Same H H' → tin'.own = true → pures ys' = true → Head X.mg (upd H' l u) l ws' tin' → (∀ xs, u ≠ .tup xs) → Reps X.mg H' (fun c => ω c ≠ none) ys' ws' [] →
      ∃ ω', BI X F ω' (ρ.set i (some (.node t (xs.set n (.node tin' ys'))))) σ (upd H' l u) ∧ Step X ω H ω' (upd H' l u) := by
  obtain ⟨v1, cs, h1, hrep, h4, h5⟩ := b.env i _ e
  rw [Rep] at hrep
  obtain ⟨a, vs, bs0, rfl, hd, h3, q0⟩ := hrep
  obtain ⟨ha0, hcs⟩ : ω a = none ∧ cs = bs0 := by
    rcases q0 with ⟨q, _⟩ | ⟨_, q1, q2⟩
    · rw [ht] at q; cases q
    · exact ⟨Classical.not_not.mp q1, q2⟩
  subst hcs
  obtain ⟨v0, bs, q1, q2, q3, q4⟩ := h3.at_ hn
  rw [Rep] at q2
  obtain ⟨l, ws, bs', rfl, hl1, hr1, q⟩ := q2
  have hbs := Reps.purev py hr1
  subst hbs
  have hbl : bs = [l] := by
    rcases q with ⟨_, q⟩ | ⟨q, _⟩
    · exact q
    · rw [hti] at q; cases q
  subst hbl
  have hlc : l ∈ cs := q4 l List.mem_cons_self
  have hωl : ω l = some i := h5 l hlc
  have hal : a ≠ l := fun z => by rw [z, hωl] at ha0; cases ha0
  refine ⟨a, vs, l, ws, h1, hd, h3.length, q1, hl1, hr1, hωl, fun H' tin' ys' ws' u s hti' py' hd' nt' rv => ?_⟩
  have hkk : ∀ c o, H c = some o → c ≠ l → NTb o → upd H' l u c = some o := fun c o h hc n => by rw [upd_ne hc]; exact s.kp c o h n
  have rnew : Rep X.mg (upd H' l u) (fun c => ω c ≠ none) (.node tin' ys') (.ref l) [l] := by
    rw [Rep]
    refine ⟨l, ws', [], rfl, hd', ?_, .inl ⟨hti', rfl⟩⟩
    refine Reps.step rv (fun c o h hc => ?_) fun _ _ z => z
    rw [upd_ne]
    · exact h
    · rintro rfl
      rcases hc with hc | hc
      · cases hc
      · exact hc (by rw [hωl]; intro z; cases z)
  have rn := Reps.nest (mg := X.mg) (H := H) (H1 := upd H' l u) (B := fun c => ω c ≠ none) (l := l) (old := .node tin ys) (new := .node tin' ys') hkk (by rw [hωl]; intro z; cases z) (fun bs rb => by
    rw [Rep] at rb
    obtain ⟨l', ws', bs', e1, _, hr', q⟩ := rb
    cases e1
    have := Reps.purev py hr'
    subst this
    rcases q with ⟨_, q⟩ | ⟨q, _⟩
    · exact q
    · rw [hti] at q; cases q) rnew h3 h4 hn q1
  have hal' : ∀ o, H a = some o → NTb o → upd H' l u a = some o := fun o h n => hkk a o h hal n
  have sn : ∀ c, ω c = none → setO cs i ω c = none := fun c e0 => by
    unfold setO
    rw [if_neg (fun z => by rw [h5 c z] at e0; cases e0), e0]
    simp
  have key := b.put (H1 := upd H' l u) (d := .node t (xs.set n (.node tin' ys'))) (v := .ref a) (as := cs) hi (fun c o h hc n => hkk c o h (by rintro rfl; exact hc hωl) n) (fun c h => by
      by_cases hc : c = l
      · subst hc; rw [upd_same]; intro z; cases z
      · rw [upd_ne hc]; exact Same.there s h) (b.tu hωl hi s) (by
      rw [Rep]
      exact ⟨a, vs, cs, rfl, Head.imp hal' hd, Reps.step rn (fun _ _ z _ => z) (fun c h1 h2 h3 => h3 (sn c (Classical.not_not.mp h2))), .inr ⟨ht, fun z => z (sn a ha0), rfl⟩⟩) h4 (fun c hc => .inl (h5 c hc)) (fun c hc => by
      by_cases hcl : c = l
      · subst hcl; exact ⟨_, upd_same, nt'⟩
      · obtain ⟨o', ho', t'⟩ := b.dom c i (h5 c hc)
        exact ⟨o', hkk c o' ho' hcl (b.pl c i (h5 c hc) (Nat.ne_of_lt hi) o' ho').1, t'⟩)
  rw [set_self h1] at key
  exact ⟨_, key⟩
/-- the place of a field -/
def fldIx (f : Str) : List Str → Option Nat
  | [] => none
  | n :: ns => if n = f then some 0 else (fldIx f ns).map (· + 1)
theorem fldIx_get {f : Str} {v : V} : ∀ {ns : List Str} {vs : List V} {n : Nat}, fldIx f ns = some n → vs[n]? = some v → (ns.zip vs).lookup f = some v
  | [], _, _, h, _ => by cases h
  | m :: ns, [], _, _, h => by simp at h
  | m :: ns, w :: vs, n, h, e => by
    unfold fldIx at h
    rw [List.zip_cons_cons, List.lookup_cons]
    split at h
    · rename_i hm
      cases h
      rw [hm]
      simp at e ⊢
      exact e
    · rename_i hm
      cases er : fldIx f ns with
      | none => rw [er] at h; cases h
      | some k =>
        rw [er] at h
        cases h
        have : (f == m) = false := by simpa using fun z => hm z.symm
        rw [this]
        exact fldIx_get er (by simpa using e)
/-- o.f[k] = e, the field a dict of pure values that is changed for the caller -/
def mfput (i : Nat) (cn fld : Str) (mk mv : En → Res D) : En → Out := fun ρ => match ρ[i]? with
  | some (some (.node (.ins false c ns) xs)) => if c = cn then (match fldIx fld ns with
      | some n => (match xs[n]? with
        | some (.node (.io ad t ks) ys) => if pures ys = true ∧ ks.Nodup ∧ ks.length < sizeLine then thenE (mv (frzE ρ)) ρ fun v => if v.pure = true then thenE (mk (frzE ρ)) ρ fun k => match keyD k.frz with
            | some q => if Kd t q = true then .nx (ρ.set i (some (.node (.ins false c ns) (xs.set n (.node (.io ad t (putT ks ys q v).1) (putT ks ys q v).2))))) else .no
            | none => .no
          else .no
          else .no
        | _ => .no)
      | none => .no) else .no
  | _ => .no
theorem pures_putT {ks : List Ky} {ys : List D} {q : Ky} {v : D} (h : pures ys = true) (hv : v.pure = true) : pures (putT ks ys q v).2 = true := by
  unfold putT
  rw [pures_all] at h ⊢
  cases idxG ks q with
  | some n =>
    refine List.all_eq_true.mpr fun x hx => ?_
    rcases List.mem_or_eq_of_mem_set hx with z | z
    · exact List.all_eq_true.mp h x z
    · rw [z]; exact hv
  | none =>
    show (ys ++ [v]).all D.pure = true
    rw [List.all_append, h]
    simp [hv]
theorem ds_fput {C : Addr} (hu : X.A.units + 1 < cLine) (hC : X.mg cn = some (.ref C)) (cl : Cls X.K C) (na : NoAttr X.K C fld) (he : DE X W e fv me) (hk : DE X W a fa ma) (hi : X.N[i]? = some x := by rfl) (hv : Vis X.env.scope x := by first | exact Or.inl rfl | exact Or.inr (Or.inl rfl) | exact Or.inr (Or.inr rfl)) (hd : (x == ("__debug__" : Str)) = false := by decide) (hcd : (x == ("__classdict__" : Str)) = false := by decide)
    (hb : attributeBase (.Name x p1) fld X.env (eval (.Name x p1) X.env) = eval (.Name x p1) X.env := by rfl) (hs : swapsWith e (some (.Subscript (.Attribute (.Name x p1) fld apos) a p2)) pos.line X.env = pure false := by rfl) :
    DS X F W (.Assign [.Subscript (.Attribute (.Name x p1) fld apos) a p2] e pos) (mfput i cn fld ma me) := by
  refine PS.mk (ps_dput hu (pe_fld (pe_var hi hv hd hcd) hb) hk he hs) fun D σ H bn ⟨ω, ρ, b, hp⟩ => ?_
  unfold mfput at hp
  split at hp
  · rename_i c ns xs ex
    split at hp
    · rename_i hcn
      subst hcn
      split at hp
      · rename_i n en
        split at hp
        · rename_i ad t ks ys ey
          split at hp
          · rename_i hcond
            obtain ⟨py, hnd, hlt⟩ := hcond
            refine b.eval hp fun v ev vv H1 as bn1 s1 r1 f1 n1 hp1 b1 => ?_
            split at hp1
            · rename_i pv
              have has : as = [] := Rep.purev pv r1
              subst has
              obtain ⟨a0, vs, l, ws, g1, g2, g3, g4, g5, g6, g8, g9⟩ := b1.nestV (ltN hi) rfl rfl ex ey py
              obtain ⟨hvl, C', dx, hC', ha0⟩ := g2
              rw [hC] at hC'
              cases hC'
              refine ⟨.ref a0, g1, a0, C, dx, ns.zip vs, .ref l, rfl, ha0, cl, na, fldIx_get en g4, b1.eval hp1 fun k ek y H3 bs bn3 s3 r3 f3 n3 hp3 b3 => ?_⟩
              have hp3' : PostS X F W ω H1 (match keyD k.frz with
                | some q => if Kd t q = true then .nx (ρ.set i (some (.node (.ins false c ns) (xs.set n (.node (.io ad t (putT ks ys q v).1) (putT ks ys q v).2))))) else .no
                | none => .no) D := by rw [ek] at hp1; exact hp1
              split at hp3'
              · rename_i q eq
                split at hp3'
                · rename_i hKd
                  have rk := key_rep eq (r3.view (b1.bdom fa) f3)
                  have hd3 : Head X.mg H3 l ws (.dct true t ks) := Head.imp (fun o h n => s3.kp _ _ h n) (show Head X.mg H1 l ws (.dct true t ks) from g5.2)
                  have el : l = ad := g5.1
                  obtain ⟨u, d1, d2, d3⟩ := dput_core (v := vv) hd3 hKd hnd hlt rk
                  have rvv : Rep X.mg H3 (fun c => ω c ≠ none) v vv [] := Rep.unsh (fun c hc xs z => by
                    exact b3.nt c hc xs z) (Ev.D.pure_shr _ pv) (r1.same s3)
                  obtain ⟨ds, w1, w2, w3⟩ := rep_putT (ks := ks) (k := q) (d := v) (v := vv) (fun c => ω c ≠ none) [] [] (g6.same s3) rvv List.nodup_nil List.nodup_nil (fun _ z => nomatch z)
                  have hds : ds = [] := Reps.purev (pures_putT py pv) w1
                  subst hds
                  obtain ⟨ω', b4, s4⟩ := g9 H3 (.io ad t (putT ks ys q v).1) (putT ks ys q v).2 (putW ks ws q vv) u s3 rfl (pures_putT py pv) ⟨el, by rw [putT_fst]; exact d2⟩ d3 w1
                  exact ⟨l, _, rfl, d1, hp3' ω' σ _ b4 s4⟩
                · exact hp3'.elim
              · exact hp3'.elim
            · exact hp1.elim
          · exact hp.elim
        · exact hp.elim
      · exact hp.elim
    · exact hp.elim
  · exact hp.elim
end
end Ev

/-! Ev, part Ph: a method that changes the two dicts of its instance. -/
namespace Ev
open PySem PySem.Spec L2
open PyProof.Rows hiding St
/-- an instance whose two dicts are changed for the caller -/
abbrev selfIO (cn n1 n2 : Str) (d1 d2 : Addr) (k1 : List Ky) (y1 : List D) (k2 : List Ky) (y2 : List D) : D := .node (.ins false cn [n1, n2]) [.node (.io d1 true k1) y1, .node (.io d2 true k2) y2]
structure TwoD where
  k1 : List Ky
  y1 : List D
  k2 : List Ky
  y2 : List D
def spSp (mg : Str → Option Value) (N : Nat) (cn n1 n2 : Str) (m : En → Out) : Sp := fun vs H Q _ => ∃ (p d1 d2 C dx : Addr) (xs : List D) (us : List V) (B : Addr → Prop) (a b : TwoD) (w1 w2 : List V),
  vs = .ref p :: us ∧ xs.length = 2 ∧ mg cn = some (.ref C) ∧ H p = some (.ins C dx [(n1, .ref d1), (n2, .ref d2)]) ∧ d1 ≠ d2 ∧ ¬ B p ∧ ¬ B d1 ∧ ¬ B d2 ∧ BDom B H ∧
  pures a.y1 = true ∧ pures a.y2 = true ∧ pures b.y1 = true ∧ pures b.y2 = true ∧ Head mg H d1 w1 (.io d1 true a.k1) ∧ Reps mg H B a.y1 w1 [] ∧ Head mg H d2 w2 (.io d2 true a.k2) ∧ Reps mg H B a.y2 w2 [] ∧ Reps mg H (fun c => B c ∨ c = d1 ∨ c = d2) (frzs xs) us [] ∧
  (∃ ρ, m (ent N (selfIO cn n1 n2 d1 d2 a.k1 a.y1 a.k2 a.y2 :: frzs xs)) = .nx ρ ∧ ρ[0]? = some (some (selfIO cn n1 n2 d1 d2 b.k1 b.y1 b.k2 b.y2))) ∧
  ∀ H' w1' w2', (∀ c o, c ≠ d1 → c ≠ d2 → H c = some o → NTb o → H' c = some o) → TbK H H' → Head mg H' d1 w1' (.io d1 true b.k1) → Reps mg H' B b.y1 w1' [] → Head mg H' d2 w2' (.io d2 true b.k2) → Reps mg H' B b.y2 w2' [] → Q .non H'
section
variable {P : Program} {w : World} {K : PySem.W.Frag} {mg : Str → Option Value} {base : Heap}
theorem fn_of_bodySp {x qual cn n1 n2 : Str} {st : Stmt} {f : Addr} {fd : FuncData} {N ps : List Str} {k : Nat} {m : En → Out} (F : Fun K x qual st f fd) (S : FnScope N ps (defScope st)) (hl : ps.length ≤ N.length) (h3 : ps.length = 3)
    (hbody : ∀ (X : Cx) (Fr : Fr) (cdv : Value) (A : Around) (outer : List PySem.Env) (s : Shared) (H : Hp) (E : XK), X = cxOf (L2.CX P w) P w K mg base N qual (defScope st) f cdv A outer s H E → (∀ k, Fr.P0 k = none) → Room k X.A →
      Takes X (fun c od _ H' => E c od H') → PassesOwn (model X.prog X.w) X.A X.env X.xe → X.env.code = fd.code → DSs X Fr (fun c od _ H' => E c od H') (defBody st) m) :
    FnOk P w K mg base (L2.CX P w) (k + 1) f fd ps (spSp mg N.length cn n1 n2 m) := by
  refine F.okC S (fun vs H Q E ⟨p, d1, d2, C, dx, xs, us, B, a, b, w1, w2, h1, h2, _, _, _, _, _, _, _, _, _, _, _, _, _, _, _, hr, _⟩ => by
    rw [h1, h3, List.length_cons, ← hr.length, frzs_map, List.length_map, h2]) (fun cdv A outer s H vs Q E hcd hr h => ?_)
  obtain ⟨p, d1, d2, C, dx, xs, us, B, a, b, w1, w2, rfl, hxs, hC, hp, hne, nBp, nB1, nB2, bd, pa1, pa2, pb1, pb2, hd1, ra1, hd2, ra2, rus, ⟨ρ, em, ej⟩, hq⟩ := h
  have hb := hbody (cxOf (L2.CX P w) P w K mg base N qual (defScope st) f cdv A outer s H E) ⟨H, B, fun c => c = d1 ∨ c = d2, fun _ => none⟩ cdv A outer s H E rfl (fun _ => rfl) hr (takes_of rfl rfl rfl rfl) (passes_of (K := fun e s' => L2.CX P w outer H s E e s') rfl) hcd
  refine ⟨_, hb, ?_⟩
  have lN : 3 ≤ N.length := by omega
  have hfl : (frzs xs).length = 2 := by rw [frzs_map, List.length_map, hxs]
  have hul : us.length = 2 := by rw [← rus.length, hfl]
  obtain ⟨_, l1, u1, q1, e1⟩ := id hd1
  obtain ⟨_, l2, u2, q2, e2⟩ := id hd2
  have np1 : p ≠ d1 := fun z => by rw [z, e1] at hp; cases hp; exact absurd q1 (by rintro ⟨_, _, z⟩; cases z)
  have np2 : p ≠ d2 := fun z => by rw [z, e2] at hp; cases hp; exact absurd q2 (by rintro ⟨_, _, z⟩; cases z)
  have hB : ∀ c, B c → c ≠ d1 ∧ c ≠ d2 := fun c hc => ⟨fun z => nB1 (z ▸ hc), fun z => nB2 (z ▸ hc)⟩
  open Classical in
  refine ⟨fun c => if B c then some N.length else if c = d1 ∨ c = d2 then some 0 else none, ent N.length (selfIO cn n1 n2 d1 d2 a.k1 a.y1 a.k2 a.y2 :: frzs xs), ⟨?_, ?_, fun b o e _ _ => e, .refl, bd.tab, fun c hc o ho => ?_, fun c i e hi o ho => ?_, fun b h => h, fun c hc => if_pos hc, fun c i e => ?_, fun c i e => ?_, fun i d' e => ?_, fun _ _ z => by cases z⟩, ?_⟩
  · show (ent N.length (selfIO cn n1 n2 d1 d2 a.k1 a.y1 a.k2 a.y2 :: frzs xs)).length = N.length
    unfold ent; simp; omega
  · show (L2.start N (V.ref p :: us)).length = N.length
    unfold L2.start; simp; omega
  · have hc' : c = d1 ∨ c = d2 := hc
    have ho' : H c = some o := ho
    rcases hc' with hc' | hc'
    · rw [hc', e1] at ho'; cases ho'; exact Pl.dobj q1
    · rw [hc', e2] at ho'; cases ho'; exact Pl.dobj q2
  · have e' : (if B c then some N.length else if c = d1 ∨ c = d2 then some 0 else none) = some i := e
    have ho' : H c = some o := ho
    split at e'
    · cases e'; exact absurd rfl hi
    · split at e'
      · rename_i hc
        rcases hc with hc | hc
        · rw [hc, e1] at ho'; cases ho'; exact Pl.dobj q1
        · rw [hc, e2] at ho'; cases ho'; exact Pl.dobj q2
      · cases e'
  · have e' : (if B c then some N.length else if c = d1 ∨ c = d2 then some 0 else none) = some i := e
    split at e'
    · cases e'; exact .inl rfl
    · split at e'
      · exact .inr (.inr ‹_›)
      · cases e'
  · have e' : (if B c then some N.length else if c = d1 ∨ c = d2 then some 0 else none) = some i := e
    split at e'
    · rename_i hB; exact bd c hB
    · split at e'
      · rename_i hc
        rcases hc with hc | hc
        · exact ⟨u1, by rw [hc]; exact e1, q1.nt⟩
        · exact ⟨u2, by rw [hc]; exact e2, q2.nt⟩
      · cases e'
  · have hx := ent_get e
    have av : ∀ c, (fun c => (if B c then some N.length else if c = d1 ∨ c = d2 then some 0 else none) ≠ (none : Option Nat)) c → B c ∨ c = d1 ∨ c = d2 := fun c z => by
      by_cases hB : B c
      · exact .inl hB
      · by_cases hc : c = d1 ∨ c = d2
        · exact .inr hc
        · exact absurd (by simp [hB, hc]) z
    have ntp : ∀ c, (B c ∨ c = d1 ∨ c = d2) → ∀ xs, H c ≠ some (.tup xs) := fun c hc xs z => by
      rcases hc with hc | hc | hc
      · obtain ⟨o, ho, ht⟩ := bd c hc
        rw [ho] at z; exact ht xs (Option.some.inj z)
      · rw [hc, e1] at z; exact q1.nt xs (Option.some.inj z)
      · rw [hc, e2] at z; exact q2.nt xs (Option.some.inj z)
    match i, hx with
    | 0, hx =>
      cases hx
      refine ⟨.ref p, [d1, d2], start_get rfl, ?_, by simp [hne], fun c hc => ?_⟩
      · rw [Rep]
        refine ⟨p, [.ref d1, .ref d2], [d1, d2], rfl, ⟨rfl, C, dx, hC, hp⟩, ?_, .inr ⟨rfl, fun z => ?_, rfl⟩⟩
        · refine Reps.cons (as := [d1]) (bs := [d2]) ?_ (Reps.cons (as := [d2]) (bs := []) ?_ Reps.nil)
          · rw [Rep]
            exact ⟨d1, w1, [], rfl, hd1, Reps.unsh (fun c hc => ntp c (av c hc)) (pures_shr _ pa1) ra1, .inl ⟨rfl, rfl⟩⟩
          · rw [Rep]
            exact ⟨d2, w2, [], rfl, hd2, Reps.unsh (fun c hc => ntp c (av c hc)) (pures_shr _ pa2) ra2, .inl ⟨rfl, rfl⟩⟩
        · rcases av p z with z | z | z
          · exact nBp z
          · exact np1 z
          · exact np2 z
      · have hc' : c = d1 ∨ c = d2 := by simpa using hc
        have nBc : ¬ B c := fun z => hc'.elim (hB c z).1 (hB c z).2
        show (if B c then some N.length else if c = d1 ∨ c = d2 then some 0 else none) = some 0
        rw [if_neg nBc, if_pos hc']
    | n + 1, hx =>
      have hx' : (frzs xs)[n]? = some d' := by simpa using hx
      obtain ⟨v, hv, r⟩ := rus.get hx'
      exact ⟨v, [], start_get (by simpa using hv), r.step (fun _ _ z _ => z) fun c _ h z => h (av c z), List.nodup_nil, fun _ z => nomatch z⟩
  · rw [show m (ent N.length (selfIO cn n1 n2 d1 d2 a.k1 a.y1 a.k2 a.y2 :: frzs xs)) = .nx ρ from em]
    intro ω' σ' H' b' st
    obtain ⟨v1, as1, g1, g2, g3, g4⟩ := b'.env 0 _ ej
    rw [Rep] at g2
    obtain ⟨p', vs', bs', rfl, _, hr', q'⟩ := g2
    rw [Reps] at hr'
    obtain ⟨va, wa, b1, b2, rfl, rfl, hra, hrb⟩ := hr'
    rw [Reps] at hrb
    obtain ⟨vb, wb, b3, b4, rfl, rfl, hrb, _⟩ := hrb
    rw [Rep] at hra hrb
    obtain ⟨x1, wx1, c1, rfl, hx1, rx1, _⟩ := hra
    obtain ⟨x2, wx2, c2, rfl, hx2, rx2, _⟩ := hrb
    obtain ⟨rfl, _⟩ := id hx1
    obtain ⟨rfl, _⟩ := id hx2
    have hc1 := Reps.purev pb1 rx1
    subst hc1
    have hc2 := Reps.purev pb2 rx2
    subst hc2
    have wB : ∀ c, B c → ω' c ≠ none := fun c hc => by rw [b'.out c hc]; simp
    exact hq H' wx1 wx2 (fun c o hc1 hc2 ho n => b'.same c o ho (fun z => z.elim hc1 hc2) n) b'.ts hx1 (rx1.step (fun _ _ z _ => z) fun c _ h z => h (wB c z)) hx2 (rx2.step (fun _ _ z _ => z) fun c _ h z => h (wB c z))
end
end Ev

/-! Ev, part Pi: an instance is made: two dicts of one pair, then the method that changes them. -/
namespace Ev
open PySem PySem.Spec L2
open PyProof.Rows hiding St
open Classical in
/-- what the method leaves, wherever the dicts stand -/
noncomputable def spG (N : Nat) (cn n1 n2 : Str) (m : En → Out) (xs : List D) (a : TwoD) : Option TwoD :=
  if h : ∃ b : TwoD, pures b.y1 = true ∧ pures b.y2 = true ∧ ∀ d1 d2, ∃ ρ, m (ent N (selfIO cn n1 n2 d1 d2 a.k1 a.y1 a.k2 a.y2 :: xs)) = .nx ρ ∧ ρ[0]? = some (some (selfIO cn n1 n2 d1 d2 b.k1 b.y1 b.k2 b.y2)) then some (Classical.choose h) else none
theorem spG_spec {N : Nat} {cn n1 n2 : Str} {m : En → Out} {xs : List D} {a b : TwoD} (h : spG N cn n1 n2 m xs a = some b) : pures b.y1 = true ∧ pures b.y2 = true ∧ ∀ d1 d2, ∃ ρ, m (ent N (selfIO cn n1 n2 d1 d2 a.k1 a.y1 a.k2 a.y2 :: xs)) = .nx ρ ∧ ρ[0]? = some (some (selfIO cn n1 n2 d1 d2 b.k1 b.y1 b.k2 b.y2)) := by
  unfold spG at h
  split at h
  · rename_i hx
    cases h
    exact Classical.choose_spec hx
  · cases h
theorem spG_of {N : Nat} {cn n1 n2 : Str} {m : En → Out} {xs : List D} {a b : TwoD} (p1 : pures b.y1 = true) (p2 : pures b.y2 = true) (h : ∀ d1 d2, ∃ ρ, m (ent N (selfIO cn n1 n2 d1 d2 a.k1 a.y1 a.k2 a.y2 :: xs)) = .nx ρ ∧ ρ[0]? = some (some (selfIO cn n1 n2 d1 d2 b.k1 b.y1 b.k2 b.y2))) : spG N cn n1 n2 m xs a = some b := by
  have hx : ∃ b : TwoD, pures b.y1 = true ∧ pures b.y2 = true ∧ ∀ d1 d2, ∃ ρ, m (ent N (selfIO cn n1 n2 d1 d2 a.k1 a.y1 a.k2 a.y2 :: xs)) = .nx ρ ∧ ρ[0]? = some (some (selfIO cn n1 n2 d1 d2 b.k1 b.y1 b.k2 b.y2)) := ⟨b, p1, p2, h⟩
  have e : spG N cn n1 n2 m xs a = some (Classical.choose hx) := by unfold spG; rw [dif_pos hx]
  rw [e]
  obtain ⟨_, _, h2⟩ := Classical.choose_spec hx
  generalize Classical.choose hx = r at h2
  obtain ⟨ρ, e1, e2⟩ := h 0 1
  obtain ⟨ρ', e3, e4⟩ := h2 0 1
  rw [e1] at e3
  cases e3
  rw [e2] at e4
  have e5 := Option.some.inj (Option.some.inj e4)
  obtain ⟨k1, y1, k2, y2⟩ := r
  obtain ⟨l1, z1, l2, z2⟩ := b
  cases e5
  rfl
theorem Reps.flat {mg : Str → Option Value} {H H' : Hp} {B B' : Addr → Prop} : ∀ {xs : List D} {vs : List V} {as : List Addr}, (xs.all fun x => match x with | .node _ _ => false | _ => true) = true → Reps mg H B xs vs as → Reps mg H' B' xs vs as
  | [], _, _, _, h => by rw [Reps] at h ⊢; exact h
  | x :: xs, vs, as, p, h => by
    rw [List.all_cons, Bool.and_eq_true] at p
    rw [Reps] at h ⊢
    obtain ⟨v, ws, a1, a2, e1, e2, h1, h2⟩ := h
    refine ⟨v, ws, a1, a2, e1, e2, ?_, Reps.flat p.2 h2⟩
    cases x with
    | node _ _ => exact absurd p.1 (by simp)
    | non => exact h1
    | bl _ => exact h1
    | int _ => exact h1
    | str _ => exact h1
/-- the instance that is made -/
noncomputable def pourT (N : Nat) (cn n1 n2 : Str) (m : En → Out) (hd gd : D) : Option D := match keyD gd, ixD gd (.int 2) with
  | some (.inr q), some (.int z) => (spG N cn n1 n2 m [hd, gd] ⟨[.inr q], [.int z], [.inr q], [.non]⟩).map fun b => .node (.ins true cn [n1, n2]) [.node (.dct true true b.k1) b.y1, .node (.dct true true b.k2) b.y2]
  | _, _ => none
def spIn (mg : Str → Option Value) (cn : Str) (G : D → D → Option D) : Sp := fun vs H Q _ => ∃ (x C dx : Addr) (hv gv : V) (hd gd tree : D) (B : Addr → Prop), vs = [.ref x, hv, gv] ∧ mg cn = some (.ref C) ∧ H x = some (.ins C dx []) ∧ ¬ B x ∧ BDom B H ∧
  Rep mg H (fun c => B c ∨ c = x) hd hv [] ∧ Rep mg H (fun c => B c ∨ c = x) gd gv [] ∧ hd.frz = hd ∧ gd.frz = gd ∧ G hd gd = some tree ∧
  ∀ H' as, (∀ c o, c ≠ x → H c = some o → NTb o → H' c = some o) → TbK H H' → Rep mg H' B tree (.ref x) as → (∀ c ∈ as, c = x ∨ H c = none) → as.Nodup → Q .non H'
section
variable {P : Program} {w : World} {K : PySem.W.Frag} {mg : Str → Option Value} {base : Heap}
theorem fn_init {x qual cn n1 n2 mm s0 s1 s2 : Str} {st : Stmt} {f fS C : Addr} {fd fdS : FuncData} {psS : List Str} {N k : Nat} {m : En → Out} {p1 p2 p3 p4 p5 p6 p7 p8 q1 q2 q3 q4 q5 q6 r1 r2 r3 r4 r5 r6 : Pos} {j1 j2 : Nat} {pl : Addr → Value → Sem Bool}
    (F : Fun K x qual st f fd) (S : FnScope [s0, s1, s2] [s0, s1, s2] (defScope st))
    (hst : defBody st = [.Assign [.Attribute (.Name s0 p1) n1 p2] (.Dict [some (.Name s2 p3)] [.Subscript (.Name s2 p4) (.Constant (.int 2) j1 p5) p6] p7) p8,
      .Assign [.Attribute (.Name s0 q1) n2 q2] (.Dict [some (.Name s2 q3)] [.Constant .none j2 q4] q5) q6, .Expr (.Call (.Attribute (.Name s0 r1) mm r2) [.Name s1 r3, .Name s2 r4] [] r5) r6])
    (ht : ∀ (L : Addr) (cdv : Value), eval (.Call (.Attribute (.Name s0 r1) mm r2) [.Name s1 r3, .Name s2 r4] [] r5) (envOfC qual (defScope st) L f cdv) = (do
      let ov ← eval (.Name s0 r1) (envOfC qual (defScope st) L f cdv)
      standAt r2.atName
      let (f', first) ← holding [ov] (getMethod ov mm (pl L cdv))
      callWith r5 f' first (backTo r5 (starEach [.Name s1 r3, .Name s2 r4] (envOfC qual (defScope st) L f cdv))) (backToKw r5 (keywordEach [] (envOfC qual (defScope st) L f cdv)))))
    (hC : mg cn = some (.ref C)) (cl : Cls K C) (na1 : NoAttr K C n1) (na2 : NoAttr K C n2) (hm : Meth K C mm fS) (FS : FnOk P w K mg base (L2.CX P w) k fS fdS psS (spSp mg N cn n1 n2 m)) (bS : Binds K fdS psS [])
    (v0 : Vis (defScope st) s0) (v1 : Vis (defScope st) s1) (v2 : Vis (defScope st) s2) (d0 : (s0 == ("__debug__" : Str)) = false) (d1 : (s1 == ("__debug__" : Str)) = false) (d2 : (s2 == ("__debug__" : Str)) = false)
    (c0 : (s0 == ("__classdict__" : Str)) = false) (c1 : (s1 == ("__classdict__" : Str)) = false) (c2 : (s2 == ("__classdict__" : Str)) = false) (hne : n1 ≠ n2) (hm1 : (mm == n1) = false) (hm2 : (mm == n2) = false) (hn21 : (n2 == n1) = false) (hn12 : (n1 == n2) = false) :
    FnOk P w K mg base (L2.CX P w) (k + 1) f fd [s0, s1, s2] (spIn mg cn (pourT N cn n1 n2 m)) := by
  refine F.okX S (fun vs H Q E ⟨_, _, _, _, _, _, _, _, _, h1, _⟩ => by rw [h1]; rfl) (fun cdv A outer s H vs Q E hr h => ?_)
  obtain ⟨x, C', dx, hv, gv, hd, gd, tree, B, rfl, hC', hx, nBx, bd, rh, rg, fh, fg, eG, hq⟩ := h
  rw [hC] at hC'
  cases hC'
  have tk : Takes (cxOf (L2.CX P w) P w K mg base [s0, s1, s2] qual (defScope st) f cdv A outer s H E) (fun c od _ H' => E c od H') := takes_of rfl rfl rfl rfl
  have hu : (cxOf (L2.CX P w) P w K mg base [s0, s1, s2] qual (defScope st) f cdv A outer s H E).A.units + 1 < cLine := hu_of hr
  rw [hst]
  refine ⟨_, pss_cons (ps_fld (pe_var (i := 0) rfl v0 d0 c0) (de_dispT (W := fun c od _ H' => E c od H') hu (de_var (i := 2) rfl v2 d2 c2) (de_ix hu (de_var (i := 2) rfl v2 d2 c2) de_int)) (by rfl)) (pss_cons (ps_fld (pe_var (i := 0) rfl v0 d0 c0) (de_dispT (W := fun c od _ H' => E c od H') hu (de_var (i := 2) rfl v2 d2 c2) de_non) (by rfl))
    (pss_one (ps_expr (pe_meth (dvs := []) (E := fun _ _ _ => False) (pe_var (i := 0) rfl v0 d0 c0) cl hm FS hr bS .nil (passes_call tk fun _ _ _ _ z => z.elim) (pa_cons (pe_var (i := 1) rfl v1 d1 c1) (pa_cons (pe_var (i := 2) rfl v2 d2 c2) pa_nil)) (ht := ht _ _)) (by rfl)))), ?_⟩
  unfold pourT at eG
  split at eG
  · rename_i q z ek ei
    cases eb : spG N cn n1 n2 m [hd, gd] ⟨[.inr q], [.int z], [.inr q], [.non]⟩ with
    | none => rw [eb] at eG; cases eG
    | some b =>
      rw [eb] at eG
      cases eG
      obtain ⟨pb1, pb2, hrun⟩ := spG_spec eb
      have nt0 : ∀ {o : HO}, (∀ xs, o ≠ .tup xs) → ∀ xs, o ≠ .tup xs := fun h => h
      have bdx : ∀ {H' : Hp} {fs : List (Str × V)}, BDom B H' → H' x = some (.ins C dx fs) → BDom (fun c => B c ∨ c = x) H' := fun {H' fs} b e => b.of fun a z => z.elim (b a) fun z => ⟨.ins C dx fs, z ▸ e, fun _ z => by cases z⟩
      have em1 : mdispT (mvar 2) (bin ixD (mvar 2) (mk (.int 2))) [none, some hd, some gd] = .ok (.node (.dct true true [.inr q]) [.int z]) := by
        unfold mdispT bin mk
        rw [show mvar 2 [none, some hd, some gd] = .ok gd from rfl]
        simp only [Res.bind_ok, fg, ek, D.frz, ei, Res.of_some]
      have em2 : mdispT (mvar 2) (mk .non) [none, some hd, some gd] = .ok (.node (.dct true true [.inr q]) [.non]) := by
        unfold mdispT mk
        rw [show mvar 2 [none, some hd, some gd] = .ok gd from rfl]
        simp only [Res.bind_ok, fg, ek, D.frz]
      refine ⟨[none, some hd, some gd], fun c => B c ∨ c = x, fun i hi d hd' => ?_, bdx bd hx, ?_⟩
      · have : i = 2 := by simpa using hi
        subst this
        cases hd'
        exact ⟨gv, rfl, rg⟩
      rw [em1]
      intro v1 H1 as1 bn1 s1 r1 f1 n1'
      rw [Rep] at r1
      obtain ⟨e1, ws1, bs1, rfl, hd1, rr1, q1⟩ := r1
      have hb1 := Reps.purev rfl rr1
      subst hb1
      have ea1 : as1 = [e1] := by
        rcases q1 with ⟨_, q⟩ | ⟨q, _⟩
        · exact q
        · cases q
      subst ea1
      have hx1 := s1 _ _ hx
      have ne1 : e1 ≠ x := fun z => by have := f1 e1 (by simp); rw [z, hx] at this; cases this
      refine ⟨.ref x, rfl, x, C, dx, [], rfl, hx1, cl, na1, by decide, ?_⟩
      have hx2 : upd H1 x (.ins C dx (putF n1 (.ref e1) [])) x = some (.ins C dx [(n1, .ref e1)]) := upd_same
      have T2 : TbK H1 (upd H1 x (.ins C dx (putF n1 (.ref e1) []))) := tbk_upd hx1 ⟨(fun _ z => by cases z), (fun _ z => by cases z)⟩
      generalize hH2 : upd H1 x (.ins C dx (putF n1 (.ref e1) [])) = H2 at hx2 T2
      have k12 : ∀ c, c ≠ x → H2 c = H1 c := fun c hc => by rw [← hH2, upd_ne hc]
      have bd2 : BDom B H2 := ⟨fun a z => by rw [k12 a (fun e => nBx (e ▸ z))]; exact bd.same s1 a z, fun P hP => T2.tt P ((bd.same s1).tab P hP)⟩
      refine ⟨[none, some hd, some gd], fun c => B c ∨ c = x, fun i hi d hd' => ?_, bdx bd2 hx2, ?_⟩
      · have : i = 2 := by simpa using hi
        subst this
        cases hd'
        refine ⟨gv, rfl, (rg.same s1).step (fun c o ho hc => ?_) fun _ _ z => z⟩
        rw [k12 c fun z => hc.elim (fun q => nomatch q) fun q => q (.inr z)]
        exact ho
      rw [em2]
      intro v2 H3 as2 bn3 s3 r3 f3 n3'
      rw [Rep] at r3
      obtain ⟨e2, ws2, bs2, rfl, hd2, rr2, q2⟩ := r3
      have hb2 := Reps.purev rfl rr2
      subst hb2
      have ea2 : as2 = [e2] := by
        rcases q2 with ⟨_, q⟩ | ⟨q, _⟩
        · exact q
        · cases q
      subst ea2
      have hx3 := s3 _ _ hx2
      have fe2 := f3 e2 (by simp)
      have ne2 : e2 ≠ x := fun z => by rw [z, hx2] at fe2; cases fe2
      have f12 : H1 e2 = none := by rw [← k12 e2 ne2]; exact fe2
      have ne12 : e1 ≠ e2 := fun z => hd1.there (by rw [z]; exact f12)
      refine ⟨.ref x, rfl, x, C, dx, [(n1, .ref e1)], rfl, hx3, cl, na2, by show 1 < 1000; decide, ?_⟩
      have hx4 : upd H3 x (.ins C dx (putF n2 (.ref e2) [(n1, .ref e1)])) x = some (.ins C dx [(n1, .ref e1), (n2, .ref e2)]) := by
        rw [upd_same]
        simp [putF, hne]
      have T4 : TbK H3 (upd H3 x (.ins C dx (putF n2 (.ref e2) [(n1, .ref e1)]))) := tbk_upd hx3 ⟨(fun _ z => by cases z), (fun _ z => by cases z)⟩
      generalize hH4 : upd H3 x (.ins C dx (putF n2 (.ref e2) [(n1, .ref e1)])) = H4 at hx4 T4
      have k34 : ∀ c, c ≠ x → H4 c = H3 c := fun c hc => by rw [← hH4, upd_ne hc]
      have all : ∀ c o, c ≠ x → H c = some o → NTb o → H4 c = some o := fun c o hc ho n => by
        rw [k34 c hc]
        refine s3.kp c o ?_ n
        rw [k12 c hc]
        exact s1.kp c o ho n
      have bd4 : BDom B H4 := ⟨fun a z => by rw [k34 a (fun e => nBx (e ▸ z))]; exact bd2.same s3 a z, fun P hP => T4.tt P ((bd2.same s3).tab P hP)⟩
      have fe1 := f1 e1 (by simp)
      have fe20 := s1.free f12
      have hd14 : Head mg H4 e1 ws1 (.io e1 true [.inr q]) := by
        obtain ⟨l, u, du, hu1⟩ := hd1
        refine ⟨rfl, l, u, du, ?_⟩
        rw [k34 e1 ne1]
        refine s3.kp e1 u ?_ (NTb.dobj du)
        rw [k12 e1 ne1]
        exact hu1
      have hd24 : Head mg H4 e2 ws2 (.io e2 true [.inr q]) := by
        obtain ⟨l, u, du, hu1⟩ := hd2
        exact ⟨rfl, l, u, du, by rw [k34 e2 ne2]; exact hu1⟩
      have av : ∀ c, H c ≠ none → ¬ (B c ∨ c = x) → ¬ (B c ∨ c = e1 ∨ c = e2) := fun c h1 h2 h3 => by
        rcases h3 with h3 | h3 | h3
        · exact h2 (.inl h3)
        · exact h1 (by rw [h3]; exact fe1)
        · exact h1 (by rw [h3]; exact fe20)
      have st : ∀ {d : D} {v : V}, Rep mg H (fun c => B c ∨ c = x) d v [] → Rep mg H4 (fun c => B c ∨ c = e1 ∨ c = e2) d v [] := fun {d v} r => r.stepN (fun c o ho n hc => all c o (fun z => hc.elim (fun q => nomatch q) fun q => q (.inr z)) ho n) av
      refine ⟨.ref x, rfl, x, dx, _, rfl, hx4, by simp [List.lookup, hm1, hm2], hv, rfl, gv, rfl, ?_⟩
      refine ⟨x, e1, e2, C, dx, [hd, gd], [hv, gv], B, ⟨[.inr q], [.int z], [.inr q], [.non]⟩, b, ws1, ws2, rfl, rfl, hC, hx4, ne12, nBx, bd.new fe1, bd.new fe20, bd4, rfl, rfl, pb1, pb2, hd14, ?_, hd24, ?_, ?_, ?_, fun H5 w1' w2' k5 T5 g1 g2 g3 g4 => ?_⟩
      · exact Reps.flat rfl rr1
      · exact Reps.flat rfl rr2
      · show Reps mg H4 _ [hd.frz, gd.frz] [hv, gv] []
        rw [fh, fg]
        exact Reps.cons (as := []) (bs := []) (st rh) (Reps.cons (as := []) (bs := []) (st rg) Reps.nil)
      · show ∃ ρ, m (ent N (_ :: [hd.frz, gd.frz])) = _ ∧ _
        rw [fh, fg]
        exact hrun e1 e2
      · have hx5 : H5 x = some (.ins C dx [(n1, .ref e1), (n2, .ref e2)]) := k5 x _ (Ne.symm ne1) (Ne.symm ne2) hx4 (fun _ z => by cases z)
        refine hq H5 [x, e1, e2] (fun c o hc ho n => k5 c o (fun z => by rw [z, fe1] at ho; cases ho) (fun z => by rw [z, fe20] at ho; cases ho) (all c o hc ho n) n) ((s1.ts.trans T2).trans ((s3.ts.trans T4).trans T5)) ?_ (fun c hc => ?_) ?_
        · rw [Rep]
          refine ⟨x, [.ref e1, .ref e2], [e1, e2], rfl, ⟨rfl, C, dx, hC, hx5⟩, ?_, .inl ⟨rfl, rfl⟩⟩
          refine Reps.cons (as := [e1]) (bs := [e2]) ?_ (Reps.cons (as := [e2]) (bs := []) ?_ Reps.nil)
          · rw [Rep]
            exact ⟨e1, w1', [], rfl, g1.2, g2, .inl ⟨rfl, rfl⟩⟩
          · rw [Rep]
            exact ⟨e2, w2', [], rfl, g3.2, g4, .inl ⟨rfl, rfl⟩⟩
        · have : c = x ∨ c = e1 ∨ c = e2 := by simpa using hc
          rcases this with z | z | z
          · exact .inl z
          · exact .inr (by rw [z]; exact fe1)
          · exact .inr (by rw [z]; exact fe20)
        · simp [Ne.symm ne1, Ne.symm ne2, ne12]
  · cases eG
end
end Ev

/-! Ev, part Pj: C(x, y) and o.m(..) as readings. -/
namespace Ev
open PySem PySem.Spec L2
open PyProof.Rows hiding St
def mmake (G : D → D → Option D) (ms : List (En → Res D)) : En → Res D := fun ρ => (seqs ms ρ).bind fun xs => match frzs xs with
  | [h, g] => Res.of (G h g)
  | _ => .no
section
variable {X : Cx} {W : WX} {e o : Expr} {es : List Expr} {fv fo : List Nat} {mo : En → Res D} {ms : List (En → Res D)} {p pos apos : Pos} {cn x : Str} {k : Nat} {f C : Addr} {fd : FuncData} {ps : List Str}
theorem de_make {G : D → D → Option D} (M : Mk X.K C f) (FI : FnOk X.prog X.w X.K X.mg X.base (L2.CX X.prog X.w) k f fd ps (spIn X.mg cn G)) (hr : Room (k + 1) X.A) (hm : X.mg cn = some (.ref C)) (hb : Binds X.K fd ps []) (tk : Takes X W) (ha : DA X W (e :: es) fv (seqs ms)) (hg : Gl X cn := by rfl)
    (hdb : (cn == ("__debug__" : Str)) = false := by decide) (he : starEach (e :: es) X.env = (false, eval e X.env) :: starEach es X.env := by rfl) (hpl : (backTo pos (starEach es X.env)).any (·.1) = false := by rfl) :
    DE X W (.Call (.Name cn p) (e :: es) [] pos) fv (mmake G ms) := by
  refine PE.mk (pe_make (dvs := []) (E := fun _ _ _ => False) M FI hr hg hm hb .nil (passes_call tk fun _ _ _ _ z => z.elim) ha hdb he hpl) fun σ H Q bn ⟨ρ, B, en, bd, hp⟩ => ?_
  refine Tv.bind en bd hp fun xs ex vs H1 as bn1 s1 r1 f1 n1 hp1 x dx nx nd ndx => ?_
  have bd1 := bd.same s1
  have rv := Reps.view r1 bd f1
  have hff := frzs_frzs xs
  generalize frzs xs = ys at hp1 rv hff
  split at hp1
  · rename_i h g
    have eh : h.frz = h := by
      rw [frzs, frzs] at hff
      exact (List.cons.inj hff).1
    have eg : g.frz = g := by
      rw [frzs, frzs] at hff
      exact (List.cons.inj (List.cons.inj hff).2).1
    cases eG : G h g with
    | none => rw [eG] at hp1; exact hp1.elim
    | some tree =>
      rw [eG] at hp1
      rw [Reps] at rv
      obtain ⟨hv, ws, a1, a2, rfl, ea, rh, rv⟩ := rv
      rw [Reps] at rv
      obtain ⟨gv, ws2, a3, a4, rfl, rfl, rg, rv⟩ := rv
      rw [Reps] at rv
      obtain ⟨rfl, rfl⟩ := rv
      obtain ⟨z1, z2⟩ := List.append_eq_nil_iff.mp ea.symm
      obtain ⟨z2, _⟩ := List.append_eq_nil_iff.mp z2
      subst z1 z2
      have nx' : upd H1 dx (.own x) x = none := by rw [upd_ne (Ne.symm ndx)]; exact nx
      have s12 : Same H1 (upd (upd H1 dx (.own x)) x (.ins C dx [])) := (same_new nd).trans (same_new nx')
      have bd2 := bd1.same s12
      have st : ∀ {d : D} {v : V}, Rep X.mg H1 B d v [] → Rep X.mg (upd (upd H1 dx (.own x)) x (.ins C dx [])) (fun c => B c ∨ c = x) d v [] := fun {d v} r => r.stepN (fun c o ho n _ => s12.kp c o ho n) fun c h1 h2 h3 => h3.elim h2 fun z => h1 (by rw [z]; exact nx)
      refine ⟨x, C, dx, hv, gv, h, g, tree, B, rfl, hm, upd_same, bd1.new nx, bd2, st rh, st rg, eh, eg, eG, fun H' as' kp' ts' rt fa na => ⟨rfl, fun bn' => ?_⟩⟩
      have ne : ∀ {c : Addr} {o : HO}, H1 c = some o → c ≠ x := fun e z => by rw [z, nx] at e; cases e
      refine hp1 (.ref x) H' as' bn' ⟨fun c o hc n => kp' c o (ne hc) (s12.kp c o hc n) n, (s12.ts.trans ts').tb, (s12.ts.trans ts').tt⟩ rt (fun c hc => ?_) na
      rcases fa c hc with z | z
      · rw [z]; exact nx
      · exact s12.free z
  · exact hp1.elim
/-- o.m(..), a method that changes nothing -/
def mmethO (cn m : Str) (f : List D → Res D) (mo : En → Res D) (ms : List (En → Res D)) : En → Res D := fun ρ => (mo ρ).bind fun x => match x.frz with
  | .node (.ins _ c ns) ys => if c = cn ∧ ns.contains m = false then (seqs ms ρ).bind fun xs => nox (f (.node (.ins false c ns) ys :: frzs xs)) else .no
  | _ => .no
theorem lookup_no {α : Type} {m : Str} : ∀ {ns : List Str} {vs : List α}, ns.contains m = false → (ns.zip vs).lookup m = none
  | [], _, _ => rfl
  | _ :: _, [], _ => rfl
  | n :: ns, v :: vs, h => by
    rw [List.contains_cons, Bool.or_eq_false_iff] at h
    rw [List.zip_cons_cons, List.lookup_cons, h.1]
    exact lookup_no h.2
theorem de_methO {fA : Addr} {n : Nat} {mn : Str} {f : List D → Res D} {pl : Sem Bool} (cl : Cls X.K C) (hme : Meth X.K C mn fA) (F : FnOk X.prog X.w X.K X.mg X.base (L2.CX X.prog X.w) k fA fd ps (spD X.mg (n + 1) f)) (hr : Room k X.A) (hm : X.mg cn = some (.ref C)) (hb : Binds X.K fd ps []) (tk : Takes X W) (ho : DE X W o fo mo) (ha : DA X W (e :: es) fv (seqs ms)) (hn : ms.length = n := by rfl)
    (hst : starEach (e :: es) X.env = (false, eval e X.env) :: starEach es X.env := by rfl) (hpl : (backTo pos (starEach es X.env)).any (·.1) = false := by rfl)
    (ht : eval (.Call (.Attribute o mn apos) (e :: es) [] pos) X.env = (do
      let ov ← eval o X.env
      standAt apos.atName
      let (f, first) ← holding [ov] (getMethod ov mn pl)
      callWith pos f first (backTo pos (starEach (e :: es) X.env)) (backToKw pos (keywordEach [] X.env))) := by rfl) :
    DE X W (.Call (.Attribute o mn apos) (e :: es) [] pos) (fo ++ fv) (mmethO cn mn f mo ms) := by
  refine PE.mk (pe_meth (dvs := []) (E := fun _ _ _ => False) ho cl hme F hr hb .nil (passes_call tk fun _ _ _ _ z => z.elim) ha hst hpl ht) fun σ H Q bn ⟨ρ, B, en, bd, hp⟩ => ?_
  refine Tv.bind en.l bd hp fun x ex v H1 as bn1 s1 r1 f1 n1 hp1 => ?_
  have rx := r1.view bd f1
  have bd1 := bd.same s1
  generalize exf : x.frz = y at hp1 rx
  split at hp1
  · rename_i ow c ns ys
    split at hp1
    · rename_i hcond
      obtain ⟨rfl, hns⟩ := hcond
      have how : ow = false := by
        cases x with
        | node t xs => cases t <;> first | (cases exf; rfl) | (cases exf)
        | _ => cases exf
      subst how
      have rx0 := rx
      rw [Rep] at rx
      obtain ⟨a, vs, bs, rfl, ⟨hl, C', dx, hC', ha'⟩, hr', q'⟩ := rx
      rw [hm] at hC'
      cases hC'
      refine ⟨a, dx, _, rfl, ha', lookup_no hns, ?_⟩
      refine Tv.bind (en.r.same s1) bd1 hp1 fun xs exs ws H2 as2 bn2 s2 r2 f2 n2 hp2 => ?_
      have hlen : xs.length = n := by rw [seqs_len exs, hn]
      have rv := Reps.view r2 bd1 f2
      have fy : frzs ys = ys := by
        cases x with
        | node t zs =>
          cases t <;> first | (cases exf; exact frzs_frzs _) | (cases exf)
        | _ => cases exf
      refine ⟨.node (.ins false c ns) ys :: xs, B, by rw [List.length_cons, hlen], ?_, bd1.same s2, ?_⟩
      · rw [frzs, D.frz, fy]
        rw [List.append_nil]
        exact Reps.cons (as := []) (bs := []) (rx0.same s2) rv
      · have e1 : frzs (.node (.ins false c ns) ys :: xs) = .node (.ins false c ns) ys :: frzs xs := by rw [frzs, D.frz, fy]; rfl
        rw [e1]
        cases ef : f (.node (.ins false c ns) ys :: frzs xs) with
        | ok d =>
          rw [ef] at hp2
          exact fun v H' as' s r f n bn' => hp2 v H' as' bn' s r f n
        | ex y => rw [ef] at hp2; exact hp2.elim
        | no => rw [ef] at hp2; exact hp2.elim
    · exact hp1.elim
  · exact hp1.elim
end
end Ev

/-! Ev, part Pk: a class's statements. -/
namespace Ev
open PySem
def clsBody : Stmt → List Stmt
  | .ClassDef (body := b) .. => b
  | _ => []
end Ev

/-! Ev, part Pl: l.remove(x), x any data. -/
namespace Ev
open PySem PySem.Spec L2
open PyProof.Rows hiding St
def rRemT (K : PySem.W.Frag) : V → List V → Hp → VK → Prop := fun x vs H Q => ∃ (l : Addr) (ws : List V) (y : V) (ds : List PyData) (d : PyData) (j : Nat), x = .ref l ∧ vs = [y] ∧ H l = some (.lst ws) ∧ DpAll K H ws ds ∧ Dp K H y d ∧
  PyData.plainAll ds = true ∧ d.plain = true ∧ d.depth ≤ 20 ∧ SeqAt.dataPlace ds d = some j ∧ Q .non (upd H l (.lst (ws.eraseIdx j)))
theorem mt_removeT {X : Cx} (hu : X.A.units + 65 < cLine) : MtM X "list.remove" (rRemT X.K) := by
  intro pins s σ H x xs v us Q I rx rxs h
  obtain ⟨l, ws, y, ds, d, j, rfl, rfl, hH, ha, hy, p1, p2, hd, hp, q⟩ := h
  cases rx
  obtain ⟨u, rfl, ru⟩ := rxs.one
  obtain ⟨z, its, n, r, hl, e⟩ := I.lstM hH
  obtain ⟨as, h4⟩ := Dp.readsAll I ds _ its ha r
  obtain ⟨bs, r1⟩ := Dp.reads I d y u hy ru
  have hlen := r.length
  refine SeqAt.remove_list_data (vs := its.toArray) (j := j) ⟨_, e, rfl, n, rfl⟩ (show ReadsAll s.heap its.toArray.toList ds as from h4) r1 p1 p2 (by have := Nat.min_le_right (PyData.depthAll ds) d.depth; omega) hp (by rw [List.size_toArray]; omega) ?_
  have rr := r.eraseIdx j
  refine ⟨.non, _, I.lset (its' := its.eraseIdx j) (t' := s.toks) hH e ?_ rr ?_, rfl, q⟩
  · show its.toArray.eraseIdxIfInBounds j = (its.eraseIdx j).toArray
    rw [List.eraseIdxIfInBounds_toArray]
  · have := List.length_eraseIdx_le ws j
    omega
/-- x.remove(e) -/
def removeT : List D → List D → Option (D × List D)
  | xs, [x] => if deps 18 xs = true ∧ x.dep 18 = true then (xs.findIdx? fun y => eqT y x).map fun j => (.non, xs.eraseIdx j) else none
  | _, _ => none
theorem Reps.eraseN {mg : Str → Option Value} {H : Hp} {B : Addr → Prop} {xs : List D} {vs : List V} (r : Reps mg H B xs vs []) (j : Nat) : Reps mg H B (xs.eraseIdx j) (vs.eraseIdx j) [] := by
  rw [List.eraseIdx_eq_take_drop_succ, List.eraseIdx_eq_take_drop_succ]
  exact Reps.append (as := []) (bs := []) (r.take j) (r.drop (j + 1))
theorem place_py (x : D) : ∀ xs : List D, SeqAt.dataPlace (pys xs) x.py = xs.findIdx? fun y => eqT y x
  | [] => rfl
  | y :: xs => by
    have ih := place_py x xs
    unfold SeqAt.dataPlace at ih ⊢
    rw [pys, List.findIdx?_cons, List.findIdx?_cons, eqv_py, ih]
theorem hr_removeT {mg : Str → Option Value} {K : PySem.W.Frag} : HrM mg (rRemT K) removeT := by
  intro H B a vs us xs ds ys d Q ha hl rx rd hk q
  unfold removeT at hk
  split at hk
  · rename_i x
    obtain ⟨u, rfl, ru⟩ := reps1 rd
    split at hk
    · rename_i hc
      cases ej : xs.findIdx? fun y => eqT y x with
      | none => rw [ej] at hk; cases hk
      | some j =>
        rw [ej] at hk
        cases hk
        have h1 := dep_py 18 x hc.2
        have h2 := deps_py 18 xs hc.1
        exact ⟨a, vs, u, pys xs, x.py, j, rfl, rfl, ha, dps_of 18 xs vs [] hc.1 rx, dp_of 18 x u [] hc.2 ru, PyData.plainAll_of_canLay0 _ h2.1, PyData.plain_of_canLay0 _ h1.1, by omega, by rw [place_py]; exact ej, q .non _ rep_non (rx.eraseN j)⟩
    · cases hk
  · cases hk
end Ev

/-! Ev, part Pm: for x in e, e a dict that is made there. -/
namespace Ev
open PySem PySem.Spec L2
open PyProof.Rows hiding St
section
variable {X : Cx} {F : Fr} {W : WX} {sts : List Stmt} {m : En → Out} {e tg : Expr} {fv : List Nat} {me : En → Res D} {pos : Pos} {t : Tg}
/-- what is told is locked, whatever stands there -/
def tFrz (te : TE) : TE := fun σ H Q => te σ H fun v H1 => ∃ d u, v = .ref d ∧ H1 d = some u ∧ Mut (some u) ∧ ∀ od, Q v (upd H1 d (.frz od u))
theorem pe_frz {te : TE} (h : PE X e te) : PE X e (tFrz te) := by
  refine ⟨fun pins s σ H Q I hw => ?_⟩
  refine thn (h.run pins s σ H _ I hw) fun u s1 ⟨x, H1, I1, rx, d, w, ex, hd, mu, q⟩ => ?_
  obtain ⟨od, I2⟩ := I1.lock hd mu
  exact ⟨x, _, I2, rx, q od⟩
/-- over the keys of a dict that is made there -/
def forN (t : Tg) (body : En → Out) (ρ : En) : D → Out
  | .node (.dct true _tt ks) _xs => forF t body (frzs (ks.map kyD)) ρ
  | _ => .no
def mforN (me : En → Res D) (t : Tg) (body : En → Out) : En → Out := fun ρ => thenE (me (frzE ρ)) ρ (forN t body ρ)
theorem ds_forN (hp' : PassesOwn (model X.prog X.w) X.A X.env X.xe) (hc : X.calm = true) (he : DE X W e fv me) (hg : PG X tg (t.tg X.K)) (hb : DSs X F W sts m) (ht : (t.slots.all fun q => decide (q < X.N.length)) = true := by rfl) (hs : ∀ x, foldedSetIterable e X.env x = pure x := by intro _; rfl) :
    DS X F W (.For tg e sts [] pos) (mforN me t m) := by
  refine PS.mk (ps_for (pos := pos) hp' hc (pi_keys (tg := tg) (pe_frz he)) hg hb hs) fun D σ H bn ⟨ω, ρ, b, hp⟩ => ?_
  have hp2 : PostS X F W ω H (thenE (me (frzE ρ)) ρ (forN t m ρ)) D := hp
  refine b.eval hp fun d ed v H' as bn' s r f n hpx b' => ?_
  rw [ed] at hp2
  have hp3 : PostS X F W ω H (forN t m ρ d) D := hp2
  unfold forN at hp3
  split at hp3
  · clear hpx
    rename_i tt ks xs
    rw [Rep] at r
    obtain ⟨a, vs, bs, rfl, ⟨hl, u, du, hu⟩, hr, q⟩ := r
    have ha : a ∈ as := by
      rcases q with ⟨_, q⟩ | ⟨z, _⟩
      · rw [q]; exact List.mem_cons_self
      · cases z
    have fa : H a = none := f a ha
    have isd := dobj_is du
    have nb : ¬ (fun a => ω a ≠ none) a := fun z => z (b.noO fa)
    refine ⟨a, u, rfl, hu, isd.mut, fun od => ?_⟩
    have sx : ∀ φ, u ≠ .ext φ := by
      intro φ z
      rcases isd with ⟨_, rfl⟩ | ⟨_, rfl⟩ <;> cases z
    have s2 : Same H (upd H' a (.frz od u)) := s.put fa hu sx
    have b2 := b.to s2
    have hp4 := hp3.step (Step.same s2)
    have hz : vs.length ≤ sizeLine := by
      cases tt with
      | true =>
        obtain ⟨k', rfl, rfl⟩ := du
        have hl' : vs.length = k'.length := by rw [hl, List.length_map]
        have := (bn'.2.2.2 a _ (.inl hu)).1
        rw [List.length_zip] at this; omega
      | false =>
        obtain ⟨k', rfl, rfl⟩ := du
        have hl' : vs.length = k'.length := by rw [hl, List.length_map]
        have := (bn'.2.2.1 a _ (.inl hu)).1
        rw [List.length_zip] at this; omega
    cases tt with
    | true =>
      obtain ⟨k', rfl, rfl⟩ := du
      have hl' : vs.length = k'.length := by rw [hl, List.length_map]
      exact ⟨a, od, rfl, .inr ⟨_, upd_same, for_read b2 (itkt_ok upd_same nb hl' hz) ht hp4⟩⟩
    | false =>
      obtain ⟨k', rfl, rfl⟩ := du
      have hl' : vs.length = k'.length := by rw [hl, List.length_map]
      exact ⟨a, od, rfl, .inl ⟨_, upd_same, for_read b2 (itk_ok upd_same nb hl' hz) ht hp4⟩⟩
  · exact hp3.elim
end
@[simp] theorem mforN_ap (me : En → Res D) (t : Tg) (body : En → Out) (ρ : En) : mforN me t body ρ = thenE (me (frzE ρ)) ρ (forN t body ρ) := rfl
theorem forN_set (t : Tg) (body : En → Out) (ρ : En) (T : List Cl) : forN t body ρ (.node (.dct true true (setK T)) (setV T)) = forF t body (T.map cD) ρ := by
  show forF t body (frzs ((setK T).map kyD)) ρ = _
  rw [keys_set, frzs_cs]
end Ev

/-! Ev, part Pn: a >= b, a and b tuples that are alike. -/
namespace Ev
open PySem PySem.Spec L2
open PyProof.Rows hiding St
open PySem.W (alike dataLt)
def geTD : D → D → Option D
  | .node .tup xs, .node .tup ys => if (D.node .tup xs).dep 20 = true ∧ (D.node .tup ys).dep 20 = true ∧ alike (D.node .tup xs).py (D.node .tup ys).py = true then some (.bl (!dataLt (D.node .tup xs).py (D.node .tup ys).py)) else none
  | _, _ => none
theorem od_geT {X : Cx} (hu : X.A.units + 64 < cLine) : OpD X (compareOp .GtE) geTD := by
  intro pins s σ H v w vv ww Q I rv rw' hh
  obtain ⟨x, y, B, rx, ry, bd, bn, d, e, q⟩ := hh
  unfold geTD at e
  split at e
  · rename_i xs ys
    split at e
    · rename_i hc
      cases e
      obtain ⟨as, h1⟩ := Dp.reads I _ v vv (dp_of 20 _ v [] hc.1 rx) rv
      obtain ⟨bs, h2⟩ := Dp.reads I _ w ww (dp_of 20 _ w [] hc.2.1 ry) rw'
      have d1 := (dep_py 20 _ hc.1).2
      have ne : (D.node .tup xs).py ≠ .none := fun z => by cases z
      exact PySem.W.rcGe_alike _ _ X.A s vv ww as bs h1 h2 hc.2.2 ne (by have := Nat.min_le_left (D.node .tup xs).py.depth (D.node .tup ys).py.depth; omega) _ _ _ _ ⟨.bl _, H, I, rfl, q _ _ [] (Same.refl _) rep_bl fresh0 List.nodup_nil⟩
    · cases e
  · cases e
end Ev

/-! ### the text by places -/
namespace G
open PySem PySem.Spec L2 Ev
open PyProof.Rows hiding St
def topS (i : Nat) : Stmt := PySem.Challenge.pw_pourhall_k77_whole_poured_turned.main.body.getD i (.Pass ⟨0, 0, 0, 0⟩)
abbrev s_neighbours : Stmt := topS 3
abbrev N_neighbours : List Str := ["cell", "found", "x", "y", "z"]
theorem sc_neighbours : FnScope N_neighbours ["cell"] (defScope s_neighbours) := ⟨rfl, rfl, rfl, by decide +kernel, rfl, by decide +kernel, by decide +kernel⟩
abbrev s_quarter_cell : Stmt := topS 4
abbrev N_quarter_cell : List Str := ["cell", "axis", "x", "y", "z"]
theorem sc_quarter_cell : FnScope N_quarter_cell ["cell", "axis"] (defScope s_quarter_cell) := ⟨rfl, rfl, rfl, by decide +kernel, rfl, by decide +kernel, by decide +kernel⟩
abbrev s_mirrored_cell : Stmt := topS 5
abbrev N_mirrored_cell : List Str := ["cell", "axis", "found", "at"]
theorem sc_mirrored_cell : FnScope N_mirrored_cell ["cell", "axis"] (defScope s_mirrored_cell) := ⟨rfl, rfl, rfl, by decide +kernel, rfl, by decide +kernel, by decide +kernel⟩
abbrev s_Pour_spread : Stmt := (clsBody (topS 7)).getD 1 (.Pass ⟨0, 0, 0, 0⟩)
abbrev N_Pour_spread : List Str := ["self", "hollow", "gate", "there", "cell", "edge", "here", "one"]
theorem sc_Pour_spread : FnScope N_Pour_spread ["self", "hollow", "gate"] (defScope s_Pour_spread) := ⟨rfl, rfl, rfl, by decide +kernel, rfl, by decide +kernel, by decide +kernel⟩
abbrev s_Pour_init : Stmt := (clsBody (topS 7)).getD 0 (.Pass ⟨0, 0, 0, 0⟩)
abbrev N_Pour_init : List Str := ["self", "hollow", "gate"]
theorem sc_Pour_init : FnScope N_Pour_init ["self", "hollow", "gate"] (defScope s_Pour_init) := ⟨rfl, rfl, rfl, by decide +kernel, rfl, by decide +kernel, by decide +kernel⟩
abbrev s_level : Stmt := topS 8
abbrev N_level : List Str := ["hollow", "gate", "cell"]
theorem sc_level : FnScope N_level ["hollow", "gate", "cell"] (defScope s_level) := ⟨rfl, rfl, rfl, by decide +kernel, rfl, by decide +kernel, by decide +kernel⟩
abbrev s_filled : Stmt := topS 9
abbrev N_filled : List Str := ["hollow", "gate", "pour"]
theorem sc_filled : FnScope N_filled ["hollow", "gate"] (defScope s_filled) := ⟨rfl, rfl, rfl, by decide +kernel, rfl, by decide +kernel, by decide +kernel⟩
abbrev s_ways_out : Stmt := topS 11
abbrev N_ways_out : List Str := ["hollow", "vents", "there", "cell", "found", "edge", "vent", "here", "one"]
theorem sc_ways_out : FnScope N_ways_out ["hollow", "vents"] (defScope s_ways_out) := ⟨rfl, rfl, rfl, by decide +kernel, rfl, by decide +kernel, by decide +kernel⟩
abbrev s_shut : Stmt := topS 12
abbrev N_shut : List Str := ["hollow", "vents", "known", "cell"]
theorem sc_shut : FnScope N_shut ["hollow", "vents"] (defScope s_shut) := ⟨rfl, rfl, rfl, by decide +kernel, rfl, by decide +kernel, by decide +kernel⟩
abbrev s_there_of : Stmt := topS 14
abbrev N_there_of : List Str := ["cells", "cell"]
theorem sc_there_of : FnScope N_there_of ["cells"] (defScope s_there_of) := ⟨rfl, rfl, rfl, by decide +kernel, rfl, by decide +kernel, by decide +kernel⟩
abbrev s_quarter : Stmt := topS 15
abbrev N_quarter : List Str := ["body", "axis", "cell"]
theorem sc_quarter : FnScope N_quarter ["body", "axis"] (defScope s_quarter) := ⟨rfl, rfl, rfl, by decide +kernel, rfl, by decide +kernel, by decide +kernel⟩
abbrev s_mirrored : Stmt := topS 16
abbrev N_mirrored : List Str := ["body", "axis", "cell"]
theorem sc_mirrored : FnScope N_mirrored ["body", "axis"] (defScope s_mirrored) := ⟨rfl, rfl, rfl, by decide +kernel, rfl, by decide +kernel, by decide +kernel⟩
abbrev s_piece_from : Stmt := topS 17
abbrev N_piece_from : List Str := ["cell", "left", "found", "at", "other"]
theorem sc_piece_from : FnScope N_piece_from ["cell", "left"] (defScope s_piece_from) := ⟨rfl, rfl, rfl, by decide +kernel, rfl, by decide +kernel, by decide +kernel⟩
abbrev s_pieces : Stmt := topS 18
abbrev N_pieces : List Str := ["body", "left", "found", "cell"]
theorem sc_pieces : FnScope N_pieces ["body"] (defScope s_pieces) := ⟨rfl, rfl, rfl, by decide +kernel, rfl, by decide +kernel, by decide +kernel⟩
abbrev s__law_cell_at : Stmt := topS 20
abbrev N__law_cell_at : List Str := ["_law_script", "_law_k"]
theorem sc__law_cell_at : FnScope N__law_cell_at ["_law_script", "_law_k"] (defScope s__law_cell_at) := ⟨rfl, rfl, rfl, by decide +kernel, rfl, by decide +kernel, by decide +kernel⟩
abbrev s__law_mix : Stmt := topS 21
abbrev N__law_mix : List Str := ["_law_cell", "_law_factor"]
theorem sc__law_mix : FnScope N__law_mix ["_law_cell", "_law_factor"] (defScope s__law_mix) := ⟨rfl, rfl, rfl, by decide +kernel, rfl, by decide +kernel, by decide +kernel⟩
abbrev s__law_bar : Stmt := topS 22
abbrev N__law_bar : List Str := ["_law_base", "_law_number", "_law_flat", "_law_spot", "_law_along", "_law_cells", "_law_k", "_law_one"]
theorem sc__law_bar : FnScope N__law_bar ["_law_base", "_law_number", "_law_flat"] (defScope s__law_bar) := ⟨rfl, rfl, rfl, by decide +kernel, rfl, by decide +kernel, by decide +kernel⟩
abbrev s__law_body : Stmt := topS 23
abbrev N__law_body : List Str := ["_law_script", "_law_some", "_law_first", "_law_base", "_law_known", "_law_number", "_law_cell"]
theorem sc__law_body : FnScope N__law_body ["_law_script", "_law_some"] (defScope s__law_body) := ⟨rfl, rfl, rfl, by decide +kernel, rfl, by decide +kernel, by decide +kernel⟩
abbrev s__law_hollow : Stmt := topS 24
abbrev N__law_hollow : List Str := ["_law_script"]
theorem sc__law_hollow : FnScope N__law_hollow ["_law_script"] (defScope s__law_hollow) := ⟨rfl, rfl, rfl, by decide +kernel, rfl, by decide +kernel, by decide +kernel⟩
abbrev s__law_brought : Stmt := topS 26
abbrev N__law_brought : List Str := ["_law_cell", "_law_kind"]
theorem sc__law_brought : FnScope N__law_brought ["_law_cell", "_law_kind"] (defScope s__law_brought) := ⟨rfl, rfl, rfl, by decide +kernel, rfl, by decide +kernel, by decide +kernel⟩
abbrev s__law_body_brought : Stmt := topS 27
abbrev N__law_body_brought : List Str := ["_law_body_here", "_law_kind"]
theorem sc__law_body_brought : FnScope N__law_body_brought ["_law_body_here", "_law_kind"] (defScope s__law_body_brought) := ⟨rfl, rfl, rfl, by decide +kernel, rfl, by decide +kernel, by decide +kernel⟩
abbrev s__law_asked_so : Stmt := topS 28
abbrev N__law_asked_so : List Str := ["_law_script", "_law_hollow_here", "_law_gate", "_law_vents", "_law_kind", "_law_other", "_law_far", "_law_some", "_law_cell", "_law_closed", "_law_row", "_law_piece", "_law_k", "_law_vent", "_law_one"]
theorem sc__law_asked_so : FnScope N__law_asked_so ["_law_script"] (defScope s__law_asked_so) := ⟨rfl, rfl, rfl, by decide +kernel, rfl, by decide +kernel, by decide +kernel⟩
abbrev s__law_wide : Stmt := topS 29
abbrev N__law_wide : List Str := ["_law_script", "_law_found", "_law_number"]
theorem sc__law_wide : FnScope N__law_wide ["_law_script"] (defScope s__law_wide) := ⟨rfl, rfl, rfl, by decide +kernel, rfl, by decide +kernel, by decide +kernel⟩
abbrev s_law : Stmt := topS 30
abbrev N_law : List Str := ["_law_script"]
theorem sc_law : FnScope N_law ["_law_script"] (defScope s_law) := ⟨rfl, rfl, rfl, by decide +kernel, rfl, by decide +kernel, by decide +kernel⟩
/-- what the top has left -/
structure Tx (K : PySem.W.Frag) (mg : Str → Option Value) where
  a_neighbours : Addr
  d_neighbours : FuncData
  F_neighbours : Fun K "neighbours" "neighbours" s_neighbours a_neighbours d_neighbours
  b_neighbours : Binds K d_neighbours ["cell"] []
  g_neighbours : mg "neighbours" = some (.ref a_neighbours)
  a_quarter_cell : Addr
  d_quarter_cell : FuncData
  F_quarter_cell : Fun K "quarter_cell" "quarter_cell" s_quarter_cell a_quarter_cell d_quarter_cell
  b_quarter_cell : Binds K d_quarter_cell ["cell", "axis"] []
  g_quarter_cell : mg "quarter_cell" = some (.ref a_quarter_cell)
  a_mirrored_cell : Addr
  d_mirrored_cell : FuncData
  F_mirrored_cell : Fun K "mirrored_cell" "mirrored_cell" s_mirrored_cell a_mirrored_cell d_mirrored_cell
  b_mirrored_cell : Binds K d_mirrored_cell ["cell", "axis"] []
  g_mirrored_cell : mg "mirrored_cell" = some (.ref a_mirrored_cell)
  a_Pour_spread : Addr
  d_Pour_spread : FuncData
  F_Pour_spread : Fun K "spread" "Pour.spread" s_Pour_spread a_Pour_spread d_Pour_spread
  b_Pour_spread : Binds K d_Pour_spread ["self", "hollow", "gate"] []
  a_Pour_init : Addr
  d_Pour_init : FuncData
  F_Pour_init : Fun K "__init__" "Pour.__init__" s_Pour_init a_Pour_init d_Pour_init
  b_Pour_init : Binds K d_Pour_init ["self", "hollow", "gate"] []
  a_level : Addr
  d_level : FuncData
  F_level : Fun K "level" "level" s_level a_level d_level
  b_level : Binds K d_level ["hollow", "gate", "cell"] []
  g_level : mg "level" = some (.ref a_level)
  a_filled : Addr
  d_filled : FuncData
  F_filled : Fun K "filled" "filled" s_filled a_filled d_filled
  b_filled : Binds K d_filled ["hollow", "gate"] []
  g_filled : mg "filled" = some (.ref a_filled)
  a_ways_out : Addr
  d_ways_out : FuncData
  F_ways_out : Fun K "ways_out" "ways_out" s_ways_out a_ways_out d_ways_out
  b_ways_out : Binds K d_ways_out ["hollow", "vents"] []
  g_ways_out : mg "ways_out" = some (.ref a_ways_out)
  a_shut : Addr
  d_shut : FuncData
  F_shut : Fun K "shut" "shut" s_shut a_shut d_shut
  b_shut : Binds K d_shut ["hollow", "vents"] []
  g_shut : mg "shut" = some (.ref a_shut)
  a_there_of : Addr
  d_there_of : FuncData
  F_there_of : Fun K "there_of" "there_of" s_there_of a_there_of d_there_of
  b_there_of : Binds K d_there_of ["cells"] []
  g_there_of : mg "there_of" = some (.ref a_there_of)
  a_quarter : Addr
  d_quarter : FuncData
  F_quarter : Fun K "quarter" "quarter" s_quarter a_quarter d_quarter
  b_quarter : Binds K d_quarter ["body", "axis"] []
  g_quarter : mg "quarter" = some (.ref a_quarter)
  a_mirrored : Addr
  d_mirrored : FuncData
  F_mirrored : Fun K "mirrored" "mirrored" s_mirrored a_mirrored d_mirrored
  b_mirrored : Binds K d_mirrored ["body", "axis"] []
  g_mirrored : mg "mirrored" = some (.ref a_mirrored)
  a_piece_from : Addr
  d_piece_from : FuncData
  F_piece_from : Fun K "piece_from" "piece_from" s_piece_from a_piece_from d_piece_from
  b_piece_from : Binds K d_piece_from ["cell", "left"] []
  g_piece_from : mg "piece_from" = some (.ref a_piece_from)
  a_pieces : Addr
  d_pieces : FuncData
  F_pieces : Fun K "pieces" "pieces" s_pieces a_pieces d_pieces
  b_pieces : Binds K d_pieces ["body"] []
  g_pieces : mg "pieces" = some (.ref a_pieces)
  a__law_cell_at : Addr
  d__law_cell_at : FuncData
  F__law_cell_at : Fun K "_law_cell_at" "_law_cell_at" s__law_cell_at a__law_cell_at d__law_cell_at
  b__law_cell_at : Binds K d__law_cell_at ["_law_script", "_law_k"] []
  g__law_cell_at : mg "_law_cell_at" = some (.ref a__law_cell_at)
  a__law_mix : Addr
  d__law_mix : FuncData
  F__law_mix : Fun K "_law_mix" "_law_mix" s__law_mix a__law_mix d__law_mix
  b__law_mix : Binds K d__law_mix ["_law_cell", "_law_factor"] []
  g__law_mix : mg "_law_mix" = some (.ref a__law_mix)
  a__law_bar : Addr
  d__law_bar : FuncData
  F__law_bar : Fun K "_law_bar" "_law_bar" s__law_bar a__law_bar d__law_bar
  b__law_bar : Binds K d__law_bar ["_law_base", "_law_number", "_law_flat"] []
  g__law_bar : mg "_law_bar" = some (.ref a__law_bar)
  a__law_body : Addr
  d__law_body : FuncData
  F__law_body : Fun K "_law_body" "_law_body" s__law_body a__law_body d__law_body
  b__law_body : Binds K d__law_body ["_law_script", "_law_some"] []
  g__law_body : mg "_law_body" = some (.ref a__law_body)
  a__law_hollow : Addr
  d__law_hollow : FuncData
  F__law_hollow : Fun K "_law_hollow" "_law_hollow" s__law_hollow a__law_hollow d__law_hollow
  b__law_hollow : Binds K d__law_hollow ["_law_script"] []
  g__law_hollow : mg "_law_hollow" = some (.ref a__law_hollow)
  a__law_brought : Addr
  d__law_brought : FuncData
  F__law_brought : Fun K "_law_brought" "_law_brought" s__law_brought a__law_brought d__law_brought
  b__law_brought : Binds K d__law_brought ["_law_cell", "_law_kind"] []
  g__law_brought : mg "_law_brought" = some (.ref a__law_brought)
  a__law_body_brought : Addr
  d__law_body_brought : FuncData
  F__law_body_brought : Fun K "_law_body_brought" "_law_body_brought" s__law_body_brought a__law_body_brought d__law_body_brought
  b__law_body_brought : Binds K d__law_body_brought ["_law_body_here", "_law_kind"] []
  g__law_body_brought : mg "_law_body_brought" = some (.ref a__law_body_brought)
  a__law_asked_so : Addr
  d__law_asked_so : FuncData
  F__law_asked_so : Fun K "_law_asked_so" "_law_asked_so" s__law_asked_so a__law_asked_so d__law_asked_so
  b__law_asked_so : Binds K d__law_asked_so ["_law_script"] []
  g__law_asked_so : mg "_law_asked_so" = some (.ref a__law_asked_so)
  a__law_wide : Addr
  d__law_wide : FuncData
  F__law_wide : Fun K "_law_wide" "_law_wide" s__law_wide a__law_wide d__law_wide
  b__law_wide : Binds K d__law_wide ["_law_script"] []
  g__law_wide : mg "_law_wide" = some (.ref a__law_wide)
  a_law : Addr
  d_law : FuncData
  F_law : Fun K "law" "law" s_law a_law d_law
  b_law : Binds K d_law ["_law_script"] []
  g_law : mg "law" = some (.ref a_law)
  m_abs : mg "abs" = none
  m_dict : mg "dict" = none
  m_len : mg "len" = none
  m_list : mg "list" = none
  m_max : mg "max" = none
  m_min : mg "min" = none
  m_range : mg "range" = none
  m_sorted : mg "sorted" = none
  m_tuple : mg "tuple" = none
  t_AXES : Tok
  c_AXES : mg "AXES" = some (.str "xyz" t_AXES)
  A_Pour : Addr
  g_Pour : mg "Pour" = some (.ref A_Pour)
  cl_Pour : Cls K A_Pour
  n_Pour_levels : NoAttr K A_Pour "levels"
  n_Pour_came : NoAttr K A_Pour "came"
  mk_Pour : Mk K A_Pour a_Pour_init
  me_Pour_spread : Meth K A_Pour "spread" a_Pour_spread
  c_Pour_spread : Addr
  P_Pour_spread : Addr
  dc_Pour_spread : d_Pour_spread.code = .ref c_Pour_spread
  pt_Pour_spread : P_Pour_spread ∈ tabsT
  c_filled : Addr
  P_filled : Addr
  dc_filled : d_filled.code = .ref c_filled
  pt_filled : P_filled ∈ tabsT
structure TBs {K : PySem.W.Frag} {mg : Str → Option Value} (T : Tx K mg) (base : Heap) : Prop where
  t_Pour_spread : LamX.TabB base mg T.c_Pour_spread T.P_Pour_spread
  t_filled : LamX.TabB base mg T.c_filled T.P_filled
/-! ### what each def is worth -/
noncomputable section
def b_neighbours : En → Out :=
  (mseq (msett [2, 3, 4] [0] (mvar 0)) (mseq (mset 1 [2, 3, 4, 2, 3, 4, 2, 3, 4, 2, 3, 4] (mlst [(mtup [(bin subD (mvar 2) (mk (.int 1))), (mvar 3), (mvar 4)]), (mtup [(mvar 2), (bin subD (mvar 3) (mk (.int 1))), (mvar 4)]), (mtup [(mvar 2), (mvar 3), (bin subD (mvar 4) (mk (.int 1)))]), (mtup [(mvar 2), (mvar 3), (bin addD (mvar 4) (mk (.int 1)))])])) (mret [1, 2, 3, 4, 2, 3, 4] (bin addD (mvar 1) (mlst [(mtup [(mvar 2), (bin addD (mvar 3) (mk (.int 1))), (mvar 4)]), (mtup [(bin addD (mvar 2) (mk (.int 1))), (mvar 3), (mvar 4)])])))))
def f_neighbours : List D → Res D := bodyF 5 b_neighbours
def b_quarter_cell : En → Out :=
  (mseq (msett [2, 3, 4] [0] (mvar 0)) (mseq (mifs (tst (bin eqD (mvar 1) (mk (.str "x")))) (mret [2, 4, 3] (mtup [(mvar 2), (bin subD (mk (.int 0)) (mvar 4)), (mvar 3)])) mskip) (mseq (mifs (tst (bin eqD (mvar 1) (mk (.str "y")))) (mret [4, 3, 2] (mtup [(mvar 4), (mvar 3), (bin subD (mk (.int 0)) (mvar 2))])) mskip) (mret [3, 2, 4] (mtup [(bin subD (mk (.int 0)) (mvar 3)), (mvar 2), (mvar 4)])))))
def f_quarter_cell : List D → Res D := bodyF 5 b_quarter_cell
def b_mirrored_cell : En → Out :=
  (mseq (mset 2 [0] (mcall listD [(mvar 0)])) (mseq (mset 3 [1] (mmeth "str" sindexD (mk (.str "xyz")) [(mvar 1)])) (mseq (mputL 2 [2, 3] (mvar 3) (bin subD (mk (.int 0)) (bin ixD (mvar 2) (mvar 3)))) (mret [2] (mcall tupleD [(mvar 2)])))))
def f_mirrored_cell : List D → Res D := bodyF 4 b_mirrored_cell
def b_there_of : En → Out :=
  (mret [0] (mcall dictD [(mlc (mitl (mvar 0)) (.nm 1) yes (mtup [(mvar 1), (mk (.bl true))]))]))
def f_there_of : List D → Res D := bodyF 2 b_there_of
def b__law_cell_at : En → Out :=
  (mseq (mifs (tst (bin ltD (mvar 1) (mcall lenD [(mvar 0)]))) (mret [0, 1] (bin ixD (mvar 0) (mvar 1))) mskip) (mret [] (mk (.int 0))))
def f__law_cell_at : List D → Res D := bodyF 2 b__law_cell_at
def b__law_mix : En → Out :=
  (mret [0, 1] (bin modD (bin mulD (bin addD (bin modD (mvar 0) (bin powD (mk (.int 10)) (mk (.int 18)))) (mk (.int 19))) (mvar 1)) (mk (.int 2147483647))))
def f__law_mix : List D → Res D := bodyF 2 b__law_mix
def l__law_bar_1 : En → Out :=
  (mseq (mutL kApp 5 [3] (mcall tupleD [(mvar 3)])) (mputL 3 [3, 4] (mvar 4) (bin addD (bin ixD (mvar 3) (mvar 4)) (mk (.int 1)))))
def b__law_bar : En → Out :=
  (mseq (mset 3 [0, 1, 0, 1, 0, 1] (mlst [(bin addD (bin ixD (mvar 0) (mk (.int 0))) (bin modD (mvar 1) (mk (.int 5)))), (bin addD (bin ixD (mvar 0) (mk (.int 1))) (bin modD (bin fdivD (mvar 1) (mk (.int 5))) (mk (.int 5)))), (bin addD (bin ixD (mvar 0) (mk (.int 2))) (bin modD (bin fdivD (mvar 1) (mk (.int 25))) (mk (.int 7))))])) (mseq (mifs (tst (mvar 2)) (mputL 3 [0] (mk (.int 2)) (bin ixD (mvar 0) (mk (.int 2)))) mskip) (mseq (mifs (tst (bin eqD (bin modD (bin fdivD (mvar 1) (mk (.int 10000))) (mk (.int 13))) (mk (.int 5)))) (mset 3 [3] (mlc (mitl (mvar 3)) (.nm 7) yes (bin subD (mk (.int 0)) (mvar 7)))) mskip) (mseq (mset 4 [1] (bin modD (bin fdivD (mvar 1) (mk (.int 175))) (mk (.int 3)))) (mseq (mset 5 [] (mlst [])) (mseq (mforf (mrange [(bin addD (mk (.int 1)) (bin modD (bin fdivD (mvar 1) (mk (.int 525))) (mk (.int 4))))]) (.nm 6) l__law_bar_1) (mretv 5)))))))
def f__law_bar : List D → Res D := bodyF 8 b__law_bar
def l__law_wide_1 : En → Out :=
  (mseq (mutL kApp 1 [2] (bin modD (mvar 2) (bin powD (mk (.int 10)) (mk (.int 6))))) (mset 2 [2] (bin fdivD (mvar 2) (bin powD (mk (.int 10)) (mk (.int 6))))))
def b__law_wide : En → Out :=
  (mseq (mifs (mor (tst (bin ltD (mcall lenD [(mvar 0)]) (mk (.int 2)))) (tst (bin ltD (mcall absD [(bin ixD (mvar 0) (mk (.int 1)))]) (bin powD (mk (.int 10)) (mk (.int 18)))))) (mretv 0) mskip) (mseq (mset 1 [] (mlst [])) (mseq (mset 2 [0] (mcall absD [(bin ixD (mvar 0) (mk (.int 1)))])) (mseq (mwhile (mand (tst (bin gtD (mvar 2) (mk (.int 0)))) (tst (bin ltD (mcall lenD [(mvar 1)]) (mk (.int 63))))) l__law_wide_1) (mret [1, 0] (bin addD (mvar 1) (msl (mvar 0) (psome (mk (.int 2))) pno)))))))
def f__law_wide : List D → Res D := bodyF 3 b__law_wide
def l_Pour_spread_1 : En → Out :=
  (mputD 3 [] (mvar 4) (mk (.bl true)))
def l_Pour_spread_2 : En → Out :=
  (mifs (mand (tst (bin in2D (mvar 7) (mvar 3))) (tst (bin nin2D (mvar 7) (un (fldT "Pour" "levels") (mvar 0))))) (mseq (mfput 0 "Pour" "levels" (mvar 7) (mcall maxD [(bin ixD (un (fldT "Pour" "levels") (mvar 0)) (mvar 6)), (bin ixD (mvar 7) (mk (.int 2)))])) (mseq (mfput 0 "Pour" "came" (mvar 7) (mvar 6)) (mutL kApp 5 [7] (mvar 7)))) mskip)
def l_Pour_spread_3 : En → Out :=
  (mseq (mset 6 [5, 0] (minLm "Pour" "levels" false 0 (mvar 5))) (mseq (mmE 5 removeT [(mvar 6)]) (mfor [6] (mfn f_neighbours [(mvar 6)]) (.nm 7) l_Pour_spread_2)))
def b_Pour_spread : En → Out :=
  (mseq (mset 3 [] (mdct true)) (mseq (mfor [1] (mvar 1) (.nm 4) l_Pour_spread_1) (mseq (mset 5 [2] (mlst [(mvar 2)])) (mwhile (tst (bin neD (mvar 5) (mlst []))) l_Pour_spread_3))))
def l_ways_out_1 : En → Out :=
  (mputD 2 [] (mvar 3) (mk (.bl true)))
def l_ways_out_2 : En → Out :=
  (mifs (tst (bin nin2D (mvar 6) (mvar 4))) (mseq (mputD 4 [] (mvar 6) (mk .non)) (mutL kApp 5 [6] (mvar 6))) mskip)
def l_ways_out_3 : En → Out :=
  (mifs (mand (tst (bin in2D (mvar 8) (mvar 2))) (mand (tst (bin nin2D (mvar 8) (mvar 4))) (tst (bin leD (bin ixD (mvar 8) (mk (.int 2))) (bin ixD (mvar 7) (mk (.int 2))))))) (mseq (mputD 4 [7] (mvar 8) (mvar 7)) (mutL kApp 5 [8] (mvar 8))) mskip)
def l_ways_out_4 : En → Out :=
  (mseq (mmS 5 7 popAtK [(mk (.int 0))]) (mfor [7] (mfn f_neighbours [(mvar 7)]) (.nm 8) l_ways_out_3))
def b_ways_out : En → Out :=
  (mseq (mset 2 [] (mdct true)) (mseq (mfor [0] (mvar 0) (.nm 3) l_ways_out_1) (mseq (mset 4 [] (mdct true)) (mseq (mset 5 [] (mlst [])) (mseq (mfor [1] (mvar 1) (.nm 6) l_ways_out_2) (mseq (mwhile (tst (bin neD (mvar 5) (mlst []))) l_ways_out_4) (mretv 4)))))))
def f_ways_out : List D → Res D := bodyF 9 b_ways_out
def b_quarter : En → Out :=
  (mret [0, 1] (mcall sortD [(mlc (mitl (mvar 0)) (.nm 2) yes (mfn f_quarter_cell [(mvar 2), (mvar 1)]))]))
def f_quarter : List D → Res D := bodyF 3 b_quarter
def b_mirrored : En → Out :=
  (mret [0, 1] (mcall sortD [(mlc (mitl (mvar 0)) (.nm 2) yes (mfn f_mirrored_cell [(mvar 2), (mvar 1)]))]))
def f_mirrored : List D → Res D := bodyF 3 b_mirrored
def l_piece_from_1 : En → Out :=
  (mifs (tst (bin in2D (mvar 4) (mvar 1))) (mseq (dmO 1 dpopK [(mvar 4)]) (mutL kApp 2 [4] (mvar 4))) mskip)
def l_piece_from_2 : En → Out :=
  (mseq (mfor [2, 3] (mfn f_neighbours [(bin ixD (mvar 2) (mvar 3))]) (.nm 4) l_piece_from_1) (maug 3 (mk (.int 1))))
def b_piece_from : En → Out :=
  (mseq (dmO 1 dpopK [(mvar 0)]) (mseq (mset 2 [0] (mlst [(mvar 0)])) (mseq (mset 3 [] (mk (.int 0))) (mseq (mwhile (tst (bin ltD (mvar 3) (mcall lenD [(mvar 2)]))) l_piece_from_2) (mret [2] (mcall sortD [(mvar 2)]))))))
def f_piece_from : List D → Res D := bodyF 5 b_piece_from
def l__law_body_1 : En → Out :=
  (mputD 4 [] (mvar 6) (mk (.bl true)))
def l__law_body_2 : En → Out :=
  (mfor [3, 5, 2] (mfn f__law_bar [(mvar 3), (mfn f__law_mix [(mvar 5), (mk (.int 16807))]), (bin eqD (bin modD (mvar 2) (mk (.int 3))) (mk (.int 1)))]) (.nm 6) l__law_body_1)
def b__law_body : En → Out :=
  (mseq (mset 2 [0] (mfn f__law_cell_at [(mvar 0), (mk (.int 0))])) (mseq (mset 3 [2, 2, 2] (mlst [(bin subD (bin modD (mfn f__law_mix [(mvar 2), (mk (.int 48271))]) (mk (.int 109))) (mk (.int 57))), (bin subD (bin modD (mfn f__law_mix [(mvar 2), (mk (.int 69621))]) (mk (.int 109))) (mk (.int 57))), (bin subD (bin modD (mfn f__law_mix [(mvar 2), (mk (.int 40692))]) (mk (.int 109))) (mk (.int 57)))])) (mseq (mset 4 [] (mdct true)) (mseq (mfor [1] (mvar 1) (.nm 5) l__law_body_2) (mret [4] (mcall sortD [(mvar 4)]))))))
def f__law_body : List D → Res D := bodyF 7 b__law_body
def b__law_brought : En → Out :=
  (mseq (mifs (tst (bin eqD (mvar 1) (mk (.str "z")))) (mret [0] (mfn f_quarter_cell [(mvar 0), (mk (.str "z"))])) mskip) (mret [0, 1] (mfn f_mirrored_cell [(mvar 0), (mvar 1)])))
def f__law_brought : List D → Res D := bodyF 2 b__law_brought
def b_shut : En → Out :=
  (mseq (mset 2 [0, 1] (mfn f_ways_out [(mvar 0), (mvar 1)])) (mret [0, 2] (mlc (mitl (mvar 0)) (.nm 3) (tst (bin nin2D (mvar 3) (mvar 2))) (mvar 3))))
def f_shut : List D → Res D := bodyF 4 b_shut
def l_pieces_1 : En → Out :=
  (mifs (tst (bin in2D (mvar 3) (mvar 1))) (mappIO 2 1 (ioG 5 b_piece_from) (mvar 3)) mskip)
def b_pieces : En → Out :=
  (mseq (mset 1 [0] (mfn f_there_of [(mvar 0)])) (mseq (mset 2 [] (mlst [])) (mseq (mfor [0] (mvar 0) (.nm 3) l_pieces_1) (mretv 2))))
def f_pieces : List D → Res D := bodyF 4 b_pieces
def b__law_hollow : En → Out :=
  (mret [0, 0, 0] (mfn f__law_body [(mvar 0), (bin addD (mlst [(mfn f__law_cell_at [(mvar 0), (mk (.int 1))])]) (msl (mvar 0) (psome (mk (.int 2))) (psome (mk (.int 20)))))]))
def f__law_hollow : List D → Res D := bodyF 1 b__law_hollow
def b__law_body_brought : En → Out :=
  (mseq (mifs (tst (bin eqD (mvar 1) (mk (.str "z")))) (mret [0] (mfn f_quarter [(mvar 0), (mk (.str "z"))])) mskip) (mret [0, 1] (mfn f_mirrored [(mvar 0), (mvar 1)])))
def f__law_body_brought : List D → Res D := bodyF 2 b__law_body_brought
noncomputable def f_Pour : D → D → Option D := pourT N_Pour_spread.length "Pour" "levels" "came" b_Pour_spread
def b_level : En → Out :=
  (mret [0, 1, 2] (mget1 (un (fldT "Pour" "levels") (mmake f_Pour [(mvar 0), (mvar 1)])) (mvar 2)))
def f_level : List D → Res D := bodyF 3 b_level
def b_filled : En → Out :=
  (mseq (mset 2 [0, 1] (mmake f_Pour [(mvar 0), (mvar 1)])) (mret [2, 2] (sortKm "Pour" "levels" true 2 (un (fldT "Pour" "levels") (mvar 2)))))
def f_filled : List D → Res D := bodyF 3 b_filled
def l__law_asked_so_1 : En → Out :=
  (mifs (tst (bin neD (mfn f_level [(mvar 5), (mvar 6), (mfn f__law_brought [(mvar 8), (mvar 4)])]) (mfn f_level [(mvar 1), (mvar 2), (mvar 8)]))) (mret [] (mk (.bl false))) mskip)
def b__law_asked_so : En → Out :=
  (mseq (mset 1 [0] (mfn f__law_hollow [(mvar 0)])) (mseq (mset 2 [1, 0, 1] (bin ixD (mvar 1) (bin modD (mfn f__law_mix [(mfn f__law_cell_at [(mvar 0), (mk (.int 0))]), (mk (.int 630360016))]) (mcall lenD [(mvar 1)])))) (mseq (mset 3 [1, 0, 1] (mlc (mrange [(mk (.int 2))]) (.nm 12) yes (bin ixD (mvar 1) (bin modD (mfn f__law_mix [(mfn f__law_cell_at [(mvar 0), (mvar 12)]), (mk (.int 40692))]) (mcall lenD [(mvar 1)]))))) (mseq (mset 4 [0] (bin ixD (mk (.str "xyz")) (bin modD (mfn f__law_mix [(mfn f__law_cell_at [(mvar 0), (mk (.int 1))]), (mk (.int 69621))]) (mk (.int 3))))) (mseq (mset 5 [1, 4] (mfn f__law_body_brought [(mvar 1), (mvar 4)])) (mseq (mset 6 [2, 4] (mfn f__law_brought [(mvar 2), (mvar 4)])) (mseq (mset 7 [1, 0, 1] (mlc (mrange [(mk (.int 8))]) (.nm 12) yes (bin ixD (mvar 1) (bin modD (mfn f__law_mix [(mfn f__law_cell_at [(mvar 0), (mvar 12)]), (mk (.int 48271))]) (mcall lenD [(mvar 1)]))))) (mseq (mfor [7] (mvar 7) (.nm 8) l__law_asked_so_1) (mseq (mset 9 [5, 3, 4] (mfn f_shut [(mvar 5), (mlc (mitl (mvar 3)) (.nm 13) yes (mfn f__law_brought [(mvar 13), (mvar 4)]))])) (mseq (mset 10 [1, 2] (mfn f_filled [(mvar 1), (mvar 2)])) (mseq (mifs (mor (tst (bin neD (mvar 9) (mfn f__law_body_brought [(mfn f_shut [(mvar 1), (mvar 3)]), (mvar 4)]))) (tst (bin neD (mcall lenD [(mfn f_filled [(mvar 5), (mvar 6)])]) (mcall lenD [(mvar 10)])))) (mret [] (mk (.bl false))) mskip) (mseq (mset 11 [1, 2] (bin ixD (mlc (mitl (mfn f_pieces [(mvar 1)])) (.nm 14) (tst (bin in2D (mvar 2) (mvar 14))) (mvar 14)) (mk (.int 0)))) (mret [11, 2, 10, 10, 11] (vand (bin eqD (mfn f_filled [(mvar 11), (mvar 2)]) (mvar 10)) (bin eqD (mcall lenD [(mvar 10)]) (mcall lenD [(mvar 11)]))))))))))))))))
def f__law_asked_so : List D → Res D := bodyF 15 b__law_asked_so
def b_law : En → Out :=
  (mret [0] (mfn f__law_asked_so [(mfn f__law_wide [(mvar 0)])]))
def f_law : List D → Res D := bodyF 1 b_law
end
section
variable {P : Program} {w : World} {K : PySem.W.Frag} {mg : Str → Option Value} {base : Heap}
theorem ok_neighbours (T : Tx K mg) (TB : TBs T base) : FnOk P w K mg base (L2.CX P w) 1 T.a_neighbours T.d_neighbours ["cell"] (spD mg 1 f_neighbours) := by
  refine fn_of_bodyP (N := N_neighbours) (k := 0) (m := b_neighbours) T.F_neighbours sc_neighbours (by decide) fun X Fr cdv A outer s H E eX hM hP hr tk po hcode => ?_
  subst eX
  exact (dss_cons (ds_sett (ts := [2, 3, 4]) (fv := [0]) (dg_tp rfl (dgs_cons (i := 2) (dgs_cons (i := 3) (dgs_cons (i := 4) dgs_nil sc_neighbours.nd) sc_neighbours.nd) sc_neighbours.nd)) (de_var (i := 0))) (dss_cons (ds_set (i := 1) (fv := [2, 3, 4, 2, 3, 4, 2, 3, 4, 2, 3, 4]) sc_neighbours.nd (de_lst (da_cons (de_tup (da_cons (de_bin od_sub (de_var (i := 2)) de_int) (da_cons (de_var (i := 3)) (da_cons (de_var (i := 4)) da_nil)))) (da_cons (de_tup (da_cons (de_var (i := 2)) (da_cons (de_bin od_sub (de_var (i := 3)) de_int) (da_cons (de_var (i := 4)) da_nil)))) (da_cons (de_tup (da_cons (de_var (i := 2)) (da_cons (de_var (i := 3)) (da_cons (de_bin od_sub (de_var (i := 4)) de_int) da_nil)))) (da_cons (de_tup (da_cons (de_var (i := 2)) (da_cons (de_var (i := 3)) (da_cons (de_bin od_add (de_var (i := 4)) de_int) da_nil)))) da_nil)))))) (dss_one (ds_ret (fv := [1, 2, 3, 4, 2, 3, 4]) (de_bin od_add (de_var (i := 1)) (de_lst (da_cons (de_tup (da_cons (de_var (i := 2)) (da_cons (de_bin od_add (de_var (i := 3)) de_int) (da_cons (de_var (i := 4)) da_nil)))) (da_cons (de_tup (da_cons (de_bin od_add (de_var (i := 2)) de_int) (da_cons (de_var (i := 3)) (da_cons (de_var (i := 4)) da_nil)))) da_nil))))))))
theorem ok_quarter_cell (T : Tx K mg) (TB : TBs T base) : FnOk P w K mg base (L2.CX P w) 1 T.a_quarter_cell T.d_quarter_cell ["cell", "axis"] (spD mg 2 f_quarter_cell) := by
  refine fn_of_bodyP (N := N_quarter_cell) (k := 0) (m := b_quarter_cell) T.F_quarter_cell sc_quarter_cell (by decide) fun X Fr cdv A outer s H E eX hM hP hr tk po hcode => ?_
  subst eX
  exact (dss_cons (ds_sett (ts := [2, 3, 4]) (fv := [0]) (dg_tp rfl (dgs_cons (i := 2) (dgs_cons (i := 3) (dgs_cons (i := 4) dgs_nil sc_quarter_cell.nd) sc_quarter_cell.nd) sc_quarter_cell.nd)) (de_var (i := 0))) (dss_cons (ds_if (dt_cmp (od_eq (hu64 hr)) (de_var (i := 1)) de_str (nomark _)) (dss_one (ds_ret (fv := [2, 4, 3]) (de_tup (da_cons (de_var (i := 2)) (da_cons (de_bin od_sub de_int (de_var (i := 4))) (da_cons (de_var (i := 3)) da_nil)))))) dss_nil) (dss_cons (ds_if (dt_cmp (od_eq (hu64 hr)) (de_var (i := 1)) de_str (nomark _)) (dss_one (ds_ret (fv := [4, 3, 2]) (de_tup (da_cons (de_var (i := 4)) (da_cons (de_var (i := 3)) (da_cons (de_bin od_sub de_int (de_var (i := 2))) da_nil)))))) dss_nil) (dss_one (ds_ret (fv := [3, 2, 4]) (de_tup (da_cons (de_bin od_sub de_int (de_var (i := 3))) (da_cons (de_var (i := 2)) (da_cons (de_var (i := 4)) da_nil)))))))))
theorem ok_mirrored_cell (T : Tx K mg) (TB : TBs T base) : FnOk P w K mg base (L2.CX P w) 1 T.a_mirrored_cell T.d_mirrored_cell ["cell", "axis"] (spD mg 2 f_mirrored_cell) := by
  refine fn_of_bodyP (N := N_mirrored_cell) (k := 0) (m := b_mirrored_cell) T.F_mirrored_cell sc_mirrored_cell (by decide) fun X Fr cdv A outer s H E eX hM hP hr tk po hcode => ?_
  subst eX
  exact (dss_cons (ds_set (i := 2) (fv := [0]) sc_mirrored_cell.nd (de_callTy (cd_list rfl) T.m_list (by decide +kernel) (da_cons (de_var (i := 0)) da_nil))) (dss_cons (ds_set (i := 3) (fv := [1]) sc_mirrored_cell.nd (de_sindex (de_gstr T.c_AXES) (da_cons (de_var (i := 1)) da_nil))) (dss_cons (ds_putL (i := 2) (fv := [2, 3]) (de_bin od_sub de_int (de_ix (hu1 hr) (de_var (i := 2)) (de_var (i := 3)))) (de_var (i := 3))) (dss_one (ds_ret (fv := [2]) (de_callTy cd_tuple T.m_tuple (by decide +kernel) (da_cons (de_var (i := 2)) da_nil)))))))
theorem ok_there_of (T : Tx K mg) (TB : TBs T base) : FnOk P w K mg base (L2.CX P w) 1 T.a_there_of T.d_there_of ["cells"] (spD mg 1 f_there_of) := by
  refine fn_of_bodyP (N := N_there_of) (k := 0) (m := b_there_of) T.F_there_of sc_there_of (by decide) fun X Fr cdv A outer s H E eX hM hP hr tk po hcode => ?_
  subst eX
  exact (dss_one (ds_ret (fv := [0]) (de_callTy (cd_dict rfl (hu2 hr)) T.m_dict (by decide +kernel) (da_cons (de_lc (own := [("cell", 1)]) (t := (.nm 1)) sc_there_of.nd rfl (di_list (de_var (i := 0))) (blkOk_by (N := N_there_of) (sc := defScope s_there_of) (by decide +kernel)) (fun _ _ _ _ _ => (dg_nm (i := 1) sc_there_of.nd)) (fun _ _ _ _ _ => dts_nil) (fun _ _ _ _ _ => (de_tup (da_cons (de_var (i := 1)) (da_cons de_bl da_nil))))) da_nil))))
theorem ok__law_cell_at (T : Tx K mg) (TB : TBs T base) : FnOk P w K mg base (L2.CX P w) 1 T.a__law_cell_at T.d__law_cell_at ["_law_script", "_law_k"] (spD mg 2 f__law_cell_at) := by
  refine fn_of_bodyP (N := N__law_cell_at) (k := 0) (m := b__law_cell_at) T.F__law_cell_at sc__law_cell_at (by decide) fun X Fr cdv A outer s H E eX hM hP hr tk po hcode => ?_
  subst eX
  exact (dss_cons (ds_if (dt_cmp od_lt (de_var (i := 1)) (de_callB cd_len T.m_len (by decide +kernel) (da_cons (de_var (i := 0)) da_nil)) (nomark _)) (dss_one (ds_ret (fv := [0, 1]) (de_ix (hu1 hr) (de_var (i := 0)) (de_var (i := 1))))) dss_nil) (dss_one (ds_ret (fv := []) de_int)))
theorem ok__law_mix (T : Tx K mg) (TB : TBs T base) : FnOk P w K mg base (L2.CX P w) 1 T.a__law_mix T.d__law_mix ["_law_cell", "_law_factor"] (spD mg 2 f__law_mix) := by
  refine fn_of_bodyP (N := N__law_mix) (k := 0) (m := b__law_mix) T.F__law_mix sc__law_mix (by decide) fun X Fr cdv A outer s H E eX hM hP hr tk po hcode => ?_
  subst eX
  exact (dss_one (ds_ret (fv := [0, 1]) (de_bin od_mod (de_bin od_mul (de_bin od_add (de_bin od_mod (de_var (i := 0)) (de_bin od_pow de_int de_int)) de_int) (de_var (i := 1))) de_int)))
theorem ok__law_bar (T : Tx K mg) (TB : TBs T base) : FnOk P w K mg base (L2.CX P w) 1 T.a__law_bar T.d__law_bar ["_law_base", "_law_number", "_law_flat"] (spD mg 3 f__law_bar) := by
  refine fn_of_bodyP (N := N__law_bar) (k := 0) (m := b__law_bar) T.F__law_bar sc__law_bar (by decide) fun X Fr cdv A outer s H E eX hM hP hr tk po hcode => ?_
  subst eX
  exact (dss_cons (ds_set (i := 3) (fv := [0, 1, 0, 1, 0, 1]) sc__law_bar.nd (de_lst (da_cons (de_bin od_add (de_ix (hu1 hr) (de_var (i := 0)) de_int) (de_bin od_mod (de_var (i := 1)) de_int)) (da_cons (de_bin od_add (de_ix (hu1 hr) (de_var (i := 0)) de_int) (de_bin od_mod (de_bin od_fdiv (de_var (i := 1)) de_int) de_int)) (da_cons (de_bin od_add (de_ix (hu1 hr) (de_var (i := 0)) de_int) (de_bin od_mod (de_bin od_fdiv (de_var (i := 1)) de_int) de_int)) da_nil))))) (dss_cons (ds_if (dt_of (de_var (i := 2))) (dss_one (ds_putL (i := 3) (fv := [0]) (de_ix (hu1 hr) (de_var (i := 0)) de_int) de_int)) dss_nil) (dss_cons (ds_if (dt_cmp (od_eq (hu64 hr)) (de_bin od_mod (de_bin od_fdiv (de_var (i := 1)) de_int) de_int) de_int (nomark _)) (dss_one (ds_setLc (i := 3) (own := [("_law_one", 7)]) (t := (.nm 7)) sc__law_bar.nd rfl (di_list (de_var (i := 3))) (blkOk_by (N := N__law_bar) (sc := defScope s__law_bar) (by decide +kernel)) (fun _ _ _ _ _ => (dg_nm (i := 7) sc__law_bar.nd)) (fun _ _ _ _ _ => dts_nil) (fun _ _ _ _ _ => (de_bin od_sub de_int (de_var (i := 7)))) (sw_true rfl rfl rfl (by decide +kernel)))) dss_nil) (dss_cons (ds_set (i := 4) (fv := [1]) sc__law_bar.nd (de_bin od_mod (de_bin od_fdiv (de_var (i := 1)) de_int) de_int)) (dss_cons (ds_set (i := 5) (fv := []) sc__law_bar.nd (de_lst da_nil)) (dss_cons (ds_forf (t := (.nm 6)) po rfl (df_range1 T.m_range (da_cons (de_bin od_add de_int (de_bin od_mod (de_bin od_fdiv (de_var (i := 1)) de_int) de_int)) da_nil)) (dg_nm (i := 6) sc__law_bar.nd) (dss_cons (ds_app (i := 5) (fv := [3]) (de_callTy cd_tuple T.m_tuple (by decide +kernel) (da_cons (de_var (i := 3)) da_nil))) (dss_one (ds_putL (i := 3) (fv := [3, 4]) (de_bin od_add (de_ix (hu1 hr) (de_var (i := 3)) (de_var (i := 4))) de_int) (de_var (i := 4)))))) (dss_one (ds_retv (i := 5) hM))))))))
theorem ok__law_wide (T : Tx K mg) (TB : TBs T base) : FnOk P w K mg base (L2.CX P w) 1 T.a__law_wide T.d__law_wide ["_law_script"] (spD mg 1 f__law_wide) := by
  refine fn_of_bodyP (N := N__law_wide) (k := 0) (m := b__law_wide) T.F__law_wide sc__law_wide (by decide) fun X Fr cdv A outer s H E eX hM hP hr tk po hcode => ?_
  subst eX
  exact (dss_cons (ds_if (dt_w (dw_or (dt_cmp od_lt (de_callB cd_len T.m_len (by decide +kernel) (da_cons (de_var (i := 0)) da_nil)) de_int (nomark _)) (dw_or1 (dt_cmp od_lt (de_callB cd_abs T.m_abs (by decide +kernel) (da_cons (de_ix (hu1 hr) (de_var (i := 0)) de_int) da_nil)) (de_bin od_pow de_int de_int) (nomark _))))) (dss_one (ds_retv (i := 0) hM)) dss_nil) (dss_cons (ds_set (i := 1) (fv := []) sc__law_wide.nd (de_lst da_nil)) (dss_cons (ds_set (i := 2) (fv := [0]) sc__law_wide.nd (de_callB cd_abs T.m_abs (by decide +kernel) (da_cons (de_ix (hu1 hr) (de_var (i := 0)) de_int) da_nil))) (dss_cons (ds_while po (dt_w (dw_and (dt_cmp od_gt (de_var (i := 2)) de_int (nomark _)) (dw_and1 (dt_cmp od_lt (de_callB cd_len T.m_len (by decide +kernel) (da_cons (de_var (i := 1)) da_nil)) de_int (nomark _))))) (dss_cons (ds_app (i := 1) (fv := [2]) (de_bin od_mod (de_var (i := 2)) (de_bin od_pow de_int de_int))) (dss_one (ds_set (i := 2) (fv := [2]) sc__law_wide.nd (de_bin od_fdiv (de_var (i := 2)) (de_bin od_pow de_int de_int)))))) (dss_one (ds_ret (fv := [1, 0]) (de_bin od_add (de_var (i := 1)) (de_sl (de_var (i := 0)) (do_some de_int) do_no))))))))
theorem ok_Pour_spread (T : Tx K mg) (TB : TBs T base) : FnOk P w K mg base (L2.CX P w) 2 T.a_Pour_spread T.d_Pour_spread ["self", "hollow", "gate"] (spSp mg N_Pour_spread.length "Pour" "levels" "came" b_Pour_spread) := by
  refine fn_of_bodySp (N := N_Pour_spread) (k := 1) (m := b_Pour_spread) T.F_Pour_spread sc_Pour_spread (by decide) rfl fun X Fr cdv A outer s H E eX hP hr tk po hcode => ?_
  subst eX
  exact (dss_cons (ds_set (i := 3) (fv := []) sc_Pour_spread.nd de_dctT) (dss_cons (ds_for (fv := [1]) (t := (.nm 4)) po rfl (de_var (i := 1)) (dg_nm (i := 4) sc_Pour_spread.nd) (dss_one (ds_putD (i := 3) (fv := []) (hu1 hr) de_bl (de_var (i := 4))))) (dss_cons (ds_set (i := 5) (fv := [2]) sc_Pour_spread.nd (de_lst (da_cons (de_var (i := 2)) da_nil))) (dss_one (ds_while po (dt_cmp (od_ne (hu64 hr)) (de_var (i := 5)) (de_lst da_nil) (nomark _)) (dss_cons (ds_set (i := 6) (fv := [5, 0]) sc_Pour_spread.nd (de_minL (z := "self") (y := "cell") (jz := 0) (two := false) ⟨TB.t_Pour_spread, hcode.trans T.dc_Pour_spread, T.pt_Pour_spread⟩ rfl (hr.mono (by decide)) T.m_min T.g_Pour T.cl_Pour T.n_Pour_levels (de_var (i := 5)) (show LamP (defScope s_Pour_spread) _ _ _ from lamP_by (by decide +kernel)) (.one _ _ _ _ _ _ _) (fun _ _ _ _ _ _ => rfl))) (dss_cons (ds_mmE (i := 5) PySem.F.slot_list_remove PySem.F.type_list_remove (mt_removeT (hu65 hr)) hr_removeT (da_cons (de_var (i := 6)) da_nil)) (dss_one (ds_for (fv := [6]) (t := (.nm 7)) po rfl (de_call (ok_neighbours T TB) (hr.mono (by decide)) T.g_neighbours T.F_neighbours.kp T.b_neighbours tk (da_cons (de_var (i := 6)) da_nil)) (dg_nm (i := 7) sc_Pour_spread.nd) (dss_one (ds_if (dt_w (dw_and (dt_cmp (od_in2 (hu65 hr)) (de_var (i := 7)) (de_var (i := 3)) rfl) (dw_and1 (dt_cmp (od_nin2 (hu65 hr)) (de_var (i := 7)) (de_fld T.g_Pour T.cl_Pour T.n_Pour_levels (de_var (i := 0))) rfl)))) (dss_cons (ds_fput (i := 0) (hu1 hr) T.g_Pour T.cl_Pour T.n_Pour_levels (de_callB (cd_max rfl) T.m_max (by decide +kernel) (da_cons (de_ix (hu1 hr) (de_fld T.g_Pour T.cl_Pour T.n_Pour_levels (de_var (i := 0))) (de_var (i := 6))) (da_cons (de_ix (hu1 hr) (de_var (i := 7)) de_int) da_nil))) (de_var (i := 7))) (dss_cons (ds_fput (i := 0) (hu1 hr) T.g_Pour T.cl_Pour T.n_Pour_came (de_var (i := 6)) (de_var (i := 7))) (dss_one (ds_app (i := 5) (fv := [7]) (de_var (i := 7)))))) dss_nil)))))))))))
theorem ok_ways_out (T : Tx K mg) (TB : TBs T base) : FnOk P w K mg base (L2.CX P w) 2 T.a_ways_out T.d_ways_out ["hollow", "vents"] (spD mg 2 f_ways_out) := by
  refine fn_of_bodyP (N := N_ways_out) (k := 1) (m := b_ways_out) T.F_ways_out sc_ways_out (by decide) fun X Fr cdv A outer s H E eX hM hP hr tk po hcode => ?_
  subst eX
  exact (dss_cons (ds_set (i := 2) (fv := []) sc_ways_out.nd de_dctT) (dss_cons (ds_for (fv := [0]) (t := (.nm 3)) po rfl (de_var (i := 0)) (dg_nm (i := 3) sc_ways_out.nd) (dss_one (ds_putD (i := 2) (fv := []) (hu1 hr) de_bl (de_var (i := 3))))) (dss_cons (ds_set (i := 4) (fv := []) sc_ways_out.nd de_dctT) (dss_cons (ds_set (i := 5) (fv := []) sc_ways_out.nd (de_lst da_nil)) (dss_cons (ds_for (fv := [1]) (t := (.nm 6)) po rfl (de_var (i := 1)) (dg_nm (i := 6) sc_ways_out.nd) (dss_one (ds_if (dt_cmp (od_nin2 (hu65 hr)) (de_var (i := 6)) (de_var (i := 4)) rfl) (dss_cons (ds_putD (i := 4) (fv := []) (hu1 hr) de_non (de_var (i := 6))) (dss_one (ds_app (i := 5) (fv := [6]) (de_var (i := 6))))) dss_nil))) (dss_cons (ds_while po (dt_cmp (od_ne (hu64 hr)) (de_var (i := 5)) (de_lst da_nil) (nomark _)) (dss_cons (ds_mmS (i := 5) (j := 7) PySem.F.slot_list_pop PySem.F.type_list_pop mt_popAt hr_popAt sc_ways_out.nd (da_cons de_int da_nil)) (dss_one (ds_for (fv := [7]) (t := (.nm 8)) po rfl (de_call (ok_neighbours T TB) (hr.mono (by decide)) T.g_neighbours T.F_neighbours.kp T.b_neighbours tk (da_cons (de_var (i := 7)) da_nil)) (dg_nm (i := 8) sc_ways_out.nd) (dss_one (ds_if (dt_w (dw_and (dt_cmp (od_in2 (hu65 hr)) (de_var (i := 8)) (de_var (i := 2)) rfl) (dw_and (dt_cmp (od_nin2 (hu65 hr)) (de_var (i := 8)) (de_var (i := 4)) rfl) (dw_and1 (dt_cmp od_le (de_ix (hu1 hr) (de_var (i := 8)) de_int) (de_ix (hu1 hr) (de_var (i := 7)) de_int) (nomark _)))))) (dss_cons (ds_putD (i := 4) (fv := [7]) (hu1 hr) (de_var (i := 7)) (de_var (i := 8))) (dss_one (ds_app (i := 5) (fv := [8]) (de_var (i := 8))))) dss_nil)))))) (dss_one (ds_retv (i := 4) hM))))))))
theorem ok_quarter (T : Tx K mg) (TB : TBs T base) : FnOk P w K mg base (L2.CX P w) 2 T.a_quarter T.d_quarter ["body", "axis"] (spD mg 2 f_quarter) := by
  refine fn_of_bodyP (N := N_quarter) (k := 1) (m := b_quarter) T.F_quarter sc_quarter (by decide) fun X Fr cdv A outer s H E eX hM hP hr tk po hcode => ?_
  subst eX
  exact (dss_one (ds_ret (fv := [0, 1]) (de_callB (cd_sorted rfl (hu64 hr)) T.m_sorted (by decide +kernel) (da_cons (de_lc (own := [("cell", 2)]) (t := (.nm 2)) sc_quarter.nd rfl (di_list (de_var (i := 0))) (blkOk_by (N := N_quarter) (sc := defScope s_quarter) (by decide +kernel)) (fun _ _ _ _ _ => (dg_nm (i := 2) sc_quarter.nd)) (fun _ _ _ _ _ => dts_nil) (fun _ _ _ _ _ => (de_call (ok_quarter_cell T TB) (hr.mono (by decide)) T.g_quarter_cell T.F_quarter_cell.kp T.b_quarter_cell takes0 (da_cons (de_var (i := 2)) (da_cons (de_var (i := 1)) da_nil))))) da_nil))))
theorem ok_mirrored (T : Tx K mg) (TB : TBs T base) : FnOk P w K mg base (L2.CX P w) 2 T.a_mirrored T.d_mirrored ["body", "axis"] (spD mg 2 f_mirrored) := by
  refine fn_of_bodyP (N := N_mirrored) (k := 1) (m := b_mirrored) T.F_mirrored sc_mirrored (by decide) fun X Fr cdv A outer s H E eX hM hP hr tk po hcode => ?_
  subst eX
  exact (dss_one (ds_ret (fv := [0, 1]) (de_callB (cd_sorted rfl (hu64 hr)) T.m_sorted (by decide +kernel) (da_cons (de_lc (own := [("cell", 2)]) (t := (.nm 2)) sc_mirrored.nd rfl (di_list (de_var (i := 0))) (blkOk_by (N := N_mirrored) (sc := defScope s_mirrored) (by decide +kernel)) (fun _ _ _ _ _ => (dg_nm (i := 2) sc_mirrored.nd)) (fun _ _ _ _ _ => dts_nil) (fun _ _ _ _ _ => (de_call (ok_mirrored_cell T TB) (hr.mono (by decide)) T.g_mirrored_cell T.F_mirrored_cell.kp T.b_mirrored_cell takes0 (da_cons (de_var (i := 2)) (da_cons (de_var (i := 1)) da_nil))))) da_nil))))
theorem ok_piece_from (T : Tx K mg) (TB : TBs T base) : FnOk P w K mg base (L2.CX P w) 2 T.a_piece_from T.d_piece_from ["cell", "left"] (spIO mg N_piece_from.length b_piece_from) := by
  refine fn_of_bodyIO (N := N_piece_from) (k := 1) (m := b_piece_from) T.F_piece_from sc_piece_from (by decide) rfl fun X Fr cdv A outer s H E eX hr tk po => ?_
  subst eX
  exact (dss_cons (ds_dmO (i := 1) PySem.F.slot_dict_pop PySem.F.type_dict_pop (mt_pop1 (hu1 hr)) hr_dpop (da_cons (de_var (i := 0)) da_nil)) (dss_cons (ds_set (i := 2) (fv := [0]) sc_piece_from.nd (de_lst (da_cons (de_var (i := 0)) da_nil))) (dss_cons (ds_set (i := 3) (fv := []) sc_piece_from.nd de_int) (dss_cons (ds_while po (dt_cmp od_lt (de_var (i := 3)) (de_callB cd_len T.m_len (by decide +kernel) (da_cons (de_var (i := 2)) da_nil)) (nomark _)) (dss_cons (ds_for (fv := [2, 3]) (t := (.nm 4)) po rfl (de_call (ok_neighbours T TB) (hr.mono (by decide)) T.g_neighbours T.F_neighbours.kp T.b_neighbours tk (da_cons (de_ix (hu1 hr) (de_var (i := 2)) (de_var (i := 3))) da_nil)) (dg_nm (i := 4) sc_piece_from.nd) (dss_one (ds_if (dt_cmp (od_in2 (hu65 hr)) (de_var (i := 4)) (de_var (i := 1)) rfl) (dss_cons (ds_dmO (i := 1) PySem.F.slot_dict_pop PySem.F.type_dict_pop (mt_pop1 (hu1 hr)) hr_dpop (da_cons (de_var (i := 4)) da_nil)) (dss_one (ds_app (i := 2) (fv := [4]) (de_var (i := 4))))) dss_nil))) (dss_one (ds_aug (i := 3) sc_piece_from.nd de_int)))) (dss_one (ds_ret (fv := [2]) (de_callB (cd_sorted rfl (hu64 hr)) T.m_sorted (by decide +kernel) (da_cons (de_var (i := 2)) da_nil))))))))
theorem ok__law_body (T : Tx K mg) (TB : TBs T base) : FnOk P w K mg base (L2.CX P w) 2 T.a__law_body T.d__law_body ["_law_script", "_law_some"] (spD mg 2 f__law_body) := by
  refine fn_of_bodyP (N := N__law_body) (k := 1) (m := b__law_body) T.F__law_body sc__law_body (by decide) fun X Fr cdv A outer s H E eX hM hP hr tk po hcode => ?_
  subst eX
  exact (dss_cons (ds_set (i := 2) (fv := [0]) sc__law_body.nd (de_call (ok__law_cell_at T TB) (hr.mono (by decide)) T.g__law_cell_at T.F__law_cell_at.kp T.b__law_cell_at tk (da_cons (de_var (i := 0)) (da_cons de_int da_nil)))) (dss_cons (ds_set (i := 3) (fv := [2, 2, 2]) sc__law_body.nd (de_lst (da_cons (de_bin od_sub (de_bin od_mod (de_call (ok__law_mix T TB) (hr.mono (by decide)) T.g__law_mix T.F__law_mix.kp T.b__law_mix tk (da_cons (de_var (i := 2)) (da_cons de_int da_nil))) de_int) de_int) (da_cons (de_bin od_sub (de_bin od_mod (de_call (ok__law_mix T TB) (hr.mono (by decide)) T.g__law_mix T.F__law_mix.kp T.b__law_mix tk (da_cons (de_var (i := 2)) (da_cons de_int da_nil))) de_int) de_int) (da_cons (de_bin od_sub (de_bin od_mod (de_call (ok__law_mix T TB) (hr.mono (by decide)) T.g__law_mix T.F__law_mix.kp T.b__law_mix tk (da_cons (de_var (i := 2)) (da_cons de_int da_nil))) de_int) de_int) da_nil))))) (dss_cons (ds_set (i := 4) (fv := []) sc__law_body.nd de_dctT) (dss_cons (ds_for (fv := [1]) (t := (.nm 5)) po rfl (de_var (i := 1)) (dg_nm (i := 5) sc__law_body.nd) (dss_one (ds_for (fv := [3, 5, 2]) (t := (.nm 6)) po rfl (de_call (ok__law_bar T TB) (hr.mono (by decide)) T.g__law_bar T.F__law_bar.kp T.b__law_bar tk (da_cons (de_var (i := 3)) (da_cons (de_call (ok__law_mix T TB) (hr.mono (by decide)) T.g__law_mix T.F__law_mix.kp T.b__law_mix tk (da_cons (de_var (i := 5)) (da_cons de_int da_nil))) (da_cons (de_cmp (od_eq (hu64 hr)) (de_bin od_mod (de_var (i := 2)) de_int) de_int (nomark _)) da_nil)))) (dg_nm (i := 6) sc__law_body.nd) (dss_one (ds_putD (i := 4) (fv := []) (hu1 hr) de_bl (de_var (i := 6))))))) (dss_one (ds_ret (fv := [4]) (de_callB (cd_sorted rfl (hu64 hr)) T.m_sorted (by decide +kernel) (da_cons (de_var (i := 4)) da_nil))))))))
theorem ok__law_brought (T : Tx K mg) (TB : TBs T base) : FnOk P w K mg base (L2.CX P w) 2 T.a__law_brought T.d__law_brought ["_law_cell", "_law_kind"] (spD mg 2 f__law_brought) := by
  refine fn_of_bodyP (N := N__law_brought) (k := 1) (m := b__law_brought) T.F__law_brought sc__law_brought (by decide) fun X Fr cdv A outer s H E eX hM hP hr tk po hcode => ?_
  subst eX
  exact (dss_cons (ds_if (dt_cmp (od_eq (hu64 hr)) (de_var (i := 1)) de_str (nomark _)) (dss_one (ds_ret (fv := [0]) (de_call (ok_quarter_cell T TB) (hr.mono (by decide)) T.g_quarter_cell T.F_quarter_cell.kp T.b_quarter_cell tk (da_cons (de_var (i := 0)) (da_cons de_str da_nil))))) dss_nil) (dss_one (ds_ret (fv := [0, 1]) (de_call (ok_mirrored_cell T TB) (hr.mono (by decide)) T.g_mirrored_cell T.F_mirrored_cell.kp T.b_mirrored_cell tk (da_cons (de_var (i := 0)) (da_cons (de_var (i := 1)) da_nil))))))
theorem ok_shut (T : Tx K mg) (TB : TBs T base) : FnOk P w K mg base (L2.CX P w) 3 T.a_shut T.d_shut ["hollow", "vents"] (spD mg 2 f_shut) := by
  refine fn_of_bodyP (N := N_shut) (k := 2) (m := b_shut) T.F_shut sc_shut (by decide) fun X Fr cdv A outer s H E eX hM hP hr tk po hcode => ?_
  subst eX
  exact (dss_cons (ds_set (i := 2) (fv := [0, 1]) sc_shut.nd (de_call (ok_ways_out T TB) (hr.mono (by decide)) T.g_ways_out T.F_ways_out.kp T.b_ways_out tk (da_cons (de_var (i := 0)) (da_cons (de_var (i := 1)) da_nil)))) (dss_one (ds_ret (fv := [0, 2]) (de_lc (own := [("cell", 3)]) (t := (.nm 3)) sc_shut.nd rfl (di_list (de_var (i := 0))) (blkOk_by (N := N_shut) (sc := defScope s_shut) (by decide +kernel)) (fun _ _ _ _ _ => (dg_nm (i := 3) sc_shut.nd)) (fun _ _ _ _ _ => (dts_one (dt_cmp (od_nin2 (hu65 hr)) (de_var (i := 3)) (de_var (i := 2)) rfl))) (fun _ _ _ _ _ => (de_var (i := 3)))))))
theorem ok_pieces (T : Tx K mg) (TB : TBs T base) : FnOk P w K mg base (L2.CX P w) 3 T.a_pieces T.d_pieces ["body"] (spD mg 1 f_pieces) := by
  refine fn_of_bodyP (N := N_pieces) (k := 2) (m := b_pieces) T.F_pieces sc_pieces (by decide) fun X Fr cdv A outer s H E eX hM hP hr tk po hcode => ?_
  subst eX
  exact (dss_cons (ds_set (i := 1) (fv := [0]) sc_pieces.nd (de_call (ok_there_of T TB) (hr.mono (by decide)) T.g_there_of T.F_there_of.kp T.b_there_of tk (da_cons (de_var (i := 0)) da_nil))) (dss_cons (ds_set (i := 2) (fv := []) sc_pieces.nd (de_lst da_nil)) (dss_cons (ds_for (fv := [0]) (t := (.nm 3)) po rfl (de_var (i := 0)) (dg_nm (i := 3) sc_pieces.nd) (dss_one (ds_if (dt_cmp (od_in2 (hu65 hr)) (de_var (i := 3)) (de_var (i := 1)) rfl) (dss_one (ds_appIO (jf := 2) (il := 1) (ok_piece_from T TB) (hr.mono (by decide)) T.g_piece_from T.F_piece_from.kp T.b_piece_from tk (de_var (i := 3)))) dss_nil))) (dss_one (ds_retv (i := 2) hM)))))
theorem ok__law_hollow (T : Tx K mg) (TB : TBs T base) : FnOk P w K mg base (L2.CX P w) 3 T.a__law_hollow T.d__law_hollow ["_law_script"] (spD mg 1 f__law_hollow) := by
  refine fn_of_bodyP (N := N__law_hollow) (k := 2) (m := b__law_hollow) T.F__law_hollow sc__law_hollow (by decide) fun X Fr cdv A outer s H E eX hM hP hr tk po hcode => ?_
  subst eX
  exact (dss_one (ds_ret (fv := [0, 0, 0]) (de_call (ok__law_body T TB) (hr.mono (by decide)) T.g__law_body T.F__law_body.kp T.b__law_body tk (da_cons (de_var (i := 0)) (da_cons (de_bin od_add (de_lst (da_cons (de_call (ok__law_cell_at T TB) (hr.mono (by decide)) T.g__law_cell_at T.F__law_cell_at.kp T.b__law_cell_at tk (da_cons (de_var (i := 0)) (da_cons de_int da_nil))) da_nil)) (de_sl (de_var (i := 0)) (do_some de_int) (do_some de_int))) da_nil)))))
theorem ok__law_body_brought (T : Tx K mg) (TB : TBs T base) : FnOk P w K mg base (L2.CX P w) 3 T.a__law_body_brought T.d__law_body_brought ["_law_body_here", "_law_kind"] (spD mg 2 f__law_body_brought) := by
  refine fn_of_bodyP (N := N__law_body_brought) (k := 2) (m := b__law_body_brought) T.F__law_body_brought sc__law_body_brought (by decide) fun X Fr cdv A outer s H E eX hM hP hr tk po hcode => ?_
  subst eX
  exact (dss_cons (ds_if (dt_cmp (od_eq (hu64 hr)) (de_var (i := 1)) de_str (nomark _)) (dss_one (ds_ret (fv := [0]) (de_call (ok_quarter T TB) (hr.mono (by decide)) T.g_quarter T.F_quarter.kp T.b_quarter tk (da_cons (de_var (i := 0)) (da_cons de_str da_nil))))) dss_nil) (dss_one (ds_ret (fv := [0, 1]) (de_call (ok_mirrored T TB) (hr.mono (by decide)) T.g_mirrored T.F_mirrored.kp T.b_mirrored tk (da_cons (de_var (i := 0)) (da_cons (de_var (i := 1)) da_nil))))))
theorem ok_Pour_init (T : Tx K mg) (TB : TBs T base) : FnOk P w K mg base (L2.CX P w) 3 T.a_Pour_init T.d_Pour_init ["self", "hollow", "gate"] (spIn mg "Pour" f_Pour) :=
  fn_init (k := 2) T.F_Pour_init sc_Pour_init rfl (by intro _ _; rfl) T.g_Pour T.cl_Pour T.n_Pour_levels T.n_Pour_came T.me_Pour_spread (ok_Pour_spread T TB) T.b_Pour_spread (.inl rfl) (.inl rfl) (.inl rfl) (by decide) (by decide) (by decide) (by decide) (by decide) (by decide) (by decide) (by decide) (by decide) (by decide) (by decide)
theorem ok_level (T : Tx K mg) (TB : TBs T base) : FnOk P w K mg base (L2.CX P w) 5 T.a_level T.d_level ["hollow", "gate", "cell"] (spD mg 3 f_level) := by
  refine fn_of_bodyP (N := N_level) (k := 4) (m := b_level) T.F_level sc_level (by decide) fun X Fr cdv A outer s H E eX hM hP hr tk po hcode => ?_
  subst eX
  exact (dss_one (ds_ret (fv := [0, 1, 2]) (de_get1 (hu1 hr) (de_fld T.g_Pour T.cl_Pour T.n_Pour_levels (de_make T.mk_Pour (ok_Pour_init T TB) (hr.mono (by decide)) T.g_Pour T.b_Pour_init tk (da_cons (de_var (i := 0)) (da_cons (de_var (i := 1)) da_nil)))) (de_var (i := 2)))))
theorem ok_filled (T : Tx K mg) (TB : TBs T base) : FnOk P w K mg base (L2.CX P w) 5 T.a_filled T.d_filled ["hollow", "gate"] (spD mg 2 f_filled) := by
  refine fn_of_bodyP (N := N_filled) (k := 4) (m := b_filled) T.F_filled sc_filled (by decide) fun X Fr cdv A outer s H E eX hM hP hr tk po hcode => ?_
  subst eX
  exact (dss_cons (ds_set (i := 2) (fv := [0, 1]) sc_filled.nd (de_make T.mk_Pour (ok_Pour_init T TB) (hr.mono (by decide)) T.g_Pour T.b_Pour_init tk (da_cons (de_var (i := 0)) (da_cons (de_var (i := 1)) da_nil)))) (dss_one (ds_ret (fv := [2, 2]) (de_sortK (z := "pour") (y := "cell") (jz := 2) (two := true) ⟨TB.t_filled, hcode.trans T.dc_filled, T.pt_filled⟩ rfl (hr.mono (by decide)) T.m_sorted T.g_Pour T.cl_Pour T.n_Pour_levels (de_fld T.g_Pour T.cl_Pour T.n_Pour_levels (de_var (i := 2))) (show LamP (defScope s_filled) _ _ _ from lamP_by (by decide +kernel)) (.two _ _ _ _ _ _ _ _ _ _ _) (fun _ _ _ _ _ _ => rfl)))))
theorem ok__law_asked_so (T : Tx K mg) (TB : TBs T base) : FnOk P w K mg base (L2.CX P w) 6 T.a__law_asked_so T.d__law_asked_so ["_law_script"] (spD mg 1 f__law_asked_so) := by
  refine fn_of_bodyP (N := N__law_asked_so) (k := 5) (m := b__law_asked_so) T.F__law_asked_so sc__law_asked_so (by decide) fun X Fr cdv A outer s H E eX hM hP hr tk po hcode => ?_
  subst eX
  exact (dss_cons (ds_set (i := 1) (fv := [0]) sc__law_asked_so.nd (de_call (ok__law_hollow T TB) (hr.mono (by decide)) T.g__law_hollow T.F__law_hollow.kp T.b__law_hollow tk (da_cons (de_var (i := 0)) da_nil))) (dss_cons (ds_set (i := 2) (fv := [1, 0, 1]) sc__law_asked_so.nd (de_ix (hu1 hr) (de_var (i := 1)) (de_bin od_mod (de_call (ok__law_mix T TB) (hr.mono (by decide)) T.g__law_mix T.F__law_mix.kp T.b__law_mix tk (da_cons (de_call (ok__law_cell_at T TB) (hr.mono (by decide)) T.g__law_cell_at T.F__law_cell_at.kp T.b__law_cell_at tk (da_cons (de_var (i := 0)) (da_cons de_int da_nil))) (da_cons de_int da_nil))) (de_callB cd_len T.m_len (by decide +kernel) (da_cons (de_var (i := 1)) da_nil))))) (dss_cons (ds_setLc (i := 3) (own := [("_law_k", 12)]) (t := (.nm 12)) sc__law_asked_so.nd rfl (di_range1 T.m_range (da_cons de_int da_nil)) (blkOk_by (N := N__law_asked_so) (sc := defScope s__law_asked_so) (by decide +kernel)) (fun _ _ _ _ _ => (dg_nm (i := 12) sc__law_asked_so.nd)) (fun _ _ _ _ _ => dts_nil) (fun _ _ _ _ _ => (de_ix (hu1 hr) (de_var (i := 1)) (de_bin od_mod (de_call (ok__law_mix T TB) (hr.mono (by decide)) T.g__law_mix T.F__law_mix.kp T.b__law_mix takes0 (da_cons (de_call (ok__law_cell_at T TB) (hr.mono (by decide)) T.g__law_cell_at T.F__law_cell_at.kp T.b__law_cell_at takes0 (da_cons (de_var (i := 0)) (da_cons (de_var (i := 12)) da_nil))) (da_cons de_int da_nil))) (de_callB cd_len T.m_len (by decide +kernel) (da_cons (de_var (i := 1)) da_nil))))) (sw_true rfl rfl rfl (by decide +kernel))) (dss_cons (ds_set (i := 4) (fv := [0]) sc__law_asked_so.nd (de_ix (hu1 hr) de_str (de_bin od_mod (de_call (ok__law_mix T TB) (hr.mono (by decide)) T.g__law_mix T.F__law_mix.kp T.b__law_mix tk (da_cons (de_call (ok__law_cell_at T TB) (hr.mono (by decide)) T.g__law_cell_at T.F__law_cell_at.kp T.b__law_cell_at tk (da_cons (de_var (i := 0)) (da_cons de_int da_nil))) (da_cons de_int da_nil))) de_int))) (dss_cons (ds_set (i := 5) (fv := [1, 4]) sc__law_asked_so.nd (de_call (ok__law_body_brought T TB) (hr.mono (by decide)) T.g__law_body_brought T.F__law_body_brought.kp T.b__law_body_brought tk (da_cons (de_var (i := 1)) (da_cons (de_var (i := 4)) da_nil)))) (dss_cons (ds_set (i := 6) (fv := [2, 4]) sc__law_asked_so.nd (de_call (ok__law_brought T TB) (hr.mono (by decide)) T.g__law_brought T.F__law_brought.kp T.b__law_brought tk (da_cons (de_var (i := 2)) (da_cons (de_var (i := 4)) da_nil)))) (dss_cons (ds_setLc (i := 7) (own := [("_law_k", 12)]) (t := (.nm 12)) sc__law_asked_so.nd rfl (di_range1 T.m_range (da_cons de_int da_nil)) (blkOk_by (N := N__law_asked_so) (sc := defScope s__law_asked_so) (by decide +kernel)) (fun _ _ _ _ _ => (dg_nm (i := 12) sc__law_asked_so.nd)) (fun _ _ _ _ _ => dts_nil) (fun _ _ _ _ _ => (de_ix (hu1 hr) (de_var (i := 1)) (de_bin od_mod (de_call (ok__law_mix T TB) (hr.mono (by decide)) T.g__law_mix T.F__law_mix.kp T.b__law_mix takes0 (da_cons (de_call (ok__law_cell_at T TB) (hr.mono (by decide)) T.g__law_cell_at T.F__law_cell_at.kp T.b__law_cell_at takes0 (da_cons (de_var (i := 0)) (da_cons (de_var (i := 12)) da_nil))) (da_cons de_int da_nil))) (de_callB cd_len T.m_len (by decide +kernel) (da_cons (de_var (i := 1)) da_nil))))) (sw_true rfl rfl rfl (by decide +kernel))) (dss_cons (ds_for (fv := [7]) (t := (.nm 8)) po rfl (de_var (i := 7)) (dg_nm (i := 8) sc__law_asked_so.nd) (dss_one (ds_if (dt_cmp (od_ne (hu64 hr)) (de_call (ok_level T TB) (hr.mono (by decide)) T.g_level T.F_level.kp T.b_level tk (da_cons (de_var (i := 5)) (da_cons (de_var (i := 6)) (da_cons (de_call (ok__law_brought T TB) (hr.mono (by decide)) T.g__law_brought T.F__law_brought.kp T.b__law_brought tk (da_cons (de_var (i := 8)) (da_cons (de_var (i := 4)) da_nil))) da_nil)))) (de_call (ok_level T TB) (hr.mono (by decide)) T.g_level T.F_level.kp T.b_level tk (da_cons (de_var (i := 1)) (da_cons (de_var (i := 2)) (da_cons (de_var (i := 8)) da_nil)))) (nomark _)) (dss_one (ds_ret (fv := []) de_bl)) dss_nil))) (dss_cons (ds_set (i := 9) (fv := [5, 3, 4]) sc__law_asked_so.nd (de_call (ok_shut T TB) (hr.mono (by decide)) T.g_shut T.F_shut.kp T.b_shut tk (da_cons (de_var (i := 5)) (da_cons (de_lc (own := [("_law_vent", 13)]) (t := (.nm 13)) sc__law_asked_so.nd rfl (di_list (de_var (i := 3))) (blkOk_by (N := N__law_asked_so) (sc := defScope s__law_asked_so) (by decide +kernel)) (fun _ _ _ _ _ => (dg_nm (i := 13) sc__law_asked_so.nd)) (fun _ _ _ _ _ => dts_nil) (fun _ _ _ _ _ => (de_call (ok__law_brought T TB) (hr.mono (by decide)) T.g__law_brought T.F__law_brought.kp T.b__law_brought takes0 (da_cons (de_var (i := 13)) (da_cons (de_var (i := 4)) da_nil))))) da_nil)))) (dss_cons (ds_set (i := 10) (fv := [1, 2]) sc__law_asked_so.nd (de_call (ok_filled T TB) (hr.mono (by decide)) T.g_filled T.F_filled.kp T.b_filled tk (da_cons (de_var (i := 1)) (da_cons (de_var (i := 2)) da_nil)))) (dss_cons (ds_if (dt_w (dw_or (dt_cmp (od_ne (hu64 hr)) (de_var (i := 9)) (de_call (ok__law_body_brought T TB) (hr.mono (by decide)) T.g__law_body_brought T.F__law_body_brought.kp T.b__law_body_brought tk (da_cons (de_call (ok_shut T TB) (hr.mono (by decide)) T.g_shut T.F_shut.kp T.b_shut tk (da_cons (de_var (i := 1)) (da_cons (de_var (i := 3)) da_nil))) (da_cons (de_var (i := 4)) da_nil))) (nomark _)) (dw_or1 (dt_cmp (od_ne (hu64 hr)) (de_callB cd_len T.m_len (by decide +kernel) (da_cons (de_call (ok_filled T TB) (hr.mono (by decide)) T.g_filled T.F_filled.kp T.b_filled tk (da_cons (de_var (i := 5)) (da_cons (de_var (i := 6)) da_nil))) da_nil)) (de_callB cd_len T.m_len (by decide +kernel) (da_cons (de_var (i := 10)) da_nil)) (nomark _))))) (dss_one (ds_ret (fv := []) de_bl)) dss_nil) (dss_cons (ds_set (i := 11) (fv := [1, 2]) sc__law_asked_so.nd (de_ix (hu1 hr) (de_lc (own := [("_law_one", 14)]) (t := (.nm 14)) sc__law_asked_so.nd rfl (di_list (de_call (ok_pieces T TB) (hr.mono (by decide)) T.g_pieces T.F_pieces.kp T.b_pieces tk (da_cons (de_var (i := 1)) da_nil))) (blkOk_by (N := N__law_asked_so) (sc := defScope s__law_asked_so) (by decide +kernel)) (fun _ _ _ _ _ => (dg_nm (i := 14) sc__law_asked_so.nd)) (fun _ _ _ _ _ => (dts_one (dt_cmp (od_in2 (hu65 hr)) (de_var (i := 2)) (de_var (i := 14)) rfl))) (fun _ _ _ _ _ => (de_var (i := 14)))) de_int)) (dss_one (ds_ret (fv := [11, 2, 10, 10, 11]) (de_and (de_cmp (od_eq (hu64 hr)) (de_call (ok_filled T TB) (hr.mono (by decide)) T.g_filled T.F_filled.kp T.b_filled tk (da_cons (de_var (i := 11)) (da_cons (de_var (i := 2)) da_nil))) (de_var (i := 10)) (nomark _)) (de_one (de_cmp (od_eq (hu64 hr)) (de_callB cd_len T.m_len (by decide +kernel) (da_cons (de_var (i := 10)) da_nil)) (de_callB cd_len T.m_len (by decide +kernel) (da_cons (de_var (i := 11)) da_nil)) (nomark _))))))))))))))))))
theorem ok_law (T : Tx K mg) (TB : TBs T base) : FnOk P w K mg base (L2.CX P w) 7 T.a_law T.d_law ["_law_script"] (spD mg 1 f_law) := by
  refine fn_of_bodyP (N := N_law) (k := 6) (m := b_law) T.F_law sc_law (by decide) fun X Fr cdv A outer s H E eX hM hP hr tk po hcode => ?_
  subst eX
  exact (dss_one (ds_ret (fv := [0]) (de_call (ok__law_asked_so T TB) (hr.mono (by decide)) T.g__law_asked_so T.F__law_asked_so.kp T.b__law_asked_so tk (da_cons (de_call (ok__law_wide T TB) (hr.mono (by decide)) T.g__law_wide T.F__law_wide.kp T.b__law_wide tk (da_cons (de_var (i := 0)) da_nil)) da_nil))))
end
/-! ### the end -/
theorem all_mk {l : PySem.W.OpenLaw} {w : World} {K : PySem.W.Frag} {h : Heap} {mg : Str → Option Value} {fa : Addr} (X : K.In h) (G : h.Ns mainGlobals mg) (hfa : mg "law" = some (.ref fa))
    {CP : Addr} (pa : PySem.W.nsIn K mainGlobals "Pour" = some (some (.ref CP)))
    {f0 : Addr} {od0 an0 : Option Addr} {sl0 : Array (Option Value)} {oc0 kV0 dc0 pm0 cd0 ct0 : Value}
    {f1 : Addr} {od1 an1 : Option Addr} {sl1 : Array (Option Value)} {oc1 kV1 dc1 pm1 cd1 ct1 : Value}
    {f2 : Addr} {od2 an2 : Option Addr} {sl2 : Array (Option Value)} {oc2 kV2 dc2 pm2 cd2 ct2 : Value}
    {f3 : Addr} {od3 an3 : Option Addr} {sl3 : Array (Option Value)} {oc3 kV3 dc3 pm3 cd3 ct3 : Value}
    {f4 : Addr} {od4 an4 : Option Addr} {sl4 : Array (Option Value)} {oc4 kV4 dc4 pm4 cd4 ct4 : Value}
    {f5 : Addr} {od5 an5 : Option Addr} {sl5 : Array (Option Value)} {oc5 kV5 dc5 pm5 cd5 ct5 : Value}
    {f6 : Addr} {od6 an6 : Option Addr} {sl6 : Array (Option Value)} {oc6 kV6 dc6 pm6 cd6 ct6 : Value}
    {f7 : Addr} {od7 an7 : Option Addr} {sl7 : Array (Option Value)} {oc7 kV7 dc7 pm7 cd7 ct7 : Value}
    {f8 : Addr} {od8 an8 : Option Addr} {sl8 : Array (Option Value)} {oc8 kV8 dc8 pm8 cd8 ct8 : Value}
    {f9 : Addr} {od9 an9 : Option Addr} {sl9 : Array (Option Value)} {oc9 kV9 dc9 pm9 cd9 ct9 : Value}
    {f10 : Addr} {od10 an10 : Option Addr} {sl10 : Array (Option Value)} {oc10 kV10 dc10 pm10 cd10 ct10 : Value}
    {f11 : Addr} {od11 an11 : Option Addr} {sl11 : Array (Option Value)} {oc11 kV11 dc11 pm11 cd11 ct11 : Value}
    {f12 : Addr} {od12 an12 : Option Addr} {sl12 : Array (Option Value)} {oc12 kV12 dc12 pm12 cd12 ct12 : Value}
    {f13 : Addr} {od13 an13 : Option Addr} {sl13 : Array (Option Value)} {oc13 kV13 dc13 pm13 cd13 ct13 : Value}
    {f14 : Addr} {od14 an14 : Option Addr} {sl14 : Array (Option Value)} {oc14 kV14 dc14 pm14 cd14 ct14 : Value}
    {f15 : Addr} {od15 an15 : Option Addr} {sl15 : Array (Option Value)} {oc15 kV15 dc15 pm15 cd15 ct15 : Value}
    {f16 : Addr} {od16 an16 : Option Addr} {sl16 : Array (Option Value)} {oc16 kV16 dc16 pm16 cd16 ct16 : Value}
    {f17 : Addr} {od17 an17 : Option Addr} {sl17 : Array (Option Value)} {oc17 kV17 dc17 pm17 cd17 ct17 : Value}
    {f18 : Addr} {od18 an18 : Option Addr} {sl18 : Array (Option Value)} {oc18 kV18 dc18 pm18 cd18 ct18 : Value}
    {f19 : Addr} {od19 an19 : Option Addr} {sl19 : Array (Option Value)} {oc19 kV19 dc19 pm19 cd19 ct19 : Value}
    {f20 : Addr} {od20 an20 : Option Addr} {sl20 : Array (Option Value)} {oc20 kV20 dc20 pm20 cd20 ct20 : Value}
    {f21 : Addr} {od21 an21 : Option Addr} {sl21 : Array (Option Value)} {oc21 kV21 dc21 pm21 cd21 ct21 : Value}
    {f22 : Addr} {od22 an22 : Option Addr} {sl22 : Array (Option Value)} {oc22 kV22 dc22 pm22 cd22 ct22 : Value}
    {f23 : Addr} {od23 an23 : Option Addr} {sl23 : Array (Option Value)} {oc23 kV23 dc23 pm23 cd23 ct23 : Value}
    (a0 : PySem.W.nsIn K mainGlobals "neighbours" = some (some (.ref f0))) (l0 : K.lookup f0 = some ⟨oc0, od0, .func (PySem.W.fnOf "neighbours" "neighbours" (defArgs s_neighbours) (defBody s_neighbours) (defScope s_neighbours) .none kV0 dc0 pm0 an0 cd0 ct0), sl0⟩) (c0 : PySem.W.codeIn K cd0 "neighbours" = true) (k0 : PySem.W.keepIn K (.ref f0) = true)
    (a1 : PySem.W.nsIn K mainGlobals "quarter_cell" = some (some (.ref f1))) (l1 : K.lookup f1 = some ⟨oc1, od1, .func (PySem.W.fnOf "quarter_cell" "quarter_cell" (defArgs s_quarter_cell) (defBody s_quarter_cell) (defScope s_quarter_cell) .none kV1 dc1 pm1 an1 cd1 ct1), sl1⟩) (c1 : PySem.W.codeIn K cd1 "quarter_cell" = true) (k1 : PySem.W.keepIn K (.ref f1) = true)
    (a2 : PySem.W.nsIn K mainGlobals "mirrored_cell" = some (some (.ref f2))) (l2 : K.lookup f2 = some ⟨oc2, od2, .func (PySem.W.fnOf "mirrored_cell" "mirrored_cell" (defArgs s_mirrored_cell) (defBody s_mirrored_cell) (defScope s_mirrored_cell) .none kV2 dc2 pm2 an2 cd2 ct2), sl2⟩) (c2 : PySem.W.codeIn K cd2 "mirrored_cell" = true) (k2 : PySem.W.keepIn K (.ref f2) = true)
    (a3 : PySem.W.findIn K (.ref CP) "spread" = some (some (.ref f3))) (l3 : K.lookup f3 = some ⟨oc3, od3, .func (PySem.W.fnOf "spread" "Pour.spread" (defArgs s_Pour_spread) (defBody s_Pour_spread) (defScope s_Pour_spread) .none kV3 dc3 pm3 an3 cd3 ct3), sl3⟩) (c3 : PySem.W.codeIn K cd3 "Pour.spread" = true) (k3 : PySem.W.keepIn K (.ref f3) = true)
    (a4 : PySem.W.findIn K (.ref CP) "__init__" = some (some (.ref f4))) (l4 : K.lookup f4 = some ⟨oc4, od4, .func (PySem.W.fnOf "__init__" "Pour.__init__" (defArgs s_Pour_init) (defBody s_Pour_init) (defScope s_Pour_init) .none kV4 dc4 pm4 an4 cd4 ct4), sl4⟩) (c4 : PySem.W.codeIn K cd4 "Pour.__init__" = true) (k4 : PySem.W.keepIn K (.ref f4) = true)
    (a5 : PySem.W.nsIn K mainGlobals "level" = some (some (.ref f5))) (l5 : K.lookup f5 = some ⟨oc5, od5, .func (PySem.W.fnOf "level" "level" (defArgs s_level) (defBody s_level) (defScope s_level) .none kV5 dc5 pm5 an5 cd5 ct5), sl5⟩) (c5 : PySem.W.codeIn K cd5 "level" = true) (k5 : PySem.W.keepIn K (.ref f5) = true)
    (a6 : PySem.W.nsIn K mainGlobals "filled" = some (some (.ref f6))) (l6 : K.lookup f6 = some ⟨oc6, od6, .func (PySem.W.fnOf "filled" "filled" (defArgs s_filled) (defBody s_filled) (defScope s_filled) .none kV6 dc6 pm6 an6 cd6 ct6), sl6⟩) (c6 : PySem.W.codeIn K cd6 "filled" = true) (k6 : PySem.W.keepIn K (.ref f6) = true)
    (a7 : PySem.W.nsIn K mainGlobals "ways_out" = some (some (.ref f7))) (l7 : K.lookup f7 = some ⟨oc7, od7, .func (PySem.W.fnOf "ways_out" "ways_out" (defArgs s_ways_out) (defBody s_ways_out) (defScope s_ways_out) .none kV7 dc7 pm7 an7 cd7 ct7), sl7⟩) (c7 : PySem.W.codeIn K cd7 "ways_out" = true) (k7 : PySem.W.keepIn K (.ref f7) = true)
    (a8 : PySem.W.nsIn K mainGlobals "shut" = some (some (.ref f8))) (l8 : K.lookup f8 = some ⟨oc8, od8, .func (PySem.W.fnOf "shut" "shut" (defArgs s_shut) (defBody s_shut) (defScope s_shut) .none kV8 dc8 pm8 an8 cd8 ct8), sl8⟩) (c8 : PySem.W.codeIn K cd8 "shut" = true) (k8 : PySem.W.keepIn K (.ref f8) = true)
    (a9 : PySem.W.nsIn K mainGlobals "there_of" = some (some (.ref f9))) (l9 : K.lookup f9 = some ⟨oc9, od9, .func (PySem.W.fnOf "there_of" "there_of" (defArgs s_there_of) (defBody s_there_of) (defScope s_there_of) .none kV9 dc9 pm9 an9 cd9 ct9), sl9⟩) (c9 : PySem.W.codeIn K cd9 "there_of" = true) (k9 : PySem.W.keepIn K (.ref f9) = true)
    (a10 : PySem.W.nsIn K mainGlobals "quarter" = some (some (.ref f10))) (l10 : K.lookup f10 = some ⟨oc10, od10, .func (PySem.W.fnOf "quarter" "quarter" (defArgs s_quarter) (defBody s_quarter) (defScope s_quarter) .none kV10 dc10 pm10 an10 cd10 ct10), sl10⟩) (c10 : PySem.W.codeIn K cd10 "quarter" = true) (k10 : PySem.W.keepIn K (.ref f10) = true)
    (a11 : PySem.W.nsIn K mainGlobals "mirrored" = some (some (.ref f11))) (l11 : K.lookup f11 = some ⟨oc11, od11, .func (PySem.W.fnOf "mirrored" "mirrored" (defArgs s_mirrored) (defBody s_mirrored) (defScope s_mirrored) .none kV11 dc11 pm11 an11 cd11 ct11), sl11⟩) (c11 : PySem.W.codeIn K cd11 "mirrored" = true) (k11 : PySem.W.keepIn K (.ref f11) = true)
    (a12 : PySem.W.nsIn K mainGlobals "piece_from" = some (some (.ref f12))) (l12 : K.lookup f12 = some ⟨oc12, od12, .func (PySem.W.fnOf "piece_from" "piece_from" (defArgs s_piece_from) (defBody s_piece_from) (defScope s_piece_from) .none kV12 dc12 pm12 an12 cd12 ct12), sl12⟩) (c12 : PySem.W.codeIn K cd12 "piece_from" = true) (k12 : PySem.W.keepIn K (.ref f12) = true)
    (a13 : PySem.W.nsIn K mainGlobals "pieces" = some (some (.ref f13))) (l13 : K.lookup f13 = some ⟨oc13, od13, .func (PySem.W.fnOf "pieces" "pieces" (defArgs s_pieces) (defBody s_pieces) (defScope s_pieces) .none kV13 dc13 pm13 an13 cd13 ct13), sl13⟩) (c13 : PySem.W.codeIn K cd13 "pieces" = true) (k13 : PySem.W.keepIn K (.ref f13) = true)
    (a14 : PySem.W.nsIn K mainGlobals "_law_cell_at" = some (some (.ref f14))) (l14 : K.lookup f14 = some ⟨oc14, od14, .func (PySem.W.fnOf "_law_cell_at" "_law_cell_at" (defArgs s__law_cell_at) (defBody s__law_cell_at) (defScope s__law_cell_at) .none kV14 dc14 pm14 an14 cd14 ct14), sl14⟩) (c14 : PySem.W.codeIn K cd14 "_law_cell_at" = true) (k14 : PySem.W.keepIn K (.ref f14) = true)
    (a15 : PySem.W.nsIn K mainGlobals "_law_mix" = some (some (.ref f15))) (l15 : K.lookup f15 = some ⟨oc15, od15, .func (PySem.W.fnOf "_law_mix" "_law_mix" (defArgs s__law_mix) (defBody s__law_mix) (defScope s__law_mix) .none kV15 dc15 pm15 an15 cd15 ct15), sl15⟩) (c15 : PySem.W.codeIn K cd15 "_law_mix" = true) (k15 : PySem.W.keepIn K (.ref f15) = true)
    (a16 : PySem.W.nsIn K mainGlobals "_law_bar" = some (some (.ref f16))) (l16 : K.lookup f16 = some ⟨oc16, od16, .func (PySem.W.fnOf "_law_bar" "_law_bar" (defArgs s__law_bar) (defBody s__law_bar) (defScope s__law_bar) .none kV16 dc16 pm16 an16 cd16 ct16), sl16⟩) (c16 : PySem.W.codeIn K cd16 "_law_bar" = true) (k16 : PySem.W.keepIn K (.ref f16) = true)
    (a17 : PySem.W.nsIn K mainGlobals "_law_body" = some (some (.ref f17))) (l17 : K.lookup f17 = some ⟨oc17, od17, .func (PySem.W.fnOf "_law_body" "_law_body" (defArgs s__law_body) (defBody s__law_body) (defScope s__law_body) .none kV17 dc17 pm17 an17 cd17 ct17), sl17⟩) (c17 : PySem.W.codeIn K cd17 "_law_body" = true) (k17 : PySem.W.keepIn K (.ref f17) = true)
    (a18 : PySem.W.nsIn K mainGlobals "_law_hollow" = some (some (.ref f18))) (l18 : K.lookup f18 = some ⟨oc18, od18, .func (PySem.W.fnOf "_law_hollow" "_law_hollow" (defArgs s__law_hollow) (defBody s__law_hollow) (defScope s__law_hollow) .none kV18 dc18 pm18 an18 cd18 ct18), sl18⟩) (c18 : PySem.W.codeIn K cd18 "_law_hollow" = true) (k18 : PySem.W.keepIn K (.ref f18) = true)
    (a19 : PySem.W.nsIn K mainGlobals "_law_brought" = some (some (.ref f19))) (l19 : K.lookup f19 = some ⟨oc19, od19, .func (PySem.W.fnOf "_law_brought" "_law_brought" (defArgs s__law_brought) (defBody s__law_brought) (defScope s__law_brought) .none kV19 dc19 pm19 an19 cd19 ct19), sl19⟩) (c19 : PySem.W.codeIn K cd19 "_law_brought" = true) (k19 : PySem.W.keepIn K (.ref f19) = true)
    (a20 : PySem.W.nsIn K mainGlobals "_law_body_brought" = some (some (.ref f20))) (l20 : K.lookup f20 = some ⟨oc20, od20, .func (PySem.W.fnOf "_law_body_brought" "_law_body_brought" (defArgs s__law_body_brought) (defBody s__law_body_brought) (defScope s__law_body_brought) .none kV20 dc20 pm20 an20 cd20 ct20), sl20⟩) (c20 : PySem.W.codeIn K cd20 "_law_body_brought" = true) (k20 : PySem.W.keepIn K (.ref f20) = true)
    (a21 : PySem.W.nsIn K mainGlobals "_law_asked_so" = some (some (.ref f21))) (l21 : K.lookup f21 = some ⟨oc21, od21, .func (PySem.W.fnOf "_law_asked_so" "_law_asked_so" (defArgs s__law_asked_so) (defBody s__law_asked_so) (defScope s__law_asked_so) .none kV21 dc21 pm21 an21 cd21 ct21), sl21⟩) (c21 : PySem.W.codeIn K cd21 "_law_asked_so" = true) (k21 : PySem.W.keepIn K (.ref f21) = true)
    (a22 : PySem.W.nsIn K mainGlobals "_law_wide" = some (some (.ref f22))) (l22 : K.lookup f22 = some ⟨oc22, od22, .func (PySem.W.fnOf "_law_wide" "_law_wide" (defArgs s__law_wide) (defBody s__law_wide) (defScope s__law_wide) .none kV22 dc22 pm22 an22 cd22 ct22), sl22⟩) (c22 : PySem.W.codeIn K cd22 "_law_wide" = true) (k22 : PySem.W.keepIn K (.ref f22) = true)
    (a23 : PySem.W.nsIn K mainGlobals "law" = some (some (.ref f23))) (l23 : K.lookup f23 = some ⟨oc23, od23, .func (PySem.W.fnOf "law" "law" (defArgs s_law) (defBody s_law) (defScope s_law) .none kV23 dc23 pm23 an23 cd23 ct23), sl23⟩) (c23 : PySem.W.codeIn K cd23 "law" = true) (k23 : PySem.W.keepIn K (.ref f23) = true)
    (z0 : PySem.W.nsIn K mainGlobals "abs" = some none)
    (z1 : PySem.W.nsIn K mainGlobals "dict" = some none)
    (z2 : PySem.W.nsIn K mainGlobals "len" = some none)
    (z3 : PySem.W.nsIn K mainGlobals "list" = some none)
    (z4 : PySem.W.nsIn K mainGlobals "max" = some none)
    (z5 : PySem.W.nsIn K mainGlobals "min" = some none)
    (z6 : PySem.W.nsIn K mainGlobals "range" = some none)
    (z7 : PySem.W.nsIn K mainGlobals "sorted" = some none)
    (z8 : PySem.W.nsIn K mainGlobals "tuple" = some none)
    {y0 : Tok} (q0 : PySem.W.nsIn K mainGlobals "AXES" = some (some (.str "xyz" y0)))
    {cs : List (Addr × Addr)}
    {lc0 lP0 : Addr}
    {lc1 lP1 : Addr}
    (p1 : PySem.W.plainGet K CP Str.empty = true)
    (p2 : PySem.W.hasDictIn K CP = true)
    (p3 : PySem.W.plainOver K CP = true)
    (p4 : PySem.W.findIn K (.ref CP) "__setattr__" = some (some (.builtin "object.__setattr__")))
    (p5 : PySem.W.findIn K (.ref CP) "levels" = some none)
    (p6 : PySem.W.findIn K (.ref CP) "came" = some none)
    (p7 : PySem.W.makesIn K CP = true)
    (p8 : PySem.W.keepIn K (.ref CP) = true)
    (fn3 : PySem.W.isFn K (.ref f3) = true)
    (fn4 : PySem.W.isFn K (.ref f4) = true)
    (lh0 : cd3 = Value.ref lc0)
    (lm0 : (lc0, lP0) ∈ cs)
    (lt0 : lP0 ∈ tabsT)
    (lh1 : cd6 = Value.ref lc1)
    (lm1 : (lc1, lP1) ∈ cs)
    (lt1 : lP1 ∈ tabsT)
    : ∃ fd : FuncData, (∀ (s : Shared) (v : Value), BindsTo s fd ⟨[v], []⟩ [("_law_script", v)]) ∧ ∀ base : Heap, K.In base → base.Ns mainGlobals mg → (∀ p ∈ cs, LamX.TabB base mg p.1 p.2) → FnOk l.prog w K mg base (L2.CX l.prog w) 7 fa fd ["_law_script"] (spD mg 1 f_law) := by
  have e := hfa.symm.trans (PySem.W.mg_of X G a23)
  cases e
  have F0 := fun_mk (st := s_neighbours) l0 c0 k0
  have F1 := fun_mk (st := s_quarter_cell) l1 c1 k1
  have F2 := fun_mk (st := s_mirrored_cell) l2 c2 k2
  have F3 := fun_mk (st := s_Pour_spread) l3 c3 k3
  have F4 := fun_mk (st := s_Pour_init) l4 c4 k4
  have F5 := fun_mk (st := s_level) l5 c5 k5
  have F6 := fun_mk (st := s_filled) l6 c6 k6
  have F7 := fun_mk (st := s_ways_out) l7 c7 k7
  have F8 := fun_mk (st := s_shut) l8 c8 k8
  have F9 := fun_mk (st := s_there_of) l9 c9 k9
  have F10 := fun_mk (st := s_quarter) l10 c10 k10
  have F11 := fun_mk (st := s_mirrored) l11 c11 k11
  have F12 := fun_mk (st := s_piece_from) l12 c12 k12
  have F13 := fun_mk (st := s_pieces) l13 c13 k13
  have F14 := fun_mk (st := s__law_cell_at) l14 c14 k14
  have F15 := fun_mk (st := s__law_mix) l15 c15 k15
  have F16 := fun_mk (st := s__law_bar) l16 c16 k16
  have F17 := fun_mk (st := s__law_body) l17 c17 k17
  have F18 := fun_mk (st := s__law_hollow) l18 c18 k18
  have F19 := fun_mk (st := s__law_brought) l19 c19 k19
  have F20 := fun_mk (st := s__law_body_brought) l20 c20 k20
  have F21 := fun_mk (st := s__law_asked_so) l21 c21 k21
  have F22 := fun_mk (st := s__law_wide) l22 c22 k22
  have F23 := fun_mk (st := s_law) l23 c23 k23
  let T : Tx K mg := {
    a_neighbours := f0, d_neighbours := _, F_neighbours := F0, b_neighbours := F0.binds (ps := ["cell"]) fun _ _ _ _ _ _ us hl => match us, hl with | [_], _ => rfl, g_neighbours := PySem.W.mg_of X G a0
    a_quarter_cell := f1, d_quarter_cell := _, F_quarter_cell := F1, b_quarter_cell := F1.binds (ps := ["cell", "axis"]) fun _ _ _ _ _ _ us hl => match us, hl with | [_, _], _ => rfl, g_quarter_cell := PySem.W.mg_of X G a1
    a_mirrored_cell := f2, d_mirrored_cell := _, F_mirrored_cell := F2, b_mirrored_cell := F2.binds (ps := ["cell", "axis"]) fun _ _ _ _ _ _ us hl => match us, hl with | [_, _], _ => rfl, g_mirrored_cell := PySem.W.mg_of X G a2
    a_Pour_spread := f3, d_Pour_spread := _, F_Pour_spread := F3, b_Pour_spread := F3.binds (ps := ["self", "hollow", "gate"]) fun _ _ _ _ _ _ us hl => match us, hl with | [_, _, _], _ => rfl
    a_Pour_init := f4, d_Pour_init := _, F_Pour_init := F4, b_Pour_init := F4.binds (ps := ["self", "hollow", "gate"]) fun _ _ _ _ _ _ us hl => match us, hl with | [_, _, _], _ => rfl
    a_level := f5, d_level := _, F_level := F5, b_level := F5.binds (ps := ["hollow", "gate", "cell"]) fun _ _ _ _ _ _ us hl => match us, hl with | [_, _, _], _ => rfl, g_level := PySem.W.mg_of X G a5
    a_filled := f6, d_filled := _, F_filled := F6, b_filled := F6.binds (ps := ["hollow", "gate"]) fun _ _ _ _ _ _ us hl => match us, hl with | [_, _], _ => rfl, g_filled := PySem.W.mg_of X G a6
    a_ways_out := f7, d_ways_out := _, F_ways_out := F7, b_ways_out := F7.binds (ps := ["hollow", "vents"]) fun _ _ _ _ _ _ us hl => match us, hl with | [_, _], _ => rfl, g_ways_out := PySem.W.mg_of X G a7
    a_shut := f8, d_shut := _, F_shut := F8, b_shut := F8.binds (ps := ["hollow", "vents"]) fun _ _ _ _ _ _ us hl => match us, hl with | [_, _], _ => rfl, g_shut := PySem.W.mg_of X G a8
    a_there_of := f9, d_there_of := _, F_there_of := F9, b_there_of := F9.binds (ps := ["cells"]) fun _ _ _ _ _ _ us hl => match us, hl with | [_], _ => rfl, g_there_of := PySem.W.mg_of X G a9
    a_quarter := f10, d_quarter := _, F_quarter := F10, b_quarter := F10.binds (ps := ["body", "axis"]) fun _ _ _ _ _ _ us hl => match us, hl with | [_, _], _ => rfl, g_quarter := PySem.W.mg_of X G a10
    a_mirrored := f11, d_mirrored := _, F_mirrored := F11, b_mirrored := F11.binds (ps := ["body", "axis"]) fun _ _ _ _ _ _ us hl => match us, hl with | [_, _], _ => rfl, g_mirrored := PySem.W.mg_of X G a11
    a_piece_from := f12, d_piece_from := _, F_piece_from := F12, b_piece_from := F12.binds (ps := ["cell", "left"]) fun _ _ _ _ _ _ us hl => match us, hl with | [_, _], _ => rfl, g_piece_from := PySem.W.mg_of X G a12
    a_pieces := f13, d_pieces := _, F_pieces := F13, b_pieces := F13.binds (ps := ["body"]) fun _ _ _ _ _ _ us hl => match us, hl with | [_], _ => rfl, g_pieces := PySem.W.mg_of X G a13
    a__law_cell_at := f14, d__law_cell_at := _, F__law_cell_at := F14, b__law_cell_at := F14.binds (ps := ["_law_script", "_law_k"]) fun _ _ _ _ _ _ us hl => match us, hl with | [_, _], _ => rfl, g__law_cell_at := PySem.W.mg_of X G a14
    a__law_mix := f15, d__law_mix := _, F__law_mix := F15, b__law_mix := F15.binds (ps := ["_law_cell", "_law_factor"]) fun _ _ _ _ _ _ us hl => match us, hl with | [_, _], _ => rfl, g__law_mix := PySem.W.mg_of X G a15
    a__law_bar := f16, d__law_bar := _, F__law_bar := F16, b__law_bar := F16.binds (ps := ["_law_base", "_law_number", "_law_flat"]) fun _ _ _ _ _ _ us hl => match us, hl with | [_, _, _], _ => rfl, g__law_bar := PySem.W.mg_of X G a16
    a__law_body := f17, d__law_body := _, F__law_body := F17, b__law_body := F17.binds (ps := ["_law_script", "_law_some"]) fun _ _ _ _ _ _ us hl => match us, hl with | [_, _], _ => rfl, g__law_body := PySem.W.mg_of X G a17
    a__law_hollow := f18, d__law_hollow := _, F__law_hollow := F18, b__law_hollow := F18.binds (ps := ["_law_script"]) fun _ _ _ _ _ _ us hl => match us, hl with | [_], _ => rfl, g__law_hollow := PySem.W.mg_of X G a18
    a__law_brought := f19, d__law_brought := _, F__law_brought := F19, b__law_brought := F19.binds (ps := ["_law_cell", "_law_kind"]) fun _ _ _ _ _ _ us hl => match us, hl with | [_, _], _ => rfl, g__law_brought := PySem.W.mg_of X G a19
    a__law_body_brought := f20, d__law_body_brought := _, F__law_body_brought := F20, b__law_body_brought := F20.binds (ps := ["_law_body_here", "_law_kind"]) fun _ _ _ _ _ _ us hl => match us, hl with | [_, _], _ => rfl, g__law_body_brought := PySem.W.mg_of X G a20
    a__law_asked_so := f21, d__law_asked_so := _, F__law_asked_so := F21, b__law_asked_so := F21.binds (ps := ["_law_script"]) fun _ _ _ _ _ _ us hl => match us, hl with | [_], _ => rfl, g__law_asked_so := PySem.W.mg_of X G a21
    a__law_wide := f22, d__law_wide := _, F__law_wide := F22, b__law_wide := F22.binds (ps := ["_law_script"]) fun _ _ _ _ _ _ us hl => match us, hl with | [_], _ => rfl, g__law_wide := PySem.W.mg_of X G a22
    a_law := fa, d_law := _, F_law := F23, b_law := F23.binds (ps := ["_law_script"]) fun _ _ _ _ _ _ us hl => match us, hl with | [_], _ => rfl, g_law := PySem.W.mg_of X G a23
    m_abs := PySem.W.mg_none_of X G z0
    m_dict := PySem.W.mg_none_of X G z1
    m_len := PySem.W.mg_none_of X G z2
    m_list := PySem.W.mg_none_of X G z3
    m_max := PySem.W.mg_none_of X G z4
    m_min := PySem.W.mg_none_of X G z5
    m_range := PySem.W.mg_none_of X G z6
    m_sorted := PySem.W.mg_none_of X G z7
    m_tuple := PySem.W.mg_none_of X G z8
    t_AXES := y0, c_AXES := PySem.W.mg_of X G q0
    A_Pour := CP, g_Pour := PySem.W.mg_of X G pa, cl_Pour := ⟨p1, p2, p3, p4⟩, n_Pour_levels := p5, n_Pour_came := p6, mk_Pour := ⟨p7, a4, fn4, p8⟩
    me_Pour_spread := ⟨a3, fn3, k3⟩
    c_Pour_spread := lc0, P_Pour_spread := lP0, dc_Pour_spread := lh0, pt_Pour_spread := lt0
    c_filled := lc1, P_filled := lP1, dc_filled := lh1, pt_filled := lt1
  }
  exact ⟨PySem.W.fnOf "law" "law" (defArgs s_law) (defBody s_law) (defScope s_law) .none kV23 dc23 pm23 an23 cd23 ct23, fun s v => .of_eq rfl, fun base _ _ tbs => ok_law T ⟨tbs _ lm0, tbs _ lm1⟩⟩
end G

namespace G
open PySem PySem.Spec L2 Ev
open PyProof.Rows hiding St
theorem w_at (o : Bool) (ns : List Int) (k : Nat) : f__law_cell_at [.node (.lst o) (numsD ns), .int k] = .ok (.int (ns.getD k 0)) := by
  have hlen : (numsD ns).length = ns.length := by unfold numsD; rw [List.length_map]
  unfold f__law_cell_at
  rw [body_eq]
  by_cases h : k < ns.length
  · have h' : (k : Int) < ns.length := by omega
    simp [b__law_cell_at, ent, hlen, h', ix_nums _ ns k h]
  · have h' : ¬ (k : Int) < ns.length := by omega
    have e : ns.getD k 0 = 0 := by simp [List.getD, List.getElem?_eq_none (Nat.le_of_not_lt h)]
    simp [b__law_cell_at, ent, hlen, h']
    simpa using e.symm
def mixC (c f : Int) : Int := (c % 1000000000000000000 + 19) * f % 2147483647
theorem mixC_lo (c f : Int) : 0 ≤ mixC c f := Int.emod_nonneg _ (by decide)
theorem mixC_hi (c f : Int) : mixC c f < 2147483647 := Int.emod_lt_of_pos _ (by decide)
theorem w_mix (c f : Int) (h0 : 0 < f) (h1 : f < 4294967296) : f__law_mix [.int c, .int f] = .ok (.int (mixC c f)) := by
  unfold f__law_mix mixC
  rw [body_eq]
  have pw : powD (.int 10) (.int 18) = some (.int 1000000000000000000) := by kernel_rfl
  have r1 : modD (.int c) (.int 1000000000000000000) = some (.int (c % 1000000000000000000)) := modD_int (by decide)
  have m1 : mulD (.int (c % 1000000000000000000 + 19)) (.int f) = some (.int ((c % 1000000000000000000 + 19) * f)) := mulD_r (by omega) (by omega)
  have r2 : ∀ n : Int, modD (.int n) (.int 2147483647) = some (.int (n % 2147483647)) := fun n => modD_int (by decide)
  simp -implicitDefEqProofs [b__law_mix, ent, pw, r1, m1, r2]
/-- the steps of a bar -/
def barT (a : Nat) : Nat → Cl → List Cl
  | 0, _ => []
  | n + 1, p => p :: barT a n (st p a (gi p a + 1))
theorem barT_len (a : Nat) : ∀ (n : Nat) (p : Cl), (barT a n p).length = n
  | 0, _ => rfl
  | n + 1, p => by rw [barT, List.length_cons, barT_len]
theorem barT_mem {a : Nat} (ha : a < 3) : ∀ {n : Nat} {p c : Cl}, c ∈ barT a n p → (∀ b < 3, b ≠ a → gi c b = gi p b) ∧ gi p a ≤ gi c a ∧ gi c a < gi p a + n
  | 0, _, _, h => nomatch h
  | n + 1, p, c, h => by
    rw [barT] at h
    rcases List.mem_cons.mp h with rfl | h
    · exact ⟨fun _ _ _ => rfl, by omega, by omega⟩
    · obtain ⟨h1, h2, h3⟩ := barT_mem ha h
      rw [gi_st] at h2 h3
      exact ⟨fun b hb hn => by rw [h1 b hb hn, gi_st_ne p ha hb (Ne.symm hn)], by omega, by omega⟩
def Base (b : Cl) : Prop := (-57 ≤ b.1 ∧ b.1 ≤ 51) ∧ (-57 ≤ b.2.1 ∧ b.2.1 ≤ 51) ∧ (-57 ≤ b.2.2 ∧ b.2.2 ≤ 51)
def in57 (c : Cl) : Prop := (-57 ≤ c.1 ∧ c.1 ≤ 57) ∧ (-57 ≤ c.2.1 ∧ c.2.1 ≤ 57) ∧ (-57 ≤ c.2.2 ∧ c.2.2 ≤ 57)
def spotC (b : Cl) (n : Int) (fl : Bool) : Cl :=
  let p : Cl := (b.1 + n % 5, b.2.1 + n / 5 % 5, if fl = true then b.2.2 else b.2.2 + n / 25 % 7)
  if n / 10000 % 13 = 5 then (0 - p.1, 0 - p.2.1, 0 - p.2.2) else p
theorem spot_in {b : Cl} (hb : Base b) (n : Int) (fl : Bool) : in57 (spotC b n fl) := by
  obtain ⟨h1, h2, h3⟩ := hb
  unfold spotC in57
  cases fl <;> by_cases h : n / 10000 % 13 = 5 <;> simp only [h, if_true, if_false, Bool.false_eq_true] <;> (refine ⟨⟨?_, ?_⟩, ⟨?_, ?_⟩, ⟨?_, ?_⟩⟩ <;> omega)
theorem bar_fold (a : Nat) : ∀ (r : List Nat) (p : Cl) (acc : List Cl), (r.foldl (fun (s : Cl × List Cl) (_ : Nat) => (st s.1 a (gi s.1 a + 1), s.2 ++ [s.1])) (p, acc)).2 = acc ++ barT a r.length p
  | [], p, acc => by simp [barT]
  | _ :: r, p, acc => by rw [List.foldl_cons, bar_fold a r, List.length_cons, barT]; simp
theorem w_bar {b : Cl} (hb : Base b) (n : Int) (fl : Bool) : ∃ cs : List Cl, cs.length ≤ 4 ∧ ((∀ c ∈ cs, in60 c) ∧ cs ≠ []) ∧ f__law_bar [.node (.lst false) (cl b), .int n, .bl fl] = .ok (.node (.lst true) (cs.map cD)) := by
  have r5 : ∀ n : Int, modD (.int n) (.int 5) = some (.int (n % 5)) := fun n => modD_int (by decide)
  have r7 : ∀ n : Int, modD (.int n) (.int 7) = some (.int (n % 7)) := fun n => modD_int (by decide)
  have r13 : ∀ n : Int, modD (.int n) (.int 13) = some (.int (n % 13)) := fun n => modD_int (by decide)
  have r3 : ∀ n : Int, modD (.int n) (.int 3) = some (.int (n % 3)) := fun n => modD_int (by decide)
  have r4 : ∀ n : Int, modD (.int n) (.int 4) = some (.int (n % 4)) := fun n => modD_int (by decide)
  have d5 : ∀ n : Int, fdivD (.int n) (.int 5) = some (.int (n / 5)) := fun n => fdivD_int ⟨by decide, by decide⟩
  have d25 : ∀ n : Int, fdivD (.int n) (.int 25) = some (.int (n / 25)) := fun n => fdivD_int ⟨by decide, by decide⟩
  have d4 : ∀ n : Int, fdivD (.int n) (.int 10000) = some (.int (n / 10000)) := fun n => fdivD_int ⟨by decide, by decide⟩
  have d1 : ∀ n : Int, fdivD (.int n) (.int 175) = some (.int (n / 175)) := fun n => fdivD_int ⟨by decide, by decide⟩
  have d2 : ∀ n : Int, fdivD (.int n) (.int 525) = some (.int (n / 525)) := fun n => fdivD_int ⟨by decide, by decide⟩
  obtain ⟨a, ha, ea⟩ := mod3 (n / 175)
  obtain ⟨m, em, hm, hm0⟩ : ∃ m : Nat, 1 + n / 525 % 4 = m ∧ m ≤ 4 ∧ 1 ≤ m := ⟨(1 + n / 525 % 4).toNat, by omega, by omega, by omega⟩
  have rg := rng_k m (by omega)
  have s2 : ∀ (x y z v : Int), kSet 2 [.int x, .int y, .int z] (.int v) = some [.int x, .int y, .int v] := fun _ _ _ _ => rfl
  have hsp := spot_in hb n fl
  have e : b__law_bar (ent 8 [.node (.lst false) (cl b), .int n, .bl fl]) = thenO (forF (.nm 6) l__law_bar_1 ((List.range m).map fun (i : Nat) => D.int (i : Int)) [some (.node (.lst false) (cl b)), some (.int n), some (.bl fl), some (.node (.lst true) (cl (spotC b n fl))), some (.int (a : Nat)), some (.node (.lst true) []), none, none]) (mretv 5) := by
    have u : ∀ (x y z : Int), mlc (mitl (mvar 3)) (.nm 7) yes (bin subD (mk (.int 0)) (mvar 7)) [some (.node (.lst false) (cl b)), some (.int n), some (.bl fl), some (.node (.lst false) [.int x, .int y, .int z]), none, none, none, none] = .ok (.node (.lst true) [.int (0 - x), .int (0 - y), .int (0 - z)]) := fun _ _ _ => rfl
    cases fl <;> by_cases h : n / 10000 % 13 = 5 <;>
      simp -implicitDefEqProofs [b__law_bar, ent, r5, r7, r13, r3, r4, d5, d25, d4, d1, d2, h, ea, em, rg, mputL_ap, s2, u] <;> simp -implicitDefEqProofs [spotC, h, cl]
  generalize spotC b n fl = p at e hsp
  have ix := fun (o : Bool) (c : Cl) => ix_ll o c a ha
  have sl := fun (c : Cl) (v : Int) => set_ll c v a ha
  obtain ⟨ρ', e2, h2⟩ := forF_sim (α := Nat) (S := Cl × List Cl) (i := 6) (body := l__law_bar_1) (fun i => D.int (i : Int)) (fun s r ρ => ∃ o6, ρ = [some (.node (.lst false) (cl b)), some (.int n), some (.bl fl), some (.node (.lst true) (cl s.1)), some (.int (a : Nat)), some (.node (.lst true) (s.2.map cD)), o6, none] ∧ s.2.length + r.length ≤ 4)
    (fun s _ => (st s.1 a (gi s.1 a + 1), s.2 ++ [s.1])) (by
      rintro ⟨q, acc⟩ k r ρ ⟨o6, rfl, hl⟩
      rw [List.length_cons] at hl
      have sz : (4 : Nat) < sizeLine := by rw [sizeLine_eq]; decide
      have ka := kApp_cs acc q (by simp at hl; omega)
      refine Go_of (by simp -implicitDefEqProofs [l__law_bar_1, ka, mputL_ap, ix, sl]; rfl) ?_
      exact ⟨_, by rw [List.map_append]; rfl, by simp at hl ⊢; omega⟩) (List.range m) (p, []) _ ⟨none, rfl, by simpa using hm⟩
  obtain ⟨o6, rfl, _⟩ := h2
  rw [bar_fold a, List.length_range, List.nil_append] at e2
  refine ⟨barT a m p, by rw [barT_len]; exact hm, ⟨fun c hc => ?_, fun z => ?_⟩, ?_⟩
  · obtain ⟨h1, h2, h3⟩ := barT_mem ha hc
    rw [in60_gi]
    intro b' hb'
    have q : -57 ≤ gi p b' ∧ gi p b' ≤ 57 := by
      rcases lt3c hb' with rfl | rfl | rfl
      · exact hsp.1
      · exact hsp.2.1
      · exact hsp.2.2
    by_cases hne : b' = a
    · subst hne; omega
    · rw [h1 b' hb' hne]; omega
  · have := congrArg List.length z
    rw [barT_len] at this
    simp at this; omega
  · unfold f__law_bar
    rw [body_eq, e]
    simp at e2
    rw [e2]
    simp
/-- the body of bars -/
theorem w_bars (ns ms : List Int) : ∃ cs, Bd cs ∧ cs.length ≤ 4 * ms.length ∧ ((∀ c ∈ cs, in60 c) ∧ (ms ≠ [] → cs ≠ [])) ∧ (ms.length ≤ 100 → f__law_body [.node (.lst false) (numsD ns), .node (.lst false) (numsD ms)] = .ok (.node (.lst true) (cs.map cD))) := by
  have wa := (show f__law_cell_at [.node (.lst false) (numsD ns), .int 0] = .ok (.int (ns.getD 0 0)) from w_at false ns 0)
  generalize ns.getD 0 0 = c0 at wa
  have r109 : ∀ n : Int, modD (.int n) (.int 109) = some (.int (n % 109)) := fun n => modD_int (by decide)
  have r3 : ∀ n : Int, modD (.int n) (.int 3) = some (.int (n % 3)) := fun n => modD_int (by decide)
  have m1 := w_mix c0 48271 (by decide) (by decide)
  have m2 := w_mix c0 69621 (by decide) (by decide)
  have m3 := w_mix c0 40692 (by decide) (by decide)
  have m4 := fun c => w_mix c 16807 (by decide) (by decide)
  have hb : Base (mixC c0 48271 % 109 - 57, mixC c0 69621 % 109 - 57, mixC c0 40692 % 109 - 57) := by
    refine ⟨⟨?_, ?_⟩, ⟨?_, ?_⟩, ⟨?_, ?_⟩⟩ <;> simp only <;> omega
  have e : b__law_body (ent 7 [.node (.lst false) (numsD ns), .node (.lst false) (numsD ms)]) = thenO (forF (.nm 5) l__law_body_2 (numsD ms) [some (.node (.lst false) (numsD ns)), some (.node (.lst false) (numsD ms)), some (.int c0), some (.node (.lst true) (cl (mixC c0 48271 % 109 - 57, mixC c0 69621 % 109 - 57, mixC c0 40692 % 109 - 57))), some (.node (.dct true true (setK [])) (setV [])), none, none]) (mret [4] (mcall sortD [(mvar 4)])) := by
    simp -implicitDefEqProofs [b__law_body, ent, wa, r109, m1, m2, m3]; rfl
  generalize (mixC c0 48271 % 109 - 57, mixC c0 69621 % 109 - 57, mixC c0 40692 % 109 - 57) = b at e hb
  have sz : (1000 : Nat) < sizeLine := by rw [sizeLine_eq]; decide
  by_cases hms : ms.length ≤ 100
  · refine Exists.imp (fun cs (h : Bd cs ∧ cs.length ≤ 4 * ms.length ∧ ((∀ c ∈ cs, in60 c) ∧ (ms ≠ [] → cs ≠ [])) ∧ f__law_body [.node (.lst false) (numsD ns), .node (.lst false) (numsD ms)] = .ok (.node (.lst true) (cs.map cD))) => ⟨h.1, h.2.1, h.2.2.1, fun _ => h.2.2.2⟩) ?_
    unfold f__law_body
    rw [body_eq, e]
    refine forF_wp1 (α := Int) .int (fun r ρ => ∃ (cs1 : List Cl) (ob : Bool) (o5 o6 : Option D), ρ = [some (.node (.lst false) (numsD ns)), some (.node (.lst false) (numsD ms)), some (.int c0), some (.node (.lst ob) (cl b)), some (.node (.dct true true (setK cs1)) (setV cs1)), o5, o6] ∧ cs1.Nodup ∧ (∀ c ∈ cs1, in60 c) ∧ cs1.length + 4 * r.length ≤ 4 * ms.length ∧ (r.length < ms.length → cs1 ≠ []))
      (fun q => ∃ cs, Bd cs ∧ cs.length ≤ 4 * ms.length ∧ ((∀ c ∈ cs, in60 c) ∧ (ms ≠ [] → cs ≠ [])) ∧ outV (thenO q (mret [4] (mcall sortD [(mvar 4)]))) = .ok (.node (.lst true) (cs.map cD))) ?_ ?_ _ _ ⟨[], true, _, _, rfl, List.nodup_nil, by simp, by simp, fun z => absurd z (Nat.lt_irrefl _)⟩
    · rintro ρ ⟨cs1, ob, o5, o6, rfl, g1, g2, g3, g4⟩
      refine ⟨sortC cs1, bd_sort g1, by rw [length_sortC]; simpa using g3, ⟨fun c hc => g2 c (mem_sortC.mp hc), fun z y => g4 (List.length_pos_iff.mpr z) (List.length_eq_zero_iff.mp (by rw [← length_sortC, y]; rfl))⟩, ?_⟩
      have q := sortD_set false (cs := cs1) (by simp at g3; omega)
      simp -implicitDefEqProofs [q]
    · rintro n r ρ ⟨cs1, ob, o5, o6, rfl, g1, g2, g3, g4⟩
      rw [List.length_cons] at g3
      obtain ⟨bs, hb1, ⟨hb2, hb3⟩, eb⟩ := w_bar hb (mixC n 16807) (decide (c0 % 3 = 1))
      have e1 : l__law_body_2 [some (.node (.lst false) (numsD ns)), some (.node (.lst false) (numsD ms)), some (.int c0), some (.node (.lst ob) (cl b)), some (.node (.dct true true (setK cs1)) (setV cs1)), some (.int n), o6] = forF (.nm 6) l__law_body_1 (bs.map cD) [some (.node (.lst false) (numsD ns)), some (.node (.lst false) (numsD ms)), some (.int c0), some (.node (.lst ob) (cl b)), some (.node (.dct true true (setK cs1)) (setV cs1)), some (.int n), o6] := by
        simp -implicitDefEqProofs [l__law_body_2, m4, r3, eb]
      refine Go_of (o' := _) e1 ?_
      refine forF_wp1 cD (fun r' ρ => ∃ (cs2 : List Cl) (o6 : Option D), ρ = [some (.node (.lst false) (numsD ns)), some (.node (.lst false) (numsD ms)), some (.int c0), some (.node (.lst ob) (cl b)), some (.node (.dct true true (setK cs2)) (setV cs2)), some (.int n), o6] ∧ cs2.Nodup ∧ (∀ c ∈ cs2, in60 c) ∧ (∀ c ∈ r', in60 c) ∧ cs2.length + r'.length ≤ cs1.length + 4 ∧ (r' = [] → cs2 ≠ []))
        (fun q => Go _ _ q) ?_ ?_ _ _ ⟨cs1, _, rfl, g1, g2, hb2, by omega, fun z => absurd z hb3⟩
      · rintro ρ ⟨cs2, o6, rfl, q1, q2, _, q4, q5⟩
        exact ⟨cs2, _, _, _, rfl, q1, q2, by simp at q4; omega, fun _ => q5 rfl⟩
      · rintro c r' ρ ⟨cs2, o6, rfl, q1, q2, q3, q4, q5⟩
        rw [List.length_cons] at q4
        refine Go_of (by simp -implicitDefEqProofs [l__law_body_1, kPut_set c q1 (by omega)]; rfl) ?_
        refine ⟨addS cs2 c, _, rfl, addS_nodup c q1, fun d hd => ?_, fun d hd => q3 d (List.mem_cons_of_mem _ hd), by have := addS_len cs2 c; omega, fun _ z => by
          have : c ∈ addS cs2 c := mem_addS.mpr (.inl rfl)
          rw [z] at this; cases this⟩
        rcases mem_addS.mp hd with rfl | hd
        · exact q3 _ List.mem_cons_self
        · exact q2 d hd
  · refine ⟨[(0, 0, 0)], List.pairwise_singleton .., by simp; omega, ⟨fun c hc => ?_, fun _ z => by cases z⟩, fun z => absurd z hms⟩
    rw [List.mem_singleton.mp hc]
    exact ⟨⟨by decide, by decide⟩, ⟨by decide, by decide⟩, ⟨by decide, by decide⟩⟩
theorem w_nb (c : Cl) : f_neighbours [cD c] = .ok (.node (.lst true) ((nbC c).map cD)) := by
  obtain ⟨x, y, z⟩ := c
  have sz : (10000 : Nat) < sizeLine := by rw [sizeLine_eq]; decide
  unfold f_neighbours
  rw [body_eq]
  have ad : ∀ (a b c d e f : D), addD (.node (.lst false) [a, b, c, d]) (.node (.lst false) [e, f]) = some (.node (.lst true) [a, b, c, d, e, f]) := fun _ _ _ _ _ _ => addD_lst _ _ (by simp; omega)
  simp -implicitDefEqProofs [b_neighbours, ent, cD, nbC, ad]
/-- the step of air, from where it leaves backward -/
def stpZ (hs : List Cl) (c d : Cl) : Prop := d ∈ nbC c ∧ d ∈ hs ∧ d.2.2 ≤ c.2.2
theorem in_fold {hs : List Cl} {c : Cl} : c ∈ hs.foldl addS [] ↔ c ∈ hs := by rw [(addS_fold hs [] List.nodup_nil).2.1]; simp
theorem ix_z (c : Cl) : ixD (cD c) (.int 2) = some (.int c.2.2) := ix_cl c 2 (by decide)
theorem stpZ_in {hs vs : List Cl} : (∀ c d, stpZ hs c d → d ∈ hs ++ vs.foldl addS []) ∧ (∀ v ∈ vs.foldl addS [], v ∈ hs ++ vs.foldl addS []) :=
  ⟨fun _ _ h => List.mem_append_left _ h.2.1, fun _ h => List.mem_append_right _ h⟩
theorem w_out (hs vs : List Cl) (hl : hs.length ≤ 10000) (vl : vs.length ≤ 10000) : ∃ K, Fl (vs.foldl addS []) (stpZ hs) K [] noOp ∧ K.length ≤ 20000 ∧ f_ways_out [.node (.lst false) (hs.map cD), .node (.lst false) (vs.map cD)] = .ok (.node (.dct true true (kK K)) (kV' K)) := by
  have sz : (100000 : Nat) < sizeLine := by rw [sizeLine_eq]; decide
  unfold f_ways_out
  rw [body_eq]
  obtain ⟨o', q⟩ := set_any (body := l_ways_out_1) (i := 3) (fun cs' o' => [some (.node (.lst false) (hs.map cD)), some (.node (.lst false) (vs.map cD)), some (.node (.dct true true (setK cs')) (setV cs')), o', none, none, none, none, none]) (fun _ _ _ => rfl)
    (fun cs' c g1 g2 => by simp -implicitDefEqProofs [l_ways_out_1, kPut_set c g1 g2]) hs [] none List.nodup_nil (by simp; omega)
  obtain ⟨o6, q2⟩ := set_any (body := l_ways_out_2) (i := 6) (fun cs' o6 => [some (.node (.lst false) (hs.map cD)), some (.node (.lst false) (vs.map cD)), some (.node (.dct true true (setK (hs.foldl addS []))) (setV (hs.foldl addS []))), o', some (.node (.dct true true (kK (cs'.map fun c => (c, none)))) (kV' (cs'.map fun c => (c, none)))), some (.node (.lst true) (cs'.map cD)), o6, none, none]) (fun _ _ _ => rfl)
    (fun cs' c g1 g2 => by
      have ek : keys (cs'.map fun c => (c, (none : Option Cl))) = cs' := by unfold keys; rw [List.map_map]; exact List.map_id _
      by_cases hc : c ∈ cs'
      · have e : addS cs' c = cs' := by unfold addS; rw [if_pos hc]
        simp -implicitDefEqProofs [l_ways_out_2, ek, hc, e, -List.map_map]
      · have e := addS_new hc
        have kp := kPut_K (c := c) none (K := cs'.map fun c => (c, (none : Option Cl))) (by rw [ek]; exact g1) (by rw [List.length_map]; exact g2) (by rw [ek]; exact hc)
        have ka := kApp_cs cs' c g2
        have em : (cs'.map fun c => (c, (none : Option Cl))) ++ [(c, none)] = (addS cs' c).map fun c => (c, none) := by rw [e, List.map_append]; rfl
        rw [em] at kp
        simp only [oC_none] at kp
        simp -implicitDefEqProofs [l_ways_out_2, ek, hc, kp, ka, -List.map_map, -List.map_append]
        rw [e]) vs [] none List.nodup_nil (by simp; omega)
  have vnd := (addS_fold vs [] List.nodup_nil).1
  have vlen : (vs.foldl addS []).length ≤ 10000 := by have := (addS_fold vs [] List.nodup_nil).2.2; simp at this; omega
  generalize hV : vs.foldl addS [] = V at q2 vnd vlen ⊢
  have hstep : ∀ c d, stpZ hs c d → d ∈ hs ++ V := fun _ _ h => List.mem_append_left _ h.2.1
  have hVin : ∀ v ∈ V, v ∈ hs ++ V := fun _ h => List.mem_append_right _ h
  have hUl : (hs ++ V).length ≤ 20000 := by rw [List.length_append]; omega
  have e : b_ways_out (ent 9 [.node (.lst false) (hs.map cD), .node (.lst false) (vs.map cD)]) = thenO (mwhile (tst (Ev.bin neD (mvar 5) (mlst []))) l_ways_out_4 [some (.node (.lst false) (hs.map cD)), some (.node (.lst false) (vs.map cD)), some (.node (.dct true true (setK (hs.foldl addS []))) (setV (hs.foldl addS []))), o', some (.node (.dct true true (kK (V.map fun c => (c, none)))) (kV' (V.map fun c => (c, none)))), some (.node (.lst true) (V.map cD)), o6, none, none]) (mretv 4) := by
    have q' : forF (.nm 3) l_ways_out_1 (hs.map cD) [some (.node (.lst false) (hs.map cD)), some (.node (.lst false) (vs.map cD)), some (.node (.dct true true []) []), none, none, none, none, none, none] = _ := q
    have q2' : forF (.nm 6) l_ways_out_2 (vs.map cD) [some (.node (.lst false) (hs.map cD)), some (.node (.lst false) (vs.map cD)), some (.node (.dct true true (setK (hs.foldl addS []))) (setV (hs.foldl addS []))), o', some (.node (.dct true true []) []), some (.node (.lst true) []), none, none, none] = _ := q2
    simp -implicitDefEqProofs [b_ways_out, ent, q', q2', -List.map_map]
  rw [e]
  refine mwhile_wp (fun k ρ => ∃ (K : Km) (E : List Cl) (o7 o8 : Option D), ρ = [some (.node (.lst false) (hs.map cD)), some (.node (.lst false) (vs.map cD)), some (.node (.dct true true (setK (hs.foldl addS []))) (setV (hs.foldl addS []))), o', some (.node (.dct true true (kK K)) (kV' K)), some (.node (.lst true) (E.map cD)), o6, o7, o8] ∧ Fl V (stpZ hs) K E noOp ∧ 2 * (20000 - K.length) + E.length = k ∧ k ≤ 60000)
    (fun q => ∃ K, Fl V (stpZ hs) K [] noOp ∧ K.length ≤ 20000 ∧ outV (thenO q (mretv 4)) = .ok (.node (.dct true true (kK K)) (kV' K))) ?_ _ _ ?_ ⟨V.map fun c => (c, none), V, none, none, rfl, Fl.init vnd, rfl, by simp; omega⟩
  · rintro k ρ ⟨K, E, o7, o8, rfl, fl, hk, hk6⟩
    refine ⟨!decide (E = []), by simp -implicitDefEqProofs, ?_⟩
    have hKl := Nat.le_trans (fl.len hstep hVin) hUl
    cases E with
    | nil =>
      rw [if_neg (by simp)]
      exact ⟨K, fl, hKl, by simp -implicitDefEqProofs⟩
    | cons h E =>
      rw [if_pos (by simp)]
      have hh : h ∈ keys K := fl.es h List.mem_cons_self
      have e1 : l_ways_out_4 [some (.node (.lst false) (hs.map cD)), some (.node (.lst false) (vs.map cD)), some (.node (.dct true true (setK (hs.foldl addS []))) (setV (hs.foldl addS []))), o', some (.node (.dct true true (kK K)) (kV' K)), some (.node (.lst true) ((h :: E).map cD)), o6, o7, o8] = forF (.nm 8) l_ways_out_3 ((nbC h).map cD) [some (.node (.lst false) (hs.map cD)), some (.node (.lst false) (vs.map cD)), some (.node (.dct true true (setK (hs.foldl addS []))) (setV (hs.foldl addS []))), o', some (.node (.dct true true (kK K)) (kV' K)), some (.node (.lst true) (E.map cD)), o6, some (cD h), o8] := by
        have p0 := pop0_cs h E
        have pu := pures_cs (h :: E)
        generalize (h :: E).map cD = L at p0 pu
        simp -implicitDefEqProofs [l_ways_out_4, w_nb, p0, pu]
      refine Go_of e1 ?_
      refine forF_wp1 cD (fun r ρ => ∃ (K' : Km) (E' : List Cl) (o8 : Option D), ρ = [some (.node (.lst false) (hs.map cD)), some (.node (.lst false) (vs.map cD)), some (.node (.dct true true (setK (hs.foldl addS []))) (setV (hs.foldl addS []))), o', some (.node (.dct true true (kK K')) (kV' K')), some (.node (.lst true) (E'.map cD)), o6, some (cD h), o8] ∧ Fl V (stpZ hs) K' E' (opAt h r) ∧ h ∈ keys K' ∧ (∀ d ∈ r, d ∈ nbC h) ∧ 2 * (20000 - K'.length) + E'.length + 1 ≤ k)
        (fun q => Go _ _ q) ?_ ?_ _ _ ⟨K, E, o8, rfl, fl.pop (fun c hc => List.mem_cons_of_mem _ hc) (fun c hc => List.mem_cons.mp hc) (fun d hd => hd.1), hh, fun _ h => h, by rw [← hk, List.length_cons]; omega⟩
      · rintro ρ ⟨K', E', o8, rfl, fl', _, _, hk'⟩
        exact ⟨_, Nat.lt_of_lt_of_le (Nat.lt_succ_self _) hk', K', E', _, _, rfl, fl'.fin, rfl, by omega⟩
      · rintro d r ρ ⟨K', E', o8, rfl, fl', hh', hnb, hk'⟩
        have hKl' := Nat.le_trans (fl'.len hstep hVin) hUl
        have hnb' : ∀ d ∈ r, d ∈ nbC h := fun x hx => hnb x (List.mem_cons_of_mem _ hx)
        have hn := hnb d List.mem_cons_self
        by_cases h1 : d ∈ hs
        · by_cases h2 : d ∈ keys K'
          · refine Go_of (by simp -implicitDefEqProofs [l_ways_out_3, in_fold, h1, h2]; rfl) ?_
            exact ⟨_, _, _, rfl, fl'.skip fun _ => h2, hh', hnb', hk'⟩
          · by_cases h3 : d.2.2 ≤ h.2.2
            · have kp := kPut_K (c := d) (some h) fl'.nd (by omega) h2
              simp only [oC_some] at kp
              have fl2 := fl'.add hh' h2 ⟨hn, h1, h3⟩
              have hK2 := Nat.le_trans (fl2.len hstep hVin) hUl
              rw [List.length_append] at hK2
              simp only [List.length_cons, List.length_nil] at hK2
              have ka := kApp_cs E' d (by omega)
              refine Go_of (by simp -implicitDefEqProofs [l_ways_out_3, in_fold, h1, h2, h3, ix_z, kp, ka, -List.map_append]; rfl) ?_
              refine ⟨_, _, _, rfl, fl2, by rw [keys_app]; exact List.mem_append_left _ hh', hnb', ?_⟩
              rw [List.length_append, List.length_append]
              simp only [List.length_cons, List.length_nil]
              omega
            · refine Go_of (by simp -implicitDefEqProofs [l_ways_out_3, in_fold, h1, h2, h3, ix_z]; rfl) ?_
              exact ⟨_, _, _, rfl, fl'.skip fun q => absurd q.2.2 h3, hh', hnb', hk'⟩
        · refine Go_of (by simp -implicitDefEqProofs [l_ways_out_3, in_fold, h1]; rfl) ?_
          exact ⟨_, _, _, rfl, fl'.skip fun q => absurd q.2.1 h1, hh', hnb', hk'⟩
  · simp
    omega
/-- whose air leaves -/
def Out_ (hs vs : List Cl) (c : Cl) : Prop := Rch (· ∈ vs) (stpZ hs) c
theorem rch_fold {hs vs : List Cl} {c : Cl} : Rch (· ∈ vs.foldl addS []) (stpZ hs) c ↔ Out_ hs vs c := by
  have e : (fun c => c ∈ vs.foldl addS []) = (· ∈ vs) := by funext c; exact propext in_fold
  rw [e]; rfl
theorem w_shut (hs vs : List Cl) (hl : hs.length ≤ 10000) (vl : vs.length ≤ 10000) : ∃ K : List Cl, (∀ c, c ∈ K ↔ Out_ hs vs c) ∧ f_shut [.node (.lst false) (hs.map cD), .node (.lst false) (vs.map cD)] = .ok (.node (.lst true) ((hs.filter fun c => !decide (c ∈ K)).map cD)) := by
  obtain ⟨K, fl, _, ew⟩ := w_out hs vs hl vl
  refine ⟨keys K, fun c => (fl.done c).trans rch_fold, ?_⟩
  have lc : lcGo (.nm 3) (tst (Ev.bin nin2D (mvar 3) (mvar 2))) (mvar 3) [some (.node (.lst false) (hs.map cD)), some (.node (.lst false) (vs.map cD)), some (.node (.dct false true (kK K)) (kV' K)), none] (hs.map cD) = .ok ((hs.filter fun c => !decide (c ∈ keys K)).map cD) :=
    lcGo_map cD (fun c => [cD c]) (fun c => !decide (c ∈ keys K)) cD (fun _ => rfl) hs (fun c _ => by simp -implicitDefEqProofs) (fun c _ _ => by simp -implicitDefEqProofs)
  unfold f_shut
  rw [body_eq]
  simp -implicitDefEqProofs [b_shut, ent, ew, mlc_ap, lc]
/-- a neighbour of those that are there -/
def stA (L : List Cl) (c d : Cl) : Prop := d ∈ nbC c ∧ d ∈ L
theorem frz_ioS (a : Addr) (cs : List Cl) : (D.node (.io a true (setK cs)) (setV cs)).frz = .node (.dct false true (setK cs)) (setV cs) := by
  rw [D.frz, Tag.frz, frzs_setV]
def rstC (L ks : List Cl) : List Cl := L.filter fun x => !decide (x ∈ ks)
theorem mem_rst {L ks : List Cl} {x : Cl} : x ∈ rstC L ks ↔ x ∈ L ∧ x ∉ ks := by unfold rstC; rw [List.mem_filter]; simp
theorem rst_nodup {L : List Cl} (ks : List Cl) (h : L.Nodup) : (rstC L ks).Nodup := h.sublist List.filter_sublist
theorem del_rst (L ks : List Cl) (d : Cl) : delS (rstC L ks) d = rstC L (ks ++ [d]) := by
  unfold delS rstC
  rw [List.filter_filter]
  refine List.filter_congr fun x _ => ?_
  by_cases h1 : x = d <;> by_cases h2 : x ∈ ks <;> simp [h1, h2]
theorem del_rst1 (L : List Cl) (d : Cl) : delS L d = rstC L [d] := by
  unfold delS rstC
  exact List.filter_congr fun x _ => by simp
open Classical in
/-- the cells that hang together with c -/
noncomputable def pcC (L : List Cl) (c : Cl) : List Cl := sortC (L.filter fun x => decide (Rch (· ∈ [c]) (stA L) x))
open Classical in
theorem mem_pc {L : List Cl} {c : Cl} (hc : c ∈ L) {x : Cl} : x ∈ pcC L c ↔ Rch (· ∈ [c]) (stA L) x := by
  unfold pcC
  rw [mem_sortC, List.mem_filter, decide_eq_true_iff]
  refine ⟨fun h => h.2, fun h => ⟨?_, h⟩⟩
  cases h with
  | base h => rw [List.mem_singleton.mp h]; exact hc
  | step _ h => exact h.2
theorem pc_bd {L : List Cl} (c : Cl) (h : L.Nodup) : Bd (pcC L c) := bd_sort (h.sublist List.filter_sublist)
theorem w_piece (L : List Cl) (c : Cl) (hn : L.Nodup) (hl : L.length ≤ 1000) (hc : c ∈ L) : ioG 5 b_piece_from (cD c) true (setK L) (setV L) = some (.node (.lst true) ((pcC L c).map cD), setK (rstC L (pcC L c)), setV (rstC L (pcC L c))) := by
  have sz : (10000 : Nat) < sizeLine := by rw [sizeLine_eq]; decide
  have hU : ∀ a b, stA L a b → b ∈ L := fun _ _ h => h.2
  have hV : ∀ v ∈ [c], v ∈ L := fun v hv => by rw [List.mem_singleton.mp hv]; exact hc
  refine ioG_of (pures_setV _) fun a => ?_
  have dp0 := dpop_set hn hc
  rw [del_rst1] at dp0
  have e : b_piece_from (ent 5 [cD c, .node (.io a true (setK L)) (setV L)]) = thenO (mwhile (tst (bin ltD (mvar 3) (mcall lenD [(mvar 2)]))) l_piece_from_2 [some (cD c), some (.node (.io a true (setK (rstC L (keys [(c, none)])))) (setV (rstC L (keys [(c, none)])))), some (.node (.lst true) ((keys [(c, none)]).map cD)), some (.int 0), none]) (mret [2] (mcall sortD [(mvar 2)])) := by
    show b_piece_from _ = thenO (mwhile _ _ [some (cD c), some (.node (.io a true (setK (rstC L [c]))) (setV (rstC L [c]))), some (.node (.lst true) [cD c]), some (.int 0), none]) _
    generalize hT : rstC L [c] = T at dp0 ⊢
    simp -implicitDefEqProofs [b_piece_from, ent, dmO, dp0]
  rw [e]
  refine mwhile_wp (fun k ρ => ∃ (K : Km) (n : Nat) (o4 : Option D), ρ = [some (cD c), some (.node (.io a true (setK (rstC L (keys K)))) (setV (rstC L (keys K)))), some (.node (.lst true) ((keys K).map cD)), some (.int (n : Int)), o4] ∧ Fl [c] (stA L) K ((keys K).drop n) noOp ∧ n ≤ (keys K).length ∧ k + n = 3000)
    (fun q => ∃ ρ, thenO q (mret [2] (mcall sortD [(mvar 2)])) = .rt (.node (.lst true) ((pcC L c).map cD)) ρ ∧ ρ[1]? = some (some (.node (.io a true (setK (rstC L (pcC L c)))) (setV (rstC L (pcC L c)))))) ?_ 3000 _ (by decide) ⟨[(c, none)], 0, none, rfl, Fl.init (cs := [c]) (by simp), Nat.zero_le _, rfl⟩
  rintro k ρ ⟨K, n, o4, rfl, fl, hnl, hk⟩
  have hKl : K.length ≤ 1000 := Nat.le_trans (fl.len hU hV) hl
  have hkl : (keys K).length = K.length := by unfold keys; rw [List.length_map]
  have fL : frzs ((keys K).map cD) = (keys K).map cD := frzs_cs (keys K)
  refine ⟨decide (n < (keys K).length), by
    have lL : ((keys K).map cD).length = (keys K).length := List.length_map ..
    generalize (keys K).map cD = Z at lL fL ⊢
    simp -implicitDefEqProofs [lL, fL], ?_⟩
  by_cases hlt : n < (keys K).length
  · rw [if_pos (by simpa using hlt)]
    have ix := ix_lst false ((keys K).map cD) n (by rw [List.length_map]; exact hlt)
    rw [List.getElem_map] at ix
    have dr : (keys K).drop n = (keys K)[n] :: (keys K).drop (n + 1) := List.drop_eq_getElem_cons hlt
    have hm : (keys K)[n] ∈ keys K := List.getElem_mem _
    generalize hh : (keys K)[n] = h at ix dr hm
    rw [dr] at fl
    have e1 : l_piece_from_2 [some (cD c), some (.node (.io a true (setK (rstC L (keys K)))) (setV (rstC L (keys K)))), some (.node (.lst true) ((keys K).map cD)), some (.int (n : Int)), o4] =
        thenO (forF (.nm 4) l_piece_from_1 ((nbC h).map cD) [some (cD c), some (.node (.io a true (setK (rstC L (keys K)))) (setV (rstC L (keys K)))), some (.node (.lst true) ((keys K).map cD)), some (.int (n : Int)), o4]) (maug 3 (mk (.int 1))) := by
      generalize (keys K).map cD = Z at ix fL ⊢
      simp -implicitDefEqProofs [l_piece_from_2, ix, fL, w_nb]
    refine Go_of e1 ?_
    refine forF_wp1 cD (fun r ρ => ∃ (K' : Km) (T : List Cl) (o4 : Option D), ρ = [some (cD c), some (.node (.io a true (setK (rstC L (keys K')))) (setV (rstC L (keys K')))), some (.node (.lst true) ((keys K').map cD)), some (.int (n : Int)), o4] ∧ keys K' = keys K ++ T ∧ Fl [c] (stA L) K' ((keys K').drop (n + 1)) (opAt h r) ∧ (∀ d ∈ r, d ∈ nbC h))
      (fun q => Go _ _ (thenO q (maug 3 (mk (.int 1))))) ?_ ?_ _ _ ⟨K, [], o4, rfl, by simp, fl.pop (fun c hc => List.mem_cons_of_mem _ hc) (fun c hc => List.mem_cons.mp hc) (fun d hd => hd.1), fun _ hd => hd⟩
    · rintro ρ ⟨K', T, o4, rfl, hT, fl', _⟩
      refine Go_of (o' := .nx [some (cD c), some (.node (.io a true (setK (rstC L (keys K')))) (setV (rstC L (keys K')))), some (.node (.lst true) ((keys K').map cD)), some (.int ((n + 1 : Nat) : Int)), o4]) (by simp -implicitDefEqProofs [maug]) ⟨k - 1, by omega, K', n + 1, o4, rfl, fl'.fin, by rw [hT, List.length_append]; omega, by omega⟩
    · rintro d r ρ ⟨K', T, o4, rfl, hT, fl', hnb⟩
      have hKl' : K'.length ≤ 1000 := Nat.le_trans (fl'.len hU hV) hl
      have hkl' : (keys K').length = K'.length := by unfold keys; rw [List.length_map]
      have nd' := fl'.nd
      have fL' : frzs ((keys K').map cD) = (keys K').map cD := frzs_cs (keys K')
      have ka := kApp_cs (keys K') d (by omega)
      have hnb' : ∀ x ∈ r, x ∈ nbC h := fun x hx => hnb x (List.mem_cons_of_mem _ hx)
      by_cases hd : d ∈ rstC L (keys K')
      · obtain ⟨hdL, h2⟩ := mem_rst.mp hd
        have dp := dpop_set (rst_nodup (keys K') hn) hd
        rw [del_rst] at dp
        have hst : stA L h d := ⟨hnb d List.mem_cons_self, hdL⟩
        have ek : keys (K' ++ [(d, some h)]) = keys K' ++ [d] := keys_app K' d (some h)
        have hhk : h ∈ keys K' := by rw [hT]; exact List.mem_append_left _ hm
        refine Go_of (o' := .nx [some (cD c), some (.node (.io a true (setK (rstC L (keys K' ++ [d])))) (setV (rstC L (keys K' ++ [d])))), some (.node (.lst true) ((keys K' ++ [d]).map cD)), some (.int (n : Int)), some (cD d)]) ?_ ⟨K' ++ [(d, some h)], T ++ [d], _, by rw [ek], by rw [ek, hT, List.append_assoc], ?_, hnb'⟩
        · generalize hU1 : rstC L (keys K' ++ [d]) = U1 at dp ⊢
          generalize rstC L (keys K') = U0 at hd dp ⊢
          generalize (keys K' ++ [d]).map cD = L2 at ka ⊢
          generalize (keys K').map cD = Z at fL' ka ⊢
          simp -implicitDefEqProofs [l_piece_from_1, dmO, frz_ioS, fL', hd, dp, ka]
        · have := fl'.add hhk h2 hst
          rw [ek, List.drop_append_of_le_length (by rw [hT, List.length_append]; omega)]
          exact this
      · refine Go_of (o' := .nx [some (cD c), some (.node (.io a true (setK (rstC L (keys K')))) (setV (rstC L (keys K')))), some (.node (.lst true) ((keys K').map cD)), some (.int (n : Int)), some (cD d)]) ?_ ⟨K', T, _, rfl, hT, fl'.skip fun z => ?_, hnb'⟩
        · generalize rstC L (keys K') = U0 at hd ⊢
          generalize (keys K').map cD = Z at fL' ⊢
          simp -implicitDefEqProofs [l_piece_from_1, frz_ioS, fL', hd]
        · by_cases hk' : d ∈ keys K'
          · exact hk'
          · exact absurd (mem_rst.mpr ⟨z.2, hk'⟩) hd
  · rw [if_neg (by simpa using hlt)]
    have e0 : (keys K).drop n = [] := List.drop_eq_nil_iff.mpr (by omega)
    rw [e0] at fl
    have es : sortC (keys K) = pcC L c := (bd_sort fl.nd).eq (pc_bd c hn) fun x => by rw [mem_sortC, mem_pc hc, fl.done]
    have er : rstC L (keys K) = rstC L (pcC L c) := by
      unfold rstC
      refine List.filter_congr fun x _ => ?_
      congr 2
      rw [mem_pc hc, fl.done]
    rw [er, ← es]
    generalize rstC L (sortC (keys K)) = U0
    generalize keys K = ks
    exact ⟨_, by simp -implicitDefEqProofs; rfl, rfl⟩
def kc (c : Cl) : List Key := [.inl c.1, .inl c.2.1, .inl c.2.2]
theorem pairs_cs : ∀ cs : List Cl, pairsD (cs.map fun c => .node .tup [cD c, .bl true]) = some (cs.map fun c => (kc c, .bl true))
  | [] => rfl
  | c :: cs => by
    show (pairD (.node .tup [cD c, .bl true])).bind (fun p => (pairsD (cs.map fun c => .node .tup [cD c, .bl true])).map (p :: ·)) = _
    rw [pairs_cs cs]
    rfl
theorem kc_inj {a b : Cl} (h : kc a = kc b) : a = b := cK_inj (congrArg Sum.inr h)
theorem put_newB (acc : List Cl) (c : Cl) (h : c ∉ acc) : put (acc.map fun c => (kc c, D.bl true)) (kc c) (.bl true) = (acc ++ [c]).map fun c => (kc c, .bl true) := by
  have e : ((acc.map fun c => (kc c, D.bl true)).any fun p => decide (p.1 = kc c)) = false := by
    rw [List.any_eq_false]
    intro p hp
    obtain ⟨x, hx, rfl⟩ := List.mem_map.mp hp
    simp only [decide_eq_true_eq]
    intro z
    exact h (by rw [← kc_inj z]; exact hx)
  unfold put
  rw [e, List.map_append]
  rfl
theorem put_all : ∀ (cs acc : List Cl), (acc ++ cs).Nodup → (cs.map fun c => (kc c, D.bl true)).foldl (fun acc p => put acc p.1 p.2) (acc.map fun c => (kc c, D.bl true)) = (acc ++ cs).map fun c => (kc c, .bl true)
  | [], acc, _ => by simp
  | c :: cs, acc, h => by
    have hc : c ∉ acc := fun z => (List.nodup_append.mp h).2.2 c z c List.mem_cons_self rfl
    rw [List.map_cons, List.foldl_cons, put_newB acc c hc, put_all cs (acc ++ [c]) (by rw [List.append_assoc]; exact h), List.append_assoc]
    rfl
theorem dict_cs (o : Bool) (cs : List Cl) (hn : cs.Nodup) (hl : cs.length < sizeLine) : dictD [.node (.lst o) (cs.map fun c => .node .tup [cD c, .bl true])] = some (.node (.dct true true (setK cs)) (setV cs)) := by
  have h := put_all cs [] hn
  rw [List.map_nil] at h
  show (if (cs.map fun c => D.node .tup [cD c, .bl true]).length < sizeLine then (pairsD (cs.map fun c => .node .tup [cD c, .bl true])).map (fun l => D.node (.dct true true ((l.foldl (fun acc p => put acc p.1 p.2) []).map fun p => Sum.inr p.1)) ((l.foldl (fun acc p => put acc p.1 p.2) []).map (·.2))) else none) = _
  rw [if_pos (by rw [List.length_map]; exact hl), pairs_cs, Option.map_some, h, List.nil_append, List.map_map, List.map_map]
  rfl
theorem frzs_prs (cs : List Cl) : frzs (cs.map fun c => D.node .tup [cD c, .bl true]) = cs.map fun c => .node .tup [cD c, .bl true] := frzs_id fun x hx => by
  obtain ⟨c, _, rfl⟩ := List.mem_map.mp hx; rfl
theorem w_there (cs : List Cl) (hn : cs.Nodup) (hl : cs.length < sizeLine) : f_there_of [.node (.lst false) (cs.map cD)] = .ok (.node (.dct true true (setK cs)) (setV cs)) := by
  have lc : lcGo (.nm 1) yes (mtup [(mvar 1), (mk (.bl true))]) [some (.node (.lst false) (cs.map cD)), none] (cs.map cD) = .ok (cs.map fun c => .node .tup [cD c, .bl true]) :=
    lcGo_all (t := .nm 1) cD (fun c => [cD c]) (fun c => .node .tup [cD c, .bl true]) (fun _ => rfl) cs (fun c _ => by simp -implicitDefEqProofs)
  have dd := dict_cs false cs hn hl
  have fp := frzs_prs cs
  unfold f_there_of
  rw [body_eq]
  generalize (cs.map fun c => D.node .tup [cD c, .bl true]) = Z at lc dd fp
  simp -implicitDefEqProofs [b_there_of, ent, mlc_ap, lc, dd, fp]
/-! hanging together -/
abbrev Con (S : List Cl) (x y : Cl) : Prop := Rch (· ∈ [x]) (stA S) y
theorem con_refl {S : List Cl} (x : Cl) : Con S x x := .base (List.mem_singleton.mpr rfl)
theorem con_trans {S : List Cl} {x y z : Cl} (h1 : Con S x y) (h2 : Con S y z) : Con S x z := by
  induction h2 with
  | base h => rw [List.mem_singleton.mp h]; exact h1
  | step _ hs ih => exact .step ih hs
theorem con_in {S : List Cl} {x y : Cl} (hx : x ∈ S) (h : Con S x y) : y ∈ S := by
  cases h with
  | base h => rw [List.mem_singleton.mp h]; exact hx
  | step _ h => exact h.2
theorem con_symm {S : List Cl} {x y : Cl} (hx : x ∈ S) (h : Con S x y) : Con S y x := by
  induction h with
  | base h => rw [List.mem_singleton.mp h]; exact con_refl _
  | step hq hs ih => exact con_trans (.step (con_refl _) ⟨nb_comm.mp hs.1, con_in hx hq⟩) ih
structure PI (S A Rs : List Cl) : Prop where
  sub : Rs.Sublist A
  all : ∀ x ∈ A, ∃ R ∈ Rs, Con S R x
  ap : Rs.Pairwise fun R R' => ¬ Con S R R'
  le : ∀ R ∈ Rs, ∀ x, Con S R x → x = R ∨ clt R x = true
/-- what is left behind the pieces of Rs -/
def Lf (S Rs L : List Cl) : Prop := L.Nodup ∧ ∀ x, x ∈ L ↔ x ∈ S ∧ ∀ R ∈ Rs, ¬ Con S R x
theorem lf_con {S Rs L : List Cl} (hRs : ∀ R ∈ Rs, R ∈ S) (h : Lf S Rs L) {c : Cl} (hc : c ∈ L) (x : Cl) : Con L c x ↔ Con S c x := by
  constructor
  · intro z
    induction z with
    | base h => exact .base h
    | step _ hs ih => exact .step ih ⟨hs.1, ((h.2 _).mp hs.2).1⟩
  · intro z
    induction z with
    | base h => exact .base h
    | @step a d q hs ih =>
      have ha := con_in hc ih
      refine .step ih ⟨hs.1, (h.2 _).mpr ⟨hs.2, fun R hR k => ((h.2 _).mp ha).2 R hR (con_trans k ?_)⟩⟩
      exact .step (con_refl _) ⟨nb_comm.mp hs.1, ((h.2 _).mp ha).1⟩
theorem lf_pc {S Rs L : List Cl} (nS : S.Nodup) (hRs : ∀ R ∈ Rs, R ∈ S) (h : Lf S Rs L) {c : Cl} (hc : c ∈ L) : pcC L c = pcC S c := (pc_bd c h.1).eq (pc_bd c nS) fun x => by
  rw [mem_pc hc, mem_pc ((h.2 c).mp hc).1]
  exact lf_con hRs h hc x
def pD (o : Bool) (P : List Cl) : D := .node (.lst o) (P.map cD)
theorem w_pieces (S : List Cl) (bS : Bd S) (hl : S.length ≤ 1000) : ∃ Rs, PI S S Rs ∧ f_pieces [.node (.lst false) (S.map cD)] = .ok (.node (.lst true) (Rs.map fun R => pD true (pcC S R))) := by
  have sz : (10000 : Nat) < sizeLine := by rw [sizeLine_eq]; decide
  have nS := bS.nodup
  have wt := w_there S nS (by omega)
  have e : b_pieces (ent 4 [.node (.lst false) (S.map cD)]) = thenO (forF (.nm 3) l_pieces_1 (S.map cD) [some (.node (.lst false) (S.map cD)), some (.node (.dct true true (setK S)) (setV S)), some (.node (.lst true) []), none]) (mretv 2) := by
    simp -implicitDefEqProofs [b_pieces, ent, wt]
  unfold f_pieces
  rw [body_eq, e]
  refine forF_wp1 cD (fun r ρ => ∃ (A Rs L : List Cl) (o3 : Option D), ρ = [some (.node (.lst false) (S.map cD)), some (.node (.dct true true (setK L)) (setV L)), some (.node (.lst true) (Rs.map fun R => pD true (pcC S R))), o3] ∧ A ++ r = S ∧ PI S A Rs ∧ Lf S Rs L)
    (fun q => ∃ Rs, PI S S Rs ∧ outV (thenO q (mretv 2)) = .ok (.node (.lst true) (Rs.map fun R => pD true (pcC S R)))) ?_ ?_ _ _ ⟨[], [], S, none, rfl, rfl, ⟨List.Sublist.refl _, (fun _ z => nomatch z), List.Pairwise.nil, (fun _ z => nomatch z)⟩, nS, fun x => by simp⟩
  · rintro ρ ⟨A, Rs, L, o3, rfl, hA, pi, lf⟩
    rw [List.append_nil] at hA
    subst hA
    exact ⟨Rs, pi, by simp -implicitDefEqProofs⟩
  · rintro c r ρ ⟨A, Rs, L, o3, rfl, hA, pi, lf⟩
    have hcS : c ∈ S := by rw [← hA]; exact List.mem_append_right _ List.mem_cons_self
    have hAS : ∀ x ∈ A, x ∈ S := fun x hx => by rw [← hA]; exact List.mem_append_left _ hx
    have hRs : ∀ R ∈ Rs, R ∈ S := fun R hR => hAS R (pi.sub.subset hR)
    have hA' : A ++ [c] ++ r = S := by rw [List.append_assoc]; exact hA
    have hLl : L.length ≤ 1000 := Nat.le_trans (nodup_len lf.1 fun x hx => ((lf.2 x).mp hx).1) hl
    by_cases hcL : c ∈ L
    · have wp := w_piece L c lf.1 hLl hcL
      rw [lf_pc nS hRs lf hcL] at wp
      have hcn := ((lf.2 c).mp hcL).2
      have hRl : (Rs.map fun R => pD true (pcC S R)).length < sizeLine := by
        rw [List.length_map]
        have h1 := pi.sub.length_le
        have h2 := congrArg List.length hA
        rw [List.length_append] at h2
        omega
      refine Go_of (o' := .nx [some (.node (.lst false) (S.map cD)), some (.node (.dct true true (setK (rstC L (pcC S c)))) (setV (rstC L (pcC S c)))), some (.node (.lst true) ((Rs ++ [c]).map fun R => pD true (pcC S R))), some (cD c)]) ?_ ⟨A ++ [c], Rs ++ [c], rstC L (pcC S c), _, rfl, hA', ⟨?_, ?_, ?_, ?_⟩, rst_nodup _ lf.1, fun x => ?_⟩
      · rw [List.map_append]
        generalize (Rs.map fun R => pD true (pcC S R)) = Z at hRl ⊢
        have hsh : (pD true (pcC S c)).shr = false := by simp [pD]
        have fl : ∀ T, ∀ x ∈ setV T, flD x = true := fun T x hx => by
          obtain ⟨_, _, rfl⟩ := List.mem_map.mp hx; rfl
        have fl2 := fl (rstC L (pcC S c))
        generalize rstC L (pcC S c) = T at wp fl2 ⊢
        have ep : (D.node (.lst true) ((pcC S c).map cD)) = pD true (pcC S c) := rfl
        rw [ep] at wp
        simp -implicitDefEqProofs [l_pieces_1, hcL, mappIO, wp, hRl, hsh, List.all_eq_true, fl2]
        try exact fl2
      · exact pi.sub.append (List.Sublist.refl _)
      · intro x hx
        rcases List.mem_append.mp hx with z | z
        · obtain ⟨R, h1, h2⟩ := pi.all x z
          exact ⟨R, List.mem_append_left _ h1, h2⟩
        · rw [List.mem_singleton.mp z]
          exact ⟨c, List.mem_append_right _ (List.mem_singleton.mpr rfl), con_refl c⟩
      · rw [List.pairwise_append]
        exact ⟨pi.ap, by simp, fun R hR x hx => by rw [List.mem_singleton.mp hx]; exact hcn R hR⟩
      · intro R hR x hx
        rcases List.mem_append.mp hR with z | z
        · exact pi.le R z x hx
        · rw [List.mem_singleton.mp z] at hx ⊢
          have hxS := con_in hcS hx
          have hxA : x ∉ A := fun k => by
            obtain ⟨R', h1, h2⟩ := pi.all x k
            exact hcn R' h1 (con_trans h2 (con_symm hcS hx))
          rw [← hA] at hxS bS
          rcases List.mem_append.mp hxS with k | k
          · exact absurd k hxA
          · rcases List.mem_cons.mp k with k | k
            · exact .inl k
            · exact .inr ((List.pairwise_cons.mp (List.pairwise_append.mp bS).2.1).1 x k)
      · rw [mem_rst, lf.2, mem_pc hcS]
        constructor
        · rintro ⟨⟨h1, h2⟩, h3⟩
          refine ⟨h1, fun R hR => ?_⟩
          rcases List.mem_append.mp hR with z | z
          · exact h2 R z
          · rw [List.mem_singleton.mp z]; exact h3
        · rintro ⟨h1, h2⟩
          exact ⟨⟨h1, fun R hR => h2 R (List.mem_append_left _ hR)⟩, h2 c (List.mem_append_right _ (List.mem_singleton.mpr rfl))⟩
    · refine Go_of (o' := .nx [some (.node (.lst false) (S.map cD)), some (.node (.dct true true (setK L)) (setV L)), some (.node (.lst true) (Rs.map fun R => pD true (pcC S R))), some (cD c)]) ?_ ⟨A ++ [c], Rs, L, _, rfl, hA', ⟨?_, fun x hx => ?_, pi.ap, pi.le⟩, lf⟩
      · generalize (Rs.map fun R => pD true (pcC S R)) = Z
        simp -implicitDefEqProofs [l_pieces_1, hcL]
      · exact List.sublist_append_of_sublist_left pi.sub
      · rcases List.mem_append.mp hx with z | z
        · exact pi.all x z
        · rw [List.mem_singleton.mp z]
          exact Classical.byContradiction fun k => hcL ((lf.2 c).mpr ⟨hcS, fun R hR q => k ⟨R, hR, q⟩⟩)
/-! dicts of whole numbers by cells -/
def ivV (v : Cl → Int) (F : List Cl) : List D := F.map fun c => D.int (v c)
abbrev ivD (o : Bool) (v : Cl → Int) (F : List Cl) : D := .node (.dct o true (setK F)) (ivV v F)
def kvI (v : Cl → Int) (F : List Cl) : List (Cl × D) := F.map fun c => (c, D.int (v c))
theorem kvI_k (v : Cl → Int) (F : List Cl) : (kvI v F).map (fun p => cK p.1) = setK F := by unfold kvI setK; rw [List.map_map]; rfl
theorem kvI_v (v : Cl → Int) (F : List Cl) : (kvI v F).map (·.2) = ivV v F := by unfold kvI ivV; rw [List.map_map]; rfl
theorem kvI_1 (v : Cl → Int) (F : List Cl) : (kvI v F).map (·.1) = F := by unfold kvI; rw [List.map_map]; exact List.map_id _
theorem frzs_ivV (v : Cl → Int) (F : List Cl) : frzs (ivV v F) = ivV v F := frzs_id fun x hx => by
  obtain ⟨c, _, rfl⟩ := List.mem_map.mp hx; rfl
theorem shrs_ivV (v : Cl → Int) (F : List Cl) : shrs (ivV v F) = false := by
  rw [shrs_any, List.any_eq_false]
  intro x hx
  obtain ⟨c, _, rfl⟩ := List.mem_map.mp hx
  simp
theorem kPut_iv {v : Cl → Int} {F : List Cl} {c : Cl} {n : Int} (hn : F.Nodup) (hl : F.length < sizeLine) (hc : c ∉ F) (e : v c = n) : kPut (cK c) (.dct true true (setK F)) (ivV v F) (.int n) = some (.dct true true (setK (F ++ [c])), ivV v (F ++ [c])) := by
  have h := kPut_dc c (.int n) (kvI v F) (by rw [kvI_1]; exact hn) (by unfold kvI; rw [List.length_map]; exact hl)
  rw [kvI_k, kvI_v, Ev.put_new (.int n) (by rw [kvI_1]; exact hc)] at h
  rw [h, List.map_append, List.map_append, kvI_k, kvI_v]
  unfold setK ivV
  rw [List.map_append, List.map_append, ← e]
  rfl
theorem inD_iv (o : Bool) (v : Cl → Int) (F : List Cl) (c : Cl) : inD (cD c) (ivD o v F) = some (.bl (decide (c ∈ F))) := by
  have h := inD_dc o (kvI v F) c
  rw [kvI_k, kvI_v, kvI_1] at h
  exact h
theorem lkp_kvI (v : Cl → Int) (F : List Cl) {c : Cl} (h : c ∈ F) : lkp (kvI v F) c = some (.int (v c)) := by
  induction F with
  | nil => cases h
  | cons a F ih =>
    show lkp ((a, D.int (v a)) :: kvI v F) c = _
    rw [lkp_cons]
    by_cases e : a = c
    · rw [if_pos e, e]
    · rw [if_neg e]
      exact ih ((List.mem_cons.mp h).resolve_left fun z => e z.symm)
theorem lkp_kvI0 (v : Cl → Int) (F : List Cl) {c : Cl} (h : c ∉ F) : lkp (kvI v F) c = none := by
  induction F with
  | nil => rfl
  | cons a F ih =>
    show lkp ((a, D.int (v a)) :: kvI v F) c = _
    rw [lkp_cons, if_neg fun (z : a = c) => h (by rw [z]; exact List.mem_cons_self)]
    exact ih fun z => h (List.mem_cons_of_mem _ z)
theorem ixD_iv (o : Bool) (v : Cl → Int) (F : List Cl) {c : Cl} (h : c ∈ F) : ixD (ivD o v F) (cD c) = some (.int (v c)) := by
  have q := ixD_dc o (lkp_kvI v F h)
  rw [kvI_k, kvI_v] at q
  exact q
theorem look_iv (o : Bool) (v : Cl → Int) (F : List Cl) (c : Cl) : lookD (ivD o v F) (cD c) = some (if c ∈ F then some (.int (v c)) else none) := by
  have h := lkp_dc c (kvI v F)
  rw [kvI_k, kvI_v] at h
  show (if Kd true (cK c) = true then some (lkp ((setK F).zip (ivV v F)) (cK c)) else none) = _
  rw [if_pos (show Kd true (cK c) = true from rfl), h]
  by_cases hc : c ∈ F
  · rw [if_pos hc, lkp_kvI v F hc]
  · rw [if_neg hc, lkp_kvI0 v F hc]
/-! the least by level, an item taken out, a dict of the instance changed -/
def lvK (f : Cl → Int) (c : Cl) : D := .node .tup [.int (f c), cD c]
theorem keysL_cs (f : Cl → Int) (o : Bool) (F : List Cl) : ∀ E : List Cl, (∀ c ∈ E, c ∈ F) → keysL false (ivD o f F) (E.map cD) = some (E.map (lvK f))
  | [], _ => rfl
  | c :: E, h => by
    have ih := keysL_cs f o F E fun d hd => h d (List.mem_cons_of_mem _ hd)
    have lk := look_iv o f F c
    rw [if_pos (h c List.mem_cons_self)] at lk
    rw [List.map_cons, List.map_cons]
    unfold keysL
    rw [lk]
    show ((keyOf false (f c) (cD c)).bind fun k => (keysL false (ivD o f F) (E.map cD)).map (k :: ·)) = _
    rw [ih]
    rfl
theorem lv_lt (f : Cl → Int) (a b : Cl) : (PySem.W.dataLt (lvK f a).py (lvK f b).py = true → f a ≤ f b) ∧ (PySem.W.dataLt (lvK f a).py (lvK f b).py = false → f b ≤ f a) := by
  have e : PySem.W.dataLt (lvK f a).py (lvK f b).py = if PyData.eqv (.int (f a)) (.int (f b)) = true then (if PyData.eqv (cD a).py (cD b).py = true then false else PySem.W.dataLt (cD a).py (cD b).py) else PySem.W.dataLt (.int (f a)) (.int (f b)) := PySem.W.dataLt_pair rfl rfl
  rw [e, PySem.W.dataLt_int]
  by_cases h : f a = f b
  · exact ⟨fun _ => by omega, fun _ => by omega⟩
  · have hq : ¬ PyData.eqv (.int (f a)) (.int (f b)) = true := fun z => h (by simpa [PyData.eqv] using z)
    rw [if_neg hq]
    refine ⟨fun z => ?_, fun z => ?_⟩
    · have := of_decide_eq_true z; omega
    · have := of_decide_eq_false z; omega
theorem sortOk_lv (f : Cl → Int) (E : List Cl) : sortOk (E.map (lvK f)) = true := by
  unfold sortOk
  rw [Bool.and_eq_true, Bool.and_eq_true, Bool.or_eq_true]
  refine ⟨?_, ?_, .inl ?_⟩
  · rw [List.all_map, List.all_eq_true]; intro c _; rfl
  · rw [List.all_map, List.all_eq_true]; intro c _
    show (E.map (lvK f)).all _ = true
    rw [List.all_map, List.all_eq_true]; intro d _; rfl
  · rw [List.all_map, List.all_eq_true]; intro c _; rfl
theorem best_lv (f : Cl → Int) (E : List Cl) : ∀ n, n < E.length → ∃ h, E[PySem.argBest (MinK.btK ((E.map (lvK f)).map D.py)) n]? = some h ∧ ∀ i c, i ≤ n → E[i]? = some c → f h ≤ f c := by
  intro n
  induction n with
  | zero =>
    intro h0
    refine ⟨E[0], List.getElem?_eq_getElem h0, fun i c hi hc => ?_⟩
    have : i = 0 := by omega
    subst this
    rw [List.getElem?_eq_getElem h0] at hc
    cases hc
    exact Int.le_refl _
  | succ n ih =>
    intro hn
    obtain ⟨h, e, hm⟩ := ih (by omega)
    unfold PySem.argBest
    generalize hj : PySem.argBest (MinK.btK ((E.map (lvK f)).map D.py)) n = j at e ⊢
    have en : E[n + 1]? = some E[n + 1] := List.getElem?_eq_getElem hn
    have bt : MinK.btK ((E.map (lvK f)).map D.py) (n + 1) j = PySem.W.dataLt (lvK f E[n + 1]).py (lvK f h).py := by
      unfold MinK.btK
      congr 1
      · rw [List.getD_eq_getElem?_getD, List.getElem?_map, List.getElem?_map, en]; rfl
      · rw [List.getD_eq_getElem?_getD, List.getElem?_map, List.getElem?_map, e]; rfl
    rw [bt]
    obtain ⟨l1, l2⟩ := lv_lt f E[n + 1] h
    cases hb : PySem.W.dataLt (lvK f E[n + 1]).py (lvK f h).py with
    | true =>
      rw [if_pos rfl]
      refine ⟨_, en, fun i c hi hc => ?_⟩
      by_cases hi' : i ≤ n
      · exact Int.le_trans (l1 hb) (hm i c hi' hc)
      · have : i = n + 1 := by omega
        subst this
        rw [en] at hc
        cases hc
        exact Int.le_refl _
    | false =>
      rw [if_neg Bool.false_ne_true]
      refine ⟨h, e, fun i c hi hc => ?_⟩
      by_cases hi' : i ≤ n
      · exact hm i c hi' hc
      · have : i = n + 1 := by omega
        subst this
        rw [en] at hc
        cases hc
        exact l2 hb
theorem itemOk_cs (E : List Cl) : itemOk (E.map cD) = true := by
  unfold itemOk
  rw [List.all_map, List.all_eq_true]
  intro c _
  rfl
theorem min_lv {t : D} (f : Cl → Int) (o o2 : Bool) {F E : List Cl} (ht : fldT "Pour" "levels" t = some (ivD o f F)) (hne : E ≠ []) (hE : ∀ c ∈ E, c ∈ F) : ∃ h ∈ E, (∀ c ∈ E, f h ≤ f c) ∧ minLD "Pour" "levels" false t (.node (.lst o2) (E.map cD)) = some (cD h) := by
  have h0 : 0 < E.length := List.length_pos_iff.mpr hne
  obtain ⟨h, e, hm⟩ := best_lv f E (E.length - 1) (by omega)
  refine ⟨h, List.mem_of_getElem? e, fun c hc => ?_, ?_⟩
  · obtain ⟨i, hi, ei⟩ := List.getElem_of_mem hc
    exact hm i c (by omega) (by rw [List.getElem?_eq_getElem hi, ei])
  · show ((fldT "Pour" "levels" t).bind fun t => (keysL false t (E.map cD)).bind fun ks => if E.map cD ≠ [] ∧ itemOk (E.map cD) = true ∧ sortOk ks = true then (E.map cD)[PySem.argBest (MinK.btK (ks.map D.py)) ((E.map cD).length - 1)]? else none) = _
    rw [ht, Option.bind_some, keysL_cs f o F E hE, Option.bind_some, if_pos ⟨by simpa using hne, itemOk_cs E, sortOk_lv f E⟩, List.length_map, List.getElem?_map, e]
    rfl
theorem eraseIdx_cs : ∀ (E : List Cl) (h : Cl) (j : Nat), (E.map cD).findIdx? (fun y => eqT y (cD h)) = some j → (E.map cD).eraseIdx j = (E.erase h).map cD
  | [], h, j, e => by cases e
  | c :: E, h, j, e => by
    rw [List.map_cons, List.findIdx?_cons, eqT_cD] at e
    by_cases hc : c = h
    · subst hc
      simp at e
      subst e
      simp
    · rw [if_neg (by simpa using hc)] at e
      cases ej : (E.map cD).findIdx? (fun y => eqT y (cD h)) with
      | none => rw [ej] at e; cases e
      | some k =>
        rw [ej] at e
        cases e
        have ih := eraseIdx_cs E h k ej
        rw [List.map_cons, List.eraseIdx_cons_succ, ih, List.erase_cons_tail (by simpa using hc)]
        rfl
theorem rem_cs {E : List Cl} {h : Cl} (hm : h ∈ E) : removeT (E.map cD) [cD h] = some (.non, (E.erase h).map cD) := by
  show (if deps 18 (E.map cD) = true ∧ (cD h).dep 18 = true then ((E.map cD).findIdx? fun y => eqT y (cD h)).map fun j => (D.non, (E.map cD).eraseIdx j) else none) = _
  rw [if_pos ⟨by rw [show (18 : Nat) = 17 + 1 from rfl, deps_cs], dep_cD _ h⟩]
  cases ej : (E.map cD).findIdx? (fun y => eqT y (cD h)) with
  | none =>
    rw [List.findIdx?_eq_none_iff] at ej
    have := ej (cD h) (List.mem_map_of_mem hm)
    rw [eqT_cD] at this
    simp at this
  | some j =>
    show some (D.non, (E.map cD).eraseIdx j) = _
    rw [eraseIdx_cs E h j ej]
def upF (f : Cl → Int) (c : Cl) (n : Int) : Cl → Int := fun d => if d = c then n else f d
theorem upF_at (f : Cl → Int) (c : Cl) (n : Int) : upF f c n c = n := if_pos rfl
theorem upF_ne {f : Cl → Int} {c d : Cl} {n : Int} (h : d ≠ c) : upF f c n d = f d := if_neg h
theorem ivV_congr {f f' : Cl → Int} {F : List Cl} (h : ∀ c ∈ F, f c = f' c) : ivV f F = ivV f' F := List.map_congr_left fun c hc => by rw [h c hc]
theorem ivV_up {f : Cl → Int} {F : List Cl} {c : Cl} (n : Int) (h : c ∉ F) : ivV (upF f c n) F = ivV f F := ivV_congr fun d hd => upF_ne fun z => h (z ▸ hd)
theorem pures_iv (f : Cl → Int) (F : List Cl) : pures (ivV f F) = true := by
  rw [pures_all, List.all_eq_true]
  intro x hx
  obtain ⟨c, _, rfl⟩ := List.mem_map.mp hx
  rfl
theorem pures_kV (K : Km) : pures (kV' K) = true := by
  rw [pures_all, List.all_eq_true]
  intro x hx
  obtain ⟨⟨c, o⟩, _, rfl⟩ := List.mem_map.mp hx
  cases o <;> rfl
/-- the instance while it is filled -/
def sf (d1 d2 : Addr) (f : Cl → Int) (F : List Cl) (K : Km) : D := selfIO "Pour" "levels" "came" d1 d2 (setK F) (ivV f F) (kK K) (kV' K)
/-- the instance as it is looked at -/
def sz (f : Cl → Int) (F : List Cl) (K : Km) : D := .node (.ins false "Pour" ["levels", "came"]) [ivD false f F, .node (.dct false true (kK K)) (kV' K)]
theorem frz_sf (d1 d2 : Addr) (f : Cl → Int) (F : List Cl) (K : Km) : (sf d1 d2 f F K).frz = sz f F K := by
  unfold sf
  show D.node _ (frzs _) = _
  simp only [frzs, D.frz, Tag.frz, frzs_ivV, frzs_kV]
  rfl
theorem frz_sz (f : Cl → Int) (F : List Cl) (K : Km) : (sz f F K).frz = sz f F K := by
  unfold sz
  show D.node _ (frzs _) = _
  simp only [frzs, D.frz, Tag.frz, frzs_ivV, frzs_kV]
theorem fld_sz (f : Cl → Int) (F : List Cl) (K : Km) : fldT "Pour" "levels" (sz f F K) = some (ivD false f F) := rfl
theorem kK_nodup {K : Km} (h : (keys K).Nodup) : (kK K).Nodup := by
  have e : kK K = (keys K).map cK := by unfold kK keys; rw [List.map_map]; rfl
  rw [e]
  exact List.pairwise_map.mpr (List.Pairwise.imp (fun {a b} h e => h (cK_inj e)) h)
theorem setK_nodup {F : List Cl} (h : F.Nodup) : (setK F).Nodup := List.pairwise_map.mpr (List.Pairwise.imp (fun {a b} h e => h (cK_inj e)) h)
theorem put_lv {mk mv : En → Res D} {ρ : En} {d1 d2 : Addr} {f : Cl → Int} {F : List Cl} {K : Km} {c : Cl} {n : Int} (h0 : ρ[0]? = some (some (sf d1 d2 f F K))) (hv : mv (frzE ρ) = .ok (.int n)) (hk : mk (frzE ρ) = .ok (cD c)) (nd : F.Nodup) (hl : F.length < sizeLine) (hc : c ∉ F) :
    mfput 0 "Pour" "levels" mk mv ρ = .nx (ρ.set 0 (some (sf d1 d2 (upF f c n) (F ++ [c]) K))) := by
  have kp := kPut_iv (v := upF f c n) nd hl hc (upF_at f c n)
  rw [ivV_up n hc] at kp
  have kp' : (if Kd true (cK c) = true ∧ (setK F).Nodup ∧ (setK F).length < sizeLine then some (Tag.dct true true (putT (setK F) (ivV f F) (cK c) (.int n)).1, (putT (setK F) (ivV f F) (cK c) (.int n)).2) else none) = some (.dct true true (setK (F ++ [c])), ivV (upF f c n) (F ++ [c])) := kp
  have hl' : (setK F).length < sizeLine := by unfold setK; rw [List.length_map]; exact hl
  rw [if_pos ⟨rfl, setK_nodup nd, hl'⟩] at kp'
  have e1 : (putT (setK F) (ivV f F) (cK c) (.int n)).1 = setK (F ++ [c]) := by injection kp' with z; injection z with z1 z2; injection z1
  have e2 : (putT (setK F) (ivV f F) (cK c) (.int n)).2 = ivV (upF f c n) (F ++ [c]) := by injection kp' with z; injection z
  have ix : fldIx "levels" ["levels", "came"] = some 0 := by decide
  unfold mfput
  rw [h0]
  show (if ("Pour" : Str) = "Pour" then (match fldIx "levels" ["levels", "came"] with | some n => _ | none => Out.no) else .no) = _
  rw [if_pos (show ("Pour" : Str) = "Pour" from rfl), ix]
  show (if pures (ivV f F) = true ∧ (setK F).Nodup ∧ (setK F).length < sizeLine then thenE (mv (frzE ρ)) ρ _ else Out.no) = _
  rw [if_pos ⟨pures_iv f F, setK_nodup nd, hl'⟩, hv]
  show (if (D.int n).pure = true then thenE (mk (frzE ρ)) ρ _ else Out.no) = _
  rw [if_pos (show (D.int n).pure = true from rfl), hk]
  show (if Kd true (cK c) = true then Out.nx (ρ.set 0 (some (.node (.ins false "Pour" ["levels", "came"]) ([D.node (.io d1 true (setK F)) (ivV f F), .node (.io d2 true (kK K)) (kV' K)].set 0 (.node (.io d1 true (putT (setK F) (ivV f F) (cK c) (.int n)).1) (putT (setK F) (ivV f F) (cK c) (.int n)).2))))) else .no) = _
  rw [if_pos (show Kd true (cK c) = true from rfl), e1, e2]
  rfl
theorem put_came {mk mv : En → Res D} {ρ : En} {d1 d2 : Addr} {f : Cl → Int} {F : List Cl} {K : Km} {c h : Cl} (h0 : ρ[0]? = some (some (sf d1 d2 f F K))) (hv : mv (frzE ρ) = .ok (cD h)) (hk : mk (frzE ρ) = .ok (cD c)) (nd : (keys K).Nodup) (hl : K.length < sizeLine) (hc : c ∉ keys K) :
    mfput 0 "Pour" "came" mk mv ρ = .nx (ρ.set 0 (some (sf d1 d2 f F (K ++ [(c, some h)])))) := by
  have kp := kPut_K (some h) nd hl hc
  have kp' : (if Kd true (cK c) = true ∧ (kK K).Nodup ∧ (kK K).length < sizeLine then some (Tag.dct true true (putT (kK K) (kV' K) (cK c) (cD h)).1, (putT (kK K) (kV' K) (cK c) (cD h)).2) else none) = some (.dct true true (kK (K ++ [(c, some h)])), kV' (K ++ [(c, some h)])) := kp
  have hl' : (kK K).length < sizeLine := by unfold kK; rw [List.length_map]; exact hl
  rw [if_pos ⟨rfl, kK_nodup nd, hl'⟩] at kp'
  have e1 : (putT (kK K) (kV' K) (cK c) (cD h)).1 = kK (K ++ [(c, some h)]) := by injection kp' with z; injection z with z1 z2; injection z1
  have e2 : (putT (kK K) (kV' K) (cK c) (cD h)).2 = kV' (K ++ [(c, some h)]) := by injection kp' with z; injection z
  have ix : fldIx "came" ["levels", "came"] = some 1 := by decide
  unfold mfput
  rw [h0]
  show (if ("Pour" : Str) = "Pour" then (match fldIx "came" ["levels", "came"] with | some n => _ | none => Out.no) else .no) = _
  rw [if_pos (show ("Pour" : Str) = "Pour" from rfl), ix]
  show (if pures (kV' K) = true ∧ (kK K).Nodup ∧ (kK K).length < sizeLine then thenE (mv (frzE ρ)) ρ _ else Out.no) = _
  rw [if_pos ⟨pures_kV K, kK_nodup nd, hl'⟩, hv]
  show (if (cD h).pure = true then thenE (mk (frzE ρ)) ρ _ else Out.no) = _
  rw [if_pos (show (cD h).pure = true from rfl), hk]
  show (if Kd true (cK c) = true then Out.nx (ρ.set 0 (some (.node (.ins false "Pour" ["levels", "came"]) ([D.node (.io d1 true (setK F)) (ivV f F), .node (.io d2 true (kK K)) (kV' K)].set 1 (.node (.io d2 true (putT (kK K) (kV' K) (cK c) (cD h)).1) (putT (kK K) (kV' K) (cK c) (cD h)).2))))) else .no) = _
  rw [if_pos (show Kd true (cK c) = true from rfl), e1, e2]
  rfl
abbrev setD (o : Bool) (cs : List Cl) : D := .node (.dct o true (setK cs)) (setV cs)
def stp (S : List Cl) (c d : Cl) : Prop := d ∈ nbC c ∧ d ∈ S
/-- what a pour has come to, E its edge -/
structure Pr (S : List Cl) (g : Cl) (f : Cl → Int) (K : Km) (E : List Cl) : Prop where
  fg : f g = g.2.2
  par : ∀ (n : Nat) (c p : Cl), K[n]? = some (c, some p) → f c = max (f p) c.2.2 ∧ ∀ e ∈ E, f p ≤ f e
  low : ∀ c ∈ keys K, c ∉ E → ∀ d, stp S c d → f d ≤ max (f c) d.2.2
/-- the same, while the cells beside h are looked at -/
structure Pi (S : List Cl) (g : Cl) (f : Cl → Int) (K : Km) (E : List Cl) (h : Cl) : Prop where
  fg : f g = g.2.2
  par : ∀ (n : Nat) (c p : Cl), K[n]? = some (c, some p) → f c = max (f p) c.2.2 ∧ f p ≤ f h
  edge : ∀ e ∈ E, f h ≤ f e
  low : ∀ c ∈ keys K, c ∉ E → c ≠ h → ∀ d, stp S c d → f d ≤ max (f c) d.2.2
  hk : h ∈ keys K
theorem par_mem {V : List Cl} {s : Cl → Cl → Prop} {K : Km} {E : List Cl} {op : Cl → Cl → Prop} (fl : Fl V s K E op) {n : Nat} {c p : Cl} (h : K[n]? = some (c, some p)) : c ∈ keys K ∧ p ∈ keys K := by
  refine ⟨List.mem_map.mpr ⟨_, List.mem_of_getElem? h, rfl⟩, ?_⟩
  obtain ⟨_, m, _, e⟩ := fl.par n c p h
  cases em : K[m]? with
  | none => rw [em] at e; cases e
  | some x =>
    rw [em] at e
    exact List.mem_map.mpr ⟨x, List.mem_of_getElem? em, by simpa using e⟩
theorem Pr.pop {S : List Cl} {g h : Cl} {f : Cl → Int} {K : Km} {E : List Cl} (p : Pr S g f K E) (hE : h ∈ E) (hk : h ∈ keys K) (hm : ∀ c ∈ E, f h ≤ f c) : Pi S g f K (E.erase h) h :=
  ⟨p.fg, fun n c q e => ⟨(p.par n c q e).1, (p.par n c q e).2 h hE⟩, fun e he => hm e (List.mem_of_mem_erase he), fun c hc hn hne d hd => p.low c hc (fun z => hn ((List.mem_erase_of_ne hne).mpr z)) d hd, hk⟩
theorem Pi.add {S : List Cl} {g h d : Cl} {f : Cl → Int} {K : Km} {E r : List Cl} (p : Pi S g f K E h) (fl : Fl [g] (stp S) K E (opAt h (d :: r))) (hd : d ∉ keys K) : Pi S g (upF f d (max (f h) d.2.2)) (K ++ [(d, some h)]) (E ++ [d]) h := by
  have ne : ∀ {c}, c ∈ keys K → c ≠ d := fun hc z => hd (z ▸ hc)
  have up : ∀ {c}, c ∈ keys K → upF f d (max (f h) d.2.2) c = f c := fun hc => upF_ne (ne hc)
  have gk : g ∈ keys K := fl.vk g List.mem_cons_self
  refine ⟨by rw [up gk]; exact p.fg, fun n c q e => ?_, fun e he => ?_, fun c hc hn hne x hx => ?_, by rw [keys_app]; exact List.mem_append_left _ p.hk⟩
  · by_cases hn : n < K.length
    · rw [List.getElem?_append_left hn] at e
      obtain ⟨m1, m2⟩ := par_mem fl e
      rw [up m1, up m2, up p.hk]
      exact p.par n c q e
    · rw [List.getElem?_append_right (by omega)] at e
      have hp0 : n - K.length = 0 := by
        have := (List.getElem?_eq_some_iff.mp e).1
        simp at this; omega
      rw [hp0] at e
      simp at e
      obtain ⟨rfl, rfl⟩ := e
      rw [upF_at, up p.hk]
      exact ⟨rfl, Int.le_refl _⟩
  · rw [up p.hk]
    rcases List.mem_append.mp he with z | z
    · rw [up (fl.es e z)]
      exact p.edge e z
    · rw [List.mem_singleton.mp z, upF_at]
      omega
  · rw [keys_app] at hc
    have hcd : c ≠ d := fun z => hn (List.mem_append_right _ (by rw [z]; exact List.mem_cons_self))
    have hc' : c ∈ keys K := (List.mem_append.mp hc).resolve_right fun z => hcd (List.mem_singleton.mp z)
    have hn' : c ∉ E := fun z => hn (List.mem_append_left _ z)
    have hxk := fl.cl c hc' hn' x hx fun z => hne z.1
    rw [up hc', up hxk]
    exact p.low c hc' hn' hne x hx
theorem Pi.fin {S : List Cl} {g h : Cl} {f : Cl → Int} {K : Km} {E : List Cl} (p : Pi S g f K E h) (fl : Fl [g] (stp S) K E noOp) : Pr S g f K E := by
  refine ⟨p.fg, fun n c q e => ⟨(p.par n c q e).1, fun e' he => Int.le_trans (p.par n c q e).2 (p.edge e' he)⟩, fun c hc hn d hd => ?_⟩
  by_cases hch : c = h
  · subst hch
    have hdk := fl.cl c hc hn d hd fun z => z
    obtain ⟨x, hx, e⟩ := List.mem_map.mp hdk
    obtain ⟨n, hn⟩ := List.getElem?_of_mem hx
    obtain ⟨d', o⟩ := x
    cases e
    cases o with
    | none =>
      have := fl.vs n d' hn
      have : d' = g := by simpa using this
      show f d' ≤ max (f c) d'.2.2
      rw [this, p.fg]
      omega
    | some q =>
      obtain ⟨a1, a2⟩ := p.par n d' q hn
      show f d' ≤ _
      rw [a1]
      show _ ≤ max (f c) d'.2.2
      omega
  · exact p.low c hc hn hch d hd
/-- what a pour leaves -/
structure PrR (S : List Cl) (g : Cl) (f : Cl → Int) (K : Km) : Prop where
  fl : Fl [g] (stp S) K [] noOp
  pr : Pr S g f K []
theorem in_foldS {hs : List Cl} {c : Cl} : c ∈ hs.foldl addS [] ↔ c ∈ hs := by rw [(addS_fold hs [] List.nodup_nil).2.1]; simp
/-! loops alike for all places of the two dicts -/
theorem forF_fam {α ι σ : Type} {j : Nat} {body : En → Out} (enc : α → D) (Sh : ι → σ → En) (R : List α → σ → Prop) (hstep : ∀ x xs s, R (x :: xs) s → ∃ s', (∀ i, body ((Sh i s).set j (some (enc x))) = .nx (Sh i s')) ∧ R xs s') : ∀ (xs : List α) (s : σ), R xs s → ∃ s', (∀ i, forF (.nm j) body (xs.map enc) (Sh i s) = .nx (Sh i s')) ∧ R [] s'
  | [], s, h => ⟨s, fun _ => rfl, h⟩
  | x :: xs, s, h => by
    obtain ⟨s1, e1, r1⟩ := hstep x xs s h
    obtain ⟨s2, e2, r2⟩ := forF_fam enc Sh R hstep xs s1 r1
    refine ⟨s2, fun i => ?_, r2⟩
    rw [List.map_cons, forF]
    show (match body ((Sh i s).set j (some (enc x))) with
      | .nx ρ' => forF (.nm j) body (xs.map enc) ρ'
      | .ct ρ' => forF (.nm j) body (xs.map enc) ρ'
      | .bk ρ' => .nx ρ'
      | o => o) = _
    rw [e1 i]
    exact e2 i
theorem whF_fam {ι σ : Type} {c : En → Res Bool} {body : En → Out} (Sh : ι → σ → En) (R : Nat → σ → Prop) (P : σ → Prop) (hstep : ∀ k s, R k s → ∃ b, (∀ i, c (frzE (Sh i s)) = .ok b) ∧ if b = true then ∃ s', (∀ i, body (Sh i s) = .nx (Sh i s')) ∧ ∃ k', k' < k ∧ R k' s' else P s) : ∀ (n k : Nat) (s : σ), k < n → R k s → ∃ s', (∀ i, whF c body n (Sh i s) = .nx (Sh i s')) ∧ P s'
  | 0, _, _, h, _ => by omega
  | n + 1, k, s, h, r => by
    obtain ⟨b, e, q⟩ := hstep k s r
    cases b with
    | false => exact ⟨s, fun i => by rw [whF, e i]; rfl, q⟩
    | true =>
      rw [if_pos rfl] at q
      obtain ⟨s1, e1, k1, l1, r1⟩ := q
      obtain ⟨s2, e2, p2⟩ := whF_fam Sh R P hstep n k1 s1 (by omega) r1
      refine ⟨s2, fun i => ?_, p2⟩
      rw [whF, e i]
      show (if true = true then (match body (Sh i s) with
        | .nx ρ' => whF c body n ρ'
        | .ct ρ' => whF c body n ρ'
        | .bk ρ' => .nx ρ'
        | o => o) else .nx (Sh i s)) = _
      rw [if_pos rfl, e1 i]
      exact e2 i
structure PSt where
  f : Cl → Int
  K : Km
  E : List Cl
  o6 : Option D
  o7 : Option D
def pSh (hs : List Cl) (g : Cl) (T : List Cl) (o4 : Option D) (i : Addr × Addr) (s : PSt) : En := [some (sf i.1 i.2 s.f (keys s.K) s.K), some (.node (.lst false) (hs.map cD)), some (cD g), some (setD true T), o4, some (.node (.lst true) (s.E.map cD)), s.o6, s.o7]
theorem minLm_ap (c f : Str) (two : Bool) (j : Nat) (ml : En → Res D) (ρ : En) : minLm c f two j ml ρ = (ml ρ).bind fun l => (mvar j ρ).bind fun o => Res.of (minLD c f two o.frz l.frz) := rfl
theorem run_spread (hs : List Cl) (g : Cl) (hg : g ∈ hs) (hl : hs.length ≤ 1001) : ∃ (f : Cl → Int) (K : Km), PrR hs g f K ∧ ∀ d1 d2, ∃ ρ, b_Pour_spread (ent 8 [sf d1 d2 (fun _ => g.2.2) [g] [(g, none)], .node (.lst false) (hs.map cD), cD g]) = .nx ρ ∧ ρ[0]? = some (some (sf d1 d2 f (keys K) K)) := by
  have sz0 : (100000 : Nat) < sizeLine := by rw [sizeLine_eq]; decide
  obtain ⟨Tnd, Tm, Tl⟩ := addS_fold hs [] List.nodup_nil
  have Tm' : ∀ c, c ∈ hs.foldl addS [] ↔ c ∈ hs := fun c => in_foldS
  have hset : ∃ o4 : Option D, ∀ d1 d2, forF (.nm 4) l_Pour_spread_1 (hs.map cD) [some (sf d1 d2 (fun _ => g.2.2) [g] [(g, none)]), some (.node (.lst false) (hs.map cD)), some (cD g), some (.node (.dct true true []) []), none, none, none, none] = .nx [some (sf d1 d2 (fun _ => g.2.2) [g] [(g, none)]), some (.node (.lst false) (hs.map cD)), some (cD g), some (setD true (hs.foldl addS [])), o4, none, none, none] := by
    obtain ⟨s', e, r⟩ := forF_fam (j := 4) (body := l_Pour_spread_1) cD (fun (i : Addr × Addr) (s : List Cl × Option D) => [some (sf i.1 i.2 (fun _ => g.2.2) [g] [(g, none)]), some (.node (.lst false) (hs.map cD)), some (cD g), some (setD true s.1), s.2, none, none, none])
      (fun r s => s.1.Nodup ∧ s.1.length + r.length ≤ 2000 ∧ r.foldl addS s.1 = hs.foldl addS []) (fun x xs s ⟨h1, h2, h3⟩ => by
        rw [List.length_cons] at h2
        have := addS_len s.1 x
        have kp := kPut_set x h1 (by omega)
        exact ⟨(addS s.1 x, some (cD x)), fun i => by simp -implicitDefEqProofs [l_Pour_spread_1, frz_sf, kp], addS_nodup x h1, by show (addS s.1 x).length + _ ≤ _; omega, h3⟩) hs ([], none) ⟨List.nodup_nil, by simp; omega, rfl⟩
    refine ⟨s'.2, fun d1 d2 => ?_⟩
    have := e (d1, d2)
    have e3 : s'.1 = hs.foldl addS [] := r.2.2
    rw [e3] at this
    exact this
  obtain ⟨o4, hset⟩ := hset
  generalize hs.foldl addS [] = T at hset Tm' Tnd Tl
  clear Tm
  have hst : ∀ c d, stp hs c d → d ∈ hs := fun _ _ h => h.2
  have hV : ∀ v ∈ [g], v ∈ hs := fun v hv => by rw [List.mem_singleton.mp hv]; exact hg
  have s0 : Fl [g] (stp hs) [(g, none)] [g] noOp ∧ Pr hs g (fun _ => g.2.2) [(g, none)] [g] ∧ [g].length + (2000 - [((g, none) : Cl × Option Cl)].length) = 2000 ∧ 2000 ≤ 4000 := ⟨Fl.init (by simp), ⟨rfl, fun n c p e => by
      cases n with
      | zero => simp at e
      | succ n => simp at e, fun c hc hn => absurd hc hn⟩, by simp, by omega⟩
  have hw : ∃ s', (∀ i, whF (tst (Ev.bin neD (mvar 5) (mlst []))) l_Pour_spread_3 big (pSh hs g T o4 i ⟨fun _ => g.2.2, [(g, none)], [g], none, none⟩) = .nx (pSh hs g T o4 i s')) ∧ Fl [g] (stp hs) s'.K s'.E noOp ∧ Pr hs g s'.f s'.K s'.E ∧ s'.E = [] := by
    refine whF_fam (pSh hs g T o4) (fun k s => Fl [g] (stp hs) s.K s.E noOp ∧ Pr hs g s.f s.K s.E ∧ s.E.length + (2000 - s.K.length) = k ∧ k ≤ 4000) (fun s => Fl [g] (stp hs) s.K s.E noOp ∧ Pr hs g s.f s.K s.E ∧ s.E = []) ?_ big 2000 ⟨fun _ => g.2.2, [(g, none)], [g], none, none⟩ (by decide) s0
    intro k s hR
    obtain ⟨fl, pr, hk, hk4⟩ := hR
    obtain ⟨f, K, E, o6, o7⟩ := s
    refine ⟨!decide (E = []), fun i => by simp -implicitDefEqProofs [pSh, frz_sf], ?_⟩
    have hKl := Nat.le_trans (fl.len hst hV) hl
    by_cases hE : E = []
    · rw [if_neg (by simpa using hE)]
      exact ⟨fl, pr, hE⟩
    · rw [if_pos (by simpa using hE)]
      obtain ⟨h, hhE, hmin, em⟩ := min_lv (t := sz f (keys K) K) f false false (fld_sz f (keys K) K) hE fl.es
      have hhk : h ∈ keys K := fl.es h hhE
      have rm := rem_cs hhE
      have hEl : (E.erase h).length = E.length - 1 := List.length_erase_of_mem hhE
      have hEp : 0 < E.length := List.length_pos_of_mem hhE
      have hf : ∃ s', (∀ i, forF (.nm 7) l_Pour_spread_2 ((nbC h).map cD) (pSh hs g T o4 i ⟨f, K, E.erase h, some (cD h), o7⟩) = .nx (pSh hs g T o4 i s')) ∧ Fl [g] (stp hs) s'.K s'.E (opAt h []) ∧ Pi hs g s'.f s'.K s'.E h ∧ s'.E.length + (2000 - s'.K.length) + 1 = k ∧ s'.o6 = some (cD h) ∧ ∀ d ∈ ([] : List Cl), d ∈ nbC h := by
        refine forF_fam (j := 7) (body := l_Pour_spread_2) cD (pSh hs g T o4)
          (fun r s => Fl [g] (stp hs) s.K s.E (opAt h r) ∧ Pi hs g s.f s.K s.E h ∧ s.E.length + (2000 - s.K.length) + 1 = k ∧ s.o6 = some (cD h) ∧ ∀ d ∈ r, d ∈ nbC h) ?_ (nbC h) ⟨f, K, E.erase h, some (cD h), o7⟩
          ⟨fl.pop (fun c hc => List.mem_of_mem_erase hc) (fun c hc => by
            by_cases z : c = h
            · exact .inl z
            · exact .inr ((List.mem_erase_of_ne z).mpr hc)) (fun d hd => hd.1), pr.pop hhE hhk hmin, by show (E.erase h).length + (2000 - K.length) + 1 = k; have hk' : E.length + (2000 - K.length) = k := hk; omega, rfl, fun _ h => h⟩
        intro d r s hR
        obtain ⟨fl, pi, hm, h6, hnb⟩ := hR
        obtain ⟨f, K, E, o6, o7⟩ := s
        cases h6
        have hKl' : K.length ≤ 1001 := Nat.le_trans (fl.len hst hV) hl
        have kl : (keys K).length = K.length := by unfold keys; rw [List.length_map]
        have hnb' : ∀ x ∈ r, x ∈ nbC h := fun x hx => hnb x (List.mem_cons_of_mem _ hx)
        have fld := fld_sz f (keys K) K
        have ind := inD_iv false f (keys K) d
        have nin : ninD (cD d) (ivD false f (keys K)) = some (.bl (!decide (d ∈ keys K))) := by unfold ninD; rw [ind]
        by_cases h1 : d ∈ hs
        · by_cases h2 : d ∈ keys K
          · refine ⟨⟨f, K, E, some (cD h), some (cD d)⟩, fun i => ?_, fl.skip fun _ => h2, pi, hm, rfl, hnb'⟩
            simp -implicitDefEqProofs [l_Pour_spread_2, pSh, frz_sf, frz_sz, fld, frzs_ivV, Tm', h1, nin, h2]
          · have fl2 := fl.add pi.hk h2 ⟨hnb d List.mem_cons_self, h1⟩
            have hK2 := Nat.le_trans (fl2.len hst hV) hl
            rw [List.length_append] at hK2
            simp only [List.length_cons, List.length_nil] at hK2
            have hEl2 : E.length ≤ 5000 := by have hm' : E.length + (2000 - K.length) + 1 = k := hm; omega
            have ka := kApp_cs E d (by omega)
            have ixh := ixD_iv false f (keys K) pi.hk
            refine ⟨⟨upF f d (max (f h) d.2.2), K ++ [(d, some h)], E ++ [d], some (cD h), some (cD d)⟩, fun i => ?_, fl2, pi.add fl h2, ?_, rfl, hnb'⟩
            · have pl : mfput 0 "Pour" "levels" (mvar 7) (mcall maxD [(Ev.bin ixD (Ev.un (fldT "Pour" "levels") (mvar 0)) (mvar 6)), (Ev.bin ixD (mvar 7) (mk (.int 2)))]) [some (sf i.1 i.2 f (keys K) K), some (.node (.lst false) (hs.map cD)), some (cD g), some (setD true T), o4, some (.node (.lst true) (E.map cD)), some (cD h), some (cD d)] = .nx [some (sf i.1 i.2 (upF f d (max (f h) d.2.2)) (keys K ++ [d]) K), some (.node (.lst false) (hs.map cD)), some (cD g), some (setD true T), o4, some (.node (.lst true) (E.map cD)), some (cD h), some (cD d)] :=
                put_lv (ρ := [some (sf i.1 i.2 f (keys K) K), some (.node (.lst false) (hs.map cD)), some (cD g), some (setD true T), o4, some (.node (.lst true) (E.map cD)), some (cD h), some (cD d)]) rfl (by simp -implicitDefEqProofs [frz_sf, frz_sz, fld, frzs_ivV, ixh, ix_z]) (by simp -implicitDefEqProofs) fl.nd (by omega) h2
              have pc : mfput 0 "Pour" "came" (mvar 7) (mvar 6) [some (sf i.1 i.2 (upF f d (max (f h) d.2.2)) (keys K ++ [d]) K), some (.node (.lst false) (hs.map cD)), some (cD g), some (setD true T), o4, some (.node (.lst true) (E.map cD)), some (cD h), some (cD d)] = .nx [some (sf i.1 i.2 (upF f d (max (f h) d.2.2)) (keys K ++ [d]) (K ++ [(d, some h)])), some (.node (.lst false) (hs.map cD)), some (cD g), some (setD true T), o4, some (.node (.lst true) (E.map cD)), some (cD h), some (cD d)] :=
                put_came (ρ := [some (sf i.1 i.2 (upF f d (max (f h) d.2.2)) (keys K ++ [d]) K), some (.node (.lst false) (hs.map cD)), some (cD g), some (setD true T), o4, some (.node (.lst true) (E.map cD)), some (cD h), some (cD d)]) rfl (by simp -implicitDefEqProofs) (by simp -implicitDefEqProofs) fl.nd (by omega) h2
              have e3 : pSh hs g T o4 i ⟨upF f d (max (f h) d.2.2), K ++ [(d, some h)], E ++ [d], some (cD h), some (cD d)⟩ = [some (sf i.1 i.2 (upF f d (max (f h) d.2.2)) (keys K ++ [d]) (K ++ [(d, some h)])), some (.node (.lst false) (hs.map cD)), some (cD g), some (setD true T), o4, some (.node (.lst true) ((E ++ [d]).map cD)), some (cD h), some (cD d)] := by
                unfold pSh
                rw [keys_app]
              rw [e3]
              generalize (E ++ [d]).map cD = L2 at ka ⊢
              simp -implicitDefEqProofs [l_Pour_spread_2, pSh, frz_sf, frz_sz, fld, frzs_ivV, Tm', h1, nin, h2, pl, pc, ka]
            · show (E ++ [d]).length + (2000 - (K ++ [(d, some h)]).length) + 1 = k
              have hm' : E.length + (2000 - K.length) + 1 = k := hm
              rw [List.length_append, List.length_append]
              simp only [List.length_cons, List.length_nil]
              omega
        · refine ⟨⟨f, K, E, some (cD h), some (cD d)⟩, fun i => ?_, fl.skip fun z => absurd z.2 h1, pi, hm, rfl, hnb'⟩
          simp -implicitDefEqProofs [l_Pour_spread_2, pSh, frz_sf, frz_sz, Tm', h1]
      obtain ⟨s', e, fl', pi', hm, _, _⟩ := hf
      refine ⟨s', fun i => ?_, k - 1, by omega, fl'.fin, pi'.fin fl'.fin, by omega, by omega⟩
      rw [← e i]
      have pE := pures_cs E
      have pE2 := pures_cs (E.erase h)
      have fE : frzs (E.map cD) = E.map cD := frzs_cs E
      have es : pSh hs g T o4 i ⟨f, K, E.erase h, some (cD h), o7⟩ = [some (sf i.1 i.2 f (keys K) K), some (.node (.lst false) (hs.map cD)), some (cD g), some (setD true T), o4, some (.node (.lst true) ((E.erase h).map cD)), some (cD h), o7] := rfl
      rw [es]
      show l_Pour_spread_3 [some (sf i.1 i.2 f (keys K) K), some (.node (.lst false) (hs.map cD)), some (cD g), some (setD true T), o4, some (.node (.lst true) (E.map cD)), o6, o7] = _
      generalize (E.erase h).map cD = L2 at rm pE2 ⊢
      generalize E.map cD = L at rm pE em fE ⊢
      simp -implicitDefEqProofs [l_Pour_spread_3, minLm_ap, frz_sf, frz_sz, em, fE, pE, pE2, rm, w_nb]
  obtain ⟨s', e, fl, pr, hE⟩ := hw
  refine ⟨s'.f, s'.K, ⟨by rw [hE] at fl; exact fl, by rw [hE] at pr; exact pr⟩, fun d1 d2 => ⟨pSh hs g T o4 (d1, d2) s', ?_, rfl⟩⟩
  have e' := e (d1, d2)
  have h1 := hset d1 d2
  have e2 : b_Pour_spread (ent 8 [sf d1 d2 (fun _ => g.2.2) [g] [(g, none)], .node (.lst false) (hs.map cD), cD g]) = mwhile (tst (Ev.bin neD (mvar 5) (mlst []))) l_Pour_spread_3 (pSh hs g T o4 (d1, d2) ⟨fun _ => g.2.2, [(g, none)], [g], none, none⟩) := by
    simp -implicitDefEqProofs [b_Pour_spread, ent, frz_sf, h1, pSh]
  rw [e2]
  exact e'
/-- a step within what is no higher than h -/
def stz (S : List Cl) (h : Int) (c d : Cl) : Prop := d ∈ nbC c ∧ d ∈ S ∧ d.2.2 ≤ h
theorem rch_mono {V : Cl → Prop} {s s' : Cl → Cl → Prop} (m : ∀ c d, s c d → s' c d) {c : Cl} (r : Rch V s c) : Rch V s' c := by
  induction r with
  | base h => exact .base h
  | step _ h ih => exact .step ih (m _ _ h)
theorem stz_mono {S : List Cl} {h h' : Int} (l : h ≤ h') : ∀ c d, stz S h c d → stz S h' c d := fun _ _ ⟨a, b, c⟩ => ⟨a, b, Int.le_trans c l⟩
theorem PrR.q1 {S : List Cl} {g : Cl} {f : Cl → Int} {K : Km} (p : PrR S g f K) : ∀ (n : Nat) (c : Cl) (o : Option Cl), K[n]? = some (c, o) → Rch (· ∈ [g]) (stz S (f c)) c ∧ g.2.2 ≤ f c ∧ c.2.2 ≤ f c := by
  intro n
  induction n using Nat.strongRecOn with
  | ind n ih =>
    intro c o e
    cases o with
    | none =>
      have hc := p.fl.vs n c e
      have hg : c = g := by simpa using hc
      rw [hg, p.pr.fg]
      exact ⟨.base List.mem_cons_self, Int.le_refl _, Int.le_refl _⟩
    | some q =>
      obtain ⟨st, m, hm, em⟩ := p.fl.par n c q e
      cases ek : K[m]? with
      | none => rw [ek] at em; cases em
      | some x =>
        rw [ek] at em
        obtain ⟨q', o'⟩ := x
        cases em
        obtain ⟨r, l1, l2⟩ := ih m hm q' o' ek
        have ef : f c = max (f q') c.2.2 := (p.pr.par n c q' e).1
        exact ⟨.step (rch_mono (stz_mono (by omega)) r) ⟨st.1, st.2, by omega⟩, by omega, by omega⟩
theorem PrR.at_ {S : List Cl} {g : Cl} {f : Cl → Int} {K : Km} (p : PrR S g f K) {c : Cl} (h : c ∈ keys K) : Rch (· ∈ [g]) (stz S (f c)) c ∧ g.2.2 ≤ f c ∧ c.2.2 ≤ f c := by
  obtain ⟨x, hx, e⟩ := List.mem_map.mp h
  obtain ⟨n, hn⟩ := List.getElem?_of_mem hx
  obtain ⟨c', o⟩ := x
  cases e
  exact p.q1 n c' o hn
theorem PrR.q2 {S : List Cl} {g : Cl} {f : Cl → Int} {K : Km} (p : PrR S g f K) {h : Int} (hg : g.2.2 ≤ h) {c : Cl} (r : Rch (· ∈ [g]) (stz S h) c) : c ∈ keys K ∧ f c ≤ h := by
  induction r with
  | base hc => exact ⟨p.fl.vk _ hc, by have hc' := List.mem_singleton.mp hc; rw [hc', p.pr.fg]; exact hg⟩
  | step _ st ih =>
    have st' : stp S _ _ := ⟨st.1, st.2.1⟩
    refine ⟨p.fl.cl _ ih.1 (by simp) _ st' fun z => z, ?_⟩
    have := p.pr.low _ ih.1 (by simp) _ st'
    have := st.2.2
    have := ih.2
    omega
/-- what is made -/
def pT (f : Cl → Int) (K : Km) : D := .node (.ins true "Pour" ["levels", "came"]) [ivD true f (keys K), .node (.dct true true (kK K)) (kV' K)]
theorem w_Pour {hs : List Cl} {g : Cl} (hg : g ∈ hs) (hl : hs.length ≤ 1001) : ∃ (f : Cl → Int) (K : Km), PrR hs g f K ∧ f_Pour (.node (.lst false) (hs.map cD)) (cD g) = some (pT f K) := by
  obtain ⟨f, K, pr, h⟩ := run_spread hs g hg hl
  refine ⟨f, K, pr, ?_⟩
  have sp := spG_of (N := N_Pour_spread.length) (cn := "Pour") (n1 := "levels") (n2 := "came") (m := b_Pour_spread) (xs := [.node (.lst false) (hs.map cD), cD g]) (a := ⟨setK [g], ivV (fun _ => g.2.2) [g], kK [(g, none)], kV' [(g, none)]⟩) (b := ⟨setK (keys K), ivV f (keys K), kK K, kV' K⟩) (pures_iv f _) (pures_kV K) h
  show (match keyD (cD g), ixD (cD g) (.int 2) with
    | some (.inr q), some (.int z) => (spG N_Pour_spread.length "Pour" "levels" "came" b_Pour_spread [.node (.lst false) (hs.map cD), cD g] ⟨[.inr q], [.int z], [.inr q], [.non]⟩).map fun (b : TwoD) => D.node (.ins true "Pour" ["levels", "came"]) [.node (.dct true true b.k1) b.y1, .node (.dct true true b.k2) b.y2]
    | _, _ => none) = _
  rw [ix_z]
  exact congrArg (Option.map fun b : TwoD => D.node (.ins true "Pour" ["levels", "came"]) [.node (.dct true true b.k1) b.y1, .node (.dct true true b.k2) b.y2]) sp
theorem frz_pT (f : Cl → Int) (K : Km) : (pT f K).frz = sz f (keys K) K := by
  unfold pT
  show D.node _ (frzs _) = _
  simp only [frzs, D.frz, Tag.frz, frzs_ivV, frzs_kV]
  rfl
theorem fld_pT (f : Cl → Int) (K : Km) : fldT "Pour" "levels" (pT f K) = some (ivD true f (keys K)) := rfl
theorem mmake_ap (G : D → D → Option D) (ms : List (En → Res D)) (ρ : En) : mmake G ms ρ = (seqs ms ρ).bind fun xs => match frzs xs with
  | [h, g] => Res.of (G h g)
  | _ => .no := rfl
theorem mget1_ap (mo mk : En → Res D) (ρ : En) : mget1 mo mk ρ = (mo ρ).bind fun x => if isDct x.frz = true then (mk ρ).bind fun k => Res.of ((lookD x.frz k.frz).map fun r => r.getD .non) else .no := rfl
def oI (f : Cl → Int) (K : Km) (c : Cl) : D := if c ∈ keys K then .int (f c) else .non
theorem w_level {hs : List Cl} {g : Cl} (hg : g ∈ hs) (hl : hs.length ≤ 1001) : ∃ (f : Cl → Int) (K : Km), PrR hs g f K ∧ f_Pour (.node (.lst false) (hs.map cD)) (cD g) = some (pT f K) ∧ ∀ c, f_level [.node (.lst false) (hs.map cD), cD g, cD c] = .ok (oI f K c) := by
  obtain ⟨f, K, pr, e⟩ := w_Pour hg hl
  refine ⟨f, K, pr, e, fun c => ?_⟩
  have lk := look_iv false f (keys K) c
  have fl := fld_sz f (keys K) K
  have di : isDct (.node (.dct false true (setK (keys K))) (ivV f (keys K))) = true := rfl
  unfold oI
  unfold f_level
  rw [body_eq]
  by_cases h : c ∈ keys K
  · rw [if_pos h] at lk ⊢
    simp -implicitDefEqProofs [b_level, ent, mget1_ap, mmake_ap, e, frz_pT, fld_pT, fl, lk, frzs_ivV, di]
  · rw [if_neg h] at lk ⊢
    simp -implicitDefEqProofs [b_level, ent, mget1_ap, mmake_ap, e, frz_pT, fld_pT, fl, lk, frzs_ivV, di]
/-! the cells as they are filled -/
def l3K (f : Cl → Int) (c : Cl) : D := .node .tup [.int (f c), .int c.2.2, cD c]
def ltF (f : Cl → Int) (a b : Cl) : Bool := decide (f a < f b ∨ f a = f b ∧ (a.2.2 < b.2.2 ∨ a.2.2 = b.2.2 ∧ clt a b = true))
theorem ltF_iff (f : Cl → Int) (a b : Cl) : ltF f a b = true ↔ (f a < f b ∨ f a = f b ∧ (a.2.2 < b.2.2 ∨ a.2.2 = b.2.2 ∧ clt a b = true)) := by unfold ltF; rw [decide_eq_true_iff]
def leF (f : Cl → Int) (a b : Cl) : Bool := !ltF f b a
theorem l3_lt (f : Cl → Int) (a b : Cl) : PySem.W.dataLt (l3K f a).py (l3K f b).py = ltF f a b := by
  have e : PySem.W.dataLt (l3K f a).py (l3K f b).py = PyProof.Rows.lexLt itemOrd (PySem.W.keyToksAll [.int (f a), .int a.2.2, (cD a).py]) (PySem.W.keyToksAll [.int (f b), .int b.2.2, (cD b).py]) := PySem.W.dataLt_tuple _ _
  rw [e, PySem.W.dataLt_cons rfl, PySem.W.dataLt_cons rfl, PySem.W.dataLt_cons rfl, PySem.W.dataLt_int, PySem.W.dataLt_int, dataLt_cD, eqv_py, eqT_cD]
  have e0 : PyProof.Rows.lexLt itemOrd (PySem.W.keyToksAll []) (PySem.W.keyToksAll []) = false := lex_irrefl _
  rw [e0]
  unfold ltF
  simp only [PyData.eqv, beq_iff_eq]
  by_cases h1 : f a = f b
  · by_cases h2 : a.2.2 = b.2.2
    · by_cases h3 : a = b
      · subst h3
        simp [clt_irrefl]
      · simp [h1, h2, h3]
    · simp [h1, h2]
  · simp [h1]
theorem leF_trans (f : Cl → Int) (a b c : Cl) (h1 : leF f a b = true) (h2 : leF f b c = true) : leF f a c = true := by
  unfold leF at *
  rw [Bool.not_eq_true'] at *
  rw [Bool.eq_false_iff, Ne, ltF_iff, clt_iff] at *
  omega
theorem leF_total (f : Cl → Int) (a b : Cl) : (leF f a b || leF f b a) = true := by
  rw [Bool.or_eq_true]
  unfold leF
  rw [Bool.not_eq_true', Bool.not_eq_true', Bool.eq_false_iff, Bool.eq_false_iff, Ne, Ne, ltF_iff, ltF_iff, clt_iff, clt_iff]
  omega
def fillC (f : Cl → Int) (F : List Cl) : List Cl := F.mergeSort (leF f)
theorem fill_perm (f : Cl → Int) (F : List Cl) : (fillC f F).Perm F := List.mergeSort_perm ..
theorem mem_fill {f : Cl → Int} {F : List Cl} {c : Cl} : c ∈ fillC f F ↔ c ∈ F := (fill_perm f F).mem_iff
theorem fill_len (f : Cl → Int) (F : List Cl) : (fillC f F).length = F.length := (fill_perm f F).length_eq
theorem fill_lt {f : Cl → Int} {F : List Cl} (h : F.Nodup) : (fillC f F).Pairwise fun a b => ltF f a b = true := by
  have h1 : (fillC f F).Pairwise fun a b => leF f a b = true := List.pairwise_mergeSort (fun a b c => leF_trans f a b c) (fun a b => leF_total f a b) F
  have h2 : (fillC f F).Nodup := (fill_perm f F).nodup_iff.mpr h
  refine List.Pairwise.imp (fun {a b} ⟨x, y⟩ => ?_) (List.Pairwise.and h1 h2)
  unfold leF at x
  rw [Bool.not_eq_true', Bool.eq_false_iff, Ne, ltF_iff, clt_iff] at x
  rw [ltF_iff, clt_iff]
  have : ¬ (a.1 = b.1 ∧ a.2.1 = b.2.1 ∧ a.2.2 = b.2.2) := fun ⟨p, q, r⟩ => y (cl_eq p q r)
  omega
theorem keysL_cs3 (f : Cl → Int) (o : Bool) (F : List Cl) : ∀ E : List Cl, (∀ c ∈ E, c ∈ F) → keysL true (ivD o f F) (E.map cD) = some (E.map (l3K f))
  | [], _ => rfl
  | c :: E, h => by
    have ih := keysL_cs3 f o F E fun d hd => h d (List.mem_cons_of_mem _ hd)
    have lk := look_iv o f F c
    rw [if_pos (h c List.mem_cons_self)] at lk
    rw [List.map_cons, List.map_cons]
    unfold keysL
    rw [lk]
    show ((keyOf true (f c) (cD c)).bind fun k => (keysL true (ivD o f F) (E.map cD)).map (k :: ·)) = _
    rw [ih]
    rfl
theorem sortOk_l3 (f : Cl → Int) (E : List Cl) : sortOk (E.map (l3K f)) = true := by
  unfold sortOk
  rw [Bool.and_eq_true, Bool.and_eq_true, Bool.or_eq_true]
  refine ⟨?_, ?_, .inl ?_⟩
  · rw [List.all_map, List.all_eq_true]; intro c _; rfl
  · rw [List.all_map, List.all_eq_true]; intro c _
    show (E.map (l3K f)).all _ = true
    rw [List.all_map, List.all_eq_true]; intro d _; rfl
  · rw [List.all_map, List.all_eq_true]; intro c _; rfl
theorem sortK_f {t : D} (f : Cl → Int) (o o2 : Bool) {F : List Cl} (ht : fldT "Pour" "levels" t = some (ivD o f F)) (hl : F.length ≤ sizeLine) : sortKD "Pour" "levels" true t (ivD o2 f F) = some (.node (.lst true) ((fillC f F).map cD)) := by
  show ((fldT "Pour" "levels" t).bind fun t => (keysL true t ((setK F).map kyD)).bind fun zs => if itemOk ((setK F).map kyD) = true ∧ sortOk zs = true ∧ (setK F).length ≤ sizeLine then some (D.node (.lst true) (((((setK F).map kyD).zip zs).mergeSort (PySem.W.dataLe false fun p => p.2.py)).map (·.1))) else none) = _
  rw [ht, keys_set, Option.bind_some, keysL_cs3 f o F F (fun _ h => h), Option.bind_some, if_pos ⟨itemOk_cs F, sortOk_l3 f F, by unfold setK; rw [List.length_map]; exact hl⟩]
  rw [zip_fg cD (l3K f) F]
  have e := PySem.W.sort_maps (r := leF f) (s := PySem.W.dataLe false fun p : D × D => p.2.py) (fun c => (cD c, l3K f c)) (l := F) (fun a _ b _ => by
    rw [PySem.W.dataLe_eq]
    show leF f a b = !PySem.W.dataLt (l3K f b).py (l3K f a).py
    rw [l3_lt]
    rfl)
  rw [← e, List.map_map]
  rfl
theorem sortKm_ap (c f : Str) (two : Bool) (j : Nat) (ml : En → Res D) (ρ : En) : sortKm c f two j ml ρ = (ml ρ).bind fun l => (mvar j ρ).bind fun o => Res.of (sortKD c f two o.frz l.frz) := rfl
theorem shr_pTE (f : Cl → Int) (K : Km) : (pT f K).shr = false := by
  have k1 := shrs_ivV f (keys K)
  have k2 := shrs_kV K
  unfold pT
  simp [D.shr, shrs, Tag.own, k1, k2]
theorem w_filled {hs : List Cl} {g : Cl} (hg : g ∈ hs) (hl : hs.length ≤ 1001) {f : Cl → Int} {K : Km} (pr : PrR hs g f K) (e : f_Pour (.node (.lst false) (hs.map cD)) (cD g) = some (pT f K)) : f_filled [.node (.lst false) (hs.map cD), cD g] = .ok (.node (.lst true) ((fillC f (keys K)).map cD)) := by
  have sz0 : (100000 : Nat) < sizeLine := by rw [sizeLine_eq]; decide
  have kl : (keys K).length ≤ 1001 := Nat.le_trans (nodup_len pr.fl.nd fun c hc => by
    have r := (pr.at_ hc).1
    cases r with
    | base h => rw [List.mem_singleton.mp h]; exact hg
    | step _ h => exact h.2.1) hl
  have fl := fld_sz f (keys K) K
  have sk := sortK_f f false false fl (by omega)
  have sp := shr_pTE f K
  have sF : shrs ((fillC f (keys K)).map cD) = false := shrs_cs _
  unfold f_filled
  rw [body_eq]
  simp -implicitDefEqProofs [b_filled, ent, mmake_ap, e, frz_pT, frz_sz, sp, sortKm_ap, fl, frzs_ivV, sk, sF]
/-! what is told of each cell -/
def tV (v : Cl → D) (F : List Cl) : List D := F.map v
abbrev tD (o : Bool) (v : Cl → D) (F : List Cl) : D := .node (.dct o true (setK F)) (tV v F)
def kvT (v : Cl → D) (F : List Cl) : List (Cl × D) := F.map fun c => (c, v c)
theorem kvT_k (v : Cl → D) (F : List Cl) : (kvT v F).map (fun p => cK p.1) = setK F := by unfold kvT setK; rw [List.map_map]; rfl
theorem kvT_v (v : Cl → D) (F : List Cl) : (kvT v F).map (·.2) = tV v F := by unfold kvT tV; rw [List.map_map]; rfl
theorem kvT_1 (v : Cl → D) (F : List Cl) : (kvT v F).map (·.1) = F := by unfold kvT; rw [List.map_map]; exact List.map_id _
theorem kPut_t {v : Cl → D} {F : List Cl} {c : Cl} (hn : F.Nodup) (hl : F.length < sizeLine) (hc : c ∉ F) : kPut (cK c) (.dct true true (setK F)) (tV v F) (v c) = some (.dct true true (setK (F ++ [c])), tV v (F ++ [c])) := by
  have h := kPut_dc c (v c) (kvT v F) (by rw [kvT_1]; exact hn) (by unfold kvT; rw [List.length_map]; exact hl)
  rw [kvT_k, kvT_v, Ev.put_new (v c) (by rw [kvT_1]; exact hc)] at h
  rw [h, List.map_append, List.map_append, kvT_k, kvT_v]
  unfold setK tV
  rw [List.map_append, List.map_append]
  rfl
theorem inD_t (o : Bool) (v : Cl → D) (F : List Cl) (c : Cl) : inD (cD c) (tD o v F) = some (.bl (decide (c ∈ F))) := by
  have h := inD_dc o (kvT v F) c
  rw [kvT_k, kvT_v, kvT_1] at h
  exact h
theorem lkp_kvT (v : Cl → D) (F : List Cl) {c : Cl} (h : c ∈ F) : lkp (kvT v F) c = some (v c) := by
  induction F with
  | nil => cases h
  | cons a F ih =>
    show lkp ((a, v a) :: kvT v F) c = _
    rw [lkp_cons]
    by_cases e : a = c
    · rw [if_pos e, e]
    · rw [if_neg e]
      exact ih ((List.mem_cons.mp h).resolve_left fun z => e z.symm)
theorem ixD_t (o : Bool) (v : Cl → D) (F : List Cl) {c : Cl} (h : c ∈ F) : ixD (tD o v F) (cD c) = some (v c) := by
  have q := ixD_dc o (lkp_kvT v F h)
  rw [kvT_k, kvT_v] at q
  exact q
theorem oI_frz (f : Cl → Int) (K : Km) (c : Cl) : (oI f K c).frz = oI f K c := by unfold oI; split <;> rfl
theorem oI_shr (f : Cl → Int) (K : Km) (c : Cl) : (oI f K c).shr = false := by unfold oI; split <;> rfl
theorem frzs_tV (f : Cl → Int) (K : Km) (F : List Cl) : frzs (tV (oI f K) F) = tV (oI f K) F := frzs_id fun x hx => by
  obtain ⟨c, _, rfl⟩ := List.mem_map.mp hx
  exact oI_frz f K c
theorem shrs_tV (f : Cl → Int) (K : Km) (F : List Cl) : shrs (tV (oI f K) F) = false := by
  rw [shrs_any, List.any_eq_false]
  intro x hx
  obtain ⟨c, _, rfl⟩ := List.mem_map.mp hx
  rw [oI_shr]
  simp
theorem w_hollowB (ns : List Int) (hns : ns.length ≤ 200) : ∃ cs : List Cl, cs ≠ [] ∧ cs.length ≤ 1000 ∧ Bd cs ∧ f__law_hollow [.node (.lst false) (numsD ns)] = .ok (.node (.lst true) (cs.map cD)) := by
  have wa1 := (show f__law_cell_at [.node (.lst false) (numsD ns), .int 1] = .ok (.int (ns.getD 1 0)) from w_at false ns 1)
  generalize ns.getD 1 0 = c1 at wa1
  obtain ⟨cs, h1, h2, h3, e⟩ := w_bars ns (c1 :: Ev.cutD ns (some 2) (some 20))
  have hcut : (Ev.cutD ns (some 2) (some 20)).length ≤ 20 := by
    unfold Ev.cutD
    rw [List.length_take]
    have e1 : HT.sIx ns.length ns.length (some 20) ≤ 20 := by unfold HT.sIx; simp; try omega
    have e2 : HT.sIx ns.length 0 (some 2) = min 2 ns.length := by unfold HT.sIx; simp
    rw [e2]
    omega
  refine ⟨cs, h3.2 (by simp), by rw [List.length_cons] at h2; omega, h1, ?_⟩
  have ad : addD (.node (.lst false) [.int c1]) (.node (.lst false) (numsD (Ev.cutD ns (some 2) (some 20)))) = some (.node (.lst true) (numsD (c1 :: Ev.cutD ns (some 2) (some 20)))) := by
    rw [addD_lst _ _ (by
      have sz : (1000 : Nat) < sizeLine := by rw [sizeLine_eq]; decide
      rw [length_numsD]; simp; omega)]
    rfl
  have e' := e (by rw [List.length_cons]; omega)
  unfold f__law_hollow
  rw [body_eq]
  simp -implicitDefEqProofs [b__law_hollow, ent, wa1, cut_nums, ad, e']
theorem out_nx {m1 m2 : En → Out} {ρ ρ' : En} {r : Res D} (h : m1 ρ = .nx ρ') (h2 : outV (m2 ρ') = r) : outV (mseq m1 m2 ρ) = r := by
  unfold mseq; rw [h]; exact h2
theorem seq_nx {m1 m2 : En → Out} {ρ ρ' : En} (h : m1 ρ = .nx ρ') : mseq m1 m2 ρ = m2 ρ' := by unfold mseq; rw [h]
theorem forF_cons1 {i : Nat} {body : En → Out} {d : D} {ds : List D} {ρ ρ1 ρ' : En} (hset : ρ.set i (some d) = ρ1) (h : body ρ1 = .nx ρ') : forF (.nm i) body (d :: ds) ρ = forF (.nm i) body ds ρ' := by
  rw [forF]
  show (match body (ρ.set i (some d)) with
    | .nx ρ' => forF (.nm i) body ds ρ'
    | .ct ρ' => forF (.nm i) body ds ρ'
    | .bk ρ' => .nx ρ'
    | o => o) = _
  rw [hset, h]
theorem mod_ix (hs : List Cl) (hne : hs ≠ []) (y : Int) : ∃ c ∈ hs, ∀ o, ∃ z, modD (.int y) (.int (hs.length : Int)) = some (.int z) ∧ ixD (.node (.lst o) (hs.map cD)) (.int z) = some (cD c) := by
  have h0 : 0 < hs.length := List.length_pos_iff.mpr hne
  obtain ⟨j, ej, hj⟩ : ∃ j : Nat, y % (hs.length : Int) = j ∧ j < hs.length := ⟨(y % (hs.length : Int)).toNat, by
      have := Int.emod_nonneg y (b := (hs.length : Int)) (by omega)
      omega, by
      have := Int.emod_lt_of_pos y (b := (hs.length : Int)) (by omega)
      have := Int.emod_nonneg y (b := (hs.length : Int)) (by omega)
      omega⟩
  refine ⟨hs[j], List.getElem_mem hj, fun o => ⟨y % (hs.length : Int), modD_int (by omega), ?_⟩⟩
  rw [ej, ix_lst o (hs.map cD) j (by rw [List.length_map]; exact hj)]
  simp
theorem ix_h0 (o : Bool) {P : List Cl} {c : Cl} (h : P.head? = some c) : ixD (.node (.lst o) (P.map cD)) (.int 0) = some (cD c) := by
  cases P with
  | nil => cases h
  | cons x P => cases h; exact ix_lst o _ 0 (by simp)
theorem ix_hl (o : Bool) {P : List Cl} {c : Cl} (hn : P ≠ []) (h : P.getLast? = some c) : ixD (.node (.lst o) (P.map cD)) (.int (-1)) = some (cD c) := by
  rw [ix_last o P hn, h]; rfl
def qc : Nat → Cl → Cl
  | 0, (x, y, z) => (x, 0 - z, y)
  | 1, (x, y, z) => (z, y, 0 - x)
  | _, (x, y, z) => (0 - y, x, z)
def mc : Nat → Cl → Cl
  | 0, (x, y, z) => (0 - x, y, z)
  | 1, (x, y, z) => (x, 0 - y, z)
  | _, (x, y, z) => (x, y, 0 - z)
def ax : Nat → Str
  | 0 => "x"
  | 1 => "y"
  | _ => "z"
theorem q1 (c : Cl) : ∀ a < 3, f_quarter_cell [cD c, .str (ax a)] = .ok (cD (qc a c))
  | 0, _ => by kernel_rfl
  | 1, _ => by kernel_rfl
  | 2, _ => by kernel_rfl
theorem q2 (c : Cl) : ∀ a < 3, f_mirrored_cell [cD c, .str (ax a)] = .ok (cD (mc a c))
  | 0, _ => by kernel_rfl
  | 1, _ => by kernel_rfl
  | 2, _ => by kernel_rfl
/-- what is brought: mirrored along x, along y, a quarter about z -/
def ta : Nat → Cl → Cl
  | 0, c => mc 0 c
  | 1, c => mc 1 c
  | _, c => qc 2 c
structure Iso (τ : Cl → Cl) : Prop where
  inj : ∀ a b, τ a = τ b → a = b
  z : ∀ c, (τ c).2.2 = c.2.2
  nb : ∀ c d, τ d ∈ nbC (τ c) ↔ d ∈ nbC c
theorem iso_ta : ∀ k < 3, Iso (ta k)
  | 0, _ => ⟨fun ⟨x, y, z⟩ ⟨u, v, w⟩ h => by simp only [ta, mc, Prod.mk.injEq] at h ⊢; omega, fun ⟨x, y, z⟩ => rfl, fun ⟨x, y, z⟩ ⟨u, v, w⟩ => by rw [mem_nb, mem_nb]; simp only [ta, mc, Prod.mk.injEq]; omega⟩
  | 1, _ => ⟨fun ⟨x, y, z⟩ ⟨u, v, w⟩ h => by simp only [ta, mc, Prod.mk.injEq] at h ⊢; omega, fun ⟨x, y, z⟩ => rfl, fun ⟨x, y, z⟩ ⟨u, v, w⟩ => by rw [mem_nb, mem_nb]; simp only [ta, mc, Prod.mk.injEq]; omega⟩
  | 2, _ => ⟨fun ⟨x, y, z⟩ ⟨u, v, w⟩ h => by simp only [ta, qc, Prod.mk.injEq] at h ⊢; omega, fun ⟨x, y, z⟩ => rfl, fun ⟨x, y, z⟩ ⟨u, v, w⟩ => by rw [mem_nb, mem_nb]; simp only [ta, qc, Prod.mk.injEq]; omega⟩
theorem w_brought (c : Cl) : ∀ k < 3, f__law_brought [cD c, .str (ax k)] = .ok (cD (ta k c)) := by
  intro k hk
  have e1 := q1 c
  have e2 := q2 c
  unfold f__law_brought
  rw [body_eq]
  match k, hk with
  | 0, _ =>
    have e := e2 0 (by decide)
    have ee : eqD (.str (ax 0)) (.str "z") = some (.bl false) := by kernel_rfl
    simp -implicitDefEqProofs [b__law_brought, ent, ee, e, ta]
  | 1, _ =>
    have e := e2 1 (by decide)
    have ee : eqD (.str (ax 1)) (.str "z") = some (.bl false) := by kernel_rfl
    simp -implicitDefEqProofs [b__law_brought, ent, ee, e, ta]
  | 2, _ =>
    have e : f_quarter_cell [cD c, .str "z"] = _ := e1 2 (by decide)
    have ee : eqD (.str (ax 2)) (.str "z") = some (.bl true) := by kernel_rfl
    simp -implicitDefEqProofs [b__law_brought, ent, ee, e, ta]
theorem w_quarterZ (cs : List Cl) : f_quarter [.node (.lst false) (cs.map cD), .str "z"] = .ok (.node (.lst true) ((sortC (cs.map (qc 2))).map cD)) := by
  have lc : lcGo (.nm 2) yes (mfn f_quarter_cell [(mvar 2), (mvar 1)]) [some (.node (.lst false) (cs.map cD)), some (.str "z"), none] (cs.map cD) = .ok ((cs.map (qc 2)).map cD) := by
    have := lcGo_all (t := .nm 2) (me := mfn f_quarter_cell [(mvar 2), (mvar 1)]) (ρ := [some (.node (.lst false) (cs.map cD)), some (.str "z"), none]) cD (fun c => [cD c]) (fun c => cD (qc 2 c)) (fun _ => rfl) cs fun c _ => by
      have e : f_quarter_cell [cD c, .str "z"] = _ := q1 c 2 (by decide)
      simp -implicitDefEqProofs [e]
    rw [this, List.map_map]; rfl
  unfold f_quarter
  rw [body_eq]
  simp -implicitDefEqProofs [b_quarter, ent, mlc_ap, lc, -List.map_map]
theorem w_mirroredA (cs : List Cl) (a : Nat) (ha : a < 3) : f_mirrored [.node (.lst false) (cs.map cD), .str (ax a)] = .ok (.node (.lst true) ((sortC (cs.map (mc a))).map cD)) := by
  have lc : lcGo (.nm 2) yes (mfn f_mirrored_cell [(mvar 2), (mvar 1)]) [some (.node (.lst false) (cs.map cD)), some (.str (ax a)), none] (cs.map cD) = .ok ((cs.map (mc a)).map cD) := by
    have := lcGo_all (t := .nm 2) (me := mfn f_mirrored_cell [(mvar 2), (mvar 1)]) (ρ := [some (.node (.lst false) (cs.map cD)), some (.str (ax a)), none]) cD (fun c => [cD c]) (fun c => cD (mc a c)) (fun _ => rfl) cs fun c _ => by
      have e := q2 c a ha
      simp -implicitDefEqProofs [e]
    rw [this, List.map_map]; rfl
  unfold f_mirrored
  rw [body_eq]
  simp -implicitDefEqProofs [b_mirrored, ent, mlc_ap, lc, -List.map_map]
theorem w_bodyB (cs : List Cl) : ∀ k < 3, f__law_body_brought [.node (.lst false) (cs.map cD), .str (ax k)] = .ok (.node (.lst true) ((sortC (cs.map (ta k))).map cD)) := by
  intro k hk
  unfold f__law_body_brought
  rw [body_eq]
  match k, hk with
  | 0, _ =>
    have e := w_mirroredA cs 0 (by decide)
    have ee : eqD (.str (ax 0)) (.str "z") = some (.bl false) := by kernel_rfl
    have et : cs.map (ta 0) = cs.map (mc 0) := rfl
    have ss : shrs ((sortC (cs.map (mc 0))).map cD) = false := shrs_cs _
    rw [et]
    generalize (sortC (cs.map (mc 0))).map cD = L at e ss
    simp -implicitDefEqProofs [b__law_body_brought, ent, ee, e, ss]
  | 1, _ =>
    have e := w_mirroredA cs 1 (by decide)
    have ee : eqD (.str (ax 1)) (.str "z") = some (.bl false) := by kernel_rfl
    have et : cs.map (ta 1) = cs.map (mc 1) := rfl
    have ss : shrs ((sortC (cs.map (mc 1))).map cD) = false := shrs_cs _
    rw [et]
    generalize (sortC (cs.map (mc 1))).map cD = L at e ss
    simp -implicitDefEqProofs [b__law_body_brought, ent, ee, e, ss]
  | 2, _ =>
    have e := w_quarterZ cs
    have ee : eqD (.str (ax 2)) (.str "z") = some (.bl true) := by kernel_rfl
    have et : cs.map (ta 2) = cs.map (qc 2) := rfl
    have ss : shrs ((sortC (cs.map (qc 2))).map cD) = false := shrs_cs _
    rw [et]
    generalize (sortC (cs.map (qc 2))).map cD = L at e ss
    simp -implicitDefEqProofs [b__law_body_brought, ent, ee, e, ss]
theorem mem_bro {τ : Cl → Cl} {hs : List Cl} {e : Cl} : e ∈ sortC (hs.map τ) ↔ ∃ c ∈ hs, τ c = e := by rw [mem_sortC, List.mem_map]
theorem bro_bd {τ : Cl → Cl} (i : Iso τ) {hs : List Cl} (h : hs.Nodup) : Bd (sortC (hs.map τ)) := bd_sort (List.pairwise_map.mpr (List.Pairwise.imp (fun {a b} h e => h (i.inj _ _ e)) h))
/-- two pours that come alike -/
theorem PrR.same {S1 S2 : List Cl} {g1 g2 : Cl} {f1 f2 : Cl → Int} {K1 K2 : Km} (p1 : PrR S1 g1 f1 K1) (p2 : PrR S2 g2 f2 K2) (hz : g1.2.2 = g2.2.2) {c1 c2 : Cl} (h12 : ∀ h, Rch (· ∈ [g1]) (stz S1 h) c1 → Rch (· ∈ [g2]) (stz S2 h) c2) (h21 : ∀ h, Rch (· ∈ [g2]) (stz S2 h) c2 → Rch (· ∈ [g1]) (stz S1 h) c1) : (c1 ∈ keys K1 ↔ c2 ∈ keys K2) ∧ (c1 ∈ keys K1 → f1 c1 = f2 c2) := by
  have a : c1 ∈ keys K1 → c2 ∈ keys K2 ∧ f2 c2 ≤ f1 c1 := fun h => by
    obtain ⟨r, l, _⟩ := p1.at_ h
    exact p2.q2 (by omega) (h12 _ r)
  have b : c2 ∈ keys K2 → c1 ∈ keys K1 ∧ f1 c1 ≤ f2 c2 := fun h => by
    obtain ⟨r, l, _⟩ := p2.at_ h
    exact p1.q2 (by omega) (h21 _ r)
  refine ⟨⟨fun h => (a h).1, fun h => (b h).1⟩, fun h => ?_⟩
  have := (a h).2
  have := (b (a h).1).2
  omega
theorem rch_fw {τ : Cl → Cl} (i : Iso τ) {hs : List Cl} {g : Cl} {h : Int} {c : Cl} (r : Rch (· ∈ [g]) (stz hs h) c) : Rch (· ∈ [τ g]) (stz (sortC (hs.map τ)) h) (τ c) := by
  induction r with
  | base hb => rw [List.mem_singleton.mp hb]; exact .base List.mem_cons_self
  | step _ st ih => exact .step ih ⟨(i.nb _ _).mpr st.1, mem_bro.mpr ⟨_, st.2.1, rfl⟩, by rw [i.z]; exact st.2.2⟩
theorem rch_bw {τ : Cl → Cl} (i : Iso τ) {hs : List Cl} {g : Cl} {h : Int} {e : Cl} (r : Rch (· ∈ [τ g]) (stz (sortC (hs.map τ)) h) e) : ∃ c, τ c = e ∧ Rch (· ∈ [g]) (stz hs h) c := by
  induction r with
  | base hb => exact ⟨g, (List.mem_singleton.mp hb).symm, .base List.mem_cons_self⟩
  | step _ st ih =>
    obtain ⟨c, rfl, r⟩ := ih
    obtain ⟨d, hd, rfl⟩ := mem_bro.mp st.2.1
    exact ⟨d, rfl, .step r ⟨(i.nb _ _).mp st.1, hd, by rw [← i.z d]; exact st.2.2⟩⟩
theorem bro_same {τ : Cl → Cl} (i : Iso τ) {hs : List Cl} {g : Cl} {f f2 : Cl → Int} {K K2 : Km} (p : PrR hs g f K) (p2 : PrR (sortC (hs.map τ)) (τ g) f2 K2) (c : Cl) : (c ∈ keys K ↔ τ c ∈ keys K2) ∧ (c ∈ keys K → f c = f2 (τ c)) :=
  p.same p2 (i.z g).symm (fun _ r => rch_fw i r) fun _ r => by
    obtain ⟨c', e, r'⟩ := rch_bw i r
    rw [← i.inj _ _ e]
    exact r'
theorem bro_oI {τ : Cl → Cl} (i : Iso τ) {hs : List Cl} {g : Cl} {f f2 : Cl → Int} {K K2 : Km} (p : PrR hs g f K) (p2 : PrR (sortC (hs.map τ)) (τ g) f2 K2) (c : Cl) : oI f2 K2 (τ c) = oI f K c := by
  obtain ⟨a, b⟩ := bro_same i p p2 c
  unfold oI
  by_cases h : c ∈ keys K
  · rw [if_pos h, if_pos (a.mp h), b h]
  · rw [if_neg h, if_neg fun z => h (a.mpr z)]
theorem bro_len {τ : Cl → Cl} (i : Iso τ) {hs : List Cl} {g : Cl} {f f2 : Cl → Int} {K K2 : Km} (p : PrR hs g f K) (p2 : PrR (sortC (hs.map τ)) (τ g) f2 K2) : (keys K2).length = (keys K).length := by
  have nd : ((keys K).map τ).Nodup := List.pairwise_map.mpr (List.Pairwise.imp (fun {a b} h e => h (i.inj _ _ e)) p.fl.nd)
  rw [← List.length_map (as := keys K) τ]
  refine List.Perm.length_eq ((List.perm_ext_iff_of_nodup p2.fl.nd nd).mpr fun e => ?_)
  refine ⟨fun h => ?_, fun h => ?_⟩
  · obtain ⟨c, rfl, _⟩ := rch_bw i (p2.at_ h).1
    exact List.mem_map_of_mem ((bro_same i p p2 c).1.mpr h)
  · obtain ⟨c, hc, rfl⟩ := List.mem_map.mp h
    exact (bro_same i p p2 c).1.mp hc
theorem out_fw {τ : Cl → Cl} (i : Iso τ) {hs vs : List Cl} {c : Cl} (r : Out_ hs vs c) : Out_ (sortC (hs.map τ)) (vs.map τ) (τ c) := by
  induction r with
  | base hb => exact .base (List.mem_map_of_mem hb)
  | step _ st ih => exact .step ih ⟨(i.nb _ _).mpr st.1, mem_bro.mpr ⟨_, st.2.1, rfl⟩, by rw [i.z, i.z]; exact st.2.2⟩
theorem out_bw {τ : Cl → Cl} (i : Iso τ) {hs vs : List Cl} {e : Cl} (r : Out_ (sortC (hs.map τ)) (vs.map τ) e) : ∃ c, τ c = e ∧ Out_ hs vs c := by
  induction r with
  | base hb =>
    obtain ⟨v, hv, e⟩ := List.mem_map.mp hb
    exact ⟨v, e, .base hv⟩
  | step _ st ih =>
    obtain ⟨c, rfl, r⟩ := ih
    obtain ⟨d, hd, rfl⟩ := mem_bro.mp st.2.1
    exact ⟨d, rfl, .step r ⟨(i.nb _ _).mp st.1, hd, by rw [← i.z d, ← i.z c]; exact st.2.2⟩⟩
theorem shut_same {τ : Cl → Cl} (i : Iso τ) {hs vs K K2 : List Cl} (h : hs.Nodup) (hK : ∀ c, c ∈ K ↔ Out_ hs vs c) (hK2 : ∀ c, c ∈ K2 ↔ Out_ (sortC (hs.map τ)) (vs.map τ) c) : ((sortC (hs.map τ)).filter fun c => !decide (c ∈ K2)) = sortC ((hs.filter fun c => !decide (c ∈ K)).map τ) := by
  refine Bd.eq (List.Pairwise.filter _ (bro_bd i h)) (bro_bd i (h.sublist List.filter_sublist)) fun e => ?_
  rw [mem_bro, List.mem_filter, mem_bro]
  constructor
  · rintro ⟨⟨c, hc, rfl⟩, hn⟩
    refine ⟨c, List.mem_filter.mpr ⟨hc, ?_⟩, rfl⟩
    have hn' : τ c ∉ K2 := by simpa using hn
    have : c ∉ K := fun z => hn' ((hK2 _).mpr (out_fw i ((hK c).mp z)))
    simpa using this
  · rintro ⟨c, hc, rfl⟩
    obtain ⟨h1, h2⟩ := List.mem_filter.mp hc
    have h2' : c ∉ K := by simpa using h2
    refine ⟨⟨c, h1, rfl⟩, ?_⟩
    have : τ c ∉ K2 := fun z => by
      obtain ⟨c', e, r⟩ := out_bw i ((hK2 _).mp z)
      rw [i.inj _ _ e] at r
      exact h2' ((hK c).mpr r)
    simpa using this
/-- the gate's piece by itself -/
theorem piece_same {hs P : List Cl} {g : Cl} {f f3 : Cl → Int} {K K3 : Km} (p : PrR hs g f K) (p3 : PrR P g f3 K3) (hP : ∀ x, x ∈ P ↔ Con hs g x) (hg : g ∈ hs) (c : Cl) : (c ∈ keys K ↔ c ∈ keys K3) ∧ (c ∈ keys K → f c = f3 c) := by
  have key : ∀ h (c : Cl), Rch (· ∈ [g]) (stz hs h) c → Rch (· ∈ [g]) (stz P h) c ∧ Con hs g c := fun h c r => by
    induction r with
    | base hb => exact ⟨.base hb, .base hb⟩
    | step _ st ih =>
      have hc : Con hs g _ := .step ih.2 ⟨st.1, st.2.1⟩
      exact ⟨.step ih.1 ⟨st.1, (hP _).mpr hc, st.2.2⟩, hc⟩
  refine p.same p3 rfl (fun h r => (key h c r).1) fun h r => rch_mono (fun a b ⟨x, y, z⟩ => ⟨x, con_in hg ((hP b).mp y), z⟩) r
theorem fill_same {f f3 : Cl → Int} {F F3 : List Cl} (n : F.Nodup) (n3 : F3.Nodup) (m : ∀ c, c ∈ F ↔ c ∈ F3) (e : ∀ c ∈ F, f c = f3 c) : fillC f3 F3 = fillC f F := by
  have h1 := fill_lt (f := f) n
  have h3 : (fillC f3 F3).Pairwise fun a b => ltF f a b = true := List.Pairwise.imp_of_mem (fun {a b} ha hb h => by
    have ea := e a ((m a).mpr (mem_fill.mp ha))
    have eb := e b ((m b).mpr (mem_fill.mp hb))
    rw [ltF_iff] at h ⊢
    rw [ea, eb]
    exact h) (fill_lt (f := f3) n3)
  refine List.Perm.eq_of_pairwise (le := fun a b => ltF f a b = true) (fun a b _ _ x y => ?_) h3 h1 ?_
  · rw [ltF_iff, clt_iff] at x y
    omega
  · exact (fill_perm f3 F3).trans (((List.perm_ext_iff_of_nodup n3 n).mpr fun c => (m c).symm).trans (fill_perm f F).symm)
theorem piece_len {hs P : List Cl} {g : Cl} {f : Cl → Int} {K : Km} (p : PrR hs g f K) (nP : P.Nodup) (hP : ∀ x, x ∈ P ↔ Con hs g x) : (keys K).length = P.length :=
  List.Perm.length_eq ((List.perm_ext_iff_of_nodup p.fl.nd nP).mpr fun c => by rw [p.fl.done, hP]; exact Iff.rfl)
/-- a cell that is drawn -/
def pk (hs : List Cl) (ns : List Int) (m : Int) (k : Nat) : Cl := hs.getD (mixC (ns.getD k 0) m % (hs.length : Int)).toNat (0, 0, 0)
theorem pk_in {hs : List Cl} (hne : hs ≠ []) (ns : List Int) (m : Int) (k : Nat) : pk hs ns m k ∈ hs := by
  have h0 : 0 < hs.length := List.length_pos_iff.mpr hne
  have h1 := Int.emod_nonneg (mixC (ns.getD k 0) m) (b := (hs.length : Int)) (by omega)
  have h2 := Int.emod_lt_of_pos (mixC (ns.getD k 0) m) (b := (hs.length : Int)) (by omega)
  unfold pk
  rw [List.getD_eq_getElem?_getD, List.getElem?_eq_getElem (by omega)]
  exact List.getElem_mem _
theorem pk_ix {hs : List Cl} (hne : hs ≠ []) (ns : List Int) (m : Int) (k : Nat) (o : Bool) : ixD (.node (.lst o) (hs.map cD)) (.int (mixC (ns.getD k 0) m % (hs.length : Int))) = some (cD (pk hs ns m k)) := by
  have h0 : 0 < hs.length := List.length_pos_iff.mpr hne
  have h1 := Int.emod_nonneg (mixC (ns.getD k 0) m) (b := (hs.length : Int)) (by omega)
  have h2 := Int.emod_lt_of_pos (mixC (ns.getD k 0) m) (b := (hs.length : Int)) (by omega)
  obtain ⟨j, ej, hj⟩ : ∃ j : Nat, mixC (ns.getD k 0) m % (hs.length : Int) = j ∧ j < hs.length := ⟨_, (Int.toNat_of_nonneg h1).symm, by omega⟩
  unfold pk
  rw [ej, ix_lst o (hs.map cD) j (by rw [List.length_map]; exact hj), Int.toNat_natCast, List.getD_eq_getElem?_getD, List.getElem?_eq_getElem hj]
  simp
theorem lc_pk {hs : List Cl} (hne : hs ≠ []) (ns : List Int) (m : Int) (h0 : 0 < m) (h1 : m < 4294967296) (n : Nat) (a2 a3 a4 a5 a6 a7 : Option D) :
    lcGo (.nm 12) yes (Ev.bin ixD (mvar 1) (Ev.bin modD (mfn f__law_mix [(mfn f__law_cell_at [(mvar 0), (mvar 12)]), (mk (.int m))]) (mcall lenD [(mvar 1)]))) [some (.node (.lst false) (numsD ns)), some (.node (.lst false) (hs.map cD)), a2, a3, a4, a5, a6, a7, none, none, none, none, none, none, none] ((List.range n).map fun (i : Nat) => D.int (i : Int)) = .ok (((List.range n).map (pk hs ns m)).map cD) := by
  have hl : 0 < hs.length := List.length_pos_iff.mpr hne
  have hlen : (hs.map cD).length = hs.length := List.length_map ..
  have := lcGo_all (α := Nat) (t := .nm 12) (me := Ev.bin ixD (mvar 1) (Ev.bin modD (mfn f__law_mix [(mfn f__law_cell_at [(mvar 0), (mvar 12)]), (mk (.int m))]) (mcall lenD [(mvar 1)]))) (ρ := [some (.node (.lst false) (numsD ns)), some (.node (.lst false) (hs.map cD)), a2, a3, a4, a5, a6, a7, none, none, none, none, none, none, none]) (fun (i : Nat) => D.int (i : Int)) (fun i => [.int (i : Int)]) (fun i => cD (pk hs ns m i)) (fun _ => rfl) (List.range n) fun k _ => by
    have wa := w_at false ns k
    have pi := pk_ix hne ns m k false
    generalize pk hs ns m k = c at pi ⊢
    generalize ns.getD k 0 = v at wa pi
    have wm := w_mix v m h0 h1
    generalize mixC v m = y at wm pi
    have md : modD (.int y) (.int (hs.length : Int)) = some (.int (y % (hs.length : Int))) := modD_int (by omega)
    simp -implicitDefEqProofs [wa, wm, md, pi, -List.length_map, hlen]
  rw [this, List.map_map]
  rfl
def kE (ns : List Int) (hs : List Cl) (g : Cl) (vs : List Cl) (k : Nat) (S2 : List Cl) (sm : List Cl) (τ : Cl → Cl) (o8 : Option D) : En := [some (.node (.lst false) (numsD ns)), some (.node (.lst true) (hs.map cD)), some (cD g), some (.node (.lst true) (vs.map cD)), some (.str (ax k)), some (.node (.lst true) (S2.map cD)), some (cD (τ g)), some (.node (.lst false) (sm.map cD)), o8, none, none, none, none, none, none]
theorem eqD_oI (f : Cl → Int) (K : Km) (c : Cl) : neD (oI f K c) (oI f K c) = some (.bl false) := by
  unfold oI
  by_cases h : c ∈ keys K
  · rw [if_pos h]
    have : neD (.int (f c)) (.int (f c)) = some (.bl (!decide (f c = f c))) := by simp
    rw [this]; simp
  · rw [if_neg h]; rfl
theorem some_loop (ns : List Int) (hs : List Cl) (g : Cl) (vs : List Cl) (k : Nat) (hk : k < 3) (S2 sm : List Cl) {f f2 : Cl → Int} {K K2 : Km} (lv : ∀ c, f_level [.node (.lst false) (hs.map cD), cD g, cD c] = .ok (oI f K c)) (lv2 : ∀ c, f_level [.node (.lst false) (S2.map cD), cD (ta k g), cD c] = .ok (oI f2 K2 c)) (eqo : ∀ c, oI f2 K2 (ta k c) = oI f K c) : ∀ (r : List Cl) (o8 : Option D), ∃ o8', forF (.nm 8) l__law_asked_so_1 (r.map cD) (kE ns hs g vs k S2 sm (ta k) o8) = .nx (kE ns hs g vs k S2 sm (ta k) o8')
  | [], o8 => ⟨o8, rfl⟩
  | c :: r, o8 => by
    have wb := w_brought c k hk
    have l1 := lv c
    have l2 := lv2 (ta k c)
    rw [eqo c] at l2
    have ne := eqD_oI f K c
    have fo := oI_frz f K c
    have e1 : l__law_asked_so_1 (kE ns hs g vs k S2 sm (ta k) (some (cD c))) = .nx (kE ns hs g vs k S2 sm (ta k) (some (cD c))) := by
      simp -implicitDefEqProofs [kE, l__law_asked_so_1, wb, l1, l2, fo, ne]
    obtain ⟨o', e⟩ := some_loop ns hs g vs k hk S2 sm lv lv2 eqo r (some (cD c))
    exact ⟨o', (forF_cons1 (ρ1 := kE ns hs g vs k S2 sm (ta k) (some (cD c))) rfl e1).trans e⟩
theorem pc_con {S Rs : List Cl} (pi : PI S S Rs) {g : Cl} (hg : g ∈ S) : ∃ R ∈ Rs, g ∈ pcC S R ∧ ∀ x, x ∈ pcC S R ↔ Con S g x := by
  obtain ⟨R, hR, c⟩ := pi.all g hg
  have hRS : R ∈ S := pi.sub.subset hR
  refine ⟨R, hR, (mem_pc hRS).mpr c, fun x => ?_⟩
  rw [mem_pc hRS]
  exact ⟨fun z => con_trans (con_symm hRS c) z, fun z => con_trans c z⟩
theorem frzs_pD (L : List (List Cl)) (o : Bool) : frzs (L.map (pD o)) = L.map (pD false) := by
  induction L with
  | nil => rfl
  | cons P L ih =>
    rw [List.map_cons, List.map_cons, frzs, ih]
    congr 1
    unfold pD
    show D.node _ (frzs _) = _
    rw [frzs_cs]
    rfl
theorem w_asked (ns : List Int) (hns : ns.length ≤ 130) : f__law_asked_so [.node (.lst false) (numsD ns)] = .ok (.bl true) := by
  have sz0 : (100000 : Nat) < sizeLine := by rw [sizeLine_eq]; decide
  obtain ⟨hs, hne, hl, hb, eh⟩ := w_hollowB ns (by omega)
  have wa := (show f__law_cell_at [.node (.lst false) (numsD ns), .int 0] = .ok (.int (ns.getD 0 0)) from w_at false ns 0)
  have wa1 := (show f__law_cell_at [.node (.lst false) (numsD ns), .int 1] = .ok (.int (ns.getD 1 0)) from w_at false ns 1)
  have l4 := fun a2 a3 a4 a5 a6 a7 => lc_pk hne ns 40692 (by decide) (by decide) 2 a2 a3 a4 a5 a6 a7
  have l8 := fun a2 a3 a4 a5 a6 a7 => lc_pk hne ns 48271 (by decide) (by decide) 8 a2 a3 a4 a5 a6 a7
  have hvs : ∀ v ∈ (List.range 2).map (pk hs ns 40692), v ∈ hs := fun v hv => by
    obtain ⟨k, _, rfl⟩ := List.mem_map.mp hv
    exact pk_in hne ns _ k
  have lvs : ((List.range 2).map (pk hs ns 40692)).length ≤ 10 := by simp
  generalize (List.range 2).map (pk hs ns 40692) = vs at l4 hvs lvs
  generalize (List.range 8).map (pk hs ns 48271) = sm at l8
  generalize ns.getD 0 0 = x0 at wa
  generalize ns.getD 1 0 = x1 at wa1
  have wm := w_mix x0 630360016 (by decide) (by decide)
  generalize mixC x0 630360016 = y at wm
  have wm1 := w_mix x1 69621 (by decide) (by decide)
  generalize mixC x1 69621 = y1 at wm1
  obtain ⟨g, hg, q0⟩ := mod_ix hs hne y
  obtain ⟨z0, m1, m2⟩ := q0 false
  have hlen : (hs.map cD).length = hs.length := List.length_map ..
  obtain ⟨k, hk, ek⟩ : ∃ k : Nat, k < 3 ∧ y1 % 3 = (k : Int) := ⟨(y1 % 3).toNat, by omega, by omega⟩
  have md3 : modD (.int y1) (.int 3) = some (.int (k : Int)) := by rw [modD_int (by decide), ek]
  have ixk : ixD (.str "xyz") (.int (k : Int)) = some (.str (ax k)) := by
    match k, hk with
    | 0, _ => kernel_rfl
    | 1, _ => kernel_rfl
    | 2, _ => kernel_rfl
  have i := iso_ta k hk
  have hb2 := bro_bd i hb.nodup
  have hg2 : ta k g ∈ sortC (hs.map (ta k)) := mem_bro.mpr ⟨g, hg, rfl⟩
  have l2 : (sortC (hs.map (ta k))).length ≤ 1000 := by rw [length_sortC, List.length_map]; exact hl
  obtain ⟨f, K, pr, eP, lv⟩ := w_level hg (by omega)
  obtain ⟨f2, K2, pr2, eP2, lv2⟩ := w_level hg2 (by omega)
  have ef := w_filled hg (by omega) pr eP
  have ef2 := w_filled hg2 (by omega) pr2 eP2
  have eqo := fun c => bro_oI i pr pr2 c
  have elen := bro_len i pr pr2
  have eB := w_bodyB hs k hk
  have eg2 := w_brought g k hk
  obtain ⟨Z, hZ, esh⟩ := w_shut hs vs (by omega) (by omega)
  obtain ⟨Z2, hZ2, esh2⟩ := w_shut (sortC (hs.map (ta k))) (vs.map (ta k)) (by omega) (by rw [List.length_map]; omega)
  have eZ := shut_same i hb.nodup hZ hZ2
  rw [eZ] at esh2
  have eB2 := w_bodyB (hs.filter fun c => !decide (c ∈ Z)) k hk
  have lvb : ∀ (ρ : En), ρ.length = 15 → ρ[4]? = some (some (.str (ax k))) → lcGo (.nm 13) yes (mfn f__law_brought [(mvar 13), (mvar 4)]) ρ (vs.map cD) = .ok ((vs.map (ta k)).map cD) := fun ρ h15 h4 => by
    have := lcGo_all (t := .nm 13) (me := mfn f__law_brought [(mvar 13), (mvar 4)]) (ρ := ρ) cD (fun c => [cD c]) (fun c => cD (ta k c)) (fun _ => rfl) vs fun c _ => by
      have q1 : mvar 13 (ρ.set 13 (some (cD c))) = .ok (cD c) := by unfold mvar; rw [List.getElem?_set_self (by omega)]
      have q2 : mvar 4 (ρ.set 13 (some (cD c))) = .ok (.str (ax k)) := by unfold mvar; rw [List.getElem?_set_ne (by decide), h4]
      have wb := w_brought c k hk
      show mfn f__law_brought [(mvar 13), (mvar 4)] (ρ.set 13 (some (cD c))) = _
      simp -implicitDefEqProofs [q1, q2, wb]
    rw [this, List.map_map]
    rfl
  obtain ⟨Rs, pi, ep⟩ := w_pieces hs hb hl
  obtain ⟨R0, hR0, hgP, hP⟩ := pc_con pi hg
  obtain ⟨P, rest, efil⟩ : ∃ P rest, (Rs.map (pcC hs)).filter (fun P => decide (g ∈ P)) = P :: rest := by
    cases e : (Rs.map (pcC hs)).filter (fun P => decide (g ∈ P)) with
    | nil =>
      have : pcC hs R0 ∈ (Rs.map (pcC hs)).filter (fun P => decide (g ∈ P)) := List.mem_filter.mpr ⟨List.mem_map_of_mem hR0, decide_eq_true hgP⟩
      rw [e] at this
      cases this
    | cons P rest => exact ⟨P, rest, rfl⟩
  have hPm : P ∈ (Rs.map (pcC hs)).filter (fun P => decide (g ∈ P)) := by rw [efil]; exact List.mem_cons_self
  obtain ⟨hP1, hP2⟩ := List.mem_filter.mp hPm
  have gP : g ∈ P := of_decide_eq_true hP2
  obtain ⟨R, hR, rfl⟩ := List.mem_map.mp hP1
  have hRS : R ∈ hs := pi.sub.subset hR
  have cR := (mem_pc hRS).mp gP
  have hPc : ∀ x, x ∈ pcC hs R ↔ Con hs g x := fun x => by
    rw [mem_pc hRS]
    exact ⟨fun z => con_trans (con_symm hRS cR) z, fun z => con_trans cR z⟩
  have bP := pc_bd (L := hs) R hb.nodup
  have lP : (pcC hs R).length ≤ 1000 := Nat.le_trans (nodup_len bP.nodup fun x hx => con_in hg ((hPc x).mp hx)) hl
  obtain ⟨f3, K3, pr3, eP3⟩ := w_Pour (hs := pcC hs R) (g := g) gP (by omega)
  have ef3 := w_filled gP (by omega) pr3 eP3
  have ps := fun c => piece_same pr pr3 hPc hg c
  rw [fill_same pr.fl.nd pr3.fl.nd (fun c => (ps c).1) (fun c hc => (ps c).2 hc)] at ef3
  have pl := piece_len pr bP.nodup hPc
  have Fl1 : (fillC f (keys K)).length = (pcC hs R).length := by rw [fill_len, pl]
  have Fl2 : (fillC f2 (keys K2)).length = (pcC hs R).length := by rw [fill_len, elen, pl]
  have rg2 : rangeD [.int 2] = some ((List.range 2).map fun (i : Nat) => D.int (i : Int)) := rng_k 2 (by omega)
  have rg8 : rangeD [.int 8] = some ((List.range 8).map fun (i : Nat) => D.int (i : Int)) := rng_k 8 (by omega)
  have frr : ∀ n, frzs ((List.range n).map fun (i : Nat) => D.int (i : Int)) = (List.range n).map fun (i : Nat) => D.int (i : Int) := fun n => frzs_id fun x hx => by
    obtain ⟨_, _, rfl⟩ := List.mem_map.mp hx; rfl
  have frr2 := frr 2
  have frr8 := frr 8
  obtain ⟨o8, elp⟩ := some_loop ns hs g vs k hk (sortC (hs.map (ta k))) sm lv lv2 eqo sm none
  have eqr : eqD (.node (.lst false) ((fillC f (keys K)).map cD)) (.node (.lst false) ((fillC f (keys K)).map cD)) = some (.bl true) := by rw [eqD_cs]; simp
  have neC : neD (.node (.lst false) ((sortC ((hs.filter fun c => !decide (c ∈ Z)).map (ta k))).map cD)) (.node (.lst false) ((sortC ((hs.filter fun c => !decide (c ∈ Z)).map (ta k))).map cD)) = some (.bl false) := by rw [neD_cs]; simp
  have lcP : lcGo (.nm 14) (tst (Ev.bin in2D (mvar 2) (mvar 14))) (mvar 14) [some (.node (.lst false) (numsD ns)), some (.node (.lst false) (hs.map cD)), some (cD g), some (.node (.lst false) (vs.map cD)), some (.str (ax k)), some (.node (.lst false) ((sortC (hs.map (ta k))).map cD)), some (cD (ta k g)), some (.node (.lst false) (sm.map cD)), o8.map D.frz, some (.node (.lst false) ((sortC ((hs.filter fun c => !decide (c ∈ Z)).map (ta k))).map cD)), some (.node (.lst false) ((fillC f (keys K)).map cD)), none, none, none, none] ((Rs.map (pcC hs)).map (pD false)) = .ok ((pcC hs R :: rest).map (pD false)) := by
    rw [← efil]
    exact lcGo_map (pD false) (fun P => [pD false P]) (fun P => decide (g ∈ P)) (pD false) (fun _ => rfl) (Rs.map (pcC hs)) (fun P _ => by
      have i1 : in2D (cD g) (pD false P) = some (.bl (decide (g ∈ P))) := by
        unfold pD
        simp -implicitDefEqProofs
      have f1 : (pD false P).frz = pD false P := by
        unfold pD
        show D.node _ (frzs _) = _
        rw [frzs_cs]
        rfl
      simp -implicitDefEqProofs [i1, f1]) (fun P _ _ => by simp -implicitDefEqProofs)
  have fpp : frzs (Rs.map fun R => pD true (pcC hs R)) = (Rs.map (pcC hs)).map (pD false) := by
    have := frzs_pD (Rs.map (pcC hs)) true
    rw [List.map_map] at this
    exact this
  have fLP := frzs_pD (pcC hs R :: rest) false
  have fLA := frzs_pD (Rs.map (pcC hs)) false
  have ixP : ixD (.node (.lst false) ((pcC hs R :: rest).map (pD false))) (.int 0) = some (.node (.lst false) ((pcC hs R).map cD)) := ix_lst false _ 0 (by simp)
  have eqn : eqD (.int ((pcC hs R).length : Int)) (.int ((pcC hs R).length : Int)) = some (.bl true) := by
    have : eqD (.int ((pcC hs R).length : Int)) (.int ((pcC hs R).length : Int)) = some (.bl (decide (((pcC hs R).length : Int) = ((pcC hs R).length : Int)))) := by simp
    rw [this]; simp
  have neN : neD (.int ((pcC hs R).length : Int)) (.int ((pcC hs R).length : Int)) = some (.bl false) := by
    have : neD (.int ((pcC hs R).length : Int)) (.int ((pcC hs R).length : Int)) = some (.bl (!decide (((pcC hs R).length : Int) = ((pcC hs R).length : Int)))) := by simp
    rw [this]; simp
  have lR1 : ((fillC f (keys K)).map cD).length = (pcC hs R).length := by rw [List.length_map, Fl1]
  have lR2 : ((fillC f2 (keys K2)).map cD).length = (pcC hs R).length := by rw [List.length_map, Fl2]
  have lR3 : ((pcC hs R).map cD).length = (pcC hs R).length := List.length_map ..
  have c1 : frzs ((fillC f (keys K)).map cD) = (fillC f (keys K)).map cD := frzs_cs _
  have c2 : frzs ((fillC f2 (keys K2)).map cD) = (fillC f2 (keys K2)).map cD := frzs_cs _
  have c3 : frzs ((pcC hs R).map cD) = (pcC hs R).map cD := frzs_cs _
  have c4 : frzs ((sortC ((hs.filter fun c => !decide (c ∈ Z)).map (ta k))).map cD) = (sortC ((hs.filter fun c => !decide (c ∈ Z)).map (ta k))).map cD := frzs_cs _
  have c5 : frzs ((sortC (hs.map (ta k))).map cD) = (sortC (hs.map (ta k))).map cD := frzs_cs _
  have c6 : frzs ((hs.filter fun c => !decide (c ∈ Z)).map cD) = (hs.filter fun c => !decide (c ∈ Z)).map cD := frzs_cs _
  have c7 : frzs ((vs.map (ta k)).map cD) = (vs.map (ta k)).map cD := frzs_cs _
  have d1 : shrs ((fillC f (keys K)).map cD) = false := shrs_cs _
  have d4 : shrs ((sortC ((hs.filter fun c => !decide (c ∈ Z)).map (ta k))).map cD) = false := shrs_cs _
  have d5 : shrs ((sortC (hs.map (ta k))).map cD) = false := shrs_cs _
  unfold kE at elp
  generalize (pcC hs R).length = N at *
  generalize (fillC f (keys K)).map cD = ROW at *
  generalize (fillC f2 (keys K2)).map cD = ROW2 at *
  generalize (pcC hs R).map cD = PC at *
  generalize (sortC ((hs.filter fun c => !decide (c ∈ Z)).map (ta k))).map cD = CL at *
  generalize (sortC (hs.map (ta k))).map cD = S2 at *
  generalize (hs.filter fun c => !decide (c ∈ Z)).map cD = SH at *
  generalize (vs.map (ta k)).map cD = VB at *
  generalize (pcC hs R :: rest).map (pD false) = LP at *
  generalize (Rs.map (pcC hs)).map (pD false) = LA at *
  generalize (Rs.map fun R => pD true (pcC hs R)) = LR at *
  generalize (List.range 2).map (fun (i : Nat) => D.int (i : Int)) = G2 at *
  generalize (List.range 8).map (fun (i : Nat) => D.int (i : Int)) = G8 at *
  unfold f__law_asked_so
  rw [body_eq]
  unfold b__law_asked_so
  refine out_nx (ρ' := [some (.node (.lst false) (numsD ns)), some (.node (.lst true) (hs.map cD)), none, none, none, none, none, none, none, none, none, none, none, none, none]) (by simp -implicitDefEqProofs [ent, eh]) ?_
  refine out_nx (ρ' := [some (.node (.lst false) (numsD ns)), some (.node (.lst true) (hs.map cD)), some (cD g), none, none, none, none, none, none, none, none, none, none, none, none]) (by simp -implicitDefEqProofs [wa, wm, m1, m2]) ?_
  refine out_nx (ρ' := [some (.node (.lst false) (numsD ns)), some (.node (.lst true) (hs.map cD)), some (cD g), some (.node (.lst true) (vs.map cD)), none, none, none, none, none, none, none, none, none, none, none]) (by simp -implicitDefEqProofs [mlc_ap, rg2, frr2, l4]) ?_
  refine out_nx (ρ' := [some (.node (.lst false) (numsD ns)), some (.node (.lst true) (hs.map cD)), some (cD g), some (.node (.lst true) (vs.map cD)), some (.str (ax k)), none, none, none, none, none, none, none, none, none, none]) (by simp -implicitDefEqProofs [wa1, wm1, md3, ixk]) ?_
  refine out_nx (ρ' := [some (.node (.lst false) (numsD ns)), some (.node (.lst true) (hs.map cD)), some (cD g), some (.node (.lst true) (vs.map cD)), some (.str (ax k)), some (.node (.lst true) S2), none, none, none, none, none, none, none, none, none]) (by simp -implicitDefEqProofs [eB, d5]) ?_
  refine out_nx (ρ' := [some (.node (.lst false) (numsD ns)), some (.node (.lst true) (hs.map cD)), some (cD g), some (.node (.lst true) (vs.map cD)), some (.str (ax k)), some (.node (.lst true) S2), some (cD (ta k g)), none, none, none, none, none, none, none, none]) (by simp -implicitDefEqProofs [eg2, c5]) ?_
  refine out_nx (ρ' := [some (.node (.lst false) (numsD ns)), some (.node (.lst true) (hs.map cD)), some (cD g), some (.node (.lst true) (vs.map cD)), some (.str (ax k)), some (.node (.lst true) S2), some (cD (ta k g)), some (.node (.lst true) (sm.map cD)), none, none, none, none, none, none, none]) (by simp -implicitDefEqProofs [mlc_ap, rg8, frr8, l8, c5]) ?_
  refine out_nx (ρ' := [some (.node (.lst false) (numsD ns)), some (.node (.lst true) (hs.map cD)), some (cD g), some (.node (.lst true) (vs.map cD)), some (.str (ax k)), some (.node (.lst true) S2), some (cD (ta k g)), some (.node (.lst false) (sm.map cD)), o8, none, none, none, none, none, none]) (by simp -implicitDefEqProofs [elp, c5]) ?_
  refine out_nx (ρ' := [some (.node (.lst false) (numsD ns)), some (.node (.lst true) (hs.map cD)), some (cD g), some (.node (.lst true) (vs.map cD)), some (.str (ax k)), some (.node (.lst true) S2), some (cD (ta k g)), some (.node (.lst false) (sm.map cD)), o8, some (.node (.lst true) CL), none, none, none, none, none]) (by simp -implicitDefEqProofs [mlc_ap, c5, c7, lvb, esh2, d4]) ?_
  refine out_nx (ρ' := [some (.node (.lst false) (numsD ns)), some (.node (.lst true) (hs.map cD)), some (cD g), some (.node (.lst true) (vs.map cD)), some (.str (ax k)), some (.node (.lst true) S2), some (cD (ta k g)), some (.node (.lst false) (sm.map cD)), o8, some (.node (.lst true) CL), some (.node (.lst true) ROW), none, none, none, none]) (by simp -implicitDefEqProofs [c5, c4, ef, d1]) ?_
  refine out_nx (ρ' := [some (.node (.lst false) (numsD ns)), some (.node (.lst true) (hs.map cD)), some (cD g), some (.node (.lst true) (vs.map cD)), some (.str (ax k)), some (.node (.lst true) S2), some (cD (ta k g)), some (.node (.lst false) (sm.map cD)), o8, some (.node (.lst true) CL), some (.node (.lst true) ROW), none, none, none, none]) (by simp -implicitDefEqProofs [c5, c4, c1, esh, c6, eB2, neC, ef2, c2, lR1, lR2, neN]) ?_
  refine out_nx (ρ' := [some (.node (.lst false) (numsD ns)), some (.node (.lst false) (hs.map cD)), some (cD g), some (.node (.lst true) (vs.map cD)), some (.str (ax k)), some (.node (.lst true) S2), some (cD (ta k g)), some (.node (.lst false) (sm.map cD)), o8, some (.node (.lst true) CL), some (.node (.lst true) ROW), some (.node (.lst false) PC), none, none, none]) (by simp -implicitDefEqProofs [c5, c4, c1, ep, mlc_ap, fpp, fLA, lcP, fLP, ixP, c3]) ?_
  simp -implicitDefEqProofs [c5, c4, c1, c3, ef3, eqr, lR1, lR3, eqn]
theorem w_wide (ns : List Int) (hns : ns.length ≤ 63) : ∃ (o : Bool) (ms : List Int), ms.length ≤ 130 ∧ f__law_wide [.node (.lst false) (numsD ns)] = .ok (.node (.lst o) (numsD ms)) := by
  have p6 : powD (.int 10) (.int 6) = some (.int 1000000) := by kernel_rfl
  have p18 : powD (.int 10) (.int 18) = some (.int 1000000000000000000) := by kernel_rfl
  have sz : (10000 : Nat) < sizeLine := by rw [sizeLine_eq]; decide
  have r6 : ∀ n : Int, modD (.int n) (.int 1000000) = some (.int (n % 1000000)) := fun n => modD_int (by decide)
  have d6 : ∀ n : Int, fdivD (.int n) (.int 1000000) = some (.int (n / 1000000)) := fun n => fdivD_int ⟨by decide, by decide⟩
  unfold f__law_wide
  rw [body_eq]
  by_cases h : ns.length < 2
  · have h' : (ns.length : Int) < 2 := by omega
    refine ⟨false, ns, by omega, ?_⟩
    simp -implicitDefEqProofs [b__law_wide, ent, h']
  · have h' : ¬ (ns.length : Int) < 2 := by omega
    have i1 : ixD (.node (.lst false) (numsD ns)) (.int 1) = some (.int (ns.getD 1 0)) := ix_nums false ns 1 (by omega)
    generalize ns.getD 1 0 = z at i1
    have ab : absD [.int z] = some (.int (if z < 0 then -z else z)) := rfl
    generalize (if z < 0 then -z else z) = y at ab
    by_cases hy : y < 1000000000000000000
    · refine ⟨false, ns, by omega, ?_⟩
      simp -implicitDefEqProofs [b__law_wide, ent, h', i1, ab, p18, hy]
    · have e : b__law_wide (ent 3 [.node (.lst false) (numsD ns)]) = thenO (mwhile (mand (tst (Ev.bin gtD (mvar 2) (mk (.int 0)))) (tst (Ev.bin ltD (mcall lenD [(mvar 1)]) (mk (.int 63))))) l__law_wide_1 [some (.node (.lst false) (numsD ns)), some (.node (.lst true) []), some (.int y)]) (mret [1, 0] (Ev.bin addD (mvar 1) (msl (mvar 0) (psome (mk (.int 2))) pno))) := by
        simp -implicitDefEqProofs [b__law_wide, ent, h', i1, ab, p18, hy]
      rw [e]
      refine mwhile_wp (fun k ρ => ∃ (acc : List Int) (v : Int), ρ = [some (.node (.lst false) (numsD ns)), some (.node (.lst true) (numsD acc)), some (.int v)] ∧ acc.length + k = 63)
        (fun q => ∃ (o : Bool) (ms : List Int), ms.length ≤ 130 ∧ outV (thenO q (mret [1, 0] (Ev.bin addD (mvar 1) (msl (mvar 0) (psome (mk (.int 2))) pno)))) = .ok (.node (.lst o) (numsD ms))) ?_ 63 _ (by decide) ⟨[], y, rfl, rfl⟩
      rintro k ρ ⟨acc, v, rfl, hk⟩
      refine ⟨decide (0 < v ∧ acc.length < 63), ?_, ?_⟩
      · by_cases hv : 0 < v
        · by_cases ha : acc.length < 63
          · have ha' : (acc.length : Int) < 63 := by omega
            simp -implicitDefEqProofs [hv, ha, ha']
          · have ha' : ¬ (acc.length : Int) < 63 := by omega
            simp -implicitDefEqProofs [hv, ha, ha']
        · simp -implicitDefEqProofs [hv]
      · by_cases hc : 0 < v ∧ acc.length < 63
        · rw [if_pos (decide_eq_true hc)]
          have ka := fun n => kApp_nums acc n (by omega)
          refine Go_of (by simp -implicitDefEqProofs [l__law_wide_1, p6, r6, d6, ka]; rfl) ?_
          exact ⟨k - 1, by omega, acc ++ [v % 1000000], v / 1000000, rfl, by simp; omega⟩
        · rw [if_neg (by simpa using hc)]
          have hlen : (Ev.cutD ns (some 2) none).length ≤ 63 := by
            unfold Ev.cutD; rw [List.length_take, List.length_drop]; omega
          refine ⟨true, acc ++ Ev.cutD ns (some 2) none, by rw [List.length_append]; omega, ?_⟩
          have ad : addD (.node (.lst false) (numsD acc)) (.node (.lst false) (numsD (Ev.cutD ns (some 2) none))) = some (.node (.lst true) (numsD (acc ++ Ev.cutD ns (some 2) none))) := by
            rw [addD_lst _ _ (by simp; omega)]; unfold numsD; rw [List.map_append]
          simp -implicitDefEqProofs [cut_nums, ad]
theorem holds (ns : List Int) (hns : ns.length ≤ 63) : f_law [.lst false (numsD ns)] = .ok (.bl true) := by
  obtain ⟨o, ms, hm, e⟩ := w_wide ns hns
  have q := w_asked ms hm
  unfold f_law
  rw [body_eq]
  simp -implicitDefEqProofs [b_law, ent, e, q]
end G

open PySem PySem.W
open PyProof.Rows hiding St
set_option maxRecDepth 100000 in
set_option maxHeartbeats 0 in
theorem PySem.Challenge.cw_pourhall_k77_whole_poured_turned_holds : PySem.Challenge.rw_pourhall_k77_whole_poured_turned.Holds := by
  w_on; o_law; k_head; (case hw => w_witness2)
  k_fill
  refine Ev.law_walk (l := PySem.Challenge.rw_pourhall_k77_whole_poured_turned) (k := 7) (x := "_law_script") (f := G.f_law) rfl rfl ⟨rfl, by decide, by decide⟩ (cs := [(90, 86), (62, 58)]) (by decide) (fun w h Y => PySem.W.km_in_of Y) (fun w h Y p hp => PySem.W.km_tabs_of Y p.2 (List.mem_map_of_mem (f := Prod.snd) hp)) (fun w p hp => ?hk) (fun w => ?nl) ?F G.holds
  case hk => (simp only [List.mem_cons, List.not_mem_nil, or_false] at hp; rcases hp with rfl | rfl <;> exact ⟨by first | kernel_rfl | rfl, by first | kernel_rfl | rfl⟩)
  case nl => first | rfl | with_unfolding_all rfl | kernel_rfl
  case F =>
    intro w mg fa h KX GG hmg
    refine' G.all_mk (cs := [(90, 86), (62, 58)]) KX GG hmg ?pa ?a0 ?l0 ?c0 ?k0 ?a1 ?l1 ?c1 ?k1 ?a2 ?l2 ?c2 ?k2 ?a3 ?l3 ?c3 ?k3 ?a4 ?l4 ?c4 ?k4 ?a5 ?l5 ?c5 ?k5 ?a6 ?l6 ?c6 ?k6 ?a7 ?l7 ?c7 ?k7 ?a8 ?l8 ?c8 ?k8 ?a9 ?l9 ?c9 ?k9 ?a10 ?l10 ?c10 ?k10 ?a11 ?l11 ?c11 ?k11 ?a12 ?l12 ?c12 ?k12 ?a13 ?l13 ?c13 ?k13 ?a14 ?l14 ?c14 ?k14 ?a15 ?l15 ?c15 ?k15 ?a16 ?l16 ?c16 ?k16 ?a17 ?l17 ?c17 ?k17 ?a18 ?l18 ?c18 ?k18 ?a19 ?l19 ?c19 ?k19 ?a20 ?l20 ?c20 ?k20 ?a21 ?l21 ?c21 ?k21 ?a22 ?l22 ?c22 ?k22 ?a23 ?l23 ?c23 ?k23  ?z0 ?z1 ?z2 ?z3 ?z4 ?z5 ?z6 ?z7 ?z8 ?q0 ?p1 ?p2 ?p3 ?p4 ?p5 ?p6 ?p7 ?p8 ?fn3 ?fn4 ?lh0 ?lm0 ?lt0 ?lh1 ?lm1 ?lt1
    (case pa => k_is); (case a0 => k_is); (case a1 => k_is); (case a2 => k_is); (case a3 => k_is); (case a4 => k_is); (case a5 => k_is); (case a6 => k_is); (case a7 => k_is); (case a8 => k_is); (case a9 => k_is); (case a10 => k_is); (case a11 => k_is); (case a12 => k_is); (case a13 => k_is); (case a14 => k_is); (case a15 => k_is); (case a16 => k_is); (case a17 => k_is); (case a18 => k_is); (case a19 => k_is); (case a20 => k_is); (case a21 => k_is); (case a22 => k_is); (case a23 => k_is); (case l0 => k_is); (case c0 => k_is); (case k0 => k_is); (case l1 => k_is); (case c1 => k_is); (case k1 => k_is); (case l2 => k_is); (case c2 => k_is); (case k2 => k_is); (case l3 => k_is); (case c3 => k_is); (case k3 => k_is); (case l4 => k_is); (case c4 => k_is); (case k4 => k_is); (case l5 => k_is); (case c5 => k_is); (case k5 => k_is); (case l6 => k_is); (case c6 => k_is); (case k6 => k_is); (case l7 => k_is); (case c7 => k_is); (case k7 => k_is); (case l8 => k_is); (case c8 => k_is); (case k8 => k_is); (case l9 => k_is); (case c9 => k_is); (case k9 => k_is); (case l10 => k_is); (case c10 => k_is); (case k10 => k_is); (case l11 => k_is); (case c11 => k_is); (case k11 => k_is); (case l12 => k_is); (case c12 => k_is); (case k12 => k_is); (case l13 => k_is); (case c13 => k_is); (case k13 => k_is); (case l14 => k_is); (case c14 => k_is); (case k14 => k_is); (case l15 => k_is); (case c15 => k_is); (case k15 => k_is); (case l16 => k_is); (case c16 => k_is); (case k16 => k_is); (case l17 => k_is); (case c17 => k_is); (case k17 => k_is); (case l18 => k_is); (case c18 => k_is); (case k18 => k_is); (case l19 => k_is); (case c19 => k_is); (case k19 => k_is); (case l20 => k_is); (case c20 => k_is); (case k20 => k_is); (case l21 => k_is); (case c21 => k_is); (case k21 => k_is); (case l22 => k_is); (case c22 => k_is); (case k22 => k_is); (case l23 => k_is); (case c23 => k_is); (case k23 => k_is); (case z0 => k_is); (case z1 => k_is); (case z2 => k_is); (case z3 => k_is); (case z4 => k_is); (case z5 => k_is); (case z6 => k_is); (case z7 => k_is); (case z8 => k_is); (case q0 => k_is); (case p1 => k_is); (case p2 => k_is); (case p3 => k_is); (case p4 => k_is); (case p5 => k_is); (case p6 => k_is); (case p7 => k_is); (case p8 => k_is); (case fn3 => k_is); (case fn4 => k_is); (case lh0 => exact rfl); (case lm0 => exact .tail _ (.head _)); (case lt0 => decide); (case lh1 => exact rfl); (case lm1 => exact .head _); (case lt1 => decide)
