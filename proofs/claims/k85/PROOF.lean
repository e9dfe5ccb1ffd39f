import PyProof.Rows.All
import Wide.All
import OpenK.AllK
import Wide.FinOn
import HandS.ForMost
import HandS.ForExc
import HandS.SetTxt0
import HandS.SetFor
import HandS.SetBool
import HandS.TupSets
import HandS.TupLe
import HandS.Style
import HandS.Deep
import HandS.TupAny
import HandS.Text
import HandS.More
import HandS.IsInst
import HandS.Dict
import HandS.DictComp
import HandS.Iter
import HandS.ForDict
import HandS.Wide
import HandS.Conv
import HandS.NoneIn
import HandS.WordsDict
import HandS.Sort
import HandS.Small
import HandS.Exc
import HandS.Zip
import KE.SortData
import PyProof.ReprRoads
import HandS.Strs
import HandS.RaiseMore
import HandS.Ends
import HandS.HeadEnd
import HandS.Defaults
import HandS.Head0
import HandS.Head1
import HandS.Head2
import HandS.HeadHook1
import HandS.HeadHook2
import KE.KStateDown
import Lean
import PySem.Challenge.RW_rankkeys_k85_decided_pairs
set_option Elab.async false
set_option linter.all false
set_option maxRecDepth 100000
set_option maxHeartbeats 4000000
/-! Values as plain data over the hand layer: what a value stands for (Rep), whose object it is (Own). -/
namespace Vs
open PySem L2

/-- plain data -/
inductive D where
  | non | bl (b : Bool) | int (i : Int) | str (x : Str)
  | lst (l : List D) | tup (l : List D) | tpl (l : List D) | dct (l : List (Key × D)) | scr (l : List Int) | ins (c : Str) (l : List (Str × D))

abbrev Set0 := Addr → Prop
/-- what never changes: the module's names, the module's own objects -/
structure Glob where
  mg : Str → Option Value
  K : PySem.W.Frag
instance : CoeFun Glob (fun _ => Str → Option Value) := ⟨Glob.mg⟩
@[reducible] def _root_.L2.Cx.gk (X : L2.Cx) : Glob := ⟨X.mg, X.K⟩

def pl : HO → Bool
  | .lst _ => true
  | .dK _ => true
  | .ins _ _ _ => true
  | .tup _ => true
  | .frz _ (.tup _) => true
  | .frz _ (.lst _) => true
  | _ => false
/-- what stands at a; a dict may be locked -/
def Rd (H : Hp) (a : Addr) (u : HO) : Prop := (H a = some u ∧ pl u = true) ∨ ∃ o kvs, u = .dK kvs ∧ H a = some (.frz o u)
theorem Rd.kit {H : Hp} {a : Addr} {u : HO} (r : Rd H a u) : L2.Rd H a u := by
  rcases r with ⟨r, _⟩ | ⟨o, _, _, e⟩
  · exact .inl r
  · exact .inr ⟨o, e⟩
theorem Rd.is {H : Hp} {a : Addr} {u : HO} (r : Rd H a u) (h : ∀ kvs, u ≠ .dK kvs) : H a = some u := by
  rcases r with ⟨r, _⟩ | ⟨o, _, e, _⟩
  · exact r
  · exact absurd e (h _)
theorem Rd.lst {H : Hp} {a : Addr} {vs : List V} (r : Rd H a (.lst vs)) : H a = some (.lst vs) := r.is nofun
theorem Rd.ins {H : Hp} {a C dx : Addr} {vs : List (Str × V)} (r : Rd H a (.ins C dx vs)) : H a = some (.ins C dx vs) := r.is nofun
theorem Rd.ofL {H : Hp} {a : Addr} {vs : List V} (e : H a = some (.lst vs)) : Rd H a (.lst vs) := .inl ⟨e, rfl⟩
theorem Rd.ofD {H : Hp} {a : Addr} {vs : List (Key × V)} (e : H a = some (.dK vs)) : Rd H a (.dK vs) := .inl ⟨e, rfl⟩
theorem Rd.ofI {H : Hp} {a C dx : Addr} {vs : List (Str × V)} (e : H a = some (.ins C dx vs)) : Rd H a (.ins C dx vs) := .inl ⟨e, rfl⟩
theorem Rd.ofP {H : Hp} {a : Addr} {vs : List V} (e : H a = some (.tup vs)) : Rd H a (.tup vs) := .inl ⟨e, rfl⟩
/-- a tuple that is known to be a bare one -/
def Tb (H : Hp) (a : Addr) (vs : List V) : Prop := ∃ o, o.dict = none ∧ Rd H a (.frz o (.tup vs))
theorem Tb.tup {H : Hp} {a : Addr} {vs : List V} (r : Tb H a vs) : ∃ o, o.dict = none ∧ H a = some (.frz o (.tup vs)) := by
  obtain ⟨o, d, e⟩ := r
  exact ⟨o, d, e.is nofun⟩
theorem Tb.kit {H : Hp} {a : Addr} {vs : List V} (r : Tb H a vs) : L2.Rd H a (.tup vs) := by
  obtain ⟨o, _, e⟩ := r.tup
  exact .inr ⟨o, e⟩
theorem Tb.ofT {H : Hp} {a : Addr} {o : Obj} {vs : List V} (d : o.dict = none) (e : H a = some (.frz o (.tup vs))) : Tb H a vs := ⟨o, d, .inl ⟨e, rfl⟩⟩
theorem Tb.mono {H H' : Hp} {a : Addr} {vs : List V} (h : ∀ u, Rd H a u → Rd H' a u) (r : Tb H a vs) : Tb H' a vs := by
  obtain ⟨o, d, e⟩ := r
  exact ⟨o, d, h _ e⟩
/-- a dict is locked .. -/
theorem Rd.lock {H : Hp} {d : Addr} {od : Obj} {kvs : List (Key × V)} (hd : H d = some (.dK kvs)) {b : Addr} {u : HO} (r : Rd H b u) : Rd (upd H d (.frz od (.dK kvs))) b u := by
  by_cases hb : b = d
  · subst hb
    rcases r with ⟨r, z⟩ | ⟨o, _, e, r⟩
    · rw [hd] at r
      cases r
      exact .inr ⟨od, kvs, rfl, upd_same⟩
    · rw [hd] at r; cases r
  · unfold Rd
    rw [upd_ne hb]
    exact r
/-- .. and opened again -/
theorem Rd.open {H : Hp} {d : Addr} {od : Obj} {kvs : List (Key × V)} (hd : H d = some (.frz od (.dK kvs))) {b : Addr} {u : HO} (r : Rd H b u) : Rd (upd H d (.dK kvs)) b u := by
  by_cases hb : b = d
  · subst hb
    rcases r with ⟨r, z⟩ | ⟨o, _, e, r⟩
    · rw [hd] at r
      cases r
      cases z
    · rw [hd] at r
      cases r
      cases e
      exact .inl ⟨upd_same, rfl⟩
  · unfold Rd
    rw [upd_ne hb]
    exact r
mutual
/-- in the heap H the value v stands for the data d; all its objects lie in S -/
inductive Rep (G : Glob) (S : Set0) (H : Hp) : V → D → Prop
  | non : Rep G S H .non .non
  | bl (b : Bool) : Rep G S H (.bl b) (.bl b)
  | int (i : Int) : Rep G S H (.int i) (.int i)
  | str (x : Str) : Rep G S H (.str x) (.str x)
  | lst {a : Addr} {vs : List V} {ds : List D} : S a → Rd H a (.lst vs) → RepL G S H vs ds → Rep G S H (.ref a) (.lst ds)
  | tup {a : Addr} {vs : List V} {ds : List D} : S a → Tb H a vs → RepL G S H vs ds → Rep G S H (.ref a) (.tup ds)
  | tpl {a : Addr} {vs : List V} {ds : List D} : S a → Rd H a (.tup vs) → RepL G S H vs ds → Rep G S H (.ref a) (.tpl ds)
  | dct {a : Addr} {vs : List (Key × V)} {ds : List (Key × D)} : S a → Rd H a (.dK vs) → RepK G S H vs ds → Rep G S H (.ref a) (.dct ds)
  | scr {a : Addr} {ns : List Int} : (S a ∧ ∃ o, Rd H a (.frz o (.lst (ns.map V.int)))) ∨ (∀ H', SqL G.K H' a (ns.map V.int)) → Rep G S H (.ref a) (.scr ns)
  | ins {a C dx : Addr} {c : Str} {vs : List (Str × V)} {ds : List (Str × D)} : S a → Rd H a (.ins C dx vs) → G c = some (.ref C) → RepF G S H vs ds → Rep G S H (.ref a) (.ins c ds)
inductive RepL (G : Glob) (S : Set0) (H : Hp) : List V → List D → Prop
  | nil : RepL G S H [] []
  | cons {v : V} {d : D} {vs : List V} {ds : List D} : Rep G S H v d → RepL G S H vs ds → RepL G S H (v :: vs) (d :: ds)
inductive RepK (G : Glob) (S : Set0) (H : Hp) : List (Key × V) → List (Key × D) → Prop
  | nil : RepK G S H [] []
  | cons {k : Key} {v : V} {d : D} {vs : List (Key × V)} {ds : List (Key × D)} : Rep G S H v d → RepK G S H vs ds → RepK G S H ((k, v) :: vs) ((k, d) :: ds)
inductive RepF (G : Glob) (S : Set0) (H : Hp) : List (Str × V) → List (Str × D) → Prop
  | nil : RepF G S H [] []
  | cons {k : Str} {v : V} {d : D} {vs : List (Str × V)} {ds : List (Str × D)} : Rep G S H v d → RepF G S H vs ds → RepF G S H ((k, v) :: vs) ((k, d) :: ds)
end

section
variable {G : Glob} {S S' : Set0} {H H' : Hp}
mutual
theorem Rep.mono (hs : ∀ b, S b → S' b) (hk : ∀ b u, S b → Rd H b u → Rd H' b u) : ∀ (d : D) (v : V), Rep G S H v d → Rep G S' H' v d
  | .non, _, h => by cases h; exact .non
  | .bl _, _, h => by cases h; exact .bl _
  | .int _, _, h => by cases h; exact .int _
  | .str _, _, h => by cases h; exact .str _
  | .lst ds, _, h => by
    cases h with
    | lst a r l => exact .lst (hs _ a) (hk _ _ a r) (RepL.mono hs hk ds _ l)
  | .tup ds, _, h => by
    cases h with
    | tup a r l => exact .tup (hs _ a) (r.mono fun u z => hk _ u a z) (RepL.mono hs hk ds _ l)
  | .tpl ds, _, h => by
    cases h with
    | tpl a r l => exact .tpl (hs _ a) (hk _ _ a r) (RepL.mono hs hk ds _ l)
  | .dct ds, _, h => by
    cases h with
    | dct a r l => exact .dct (hs _ a) (hk _ _ a r) (RepK.mono hs hk ds _ l)
  | .scr ds, _, h => by
    cases h with
    | scr r => exact .scr (r.imp (fun ⟨a, o, e⟩ => ⟨hs _ a, o, hk _ _ a e⟩) id)
  | .ins c ds, _, h => by
    cases h with
    | ins a r g l => exact .ins (hs _ a) (hk _ _ a r) g (RepF.mono hs hk ds _ l)
theorem RepL.mono (hs : ∀ b, S b → S' b) (hk : ∀ b u, S b → Rd H b u → Rd H' b u) : ∀ (ds : List D) (vs : List V), RepL G S H vs ds → RepL G S' H' vs ds
  | [], _, h => by cases h; exact .nil
  | d :: ds, _, h => by
    cases h with
    | cons r l => exact .cons (Rep.mono hs hk d _ r) (RepL.mono hs hk ds _ l)
theorem RepK.mono (hs : ∀ b, S b → S' b) (hk : ∀ b u, S b → Rd H b u → Rd H' b u) : ∀ (ds : List (Key × D)) (vs : List (Key × V)), RepK G S H vs ds → RepK G S' H' vs ds
  | [], _, h => by cases h; exact .nil
  | (k, d) :: ds, _, h => by
    cases h with
    | cons r l => exact .cons (Rep.mono hs hk d _ r) (RepK.mono hs hk ds _ l)
theorem RepF.mono (hs : ∀ b, S b → S' b) (hk : ∀ b u, S b → Rd H b u → Rd H' b u) : ∀ (ds : List (Str × D)) (vs : List (Str × V)), RepF G S H vs ds → RepF G S' H' vs ds
  | [], _, h => by cases h; exact .nil
  | (k, d) :: ds, _, h => by
    cases h with
    | cons r l => exact .cons (Rep.mono hs hk d _ r) (RepF.mono hs hk ds _ l)
end
end
end Vs

set_option Elab.async false
set_option linter.all false
set_option maxRecDepth 100000
set_option maxHeartbeats 4000000
namespace Vs
open PySem L2

/-- the object at a stands for d, nobody else holds it: its own addresses are fp, what it holds lies in S -/
inductive Own (G : Glob) (S : Set0) (H : Hp) : Addr → D → List Addr → Prop
  | lst {a : Addr} {vs : List V} {ds : List D} : H a = some (.lst vs) → RepL G S H vs ds → Own G S H a (.lst ds) [a]
  | dct {a : Addr} {vs : List (Key × V)} {ds : List (Key × D)} : H a = some (.dK vs) → RepK G S H vs ds → Own G S H a (.dct ds) [a]
  | ins {a C dx : Addr} {c : Str} {vs : List (Str × V)} {ds : List (Str × D)} : H a = some (.ins C dx vs) → G c = some (.ref C) → RepF G S H vs ds → Own G S H a (.ins c ds) [a]

abbrev Dom (S : Set0) (H : Hp) : Prop := ∀ b, S b → H b ≠ none

theorem Rd.same {H H' : Hp} (k : Same H H') {b : Addr} {u : HO} (r : Rd H b u) : Rd H' b u := by
  rcases r with ⟨r, z⟩ | ⟨o, kvs, z, r⟩
  · exact .inl ⟨k _ _ r, z⟩
  · exact .inr ⟨o, kvs, z, k _ _ r⟩
theorem Rd.eq {H H' : Hp} {b : Addr} {u : HO} (e : H' b = H b) (r : Rd H b u) : Rd H' b u := by
  unfold Rd at r ⊢
  rw [e]
  exact r
theorem Rd.there {H : Hp} {b : Addr} {u : HO} (r : Rd H b u) : H b ≠ none := by
  rcases r with ⟨r, z⟩ | ⟨o, kvs, z, r⟩ <;> rw [r] <;> exact nofun
theorem same_there {H H' : Hp} (k : Same H H') {b : Addr} (h : H b ≠ none) : H' b ≠ none := by
  cases e : H b with
  | none => exact absurd e h
  | some o => rw [k _ _ e]; exact nofun
theorem same_eq {H H' : Hp} (k : Same H H') {b : Addr} (h : H b ≠ none) : H' b = H b := by
  cases e : H b with
  | none => exact absurd e h
  | some o => rw [k _ _ e]
theorem same_new {H : Hp} {p : Addr} {o : HO} (h : H p = none) : Same H (upd H p o) := fun b u e => by
  rw [upd_ne (ne_of_none e h)]
  exact e

/-- the heap and the set have grown, by new objects alone -/
structure Gr (S : Set0) (H : Hp) (S' : Set0) (H' : Hp) : Prop where
  le : ∀ b, S b → S' b
  new : ∀ b, S' b → S b ∨ H b = none
  same : Same H H'
  dom : Dom S' H'
section
variable {G : Glob} {S S' S'' : Set0} {H H' H'' : Hp}
theorem Gr.refl (d : Dom S H) : Gr S H S H := ⟨fun _ h => h, fun _ h => .inl h, Same.refl H, d⟩
theorem Gr.trans (a : Gr S H S' H') (b : Gr S' H' S'' H'') : Gr S H S'' H'' :=
  ⟨fun c h => b.le c (a.le c h), fun c h => by
    rcases b.new c h with h | h
    · exact a.new c h
    · exact .inr (a.same.free h), a.same.trans b.same, b.dom⟩
theorem Gr.rep (g : Gr S H S' H') {v : V} {d : D} (r : Rep G S H v d) : Rep G S' H' v d := Rep.mono g.le (fun _ _ _ r => Rd.same g.same r) d v r
theorem Gr.repL (g : Gr S H S' H') {v : List V} {d : List D} (r : RepL G S H v d) : RepL G S' H' v d := RepL.mono g.le (fun _ _ _ r => Rd.same g.same r) d v r
/-- the heap alone -/
theorem Gr.heap (d : Dom S H) (k : Same H H') : Gr S H S H' := ⟨fun _ h => h, fun _ h => .inl h, k, fun b h => same_there k (d b h)⟩
/-- one more object, that was not there -/
theorem Gr.add {p : Addr} {o : HO} (d : Dom S H) (h : H p = none) : Gr S H (fun b => S b ∨ b = p) (upd H p o) :=
  ⟨fun _ h => .inl h, fun b hb => by
    rcases hb with hb | rfl
    · exact .inl hb
    · exact .inr h, same_new h, fun b hb => by
    rcases hb with hb | rfl
    · exact same_there (same_new h) (d b hb)
    · rw [upd_same]; exact nofun⟩
theorem Own.there {a : Addr} {d : D} {fp : List Addr} (o : Own G S H a d fp) : ∀ b ∈ fp, H b ≠ none := by
  intro b hb
  cases o with
  | lst h _ => obtain rfl := List.mem_singleton.mp hb; rw [h]; exact nofun
  | dct h _ => obtain rfl := List.mem_singleton.mp hb; rw [h]; exact nofun
  | ins h _ _ => obtain rfl := List.mem_singleton.mp hb; rw [h]; exact nofun
theorem Own.mono {a : Addr} {d : D} {fp : List Addr} (hs : ∀ b, S b → S' b) (hk : ∀ b u, S b → Rd H b u → Rd H' b u) (hf : ∀ b ∈ fp, H' b = H b) (o : Own G S H a d fp) : Own G S' H' a d fp := by
  cases o with
  | lst h l => exact .lst ((hf _ (by simp)).trans h) (RepL.mono hs hk _ _ l)
  | dct h l => exact .dct ((hf _ (by simp)).trans h) (RepK.mono hs hk _ _ l)
  | ins h g l => exact .ins ((hf _ (by simp)).trans h) g (RepF.mono hs hk _ _ l)
theorem Gr.own (g : Gr S H S' H') {a : Addr} {d : D} {fp : List Addr} (o : Own G S H a d fp) : Own G S' H' a d fp :=
  o.mono g.le (fun _ _ _ r => Rd.same g.same r) fun b hb => same_eq g.same (o.there b hb)
/-- an own object is given away: from now on it stands still -/
theorem Own.rep {a : Addr} {d : D} {fp : List Addr} (hs : ∀ b, S b → S' b) (hf : ∀ b ∈ fp, S' b) (o : Own G S H a d fp) : Rep G S' H (.ref a) d := by
  cases o with
  | lst h l => exact .lst (hf _ (by simp)) (.ofL h) (RepL.mono hs (fun _ _ _ r => r) _ _ l)
  | dct h l => exact .dct (hf _ (by simp)) (.ofD h) (RepK.mono hs (fun _ _ _ r => r) _ _ l)
  | ins h g l => exact .ins (hf _ (by simp)) (.ofI h) g (RepF.mono hs (fun _ _ _ r => r) _ _ l)
end

/-! ### slots -/
inductive Sl where
  | un | im (d : D) | ow (d : D) | mu (d : D)
abbrev Rho := List Sl
def Sl.own? : Sl → Option D
  | .ow d => some d
  | .mu d => some d
  | _ => none
/-- all may be read -/
def Sl.frz : Sl → Sl
  | .ow d => .im d
  | .mu d => .im d
  | s => s
abbrev frz (ρ : Rho) : Rho := ρ.map Sl.frz

/-- the slots that may be read stand for their data -/
def Cov0 (G : Glob) (S : Set0) (σ : L2.St) (H : Hp) (ρ : Rho) : Prop := ∀ (i : Nat) (d : D), ρ[i]? = some (Sl.im d) → ∃ v, σ[i]? = some (some v) ∧ Rep G S H v d
structure Cov (G : Glob) (S : Set0) (σ : L2.St) (H : Hp) (ρ : Rho) : Prop where
  len : ρ.length ≤ σ.length
  im : Cov0 G S σ H ρ
theorem Cov.gr {G : Glob} {S S' : Set0} {σ : L2.St} {H H' : Hp} {ρ : Rho} (g : Gr S H S' H') (c : Cov G S σ H ρ) : Cov G S' σ H' ρ := ⟨c.len, fun i d e =>
  let ⟨v, h, r⟩ := c.im i d e
  ⟨v, h, g.rep r⟩⟩

/-! ### expressions that change nothing -/
abbrev Fr0 := Rho → Option D
/-- e gives what p tells; all that it makes is new -/
structure VP (X : Cx) (e : Expr) (p : Fr0) : Prop where
  run : ∃ t, PE X e t ∧ ∀ (S : Set0) (σ : L2.St) (H : Hp) (ρ : Rho) (d : D) (Q : VK), Dom S H → Cov X.gk S σ H ρ → p ρ = some d →
    (∀ v S' H', Gr S H S' H' → Rep X.gk S' H' v d → Q v H') → t σ H Q
/-- .. a new object -/
structure VF (X : Cx) (e : Expr) (p : Fr0) : Prop where
  run : ∃ t, PE X e t ∧ ∀ (S : Set0) (σ : L2.St) (H : Hp) (ρ : Rho) (d : D) (Q : VK), Dom S H → Cov X.gk S σ H ρ → p ρ = some d →
    (∀ a S' H' fp, Gr S H S' H' → Own X.gk S' H' a d fp → (∀ b ∈ fp, H b = none ∧ ¬ S' b) → Q (.ref a) H') → t σ H Q
/-- a test -/
structure VT (X : Cx) (e : Expr) (p : Rho → Option Bool) : Prop where
  run : ∃ t, PT X e t ∧ ∀ (S : Set0) (σ : L2.St) (H : Hp) (ρ : Rho) (b : Bool) (Q : Bool → Hp → Prop), Dom S H → Cov X.gk S σ H ρ → p ρ = some b →
    (∀ H', Same H H' → Q b H') → t σ H Q
/-- arguments -/
structure VA (X : Cx) (es : List Expr) (p : Rho → Option (List D)) : Prop where
  run : ∃ t, PA X es t ∧ ∀ (S : Set0) (σ : L2.St) (H : Hp) (ρ : Rho) (ds : List D) (Q : List V → Hp → Prop), Dom S H → Cov X.gk S σ H ρ → p ρ = some ds →
    (∀ vs S' H', Gr S H S' H' → RepL X.gk S' H' vs ds → Q vs H') → t σ H Q
theorem freeze {G : Glob} {S S' : Set0} {H H' : Hp} {a : Addr} {d : D} {fp : List Addr} (g : Gr S H S' H') (o : Own G S' H' a d fp) (hf : ∀ b ∈ fp, H b = none ∧ ¬ S' b) :
    Gr S H (fun b => S' b ∨ b ∈ fp) H' ∧ Rep G (fun b => S' b ∨ b ∈ fp) H' (.ref a) d :=
  ⟨⟨fun b h => .inl (g.le b h), fun b h => by
    rcases h with h | h
    · exact g.new b h
    · exact .inr (hf b h).1, g.same, fun b h => by
    rcases h with h | h
    · exact g.dom b h
    · exact o.there b h⟩, o.rep (fun _ h => .inl h) fun _ h => .inr h⟩
theorem VF.vp {X : Cx} {e : Expr} {p : Fr0} (h : VF X e p) : VP X e p := by
  obtain ⟨t, ht, q⟩ := h.run
  refine ⟨t, ht, fun S σ H ρ d Q hd hc hp k => q S σ H ρ d Q hd hc hp fun a S' H' fp g o hf => ?_⟩
  obtain ⟨g', r⟩ := freeze g o hf
  exact k _ _ _ g' r

section
variable {X : Cx}
/-! ### the smallest -/
def pVar (i : Nat) : Fr0 := fun ρ => match ρ[i]? with | some (.im d) => some d | _ => none
def pC (d : D) : Fr0 := fun _ => some d
theorem vp_var (i : Nat) {x : Str} {pos : Pos} (hN : X.N[i]? = some x := by rfl) (hv : Vis X.env.scope x := by first | exact Or.inl rfl | exact Or.inr (Or.inl rfl) | exact Or.inr (Or.inr rfl)) (hd : (x == ("__debug__" : Str)) = false := by decide)
    (hcd : (x == ("__classdict__" : Str)) = false := by decide) : VP X (.Name x pos) (pVar i) := by
  refine ⟨_, pe_var hN hv hd hcd, fun S σ H ρ d Q dm c hp k => ?_⟩
  unfold pVar at hp
  split at hp
  · rename_i d' e
    cases hp
    obtain ⟨v, h, r⟩ := c.im i _ e
    exact ⟨v, h, k v S H (Gr.refl dm) r⟩
  · cases hp
theorem vp_of {e : Expr} {v : V} {d : D} (h : PE X e (tC v)) (r : ∀ G S H, Rep G S H v d) : VP X e (pC d) :=
  ⟨_, h, fun S σ H ρ d' Q dm c hp k => by
    cases hp
    exact k v S H (Gr.refl dm) (r _ _ _)⟩
theorem vp_int {i : Int} {j pos} : VP X (.Constant (.int i) j pos) (pC (.int i)) := vp_of pe_int fun _ _ _ => .int i
theorem vp_str {i : Str} {j pos} : VP X (.Constant (.str i) j pos) (pC (.str i)) := vp_of pe_str fun _ _ _ => .str i
theorem vp_bl {i : Bool} {j pos} : VP X (.Constant (.bool i) j pos) (pC (.bl i)) := vp_of pe_bl fun _ _ _ => .bl i
theorem vp_non {j pos} : VP X (.Constant .none j pos) (pC .non) := vp_of pe_non fun _ _ _ => .non

/-! ### operators -/
/-- a two-place operation by values, by data -/
def P2 (G : Glob) (r : R2) (g : D → D → Option D) : Prop := ∀ (S : Set0) (H : Hp) (x y : V) (a b d : D) (Q : VK), Dom S H → Rep G S H x a → Rep G S H y b → g a b = some d →
  (∀ v S' H', Gr S H S' H' → Rep G S' H' v d → Q v H') → r x y H Q
def F2 (G : Glob) (r : R2) (g : D → D → Option D) : Prop := ∀ (S : Set0) (H : Hp) (x y : V) (a b d : D) (Q : VK), Dom S H → Rep G S H x a → Rep G S H y b → g a b = some d →
  (∀ a S' H' fp, Gr S H S' H' → Own G S' H' a d fp → (∀ b ∈ fp, H b = none ∧ ¬ S' b) → Q (.ref a) H') → r x y H Q
def p2 (g : D → D → Option D) (pa pb : Fr0) : Fr0 := fun ρ => (pa ρ).bind fun x => (pb ρ).bind fun y => g x y
theorem p2_some {g : D → D → Option D} {pa pb : Fr0} {ρ : Rho} {d : D} (h : p2 g pa pb ρ = some d) : ∃ x y, pa ρ = some x ∧ pb ρ = some y ∧ g x y = some d := by
  unfold p2 at h
  obtain ⟨x, h1, h⟩ := Option.bind_eq_some_iff.mp h
  obtain ⟨y, h2, h⟩ := Option.bind_eq_some_iff.mp h
  exact ⟨x, y, h1, h2, h⟩
theorem run2 {a b : Expr} {pa pb : Fr0} {ta tb : TE} {r : R2} {g : D → D → Option D} {e : Expr} (he : PE X e (tOp r ta tb)) (hr : P2 X.gk r g)
    (ha : ∀ (S : Set0) (σ : L2.St) (H : Hp) (ρ : Rho) (d : D) (Q : VK), Dom S H → Cov X.gk S σ H ρ → pa ρ = some d → (∀ v S' H', Gr S H S' H' → Rep X.gk S' H' v d → Q v H') → ta σ H Q)
    (hb : ∀ (S : Set0) (σ : L2.St) (H : Hp) (ρ : Rho) (d : D) (Q : VK), Dom S H → Cov X.gk S σ H ρ → pb ρ = some d → (∀ v S' H', Gr S H S' H' → Rep X.gk S' H' v d → Q v H') → tb σ H Q) : VP X e (p2 g pa pb) := by
  refine ⟨_, he, fun S σ H ρ d Q dm c hp k => ?_⟩
  obtain ⟨x, y, h1, h2, h3⟩ := p2_some hp
  refine ha S σ H ρ x _ dm c h1 fun v S1 H1 g1 r1 => ?_
  refine hb S1 σ H1 ρ y _ g1.dom (c.gr g1) h2 fun u S2 H2 g2 r2 => ?_
  exact hr S2 H2 v u x y d Q g2.dom (g2.rep r1) r2 h3 fun z S3 H3 g3 r3 => k z S3 H3 ((g1.trans g2).trans g3) r3
theorem run2F {pa pb : Fr0} {ta tb : TE} {r : R2} {g : D → D → Option D} {e : Expr} (he : PE X e (tOp r ta tb)) (hr : F2 X.gk r g)
    (ha : ∀ (S : Set0) (σ : L2.St) (H : Hp) (ρ : Rho) (d : D) (Q : VK), Dom S H → Cov X.gk S σ H ρ → pa ρ = some d → (∀ v S' H', Gr S H S' H' → Rep X.gk S' H' v d → Q v H') → ta σ H Q)
    (hb : ∀ (S : Set0) (σ : L2.St) (H : Hp) (ρ : Rho) (d : D) (Q : VK), Dom S H → Cov X.gk S σ H ρ → pb ρ = some d → (∀ v S' H', Gr S H S' H' → Rep X.gk S' H' v d → Q v H') → tb σ H Q) : VF X e (p2 g pa pb) := by
  refine ⟨_, he, fun S σ H ρ d Q dm c hp k => ?_⟩
  obtain ⟨x, y, h1, h2, h3⟩ := p2_some hp
  refine ha S σ H ρ x _ dm c h1 fun v S1 H1 g1 r1 => ?_
  refine hb S1 σ H1 ρ y _ g1.dom (c.gr g1) h2 fun u S2 H2 g2 r2 => ?_
  refine hr S2 H2 v u x y d Q g2.dom (g2.rep r1) r2 h3 fun z S3 H3 fp g3 o3 hf => ?_
  have g12 := g1.trans g2
  exact k z S3 H3 fp (g12.trans g3) o3 fun b hb => ⟨g12.same.free (hf b hb).1, (hf b hb).2⟩
variable {a b : Expr} {pa pb : Fr0} {pos : Pos} {r : R2} {g : D → D → Option D}
theorem vp_op {op : Operator} (ho : OpR X (binaryOp op) r) (hr : P2 X.gk r g) (ha : VP X a pa) (hb : VP X b pb) : VP X (.BinOp a op b pos) (p2 g pa pb) := by
  obtain ⟨ta, ha, qa⟩ := ha.run
  obtain ⟨tb, hb, qb⟩ := hb.run
  exact run2 (a := a) (b := b) (pe_op ho ha hb) hr qa qb
theorem vf_op {op : Operator} (ho : OpR X (binaryOp op) r) (hr : F2 X.gk r g) (ha : VP X a pa) (hb : VP X b pb) : VF X (.BinOp a op b pos) (p2 g pa pb) := by
  obtain ⟨ta, ha, qa⟩ := ha.run
  obtain ⟨tb, hb, qb⟩ := hb.run
  exact run2F (pe_op ho ha hb) hr qa qb
theorem vp_cmp {op : CmpOp} (ho : OpR X (compareOp op) r) (hr : P2 X.gk r g) (ha : VP X a pa) (hb : VP X b pb) (hm : behindInMarks op b = false) : VP X (.Compare a [op] [b] pos) (p2 g pa pb) := by
  obtain ⟨ta, ha, qa⟩ := ha.run
  obtain ⟨tb, hb, qb⟩ := hb.run
  exact run2 (a := a) (b := b) (pe_cmpR ho ha hb hm) hr qa qb
theorem vp_ix (ho : IxR X r) (hr : P2 X.gk r g) (ha : VP X a pa) (hb : VP X b pb) (hs : PlainIx b) : VP X (.Subscript a b pos) (p2 g pa pb) := by
  obtain ⟨ta, ha, qa⟩ := ha.run
  obtain ⟨tb, hb, qb⟩ := hb.run
  exact run2 (a := a) (b := b) (pe_ix ho ha hb hs) hr qa qb
end
end Vs

set_option Elab.async false
set_option linter.all false
set_option maxRecDepth 100000
set_option maxHeartbeats 4000000
namespace Vs
open PySem L2

/-! ### tests -/
/-- and, or: whatever their whole is -/
structure VW (X : Cx) (e : Expr) (p : Rho → Option Bool) : Prop where
  run : ∃ t, PW X e t ∧ ∀ (S : Set0) (σ : L2.St) (H : Hp) (ρ : Rho) (b : Bool) (Q : Bool → Hp → Prop), Dom S H → Cov X.gk S σ H ρ → p ρ = some b →
    (∀ H', Same H H' → Q b H') → t σ H Q
theorem VW.vt {X : Cx} {e : Expr} {p : Rho → Option Bool} (h : VW X e p) : VT X e p := by
  obtain ⟨t, ht, q⟩ := h.run
  exact ⟨t, ht.pt, q⟩
def asB : Option D → Option Bool
  | some (.bl b) => some b
  | _ => none
theorem asB_some {o : Option D} {b : Bool} (h : asB o = some b) : o = some (.bl b) := by
  unfold asB at h
  split at h
  · cases h; rfl
  · cases h
theorem Rep.bl_inv {G : Glob} {S : Set0} {H : Hp} {v : V} {b : Bool} (r : Rep G S H v (.bl b)) : v = .bl b := by cases r; rfl
theorem Rep.int_inv {G : Glob} {S : Set0} {H : Hp} {v : V} {b : Int} (r : Rep G S H v (.int b)) : v = .int b := by cases r; rfl
theorem Rep.str_inv {G : Glob} {S : Set0} {H : Hp} {v : V} {b : Str} (r : Rep G S H v (.str b)) : v = .str b := by cases r; rfl
theorem Rep.non_inv {G : Glob} {S : Set0} {H : Hp} {v : V} (r : Rep G S H v .non) : v = .non := by cases r; rfl
theorem Cov.same {G : Glob} {S : Set0} {σ : L2.St} {H H' : Hp} {ρ : Rho} (d : Dom S H) (k : Same H H') (c : Cov G S σ H ρ) : Cov G S σ H' ρ := Cov.gr (Gr.heap d k) c
theorem Dom.same {S : Set0} {H H' : Hp} (d : Dom S H) (k : Same H H') : Dom S H' := fun b h => same_there k (d b h)

section
variable {X : Cx} {a b : Expr} {rest : List Expr} {pa pb : Fr0} {qa qb : Rho → Option Bool} {pos : Pos} {r : R2} {g : D → D → Option D}
def tP (p : Fr0) : Rho → Option Bool := fun ρ => asB (p ρ)
theorem vt_val (h : VP X a pa) (he : ∀ whole, isTrue a X.env whole = (do let v ← whole; standAt a.pos; holding [v] (truthy v)) := by intro _; rfl) : VT X a (tP pa) := by
  obtain ⟨t, ht, q⟩ := h.run
  refine ⟨_, pt_val ht he, fun S σ H ρ b Q dm c hp k => ?_⟩
  refine q S σ H ρ (.bl b) _ dm c (asB_some hp) fun v S' H' gr rp => ?_
  exact ⟨b, rp.bl_inv, k H' gr.same⟩
theorem vt_cmp {op : CmpOp} (ho : OpR X (compareOp op) r) (hr : P2 X.gk r g) (ha : VP X a pa) (hb : VP X b pb) (hm : behindInMarks op b = false) : VT X (.Compare a [op] [b] pos) (tP (p2 g pa pb)) := by
  obtain ⟨ta, ha, q1⟩ := ha.run
  obtain ⟨tb, hb, q2⟩ := hb.run
  refine ⟨_, pt_cmpR ho ha hb hm, fun S σ H ρ c Q dm cv hp k => ?_⟩
  obtain ⟨x, y, h1, h2, h3⟩ := p2_some (asB_some hp)
  refine q1 S σ H ρ x _ dm cv h1 fun v S1 H1 g1 r1 => ?_
  refine q2 S1 σ H1 ρ y _ g1.dom (cv.gr g1) h2 fun u S2 H2 g2 r2 => ?_
  exact hr S2 H2 v u x y _ _ g2.dom (g2.rep r1) r2 h3 fun z S3 H3 g3 r3 => ⟨c, r3.bl_inv, k H3 ((g1.trans g2).trans g3).same⟩
def tAnd2 (p q : Rho → Option Bool) : Rho → Option Bool := fun ρ => (p ρ).bind fun c => if c = true then q ρ else some false
def tOr2 (p q : Rho → Option Bool) : Rho → Option Bool := fun ρ => (p ρ).bind fun c => if c = true then some true else q ρ
def tNot1 (p : Rho → Option Bool) : Rho → Option Bool := fun ρ => (p ρ).map fun c => !c
theorem vw_and1 (ha : VT X a qa) : VW X (.BoolOp .And [a] pos) qa := by
  obtain ⟨t, ht, q⟩ := ha.run
  exact ⟨_, pw_and1 ht, q⟩
theorem vw_or1 (ha : VT X a qa) : VW X (.BoolOp .Or [a] pos) qa := by
  obtain ⟨t, ht, q⟩ := ha.run
  exact ⟨_, pw_or1 ht, q⟩
theorem vw_and (ha : VT X a qa) (hb : VW X (.BoolOp .And (b :: rest) pos) qb) : VW X (.BoolOp .And (a :: b :: rest) pos) (tAnd2 qa qb) := by
  obtain ⟨t, ht, q1⟩ := ha.run
  obtain ⟨u, hu, q2⟩ := hb.run
  refine ⟨_, pw_and ht hu, fun S σ H ρ c Q dm cv hp k => ?_⟩
  obtain ⟨d, e1, e2⟩ := Option.bind_eq_some_iff.mp hp
  refine q1 S σ H ρ d _ dm cv e1 fun H1 s1 => ?_
  cases d with
  | true => exact q2 S σ H1 ρ c Q (dm.same s1) (cv.same dm s1) e2 fun H2 s2 => k H2 (s1.trans s2)
  | false => cases e2; exact k H1 s1
theorem vw_or (ha : VT X a qa) (hb : VW X (.BoolOp .Or (b :: rest) pos) qb) : VW X (.BoolOp .Or (a :: b :: rest) pos) (tOr2 qa qb) := by
  obtain ⟨t, ht, q1⟩ := ha.run
  obtain ⟨u, hu, q2⟩ := hb.run
  refine ⟨_, pw_or ht hu, fun S σ H ρ c Q dm cv hp k => ?_⟩
  obtain ⟨d, e1, e2⟩ := Option.bind_eq_some_iff.mp hp
  refine q1 S σ H ρ d _ dm cv e1 fun H1 s1 => ?_
  cases d with
  | true => cases e2; exact k H1 s1
  | false => exact q2 S σ H1 ρ c Q (dm.same s1) (cv.same dm s1) e2 fun H2 s2 => k H2 (s1.trans s2)
theorem vt_not (ha : VT X a qa) : VT X (.UnaryOp .Not a pos) (tNot1 qa) := by
  obtain ⟨t, ht, q⟩ := ha.run
  refine ⟨_, pt_not ht, fun S σ H ρ c Q dm cv hp k => ?_⟩
  obtain ⟨d, e1, e2⟩ := Option.map_eq_some_iff.mp hp
  subst e2
  exact q S σ H ρ d _ dm cv e1 fun H1 s1 => k H1 s1
/-! .. as values -/
def pAnd (p q : Fr0) : Fr0 := fun ρ => (asB (p ρ)).bind fun c => if c = true then q ρ else some (.bl false)
def pOr (p q : Fr0) : Fr0 := fun ρ => (asB (p ρ)).bind fun c => if c = true then some (.bl true) else q ρ
def pNot (p : Fr0) : Fr0 := fun ρ => (asB (p ρ)).map fun c => .bl (!c)
theorem vp_one {op} (h : VP X a pa) : VP X (.BoolOp op [a] pos) pa := by
  obtain ⟨t, ht, q⟩ := h.run
  exact ⟨_, pe_one ht, q⟩
theorem vp_and (ha : VP X a pa) (hb : VP X (.BoolOp .And (b :: rest) pos) pb) : VP X (.BoolOp .And (a :: b :: rest) pos) (pAnd pa pb) := by
  obtain ⟨t, ht, q1⟩ := ha.run
  obtain ⟨u, hu, q2⟩ := hb.run
  refine ⟨_, pe_and ht hu, fun S σ H ρ c Q dm cv hp k => ?_⟩
  obtain ⟨d, e1, e2⟩ := Option.bind_eq_some_iff.mp hp
  refine q1 S σ H ρ _ _ dm cv (asB_some e1) fun v S1 H1 g1 r1 => ⟨d, r1.bl_inv, ?_⟩
  cases d with
  | true => exact q2 S1 σ H1 ρ c Q g1.dom (cv.gr g1) e2 fun v S2 H2 g2 r2 => k v S2 H2 (g1.trans g2) r2
  | false => cases e2; exact k _ S1 H1 g1 (.bl false)
theorem vp_or (ha : VP X a pa) (hb : VP X (.BoolOp .Or (b :: rest) pos) pb) : VP X (.BoolOp .Or (a :: b :: rest) pos) (pOr pa pb) := by
  obtain ⟨t, ht, q1⟩ := ha.run
  obtain ⟨u, hu, q2⟩ := hb.run
  refine ⟨_, pe_or ht hu, fun S σ H ρ c Q dm cv hp k => ?_⟩
  obtain ⟨d, e1, e2⟩ := Option.bind_eq_some_iff.mp hp
  refine q1 S σ H ρ _ _ dm cv (asB_some e1) fun v S1 H1 g1 r1 => ⟨d, r1.bl_inv, ?_⟩
  cases d with
  | true => cases e2; exact k _ S1 H1 g1 (.bl true)
  | false => exact q2 S1 σ H1 ρ c Q g1.dom (cv.gr g1) e2 fun v S2 H2 g2 r2 => k v S2 H2 (g1.trans g2) r2
theorem vp_not (ha : VP X a pa) : VP X (.UnaryOp .Not a pos) (pNot pa) := by
  obtain ⟨t, ht, q⟩ := ha.run
  refine ⟨_, pe_not ht, fun S σ H ρ c Q dm cv hp k => ?_⟩
  obtain ⟨d, e1, e2⟩ := Option.map_eq_some_iff.mp hp
  subst e2
  exact q S σ H ρ _ _ dm cv (asB_some e1) fun v S1 H1 g1 r1 => ⟨d, r1.bl_inv, k _ S1 H1 g1 (.bl _)⟩
def pIf (t : Rho → Option Bool) (p q : Fr0) : Fr0 := fun ρ => (t ρ).bind fun c => if c = true then p ρ else q ρ
theorem vp_if {c : Expr} {qc : Rho → Option Bool} (hc : VT X c qc) (ha : VP X a pa) (hb : VP X b pb) : VP X (.IfExp c a b pos) (pIf qc pa pb) := by
  obtain ⟨t, ht, q0⟩ := hc.run
  obtain ⟨u, hu, q1⟩ := ha.run
  obtain ⟨w, hw, q2⟩ := hb.run
  refine ⟨_, pe_ifExp ht hu hw, fun S σ H ρ x Q dm cv hp k => ?_⟩
  obtain ⟨d, e1, e2⟩ := Option.bind_eq_some_iff.mp hp
  refine q0 S σ H ρ d _ dm cv e1 fun H1 s1 => ?_
  have gr := Gr.heap dm s1
  cases d with
  | true => exact q1 S σ H1 ρ x Q (dm.same s1) (cv.same dm s1) e2 fun v S2 H2 g2 r2 => k v S2 H2 (gr.trans g2) r2
  | false => exact q2 S σ H1 ρ x Q (dm.same s1) (cv.same dm s1) e2 fun v S2 H2 g2 r2 => k v S2 H2 (gr.trans g2) r2
/-- a < b < c -/
def pChain (g g' : D → D → Option D) (pa pb pc : Fr0) : Fr0 := fun ρ => (pa ρ).bind fun x => (pb ρ).bind fun y => (asB (g x y)).bind fun k => if k = true then (pc ρ).bind fun z => g' y z else some (.bl false)
theorem vp_chain {c : Expr} {pc : Fr0} {op op' : CmpOp} {r' : R2} {g' : D → D → Option D} (ho : OpR X (compareOp op) r) (hr : P2 X.gk r g) (ho' : OpR X (compareOp op') r') (hr' : P2 X.gk r' g') (ha : VP X a pa) (hb : VP X b pb) (hc : VP X c pc) (hm : lastMarks [op, op'] [b, c] = false := by rfl) :
    VP X (.Compare a [op, op'] [b, c] pos) (pChain g g' pa pb pc) := by
  obtain ⟨ta, ha, q1⟩ := ha.run
  obtain ⟨tb, hb, q2⟩ := hb.run
  obtain ⟨tc, hc, q3⟩ := hc.run
  refine ⟨_, pe_chain ho ho' ha hb hc hm, fun S σ H ρ d Q dm cv hp k => ?_⟩
  obtain ⟨x, e1, hp⟩ := Option.bind_eq_some_iff.mp hp
  obtain ⟨y, e2, hp⟩ := Option.bind_eq_some_iff.mp hp
  obtain ⟨z, e3, hp⟩ := Option.bind_eq_some_iff.mp hp
  refine q1 S σ H ρ x _ dm cv e1 fun v S1 H1 g1 r1 => ?_
  refine q2 S1 σ H1 ρ y _ g1.dom (cv.gr g1) e2 fun u S2 H2 g2 r2 => ?_
  refine hr S2 H2 v u x y _ _ g2.dom (g2.rep r1) r2 (asB_some e3) fun w S3 H3 g3 r3 => ⟨z, r3.bl_inv, ?_⟩
  have g123 := (g1.trans g2).trans g3
  cases z with
  | false => cases hp; exact k _ S3 H3 g123 (.bl false)
  | true =>
    obtain ⟨x3, e4, e5⟩ := Option.bind_eq_some_iff.mp hp
    refine q3 S3 σ H3 ρ x3 _ g3.dom (cv.gr g123) e4 fun v4 S4 H4 g4 r4 => ?_
    exact hr' S4 H4 u v4 y x3 d Q g4.dom (g4.rep (g3.rep r2)) r4 e5 fun v5 S5 H5 g5 r5 => k v5 S5 H5 ((g123.trans g4).trans g5) r5
theorem vt_chain {c : Expr} {pc : Fr0} {op op' : CmpOp} {r' : R2} {g' : D → D → Option D} (ho : OpR X (compareOp op) r) (hr : P2 X.gk r g) (ho' : OpR X (compareOp op') r') (hr' : P2 X.gk r' g') (ha : VP X a pa) (hb : VP X b pb) (hc : VP X c pc) (hm : lastMarks [op, op'] [b, c] = false := by rfl) :
    VT X (.Compare a [op, op'] [b, c] pos) (tP (pChain g g' pa pb pc)) := by
  obtain ⟨ta, ha, q1⟩ := ha.run
  obtain ⟨tb, hb, q2⟩ := hb.run
  obtain ⟨tc, hc, q3⟩ := hc.run
  refine ⟨_, pt_chain ho ho' ha hb hc hm, fun S σ H ρ d Q dm cv hp k => ?_⟩
  obtain ⟨x, e1, hp⟩ := Option.bind_eq_some_iff.mp (asB_some hp)
  obtain ⟨y, e2, hp⟩ := Option.bind_eq_some_iff.mp hp
  obtain ⟨z, e3, hp⟩ := Option.bind_eq_some_iff.mp hp
  refine q1 S σ H ρ x _ dm cv e1 fun v S1 H1 g1 r1 => ?_
  refine q2 S1 σ H1 ρ y _ g1.dom (cv.gr g1) e2 fun u S2 H2 g2 r2 => ?_
  refine hr S2 H2 v u x y _ _ g2.dom (g2.rep r1) r2 (asB_some e3) fun w S3 H3 g3 r3 => ⟨z, r3.bl_inv, ?_⟩
  have g123 := (g1.trans g2).trans g3
  cases z with
  | false => cases hp; exact ⟨false, rfl, k H3 g123.same⟩
  | true =>
    obtain ⟨x3, e4, e5⟩ := Option.bind_eq_some_iff.mp hp
    refine q3 S3 σ H3 ρ x3 _ g3.dom (cv.gr g123) e4 fun v4 S4 H4 g4 r4 => ?_
    exact hr' S4 H4 u v4 y x3 _ _ g4.dom (g4.rep (g3.rep r2)) r4 e5 fun v5 S5 H5 g5 r5 => ⟨d, r5.bl_inv, k H5 ((g123.trans g4).trans g5).same⟩

/-! ### arguments, displays, calls -/
variable {e : Expr} {es : List Expr} {ps : Rho → Option (List D)}
def aNil : Rho → Option (List D) := fun _ => some []
def aCons (p : Fr0) (q : Rho → Option (List D)) : Rho → Option (List D) := fun ρ => (p ρ).bind fun x => (q ρ).bind fun l => some (x :: l)
theorem va_nil : VA X [] aNil := ⟨_, pa_nil, fun S σ H ρ ds Q dm cv hp k => by cases hp; exact k [] S H (Gr.refl dm) .nil⟩
theorem va_cons (he : VP X e pa) (hr : VA X es ps) (hs : starEach (e :: es) X.env = (false, eval e X.env) :: starEach es X.env := by rfl) : VA X (e :: es) (aCons pa ps) := by
  obtain ⟨t, ht, q1⟩ := he.run
  obtain ⟨u, hu, q2⟩ := hr.run
  refine ⟨_, pa_cons ht hu hs, fun S σ H ρ ds Q dm cv hp k => ?_⟩
  obtain ⟨x, e1, hp⟩ := Option.bind_eq_some_iff.mp hp
  obtain ⟨l, e2, hp⟩ := Option.bind_eq_some_iff.mp hp
  cases hp
  refine q1 S σ H ρ x _ dm cv e1 fun v S1 H1 g1 r1 => ?_
  exact q2 S1 σ H1 ρ l _ g1.dom (cv.gr g1) e2 fun vs S2 H2 g2 r2 => k (v :: vs) S2 H2 (g1.trans g2) (.cons (g2.rep r1) r2)
theorem RepL.len {G : Glob} {S : Set0} {H : Hp} : ∀ {vs : List V} {ds : List D}, RepL G S H vs ds → vs.length = ds.length
  | _, _, .nil => rfl
  | _, _, .cons _ l => congrArg (· + 1) (RepL.len l)
/-- a written tuple -/
def pTup (ps : Rho → Option (List D)) : Fr0 := fun ρ => (ps ρ).bind fun l => if l.length ≤ 100000 then some (.tup l) else none
def pLst (ps : Rho → Option (List D)) : Fr0 := fun ρ => (ps ρ).bind fun l => if l.length ≤ 100000 then some (.lst l) else none
theorem line5 {n : Nat} (h : n ≤ 100000) : n ≤ sizeLine := Nat.le_trans h (by decide)
def tTupB (t : TA) : TE := fun σ H Q => t σ H fun xs H1 => xs.length ≤ sizeLine ∧ ∀ p o, o.dict = none → H1 p = none → Q (.ref p) (upd H1 p (.frz o (.tup xs)))
theorem pe_tupB {t : TA} {k1} (h : PA X es t) : PE X (.Tuple es k1 pos) (tTupB t) := by
  refine ⟨fun pins s σ H Q I hq => wpAny_Tuple_spliced (thn (h.run pos pins s σ H _ I hq) fun us s1 ⟨xs, H1, I1, r, z, q⟩ => ⟨by rw [← r.length]; exact z, ?_⟩)⟩
  have np : H1 s1.heap.objs.size = none := I1.hok.fresh (Nat.le_refl _)
  refine ⟨.ref s1.heap.objs.size, upd H1 s1.heap.objs.size (.frz { cls := .type "tuple", data := .seq us.toArray } (.tup xs)), I1.laid (t' := s1.toks) (fun b u e => Heap.get?_push_of_some _ e) (Nat.le_refl _) ?_, rfl, q _ _ rfl np⟩
  exact ⟨Heap.get?_push_size _ rfl, z, us, r, ⟨_, Heap.get?_push_size _ rfl, rfl, _, rfl⟩⟩
theorem vp_tup {k1} (h : VA X es ps) : VP X (.Tuple es k1 pos) (pTup ps) := by
  obtain ⟨t, ht, q⟩ := h.run
  refine ⟨_, pe_tupB ht, fun S σ H ρ d Q dm cv hp k => ?_⟩
  obtain ⟨l, e1, hp⟩ := Option.bind_eq_some_iff.mp hp
  split at hp
  · rename_i hl
    cases hp
    refine q S σ H ρ l _ dm cv e1 fun vs S1 H1 g1 r1 => ⟨line5 (by rw [r1.len]; exact hl), fun p o ob np => ?_⟩
    have ga := Gr.add (o := .frz o (.tup vs)) g1.dom np
    exact k (.ref p) _ _ (g1.trans ga) (.tup (.inr rfl) (.ofT ob upd_same) (ga.repL r1))
  · cases hp
theorem vf_lst (h : VA X es ps) : VF X (.List es pos) (pLst ps) := by
  obtain ⟨t, ht, q⟩ := h.run
  refine ⟨_, pe_lst ht, fun S σ H ρ d Q dm cv hp k => ?_⟩
  obtain ⟨l, e1, hp⟩ := Option.bind_eq_some_iff.mp hp
  split at hp
  · rename_i hl
    cases hp
    refine q S σ H ρ l _ dm cv e1 fun vs S1 H1 g1 r1 => ⟨line5 (by rw [r1.len]; exact hl), fun p np => ?_⟩
    have ga := Gr.heap g1.dom (same_new (o := .lst vs) np)
    refine k p _ _ [p] (g1.trans ga) (.lst upd_same (ga.repL r1)) fun b hb => ?_
    obtain rfl := List.mem_singleton.mp hb
    exact ⟨g1.same.free np, fun z => g1.dom _ z np⟩
  · cases hp
/-- a call by values, by data -/
def PC1 (G : Glob) (r : List V → Hp → VK → Prop) (g : List D → Option D) : Prop := ∀ (S : Set0) (H : Hp) (vs : List V) (ds : List D) (d : D) (Q : VK), Dom S H → RepL G S H vs ds → g ds = some d →
  (∀ v S' H', Gr S H S' H' → Rep G S' H' v d → Q v H') → r vs H Q
def FC1 (G : Glob) (r : List V → Hp → VK → Prop) (g : List D → Option D) : Prop := ∀ (S : Set0) (H : Hp) (vs : List V) (ds : List D) (d : D) (Q : VK), Dom S H → RepL G S H vs ds → g ds = some d →
  (∀ a S' H' fp, Gr S H S' H' → Own G S' H' a d fp → (∀ b ∈ fp, H b = none ∧ ¬ S' b) → Q (.ref a) H') → r vs H Q
def pCall (g : List D → Option D) (ps : Rho → Option (List D)) : Fr0 := fun ρ => (ps ρ).bind g
theorem callP {t : TA} {rc : List V → Hp → VK → Prop} {gc : List D → Option D} (hr : PC1 X.gk rc gc) (ht : PE X e (tCB rc t))
    (q : ∀ (S : Set0) (σ : L2.St) (H : Hp) (ρ : Rho) (ds : List D) (Q : List V → Hp → Prop), Dom S H → Cov X.gk S σ H ρ → ps ρ = some ds → (∀ vs S' H', Gr S H S' H' → RepL X.gk S' H' vs ds → Q vs H') → t σ H Q) : VP X e (pCall gc ps) := by
  refine ⟨_, ht, fun S σ H ρ d Q dm cv hp k => ?_⟩
  obtain ⟨l, e1, hp⟩ := Option.bind_eq_some_iff.mp hp
  refine q S σ H ρ l _ dm cv e1 fun vs S1 H1 g1 r1 => ?_
  exact hr S1 H1 vs l d Q g1.dom r1 hp fun v S2 H2 g2 r2 => k v S2 H2 (g1.trans g2) r2
theorem callF {t : TA} {rc : List V → Hp → VK → Prop} {gc : List D → Option D} (hr : FC1 X.gk rc gc) (ht : PE X e (tCB rc t))
    (q : ∀ (S : Set0) (σ : L2.St) (H : Hp) (ρ : Rho) (ds : List D) (Q : List V → Hp → Prop), Dom S H → Cov X.gk S σ H ρ → ps ρ = some ds → (∀ vs S' H', Gr S H S' H' → RepL X.gk S' H' vs ds → Q vs H') → t σ H Q) : VF X e (pCall gc ps) := by
  refine ⟨_, ht, fun S σ H ρ d Q dm cv hp k => ?_⟩
  obtain ⟨l, e1, hp⟩ := Option.bind_eq_some_iff.mp hp
  refine q S σ H ρ l _ dm cv e1 fun vs S1 H1 g1 r1 => ?_
  exact hr S1 H1 vs l d Q g1.dom r1 hp fun v S2 H2 fp g2 r2 hf => k v S2 H2 fp (g1.trans g2) r2 fun b hb => ⟨g1.same.free (hf b hb).1, (hf b hb).2⟩
variable {rc : List V → Hp → VK → Prop} {gc : List D → Option D} {x : Str} {p : Pos} {id : String}
theorem vp_callB (hc : CallR X (.builtin id) rc) (hr : PC1 X.gk rc gc) (hg : Gl X x) (hm : X.mg x = none) (hv : bootBuiltins x = some (.builtin id)) (ha : VA X (e :: es) ps) (hn : x ≠ "__name__" := by decide) (hdb : (x == ("__debug__" : Str)) = false := by decide)
    (he : starEach (e :: es) X.env = (false, eval e X.env) :: starEach es X.env := by rfl) (hpl : (backTo pos (starEach es X.env)).any (·.1) = false := by rfl) : VP X (.Call (.Name x p) (e :: es) [] pos) (pCall gc ps) := by
  obtain ⟨t, ht, q⟩ := ha.run
  exact callP hr (pe_callB hc hg hm hv ht hn hdb he hpl) q
theorem vf_callB (hc : CallR X (.builtin id) rc) (hr : FC1 X.gk rc gc) (hg : Gl X x) (hm : X.mg x = none) (hv : bootBuiltins x = some (.builtin id)) (ha : VA X (e :: es) ps) (hn : x ≠ "__name__" := by decide) (hdb : (x == ("__debug__" : Str)) = false := by decide)
    (he : starEach (e :: es) X.env = (false, eval e X.env) :: starEach es X.env := by rfl) (hpl : (backTo pos (starEach es X.env)).any (·.1) = false := by rfl) : VF X (.Call (.Name x p) (e :: es) [] pos) (pCall gc ps) := by
  obtain ⟨t, ht, q⟩ := ha.run
  exact callF hr (pe_callB hc hg hm hv ht hn hdb he hpl) q
theorem vp_callTy (hc : CallR X (.type id) rc) (hr : PC1 X.gk rc gc) (hg : Gl X x) (hm : X.mg x = none) (hv : bootBuiltins x = some (.type id)) (ha : VA X (e :: es) ps) (hn : x ≠ "__name__" := by decide) (hdb : (x == ("__debug__" : Str)) = false := by decide)
    (he : starEach (e :: es) X.env = (false, eval e X.env) :: starEach es X.env := by rfl) (hpl : (backTo pos (starEach es X.env)).any (·.1) = false := by rfl) : VP X (.Call (.Name x p) (e :: es) [] pos) (pCall gc ps) := by
  obtain ⟨t, ht, q⟩ := ha.run
  exact callP hr (pe_callTy hc hg hm hv ht hn hdb he hpl) q
theorem vf_callTy (hc : CallR X (.type id) rc) (hr : FC1 X.gk rc gc) (hg : Gl X x) (hm : X.mg x = none) (hv : bootBuiltins x = some (.type id)) (ha : VA X (e :: es) ps) (hn : x ≠ "__name__" := by decide) (hdb : (x == ("__debug__" : Str)) = false := by decide)
    (he : starEach (e :: es) X.env = (false, eval e X.env) :: starEach es X.env := by rfl) (hpl : (backTo pos (starEach es X.env)).any (·.1) = false := by rfl) : VF X (.Call (.Name x p) (e :: es) [] pos) (pCall gc ps) := by
  obtain ⟨t, ht, q⟩ := ha.run
  exact callF hr (pe_callTy hc hg hm hv ht hn hdb he hpl) q
end
end Vs

set_option Elab.async false
set_option linter.all false
set_option maxRecDepth 100000
set_option maxHeartbeats 4000000
namespace Vs
open PySem L2

/-! ### the state of a def that runs: S what stands still, F what belongs to others and stays, N what is only lent -/
/-- what is lent: the objects, and which slot holds which -/
structure Lnt where
  set : Set0
  at_ : Nat → Addr
instance : CoeFun Lnt (fun _ => Addr → Prop) := ⟨Lnt.set⟩
structure Sim (G : Glob) (F : Set0) (N : Lnt) (S : Set0) (σ : L2.St) (H : Hp) (ρ : Rho) (fp : Nat → List Addr) : Prop where
  len : σ.length = ρ.length
  im : Cov0 G S σ H ρ
  ow : ∀ (i : Nat) (s : Sl) (d : D), ρ[i]? = some s → s.own? = some d → ∃ a, σ[i]? = some (some (V.ref a)) ∧ Own G S H a d (fp i) ∧ ∀ b ∈ fp i, ¬ S b ∧ ¬ F b
  no : ∀ (i : Nat) (d : D), ρ[i]? = some (Sl.ow d) → ∀ b ∈ fp i, ¬ N b
  sep : ∀ (i j : Nat) (s t : Sl) (d e : D), i ≠ j → ρ[i]? = some s → s.own? = some d → ρ[j]? = some t → t.own? = some e → ∀ b ∈ fp i, b ∉ fp j
  dom : ∀ b, S b ∨ F b ∨ N b → H b ≠ none
  off : ∀ b, S b → ¬ F b ∧ ¬ N b
  lent : ∀ (i : Nat) (d : D), ρ[i]? = some (Sl.mu d) → σ[i]? = some (some (V.ref (N.at_ i)))
/-- behind a step -/
structure Nx (G : Glob) (F : Set0) (N : Lnt) (S : Set0) (H : Hp) (S' : Set0) (H' : Hp) (σ' : L2.St) (ρ' : Rho) : Prop where
  le : ∀ b, S b → S' b
  kept : ∀ b, S b ∨ F b → H' b = H b
  grow : ∀ b, H b ≠ none → H' b ≠ none
  sim : ∃ fp, Sim G F N S' σ' H' ρ' fp
/-- .. with a new object at hand -/
structure NxO (G : Glob) (F : Set0) (N : Lnt) (S : Set0) (H : Hp) (S' : Set0) (H' : Hp) (σ' : L2.St) (ρ' : Rho) (a : Addr) (d : D) : Prop where
  le : ∀ b, S b → S' b
  kept : ∀ b, S b ∨ F b → H' b = H b
  grow : ∀ b, H b ≠ none → H' b ≠ none
  sim : ∃ fp fa, Sim G F N S' σ' H' ρ' fp ∧ Own G S' H' a d fa ∧ (∀ b ∈ fa, ¬ S' b ∧ ¬ F b ∧ ¬ N b) ∧ ∀ (i : Nat) (s : Sl) (e : D), ρ'[i]? = some s → s.own? = some e → ∀ b ∈ fa, b ∉ fp i
section
variable {G : Glob} {F : Set0} {N : Lnt} {S S' S'' : Set0} {σ σ' σ'' : L2.St} {H H' H'' : Hp} {ρ ρ' ρ'' : Rho} {fp : Nat → List Addr} {d : D} {a : Addr}
theorem Nx.refl (s : Sim G F N S σ H ρ fp) : Nx G F N S H S H σ ρ := ⟨fun _ h => h, fun _ _ => rfl, fun _ h => h, fp, s⟩
theorem Nx.trans (x : Nx G F N S H S' H' σ' ρ') (y : Nx G F N S' H' S'' H'' σ'' ρ'') : Nx G F N S H S'' H'' σ'' ρ'' :=
  ⟨fun b h => y.le b (x.le b h), fun b h => (y.kept b (h.imp (x.le b) id)).trans (x.kept b h), fun b h => y.grow b (x.grow b h), y.sim⟩
theorem Nx.transO (x : Nx G F N S H S' H' σ' ρ') (y : NxO G F N S' H' S'' H'' σ'' ρ'' a d) : NxO G F N S H S'' H'' σ'' ρ'' a d :=
  ⟨fun b h => y.le b (x.le b h), fun b h => (y.kept b (h.imp (x.le b) id)).trans (x.kept b h), fun b h => y.grow b (x.grow b h), y.sim⟩
theorem Nx.rep (x : Nx G F N S H S' H' σ' ρ') {v : V} (r : Rep G S H v d) : Rep G S' H' v d := Rep.mono x.le (fun b u hb r => Rd.eq (x.kept b (.inl hb)) r) d v r
theorem Nx.repL (x : Nx G F N S H S' H' σ' ρ') {v : List V} {ds : List D} (r : RepL G S H v ds) : RepL G S' H' v ds := RepL.mono x.le (fun b u hb r => Rd.eq (x.kept b (.inl hb)) r) ds v r
theorem Sim.cov (s : Sim G F N S σ H ρ fp) : Cov G S σ H ρ := ⟨Nat.le_of_eq s.len.symm, s.im⟩
theorem Sim.domS (s : Sim G F N S σ H ρ fp) : Dom S H := fun b h => s.dom b (.inl h)
/-- the heap has grown by new objects, the set by some of them -/
theorem Sim.grow (s : Sim G F N S σ H ρ fp) (g : Gr S H S' H') : Sim G F N S' σ H' ρ fp where
  len := s.len
  im := fun i d e =>
    let ⟨v, h, r⟩ := s.im i d e
    ⟨v, h, g.rep r⟩
  ow := fun i t d e h => by
    obtain ⟨a, e1, o, n⟩ := s.ow i t d e h
    refine ⟨a, e1, g.own o, fun b hb => ⟨fun z => ?_, (n b hb).2⟩⟩
    rcases g.new b z with z | z
    · exact (n b hb).1 z
    · exact o.there b hb z
  no := s.no
  sep := s.sep
  dom := fun b h => by
    rcases h with h | h
    · exact g.dom b h
    · exact same_there g.same (s.dom b (.inr h))
  off := fun b h => by
    rcases g.new b h with h | h
    · exact s.off b h
    · exact ⟨fun z => s.dom b (.inr (.inl z)) h, fun z => s.dom b (.inr (.inr z)) h⟩
  lent := s.lent
theorem Nx.of_gr (s : Sim G F N S σ H ρ fp) (g : Gr S H S' H') : Nx G F N S H S' H' σ ρ :=
  ⟨g.le, fun b h => same_eq g.same (s.dom b (h.imp id .inl)), fun b h => same_there g.same h, fp, s.grow g⟩
theorem Sim.same (s : Sim G F N S σ H ρ fp) (k : Same H H') : Sim G F N S σ H' ρ fp := s.grow (Gr.heap s.domS k)
theorem Nx.of_same (s : Sim G F N S σ H ρ fp) (k : Same H H') : Nx G F N S H S H' σ ρ := Nx.of_gr s (Gr.heap s.domS k)
theorem NxO.of_gr {fa : List Addr} (s : Sim G F N S σ H ρ fp) (g : Gr S H S' H') (o : Own G S' H' a d fa) (hf : ∀ b ∈ fa, H b = none ∧ ¬ S' b) : NxO G F N S H S' H' σ ρ a d := by
  obtain ⟨x1, x2, x3, _⟩ := Nx.of_gr s g
  refine ⟨x1, x2, x3, fp, fa, s.grow g, o, fun b hb => ⟨(hf b hb).2, fun z => s.dom b (.inr (.inl z)) (hf b hb).1, fun z => s.dom b (.inr (.inr z)) (hf b hb).1⟩, fun i t e h1 h2 b hb z => ?_⟩
  obtain ⟨_, _, o', _⟩ := s.ow i t e h1 h2
  exact o'.there b z (hf b hb).1
/-- the new object is given away -/
theorem NxO.nx (x : NxO G F N S H S' H' σ' ρ' a d) : ∃ S'', Nx G F N S H S'' H' σ' ρ' ∧ Rep G S'' H' (.ref a) d := by
  obtain ⟨x1, x2, x3, fp, fa, s, o, hf, hs⟩ := x
  refine ⟨fun b => S' b ∨ b ∈ fa, ⟨fun b h => .inl (x1 b h), x2, x3, fp, ⟨s.len, fun i e h => ?_, fun i t e h1 h2 => ?_, s.no, s.sep, fun b h => ?_, fun b h => ?_, s.lent⟩⟩, o.rep (fun _ h => .inl h) fun _ h => .inr h⟩
  · obtain ⟨v, h1, r⟩ := s.im i e h
    exact ⟨v, h1, Rep.mono (fun _ h => .inl h) (fun _ _ _ r => r) _ _ r⟩
  · obtain ⟨b, h3, o', n⟩ := s.ow i t e h1 h2
    refine ⟨b, h3, o'.mono (fun _ h => .inl h) (fun _ _ _ r => r) (fun _ _ => rfl), fun c hc => ⟨fun z => ?_, (n c hc).2⟩⟩
    rcases z with z | z
    · exact (n c hc).1 z
    · exact hs i t e h1 h2 c z hc
  · rcases h with (h | h) | h
    · exact s.dom b (.inl h)
    · exact o.there b h
    · exact s.dom b (.inr h)
  · rcases h with h | h
    · exact s.off b h
    · exact (hf b h).2
end

/-! ### what is frozen for a while -/
def D.scal : D → Bool
  | .non | .bl _ | .int _ | .str _ => true
  | _ => false
theorem Rep.scal {G : Glob} {S S' : Set0} {H H' : Hp} {v : V} {d : D} (h : d.scal = true) (r : Rep G S H v d) : Rep G S' H' v d := by
  cases r with
  | non => exact .non
  | bl b => exact .bl b
  | int i => exact .int i
  | str x => exact .str x
  | lst _ _ _ => cases h
  | tup _ _ _ => cases h
  | tpl _ _ _ => cases h
  | scr _ => cases h
  | dct _ _ _ => cases h
  | ins _ _ _ _ => cases h
def D.flat : D → Bool
  | .lst ds => ds.all D.scal
  | .dct ds => ds.all fun p => p.2.scal
  | _ => false
theorem RepL.scal {G : Glob} {S S' : Set0} {H H' : Hp} : ∀ {vs : List V} {ds : List D}, ds.all D.scal = true → RepL G S H vs ds → RepL G S' H' vs ds
  | _, _, _, .nil => .nil
  | _, _, h, .cons r l => by
    rw [List.all_cons, Bool.and_eq_true] at h
    exact .cons (r.scal h.1) (RepL.scal h.2 l)
theorem RepK.scal {G : Glob} {S S' : Set0} {H H' : Hp} : ∀ {vs : List (Key × V)} {ds : List (Key × D)}, (ds.all fun p => p.2.scal) = true → RepK G S H vs ds → RepK G S' H' vs ds
  | _, _, _, .nil => .nil
  | _, _, h, .cons r l => by
    rw [List.all_cons, Bool.and_eq_true] at h
    exact .cons (r.scal h.1) (RepK.scal h.2 l)
theorem Own.flat {G : Glob} {S S' : Set0} {H : Hp} {a : Addr} {d : D} {fa : List Addr} (h : d.flat = true) (o : Own G S H a d fa) : Own G S' H a d fa := by
  cases o with
  | lst e l => exact .lst e (l.scal h)
  | dct e l => exact .dct e (l.scal h)
  | ins _ _ _ => cases h
/-- all that the slots hold stands still -/
def Sall (S : Set0) (ρ : Rho) (fp : Nat → List Addr) : Set0 := fun b => S b ∨ ∃ (i : Nat) (s : Sl) (d : D), ρ[i]? = some s ∧ s.own? = some d ∧ b ∈ fp i
section
variable {G : Glob} {F : Set0} {N : Lnt} {S : Set0} {σ : L2.St} {H : Hp} {ρ : Rho} {fp : Nat → List Addr}
theorem Sim.all_dom (s : Sim G F N S σ H ρ fp) : Dom (Sall S ρ fp) H := fun b h => by
  rcases h with h | ⟨i, t, d, h1, h2, h3⟩
  · exact s.domS b h
  · obtain ⟨_, _, o, _⟩ := s.ow i t d h1 h2
    exact o.there b h3
theorem Sim.all_cov (s : Sim G F N S σ H ρ fp) : Cov G (Sall S ρ fp) σ H (frz ρ) := ⟨by rw [List.length_map]; exact Nat.le_of_eq s.len.symm, fun i d h => by
  rw [List.getElem?_map] at h
  cases e : ρ[i]? with
  | none => rw [e] at h; cases h
  | some t =>
    rw [e] at h
    have h : some t.frz = some (Sl.im d) := h
    have h := Option.some.inj h
    have owns : t.own? = some d → ∃ v, σ[i]? = some (some v) ∧ Rep G (Sall S ρ fp) H v d := fun w => by
      obtain ⟨a, h1, o, _⟩ := s.ow i t d e w
      exact ⟨_, h1, o.rep (fun _ h => .inl h) fun b hb => .inr ⟨i, t, d, e, w, hb⟩⟩
    cases t with
    | un => cases h
    | im d' =>
      cases h
      obtain ⟨v, h1, r⟩ := s.im i d e
      exact ⟨v, h1, Rep.mono (fun _ h => .inl h) (fun _ _ _ r => r) _ _ r⟩
    | ow d' => cases h; exact owns rfl
    | mu d' => cases h; exact owns rfl⟩
end

/-! ### expressions that may change what is ours, or raise -/
/-- an exception: its class, its attributes where it has an own __init__ -/
structure Exn where
  c : Str
  fs : Option (List (Str × D)) := none
inductive ExR (G : Glob) (S : Set0) (H : Hp) : Option (List (Str × D)) → Option Addr → Prop
  | none : ExR G S H none none
  | some {a : Addr} {vs : List (Str × V)} {ds : List (Str × D)} : H a = some (.xd vs) → RepF G S H vs ds → ExR G S H (some ds) (some a)
abbrev M0 (α : Type) := Rho → Option (Except Exn α × Rho)
def PoE (G : Glob) (E : XK) (F : Set0) (N : Lnt) (S : Set0) (σ : L2.St) (H : Hp) (Q : VK) : Except Exn D × Rho → Prop
  | (.ok d, ρ') => ∀ v S' H', Nx G F N S H S' H' σ ρ' → Rep G S' H' v d → Q v H'
  | (.error x, ρ') => ∀ C dd S' H', Nx G F N S H S' H' σ ρ' → G x.c = some (.ref C) → ExR G S' H' x.fs dd → E (.ref C) dd H'
def PoO (G : Glob) (E : XK) (F : Set0) (N : Lnt) (S : Set0) (σ : L2.St) (H : Hp) (Q : VK) : Except Exn D × Rho → Prop
  | (.ok d, ρ') => ∀ a S' H', NxO G F N S H S' H' σ ρ' a d → Q (.ref a) H'
  | (.error x, ρ') => ∀ C dd S' H', Nx G F N S H S' H' σ ρ' → G x.c = some (.ref C) → ExR G S' H' x.fs dd → E (.ref C) dd H'
def PoT (G : Glob) (E : XK) (F : Set0) (N : Lnt) (S : Set0) (σ : L2.St) (H : Hp) (Q : Bool → Hp → Prop) : Except Exn Bool × Rho → Prop
  | (.ok d, ρ') => ∀ S' H', Nx G F N S H S' H' σ ρ' → Q d H'
  | (.error x, ρ') => ∀ C dd S' H', Nx G F N S H S' H' σ ρ' → G x.c = some (.ref C) → ExR G S' H' x.fs dd → E (.ref C) dd H'
def PoA (G : Glob) (E : XK) (F : Set0) (N : Lnt) (S : Set0) (σ : L2.St) (H : Hp) (Q : List V → Hp → Prop) : Except Exn (List D) × Rho → Prop
  | (.ok ds, ρ') => ∀ vs S' H', Nx G F N S H S' H' σ ρ' → RepL G S' H' vs ds → Q vs H'
  | (.error x, ρ') => ∀ C dd S' H', Nx G F N S H S' H' σ ρ' → G x.c = some (.ref C) → ExR G S' H' x.fs dd → E (.ref C) dd H'
abbrev RunE (X : Cx) (E : XK) (t : TE) (m : M0 D) : Prop := ∀ (F : Set0) (N : Lnt) (S : Set0) (σ : L2.St) (H : Hp) (ρ : Rho) (fp : Nat → List Addr) (Q : VK) r, Sim X.gk F N S σ H ρ fp → m ρ = some r → PoE X.gk E F N S σ H Q r → t σ H Q
abbrev RunO (X : Cx) (E : XK) (t : TE) (m : M0 D) : Prop := ∀ (F : Set0) (N : Lnt) (S : Set0) (σ : L2.St) (H : Hp) (ρ : Rho) (fp : Nat → List Addr) (Q : VK) r, Sim X.gk F N S σ H ρ fp → m ρ = some r → PoO X.gk E F N S σ H Q r → t σ H Q
abbrev RunT (X : Cx) (E : XK) (t : TT) (m : M0 Bool) : Prop := ∀ (F : Set0) (N : Lnt) (S : Set0) (σ : L2.St) (H : Hp) (ρ : Rho) (fp : Nat → List Addr) (Q : Bool → Hp → Prop) r, Sim X.gk F N S σ H ρ fp → m ρ = some r → PoT X.gk E F N S σ H Q r → t σ H Q
abbrev RunA (X : Cx) (E : XK) (t : TA) (m : M0 (List D)) : Prop := ∀ (F : Set0) (N : Lnt) (S : Set0) (σ : L2.St) (H : Hp) (ρ : Rho) (fp : Nat → List Addr) (Q : List V → Hp → Prop) r, Sim X.gk F N S σ H ρ fp → m ρ = some r → PoA X.gk E F N S σ H Q r → t σ H Q
structure VE (X : Cx) (E : XK) (e : Expr) (m : M0 D) : Prop where
  run : ∃ t, PE X e t ∧ RunE X E t m
structure VO (X : Cx) (E : XK) (e : Expr) (m : M0 D) : Prop where
  run : ∃ t, PE X e t ∧ RunO X E t m
structure VTe (X : Cx) (E : XK) (e : Expr) (m : M0 Bool) : Prop where
  run : ∃ t, PT X e t ∧ RunT X E t m
structure VWe (X : Cx) (E : XK) (e : Expr) (m : M0 Bool) : Prop where
  run : ∃ t, PW X e t ∧ RunT X E t m
structure VAe (X : Cx) (E : XK) (es : List Expr) (m : M0 (List D)) : Prop where
  run : ∃ t, PA X es t ∧ RunA X E t m

section
variable {X : Cx} {E : XK} {e : Expr} {p : Fr0} {q : Rho → Option Bool} {m : M0 D}
/-- nothing own is read -/
def mP {α : Type} (p : Rho → Option α) : M0 α := fun ρ => (p ρ).map fun d => (.ok d, ρ)
/-- own things are read, the value is a number, a text .. -/
def mS (p : Fr0) : M0 D := fun ρ => (p (frz ρ)).bind fun d => if d.scal = true then some (.ok d, ρ) else none
/-- .. a new list of such -/
def mL (p : Fr0) : M0 D := fun ρ => (p (frz ρ)).bind fun d => if d.flat = true then some (.ok d, ρ) else none
def mB (q : Rho → Option Bool) : M0 Bool := fun ρ => (q (frz ρ)).map fun d => (.ok d, ρ)
theorem VP.ve (h : VP X e p) : VE X E e (mP p) := by
  obtain ⟨t, ht, k⟩ := h.run
  refine ⟨t, ht, fun F N S σ H ρ fp Q r s hm po => ?_⟩
  obtain ⟨d, e1, rfl⟩ := Option.map_eq_some_iff.mp hm
  exact k S σ H ρ d Q s.domS s.cov e1 fun v S' H' g r => po v S' H' (Nx.of_gr s g) r
theorem VP.vs (h : VP X e p) : VE X E e (mS p) := by
  obtain ⟨t, ht, k⟩ := h.run
  refine ⟨t, ht, fun F N S σ H ρ fp Q r s hm po => ?_⟩
  obtain ⟨d, e1, e2⟩ := Option.bind_eq_some_iff.mp hm
  split at e2
  · rename_i hd
    cases e2
    exact k _ σ H _ d Q s.all_dom s.all_cov e1 fun v S' H' g r => po v S H' (Nx.of_same s g.same) (r.scal hd)
  · cases e2
theorem VF.vo (h : VF X e p) : VO X E e (mP p) := by
  obtain ⟨t, ht, k⟩ := h.run
  refine ⟨t, ht, fun F N S σ H ρ fp Q r s hm po => ?_⟩
  obtain ⟨d, e1, rfl⟩ := Option.map_eq_some_iff.mp hm
  exact k S σ H ρ d Q s.domS s.cov e1 fun a S' H' fa g o hf => po a S' H' (NxO.of_gr s g o hf)
theorem VF.vl (h : VF X e p) : VO X E e (mL p) := by
  obtain ⟨t, ht, k⟩ := h.run
  refine ⟨t, ht, fun F N S σ H ρ fp Q r s hm po => ?_⟩
  obtain ⟨d, e1, e2⟩ := Option.bind_eq_some_iff.mp hm
  split at e2
  · rename_i hd
    cases e2
    refine k _ σ H _ d Q s.all_dom s.all_cov e1 fun a S' H' fa g o hf => po a S H' ?_
    exact NxO.of_gr s (Gr.heap s.domS g.same) (o.flat hd) fun b hb => ⟨(hf b hb).1, fun z => s.domS b z (hf b hb).1⟩
  · cases e2
theorem VO.ve (h : VO X E e m) : VE X E e m := by
  obtain ⟨t, ht, k⟩ := h.run
  refine ⟨t, ht, fun F N S σ H ρ fp Q r s hm po => k F N S σ H ρ fp Q r s hm ?_⟩
  obtain ⟨r, ρ'⟩ := r
  cases r with
  | ok d =>
    intro a S' H' x
    obtain ⟨S'', y, r⟩ := x.nx
    exact po _ S'' H' y r
  | error x => exact po
theorem VT.te (h : VT X e q) : VTe X E e (mB q) := by
  obtain ⟨t, ht, k⟩ := h.run
  refine ⟨t, ht, fun F N S σ H ρ fp Q r s hm po => ?_⟩
  obtain ⟨d, e1, rfl⟩ := Option.map_eq_some_iff.mp hm
  exact k _ σ H _ d Q s.all_dom s.all_cov e1 fun H' k => po S H' (Nx.of_same s k)
end
end Vs

set_option Elab.async false
set_option linter.all false
set_option maxRecDepth 100000
set_option maxHeartbeats 4000000
namespace Vs
open PySem L2

def bnd {α β : Type} (m : M0 α) (f : α → M0 β) : M0 β := fun ρ => match m ρ with
  | none => none
  | some (.ok a, ρ') => f a ρ'
  | some (.error x, ρ') => some (.error x, ρ')
def opt {α : Type} (o : Option α) : M0 α := fun ρ => o.map fun d => (.ok d, ρ)
theorem bnd_some {α β : Type} {m : M0 α} {f : α → M0 β} {ρ : Rho} {r : Except Exn β × Rho} (h : bnd m f ρ = some r) :
    (∃ a ρ', m ρ = some (.ok a, ρ') ∧ f a ρ' = some r) ∨ ∃ x ρ', m ρ = some (.error x, ρ') ∧ r = (.error x, ρ') := by
  unfold bnd at h
  split at h
  · cases h
  · rename_i a ρ' e
    exact .inl ⟨a, ρ', e, h⟩
  · rename_i x ρ' e
    cases h
    exact .inr ⟨x, ρ', e, rfl⟩
section
variable {G : Glob} {E : XK} {F : Set0} {N : Lnt} {S S' : Set0} {σ σ' : L2.St} {H H' : Hp} {ρ ρ' : Rho} {fp : Nat → List Addr}
theorem PoE.step {Q : VK} {r} (x : Nx G F N S H S' H' σ ρ') (p : PoE G E F N S σ H Q r) : PoE G E F N S' σ H' Q r := by
  obtain ⟨r, ρ2⟩ := r
  cases r with
  | ok d => exact fun v S2 H2 y r => p v S2 H2 (x.trans y) r
  | error e => exact fun C dd S2 H2 y r z => p C dd S2 H2 (x.trans y) r z
theorem PoO.step {Q : VK} {r} (x : Nx G F N S H S' H' σ ρ') (p : PoO G E F N S σ H Q r) : PoO G E F N S' σ H' Q r := by
  obtain ⟨r, ρ2⟩ := r
  cases r with
  | ok d => exact fun v S2 H2 y => p v S2 H2 (x.transO y)
  | error e => exact fun C dd S2 H2 y r z => p C dd S2 H2 (x.trans y) r z
theorem PoT.step {Q : Bool → Hp → Prop} {r} (x : Nx G F N S H S' H' σ ρ') (p : PoT G E F N S σ H Q r) : PoT G E F N S' σ H' Q r := by
  obtain ⟨r, ρ2⟩ := r
  cases r with
  | ok d => exact fun S2 H2 y => p S2 H2 (x.trans y)
  | error e => exact fun C dd S2 H2 y r z => p C dd S2 H2 (x.trans y) r z
theorem PoA.step {Q : List V → Hp → Prop} {r} (x : Nx G F N S H S' H' σ ρ') (p : PoA G E F N S σ H Q r) : PoA G E F N S' σ H' Q r := by
  obtain ⟨r, ρ2⟩ := r
  cases r with
  | ok d => exact fun v S2 H2 y r => p v S2 H2 (x.trans y) r
  | error e => exact fun C dd S2 H2 y r z => p C dd S2 H2 (x.trans y) r z
end

section
variable {X : Cx} {E : XK} {a b e : Expr} {es rest : List Expr} {ma mb m : M0 D} {r : R2} {g : D → D → Option D} {pos : Pos}
def m2 (g : D → D → Option D) (ma mb : M0 D) : M0 D := bnd ma fun x => bnd mb fun y => opt (g x y)
theorem go2 {ta tb : TE} (hr : P2 X.gk r g) (ha : RunE X E ta ma) (hb : RunE X E tb mb) : RunE X E (tOp r ta tb) (m2 g ma mb) := by
  intro F N S σ H ρ fp Q q s hm po
  rcases bnd_some hm with ⟨x, ρ1, e1, hm⟩ | ⟨x, ρ1, e1, rfl⟩
  · refine ha F N S σ H ρ fp _ _ s e1 fun v S1 H1 n1 r1 => ?_
    obtain ⟨fp1, s1⟩ := n1.sim
    have po := po.step n1
    rcases bnd_some hm with ⟨y, ρ2, e2, hm⟩ | ⟨y, ρ2, e2, rfl⟩
    · refine hb F N S1 σ H1 ρ1 fp1 _ _ s1 e2 fun u S2 H2 n2 r2 => ?_
      obtain ⟨fp2, s2⟩ := n2.sim
      have po := po.step n2
      obtain ⟨d, e3, rfl⟩ := Option.map_eq_some_iff.mp hm
      exact hr S2 H2 v u x y d Q s2.domS (n2.rep r1) r2 e3 fun w S3 H3 g3 r3 => po w S3 H3 (Nx.of_gr s2 g3) r3
    · exact hb F N S1 σ H1 ρ1 fp1 _ _ s1 e2 po
  · exact ha F N S σ H ρ fp _ _ s e1 po
theorem ve_op {op : Operator} (ho : OpR X (binaryOp op) r) (hr : P2 X.gk r g) (ha : VE X E a ma) (hb : VE X E b mb) : VE X E (.BinOp a op b pos) (m2 g ma mb) := by
  obtain ⟨ta, ha, qa⟩ := ha.run
  obtain ⟨tb, hb, qb⟩ := hb.run
  exact ⟨_, pe_op ho ha hb, go2 hr qa qb⟩
theorem ve_cmp {op : CmpOp} (ho : OpR X (compareOp op) r) (hr : P2 X.gk r g) (ha : VE X E a ma) (hb : VE X E b mb) (hm : behindInMarks op b = false) : VE X E (.Compare a [op] [b] pos) (m2 g ma mb) := by
  obtain ⟨ta, ha, qa⟩ := ha.run
  obtain ⟨tb, hb, qb⟩ := hb.run
  exact ⟨_, pe_cmpR ho ha hb hm, go2 hr qa qb⟩
theorem ve_ix (ho : IxR X r) (hr : P2 X.gk r g) (ha : VE X E a ma) (hb : VE X E b mb) (hs : PlainIx b) : VE X E (.Subscript a b pos) (m2 g ma mb) := by
  obtain ⟨ta, ha, qa⟩ := ha.run
  obtain ⟨tb, hb, qb⟩ := hb.run
  exact ⟨_, pe_ix ho ha hb hs, go2 hr qa qb⟩
/-! tests -/
def mAsB (m : M0 D) : M0 Bool := bnd m fun d => opt (asB (some d))
theorem goB {t : TE} {tt : TT} (h : RunE X E t m) (ht : ∀ σ H Q, t σ H (fun x H' => ∃ k, x = .bl k ∧ Q k H') → tt σ H Q) : RunT X E tt (mAsB m) := by
  intro F N S σ H ρ fp Q q s hm po
  rcases bnd_some hm with ⟨x, ρ1, e1, hm⟩ | ⟨x, ρ1, e1, rfl⟩
  · refine ht _ _ _ (h F N S σ H ρ fp _ _ s e1 fun v S1 H1 n1 r1 => ?_)
    obtain ⟨d, e3, rfl⟩ := Option.map_eq_some_iff.mp hm
    cases asB_some e3
    exact ⟨d, r1.bl_inv, po S1 H1 n1⟩
  · exact ht _ _ _ (h F N S σ H ρ fp _ _ s e1 po)
theorem te_cmp {op : CmpOp} (ho : OpR X (compareOp op) r) (hr : P2 X.gk r g) (ha : VE X E a ma) (hb : VE X E b mb) (hm : behindInMarks op b = false) : VTe X E (.Compare a [op] [b] pos) (mAsB (m2 g ma mb)) := by
  obtain ⟨ta, ha, qa⟩ := ha.run
  obtain ⟨tb, hb, qb⟩ := hb.run
  exact ⟨_, pt_cmpR ho ha hb hm, goB (go2 hr qa qb) fun _ _ _ h => h⟩
theorem te_val (h : VE X E a ma) (he : ∀ whole, isTrue a X.env whole = (do let v ← whole; standAt a.pos; holding [v] (truthy v)) := by intro _; rfl) : VTe X E a (mAsB ma) := by
  obtain ⟨t, ht, q⟩ := h.run
  exact ⟨_, pt_val ht he, goB q fun _ _ _ h => h⟩
variable {na nb : M0 Bool}
def mAnd (p q : M0 Bool) : M0 Bool := bnd p fun c => if c = true then q else opt (some false)
def mOr (p q : M0 Bool) : M0 Bool := bnd p fun c => if c = true then opt (some true) else q
def mNot (p : M0 Bool) : M0 Bool := bnd p fun c => opt (some (!c))
theorem we_and1 (ha : VTe X E a na) : VWe X E (.BoolOp .And [a] pos) na := by
  obtain ⟨t, ht, q⟩ := ha.run
  exact ⟨_, pw_and1 ht, q⟩
theorem we_or1 (ha : VTe X E a na) : VWe X E (.BoolOp .Or [a] pos) na := by
  obtain ⟨t, ht, q⟩ := ha.run
  exact ⟨_, pw_or1 ht, q⟩
theorem VWe.te (h : VWe X E a na) : VTe X E a na := by
  obtain ⟨t, ht, q⟩ := h.run
  exact ⟨t, ht.pt, q⟩
theorem we_and (ha : VTe X E a na) (hb : VWe X E (.BoolOp .And (b :: rest) pos) nb) : VWe X E (.BoolOp .And (a :: b :: rest) pos) (mAnd na nb) := by
  obtain ⟨t, ht, q1⟩ := ha.run
  obtain ⟨u, hu, q2⟩ := hb.run
  refine ⟨_, pw_and ht hu, fun F N S σ H ρ fp Q q s hm po => ?_⟩
  rcases bnd_some hm with ⟨x, ρ1, e1, hm⟩ | ⟨x, ρ1, e1, rfl⟩
  · refine q1 F N S σ H ρ fp _ _ s e1 fun S1 H1 n1 => ?_
    obtain ⟨fp1, s1⟩ := n1.sim
    cases x with
    | true => exact q2 F N S1 σ H1 ρ1 fp1 _ _ s1 hm (po.step n1)
    | false => cases hm; exact po S1 H1 n1
  · exact q1 F N S σ H ρ fp _ _ s e1 po
theorem we_or (ha : VTe X E a na) (hb : VWe X E (.BoolOp .Or (b :: rest) pos) nb) : VWe X E (.BoolOp .Or (a :: b :: rest) pos) (mOr na nb) := by
  obtain ⟨t, ht, q1⟩ := ha.run
  obtain ⟨u, hu, q2⟩ := hb.run
  refine ⟨_, pw_or ht hu, fun F N S σ H ρ fp Q q s hm po => ?_⟩
  rcases bnd_some hm with ⟨x, ρ1, e1, hm⟩ | ⟨x, ρ1, e1, rfl⟩
  · refine q1 F N S σ H ρ fp _ _ s e1 fun S1 H1 n1 => ?_
    obtain ⟨fp1, s1⟩ := n1.sim
    cases x with
    | true => cases hm; exact po S1 H1 n1
    | false => exact q2 F N S1 σ H1 ρ1 fp1 _ _ s1 hm (po.step n1)
  · exact q1 F N S σ H ρ fp _ _ s e1 po
theorem te_not (ha : VTe X E a na) : VTe X E (.UnaryOp .Not a pos) (mNot na) := by
  obtain ⟨t, ht, q1⟩ := ha.run
  refine ⟨_, pt_not ht, fun F N S σ H ρ fp Q q s hm po => ?_⟩
  rcases bnd_some hm with ⟨x, ρ1, e1, hm⟩ | ⟨x, ρ1, e1, rfl⟩
  · cases hm
    exact q1 F N S σ H ρ fp _ _ s e1 fun S1 H1 n1 => po S1 H1 n1
  · exact q1 F N S σ H ρ fp _ _ s e1 po
def mIf {α : Type} (c : M0 Bool) (p q : M0 α) : M0 α := bnd c fun c => if c = true then p else q
theorem ve_if {c : Expr} (hc : VTe X E c na) (ha : VE X E a ma) (hb : VE X E b mb) : VE X E (.IfExp c a b pos) (mIf na ma mb) := by
  obtain ⟨t, ht, q0⟩ := hc.run
  obtain ⟨u, hu, q1⟩ := ha.run
  obtain ⟨w, hw, q2⟩ := hb.run
  refine ⟨_, pe_ifExp ht hu hw, fun F N S σ H ρ fp Q q s hm po => ?_⟩
  rcases bnd_some hm with ⟨x, ρ1, e1, hm⟩ | ⟨x, ρ1, e1, rfl⟩
  · refine q0 F N S σ H ρ fp _ _ s e1 fun S1 H1 n1 => ?_
    obtain ⟨fp1, s1⟩ := n1.sim
    cases x with
    | true => exact q1 F N S1 σ H1 ρ1 fp1 _ _ s1 hm (po.step n1)
    | false => exact q2 F N S1 σ H1 ρ1 fp1 _ _ s1 hm (po.step n1)
  · exact q0 F N S σ H ρ fp _ _ s e1 po
/-! arguments -/
variable {ms : M0 (List D)}
def maNil : M0 (List D) := opt (some [])
def maCons (m : M0 D) (ms : M0 (List D)) : M0 (List D) := bnd m fun x => bnd ms fun l => opt (some (x :: l))
theorem ae_nil : VAe X E [] maNil := ⟨_, pa_nil, fun F N S σ H ρ fp Q q s hm po => by
  cases hm
  exact po [] S H (Nx.refl s) .nil⟩
theorem ae_cons (he : VE X E e m) (hr : VAe X E es ms) (hs : starEach (e :: es) X.env = (false, eval e X.env) :: starEach es X.env := by rfl) : VAe X E (e :: es) (maCons m ms) := by
  obtain ⟨t, ht, q1⟩ := he.run
  obtain ⟨u, hu, q2⟩ := hr.run
  refine ⟨_, pa_cons ht hu hs, fun F N S σ H ρ fp Q q s hm po => ?_⟩
  rcases bnd_some hm with ⟨x, ρ1, e1, hm⟩ | ⟨x, ρ1, e1, rfl⟩
  · refine q1 F N S σ H ρ fp _ _ s e1 fun v S1 H1 n1 r1 => ?_
    obtain ⟨fp1, s1⟩ := n1.sim
    have po := po.step n1
    rcases bnd_some hm with ⟨y, ρ2, e2, hm⟩ | ⟨y, ρ2, e2, rfl⟩
    · refine q2 F N S1 σ H1 ρ1 fp1 _ _ s1 e2 fun u S2 H2 n2 r2 => ?_
      cases hm
      exact po (v :: u) S2 H2 n2 (.cons (n2.rep r1) r2)
    · exact q2 F N S1 σ H1 ρ1 fp1 _ _ s1 e2 po
  · exact q1 F N S σ H ρ fp _ _ s e1 po
def mTup (ms : M0 (List D)) : M0 D := bnd ms fun l => opt (if l.length ≤ 100000 then some (.tup l) else none)
def mLst (ms : M0 (List D)) : M0 D := bnd ms fun l => opt (if l.length ≤ 100000 then some (.lst l) else none)
theorem ve_tup {k1} (h : VAe X E es ms) : VE X E (.Tuple es k1 pos) (mTup ms) := by
  obtain ⟨t, ht, q1⟩ := h.run
  refine ⟨_, pe_tupB ht, fun F N S σ H ρ fp Q q s hm po => ?_⟩
  rcases bnd_some hm with ⟨l, ρ1, e1, hm⟩ | ⟨x, ρ1, e1, rfl⟩
  · refine q1 F N S σ H ρ fp _ _ s e1 fun vs S1 H1 n1 r1 => ?_
    obtain ⟨fp1, s1⟩ := n1.sim
    have po := po.step n1
    obtain ⟨d, e3, rfl⟩ := Option.map_eq_some_iff.mp hm
    split at e3
    · rename_i hl
      cases e3
      refine ⟨line5 (by rw [r1.len]; exact hl), fun p o ob np => ?_⟩
      have ga := Gr.add (o := .frz o (.tup vs)) s1.domS np
      exact po (.ref p) _ _ (Nx.of_gr s1 ga) (.tup (.inr rfl) (.ofT ob upd_same) (ga.repL r1))
    · cases e3
  · exact q1 F N S σ H ρ fp _ _ s e1 po
theorem vo_lst (h : VAe X E es ms) : VO X E (.List es pos) (mLst ms) := by
  obtain ⟨t, ht, q1⟩ := h.run
  refine ⟨_, pe_lst ht, fun F N S σ H ρ fp Q q s hm po => ?_⟩
  rcases bnd_some hm with ⟨l, ρ1, e1, hm⟩ | ⟨x, ρ1, e1, rfl⟩
  · refine q1 F N S σ H ρ fp _ _ s e1 fun vs S1 H1 n1 r1 => ?_
    obtain ⟨fp1, s1⟩ := n1.sim
    have po := po.step n1
    obtain ⟨d, e3, rfl⟩ := Option.map_eq_some_iff.mp hm
    split at e3
    · rename_i hl
      cases e3
      refine ⟨line5 (by rw [r1.len]; exact hl), fun p np => ?_⟩
      have ga := Gr.heap s1.domS (same_new (o := .lst vs) np)
      exact po p _ _ (NxO.of_gr s1 ga (.lst upd_same (ga.repL r1)) fun b hb => by
        obtain rfl := List.mem_singleton.mp hb
        exact ⟨np, fun z => s1.domS _ z np⟩)
    · cases e3
  · exact q1 F N S σ H ρ fp _ _ s e1 po
/-! calls of built-ins -/
variable {rc : List V → Hp → VK → Prop} {gc : List D → Option D} {x : Str} {p : Pos} {id : String}
def mCall (g : List D → Option D) (ms : M0 (List D)) : M0 D := bnd ms fun l => opt (g l)
theorem goC {t : TA} (hr : PC1 X.gk rc gc) (h : RunA X E t ms) : RunE X E (tCB rc t) (mCall gc ms) := by
  intro F N S σ H ρ fp Q q s hm po
  rcases bnd_some hm with ⟨l, ρ1, e1, hm⟩ | ⟨x, ρ1, e1, rfl⟩
  · refine h F N S σ H ρ fp _ _ s e1 fun vs S1 H1 n1 r1 => ?_
    obtain ⟨fp1, s1⟩ := n1.sim
    have po := po.step n1
    obtain ⟨d, e3, rfl⟩ := Option.map_eq_some_iff.mp hm
    exact hr S1 H1 vs l d Q s1.domS r1 e3 fun v S2 H2 g2 r2 => po v S2 H2 (Nx.of_gr s1 g2) r2
  · exact h F N S σ H ρ fp _ _ s e1 po
theorem goCF {t : TA} (hr : FC1 X.gk rc gc) (h : RunA X E t ms) : RunO X E (tCB rc t) (mCall gc ms) := by
  intro F N S σ H ρ fp Q q s hm po
  rcases bnd_some hm with ⟨l, ρ1, e1, hm⟩ | ⟨x, ρ1, e1, rfl⟩
  · refine h F N S σ H ρ fp _ _ s e1 fun vs S1 H1 n1 r1 => ?_
    obtain ⟨fp1, s1⟩ := n1.sim
    have po := po.step n1
    obtain ⟨d, e3, rfl⟩ := Option.map_eq_some_iff.mp hm
    exact hr S1 H1 vs l d Q s1.domS r1 e3 fun v S2 H2 fa g2 r2 hf => po v S2 H2 (NxO.of_gr s1 g2 r2 hf)
  · exact h F N S σ H ρ fp _ _ s e1 po
theorem ve_callB (hc : CallR X (.builtin id) rc) (hr : PC1 X.gk rc gc) (hg : Gl X x) (hm : X.mg x = none) (hv : bootBuiltins x = some (.builtin id)) (ha : VAe X E (e :: es) ms) (hn : x ≠ "__name__" := by decide) (hdb : (x == ("__debug__" : Str)) = false := by decide)
    (he : starEach (e :: es) X.env = (false, eval e X.env) :: starEach es X.env := by rfl) (hpl : (backTo pos (starEach es X.env)).any (·.1) = false := by rfl) : VE X E (.Call (.Name x p) (e :: es) [] pos) (mCall gc ms) := by
  obtain ⟨t, ht, q⟩ := ha.run
  exact ⟨_, pe_callB hc hg hm hv ht hn hdb he hpl, goC hr q⟩
theorem vo_callB (hc : CallR X (.builtin id) rc) (hr : FC1 X.gk rc gc) (hg : Gl X x) (hm : X.mg x = none) (hv : bootBuiltins x = some (.builtin id)) (ha : VAe X E (e :: es) ms) (hn : x ≠ "__name__" := by decide) (hdb : (x == ("__debug__" : Str)) = false := by decide)
    (he : starEach (e :: es) X.env = (false, eval e X.env) :: starEach es X.env := by rfl) (hpl : (backTo pos (starEach es X.env)).any (·.1) = false := by rfl) : VO X E (.Call (.Name x p) (e :: es) [] pos) (mCall gc ms) := by
  obtain ⟨t, ht, q⟩ := ha.run
  exact ⟨_, pe_callB hc hg hm hv ht hn hdb he hpl, goCF hr q⟩
theorem vo_callTy (hc : CallR X (.type id) rc) (hr : FC1 X.gk rc gc) (hg : Gl X x) (hm : X.mg x = none) (hv : bootBuiltins x = some (.type id)) (ha : VAe X E (e :: es) ms) (hn : x ≠ "__name__" := by decide) (hdb : (x == ("__debug__" : Str)) = false := by decide)
    (he : starEach (e :: es) X.env = (false, eval e X.env) :: starEach es X.env := by rfl) (hpl : (backTo pos (starEach es X.env)).any (·.1) = false := by rfl) : VO X E (.Call (.Name x p) (e :: es) [] pos) (mCall gc ms) := by
  obtain ⟨t, ht, q⟩ := ha.run
  exact ⟨_, pe_callTy hc hg hm hv ht hn hdb he hpl, goCF hr q⟩
end
end Vs

set_option Elab.async false
set_option linter.all false
set_option maxRecDepth 100000
set_option maxHeartbeats 4000000
namespace Vs
open PySem L2

inductive Flw where
  | nx | brk | cnt | rt (d : D) | ro (d : D) | ex (x : Exn)
abbrev MS := Rho → Option (Flw × Rho)
def PoS (G : Glob) (E : XK) (F : Set0) (N : Lnt) (S : Set0) (H : Hp) (Z : Ends) : Flw × Rho → Prop
  | (.nx, ρ') => ∀ σ' S' H', Nx G F N S H S' H' σ' ρ' → Z.nx σ' H'
  | (.brk, ρ') => ∀ σ' S' H', Nx G F N S H S' H' σ' ρ' → Z.bk σ' H'
  | (.cnt, ρ') => ∀ σ' S' H', Nx G F N S H S' H' σ' ρ' → Z.ct σ' H'
  | (.rt d, ρ') => ∀ v σ' S' H', Nx G F N S H S' H' σ' ρ' → Rep G S' H' v d → Z.rt v H'
  | (.ro d, ρ') => ∀ a σ' S' H', NxO G F N S H S' H' σ' ρ' a d → Z.rt (.ref a) H'
  | (.ex x, ρ') => ∀ C dd σ' S' H', Nx G F N S H S' H' σ' ρ' → G x.c = some (.ref C) → ExR G S' H' x.fs dd → E (.ref C) dd H'
abbrev RunS (X : Cx) (E : XK) (t : TS) (m : MS) : Prop := ∀ (F : Set0) (N : Lnt) (S : Set0) (σ : L2.St) (H : Hp) (ρ : Rho) (fp : Nat → List Addr) (Z : Ends) r, Sim X.gk F N S σ H ρ fp → m ρ = some r → PoS X.gk E F N S H Z r → t Z σ H
structure VS (X : Cx) (E : XK) (st : Stmt) (m : MS) : Prop where
  run : ∃ t, PS X st t ∧ RunS X E t m
structure VSs (X : Cx) (E : XK) (sts : List Stmt) (m : MS) : Prop where
  run : ∃ t, PSs X sts t ∧ RunS X E t m
section
variable {G : Glob} {E : XK} {F : Set0} {N : Lnt} {S S' : Set0} {σ σ' : L2.St} {H H' : Hp} {ρ ρ' : Rho} {fp : Nat → List Addr} {v : V} {d : D} {a : Addr}
theorem PoS.step {Z : Ends} {r} (x : Nx G F N S H S' H' σ' ρ') (p : PoS G E F N S H Z r) : PoS G E F N S' H' Z r := by
  obtain ⟨r, ρ2⟩ := r
  cases r with
  | nx => exact fun σ2 S2 H2 y => p σ2 S2 H2 (x.trans y)
  | brk => exact fun σ2 S2 H2 y => p σ2 S2 H2 (x.trans y)
  | cnt => exact fun σ2 S2 H2 y => p σ2 S2 H2 (x.trans y)
  | rt d => exact fun v σ2 S2 H2 y r => p v σ2 S2 H2 (x.trans y) r
  | ro d => exact fun v σ2 S2 H2 y => p v σ2 S2 H2 (x.transO y)
  | ex e => exact fun C dd σ2 S2 H2 y r z => p C dd σ2 S2 H2 (x.trans y) r z
/-- a slot gets a value that stands still -/
theorem Sim.setI (s : Sim G F N S σ H ρ fp) (i : Nat) (r : Rep G S H v d) : Sim G F N S (σ.set i (some v)) H (ρ.set i (.im d)) fp where
  len := by rw [List.length_set, List.length_set]; exact s.len
  im := fun j e h => by
    by_cases hj : i = j
    · subst hj
      by_cases hl : i < ρ.length
      · rw [List.getElem?_set_self hl] at h
        cases h
        exact ⟨v, List.getElem?_set_self (by rw [s.len]; exact hl), r⟩
      · rw [List.getElem?_eq_none (by rw [List.length_set]; omega)] at h; cases h
    · rw [List.getElem?_set_ne hj] at h ⊢
      exact s.im j e h
  ow := fun j t e h w => by
    by_cases hj : i = j
    · subst hj
      by_cases hl : i < ρ.length
      · rw [List.getElem?_set_self hl] at h
        cases h; cases w
      · rw [List.getElem?_eq_none (by rw [List.length_set]; omega)] at h; cases h
    · rw [List.getElem?_set_ne hj] at h ⊢
      exact s.ow j t e h w
  no := fun j e h => by
    by_cases hj : i = j
    · subst hj
      by_cases hl : i < ρ.length
      · rw [List.getElem?_set_self hl] at h
        cases h
      · rw [List.getElem?_eq_none (by rw [List.length_set]; omega)] at h; cases h
    · rw [List.getElem?_set_ne hj] at h
      exact s.no j e h
  sep := fun j k t u e f hn h1 w1 h2 w2 => by
    have key : ∀ {j : Nat} {t : Sl} {e : D}, (ρ.set i (.im d))[j]? = some t → t.own? = some e → ρ[j]? = some t := fun {j t e} h w => by
      by_cases hj : i = j
      · subst hj
        by_cases hl : i < ρ.length
        · rw [List.getElem?_set_self hl] at h
          cases h; cases w
        · rw [List.getElem?_eq_none (by rw [List.length_set]; omega)] at h; cases h
      · rw [List.getElem?_set_ne hj] at h
        exact h
    exact s.sep j k t u e f hn (key h1 w1) w1 (key h2 w2) w2
  dom := s.dom
  off := s.off
  lent := fun j e h => by
    by_cases hj : i = j
    · subst hj
      by_cases hl : i < ρ.length
      · rw [List.getElem?_set_self hl] at h
        cases h
      · rw [List.getElem?_eq_none (by rw [List.length_set]; omega)] at h; cases h
    · rw [List.getElem?_set_ne hj] at h ⊢
      exact s.lent j e h
theorem Nx.setI (x : Nx G F N S H S' H' σ' ρ') (i : Nat) (r : Rep G S' H' v d) : Nx G F N S H S' H' (σ'.set i (some v)) (ρ'.set i (.im d)) :=
  ⟨x.le, x.kept, x.grow, let ⟨fp, s⟩ := x.sim; ⟨fp, s.setI i r⟩⟩
/-- .. a new object -/
theorem NxO.setO (x : NxO G F N S H S' H' σ' ρ' a d) (i : Nat) : Nx G F N S H S' H' (σ'.set i (some (.ref a))) (ρ'.set i (.ow d)) := by
  obtain ⟨x1, x2, x3, fp, fa, s, o, hf, hs⟩ := x
  refine ⟨x1, x2, x3, fun j => if j = i then fa else fp j, ?_⟩
  have old : ∀ {j : Nat} {t : Sl}, j ≠ i → (ρ'.set i (.ow d))[j]? = some t → ρ'[j]? = some t := fun {j t} hj h => by
    rw [List.getElem?_set_ne (Ne.symm hj)] at h
    exact h
  have new : ∀ {t : Sl}, (ρ'.set i (.ow d))[i]? = some t → t = .ow d ∧ i < ρ'.length := fun {t} h => by
    by_cases hl : i < ρ'.length
    · rw [List.getElem?_set_self hl] at h
      cases h
      exact ⟨rfl, hl⟩
    · rw [List.getElem?_eq_none (by rw [List.length_set]; omega)] at h; cases h
  refine ⟨by rw [List.length_set, List.length_set]; exact s.len, fun j e h => ?_, fun j t e h w => ?_, fun j e h => ?_, fun j k t u e f hn h1 w1 h2 w2 => ?_, s.dom, s.off, fun j e h => ?_⟩
  · by_cases hj : j = i
    · subst hj
      cases (new h).1
    · rw [List.getElem?_set_ne (Ne.symm hj)]
      exact s.im j e (old hj h)
  · by_cases hj : j = i
    · subst hj
      obtain ⟨rfl, hl⟩ := new h
      cases w
      rw [if_pos rfl]
      exact ⟨a, List.getElem?_set_self (by rw [s.len]; exact hl), o, fun b hb => ⟨(hf b hb).1, (hf b hb).2.1⟩⟩
    · rw [List.getElem?_set_ne (Ne.symm hj)]
      rw [if_neg hj]
      exact s.ow j t e (old hj h) w
  · by_cases hj : j = i
    · subst hj
      rw [if_pos rfl]
      exact fun b hb => (hf b hb).2.2
    · rw [if_neg hj]
      exact s.no j e (old hj h)
  · intro b hb
    by_cases hj : j = i
    · have hk : k ≠ i := fun z => hn (hj.trans z.symm)
      rw [if_pos hj] at hb
      rw [if_neg hk]
      exact hs k u f (old hk h2) w2 b hb
    · rw [if_neg hj] at hb
      by_cases hk : k = i
      · rw [if_pos hk]
        exact fun z => hs j t e (old hj h1) w1 b z hb
      · rw [if_neg hk]
        exact s.sep j k t u e f hn (old hj h1) w1 (old hk h2) w2 b hb
  · by_cases hj : j = i
    · subst hj
      cases (new h).1
    · rw [List.getElem?_set_ne (Ne.symm hj)]
      exact s.lent j e (old hj h)
/-- fewer slots are told -/
theorem Sim.less (s : Sim G F N S σ H ρ fp) {ρ' : Rho} (hl : ρ'.length = ρ.length) (h : ∀ (i : Nat) (t : Sl), ρ'[i]? = some t → t = .un ∨ ρ[i]? = some t) : Sim G F N S σ H ρ' fp where
  len := s.len.trans hl.symm
  im := fun i d e => by
    rcases h i _ e with z | z
    · cases z
    · exact s.im i d z
  ow := fun i t d e w => by
    rcases h i _ e with rfl | z
    · cases w
    · exact s.ow i t d z w
  no := fun i d e => by
    rcases h i _ e with z | z
    · cases z
    · exact s.no i d z
  sep := fun i j t u d e hn h1 w1 h2 w2 => by
    rcases h i _ h1 with rfl | z1
    · cases w1
    · rcases h j _ h2 with rfl | z2
      · cases w2
      · exact s.sep i j t u d e hn z1 w1 z2 w2
  dom := s.dom
  off := s.off
  lent := fun i d e => by
    rcases h i _ e with z | z
    · cases z
    · exact s.lent i d z
theorem Nx.less (x : Nx G F N S H S' H' σ' ρ) {ρ' : Rho} (hl : ρ'.length = ρ.length) (h : ∀ (i : Nat) (t : Sl), ρ'[i]? = some t → t = .un ∨ ρ[i]? = some t) : Nx G F N S H S' H' σ' ρ' :=
  ⟨x.le, x.kept, x.grow, let ⟨fp, s⟩ := x.sim; ⟨fp, s.less hl h⟩⟩
end
/-- the slots at is are forgotten -/
def drop0 (ρ : Rho) : List Nat → Rho
  | [] => ρ
  | i :: is => drop0 (ρ.set i .un) is
theorem drop0_len : ∀ (is : List Nat) (ρ : Rho), (drop0 ρ is).length = ρ.length
  | [], _ => rfl
  | i :: is, ρ => (drop0_len is _).trans List.length_set
theorem drop0_get : ∀ (is : List Nat) (ρ : Rho) (j : Nat) (t : Sl), (drop0 ρ is)[j]? = some t → t = .un ∨ ρ[j]? = some t
  | [], _, _, _, h => .inr h
  | i :: is, ρ, j, t, h => by
    rcases drop0_get is _ j t h with h | h
    · exact .inl h
    · by_cases hj : i = j
      · subst hj
        by_cases hl : i < ρ.length
        · rw [List.getElem?_set_self hl] at h
          cases h
          exact .inl rfl
        · rw [List.getElem?_eq_none (by rw [List.length_set]; omega)] at h; cases h
      · rw [List.getElem?_set_ne hj] at h
        exact .inr h

section
variable {X : Cx} {E : XK} {st : Stmt} {sts : List Stmt} {m m' : MS} {e : Expr} {me : M0 D} {pos : Pos}
/-! ### blocks -/
def sNil : MS := fun ρ => some (.nx, ρ)
def sSeq (m m' : MS) : MS := fun ρ => match m ρ with
  | some (.nx, ρ') => m' ρ'
  | r => r
/-- behind the statement the slots at is are no longer asked -/
def sDrop (is : List Nat) (m : MS) : MS := fun ρ => (m ρ).map fun r => (r.1, drop0 r.2 is)
theorem sSeq_some {ρ : Rho} {r} (h : sSeq m m' ρ = some r) : (∃ ρ', m ρ = some (.nx, ρ') ∧ m' ρ' = some r) ∨ (m ρ = some r ∧ r.1 ≠ .nx) := by
  unfold sSeq at h
  split at h
  · rename_i ρ' e
    exact .inl ⟨ρ', e, h⟩
  · rename_i hn
    refine .inr ⟨h, fun z => ?_⟩
    obtain ⟨r1, r2⟩ := r
    cases z
    exact hn r2 h
theorem vss_nil : VSs X E [] sNil := ⟨_, pss_nil, fun F N S σ H ρ fp Z r s hm po => by
  cases hm
  exact po σ S H (Nx.refl s)⟩
theorem vss_cons (h : VS X E st m) (h' : VSs X E sts m') : VSs X E (st :: sts) (sSeq m m') := by
  obtain ⟨t, ht, q⟩ := h.run
  obtain ⟨t', ht', q'⟩ := h'.run
  refine ⟨_, pss_cons ht ht', fun F N S σ H ρ fp Z r s hm po => ?_⟩
  rcases sSeq_some hm with ⟨ρ1, e1, e2⟩ | ⟨e1, hn⟩
  · refine q F N S σ H ρ fp _ _ s e1 fun σ1 S1 H1 n1 => ?_
    obtain ⟨fp1, s1⟩ := n1.sim
    exact q' F N S1 σ1 H1 ρ1 fp1 Z r s1 e2 (po.step n1)
  · refine q F N S σ H ρ fp _ _ s e1 ?_
    obtain ⟨r, ρ1⟩ := r
    cases r with
    | nx => exact absurd rfl hn
    | brk => exact po
    | cnt => exact po
    | rt d => exact po
    | ro d => exact po
    | ex x => exact po
theorem vss_one (h : VS X E st m) : VSs X E [st] m := by
  obtain ⟨t, ht, q⟩ := h.run
  exact ⟨_, pss_one ht, q⟩
theorem PoS.less {G : Glob} {F : Set0} {N : Lnt} {S : Set0} {H : Hp} {Z : Ends} {r : Flw} {ρ : Rho} (is : List Nat) (p : PoS G E F N S H Z (r, drop0 ρ is)) : PoS G E F N S H Z (r, ρ) := by
  cases r with
  | nx => exact fun σ2 S2 H2 y => p σ2 S2 H2 (y.less (drop0_len is ρ) (drop0_get is ρ))
  | brk => exact fun σ2 S2 H2 y => p σ2 S2 H2 (y.less (drop0_len is ρ) (drop0_get is ρ))
  | cnt => exact fun σ2 S2 H2 y => p σ2 S2 H2 (y.less (drop0_len is ρ) (drop0_get is ρ))
  | rt d => exact fun v σ2 S2 H2 y r => p v σ2 S2 H2 (y.less (drop0_len is ρ) (drop0_get is ρ)) r
  | ro d => exact fun v σ2 S2 H2 y => p v σ2 S2 H2 ⟨y.le, y.kept, y.grow, by
      obtain ⟨fp, fa, s, o, hf, hs⟩ := y.sim
      refine ⟨fp, fa, s.less (drop0_len is ρ) (drop0_get is ρ), o, hf, fun i t e h w => ?_⟩
      rcases drop0_get is ρ i t h with rfl | h
      · cases w
      · exact hs i t e h w⟩
  | ex e => exact fun C dd σ2 S2 H2 y r z => p C dd σ2 S2 H2 (y.less (drop0_len is ρ) (drop0_get is ρ)) r z
theorem vs_drop (is : List Nat) (h : VS X E st m) : VS X E st (sDrop is m) := by
  obtain ⟨t, ht, q⟩ := h.run
  refine ⟨t, ht, fun F N S σ H ρ fp Z r s hm po => ?_⟩
  obtain ⟨r1, e1, rfl⟩ := Option.map_eq_some_iff.mp hm
  exact q F N S σ H ρ fp Z r1 s e1 (PoS.less is po)
theorem vss_drop (is : List Nat) (h : VSs X E sts m) : VSs X E sts (sDrop is m) := by
  obtain ⟨t, ht, q⟩ := h.run
  refine ⟨t, ht, fun F N S σ H ρ fp Z r s hm po => ?_⟩
  obtain ⟨r1, e1, rfl⟩ := Option.map_eq_some_iff.mp hm
  exact q F N S σ H ρ fp Z r1 s e1 (PoS.less is po)
/-! ### small statements -/
theorem vs_pass : VS X E (.Pass pos) sNil := ⟨_, ps_pass, fun F N S σ H ρ fp Z r s hm po => by
  cases hm
  exact po σ S H (Nx.refl s)⟩
def sBrk : MS := fun ρ => some (.brk, ρ)
def sCnt : MS := fun ρ => some (.cnt, ρ)
theorem vs_break : VS X E (.Break pos) sBrk := ⟨_, ps_break, fun F N S σ H ρ fp Z r s hm po => by
  cases hm
  exact po σ S H (Nx.refl s)⟩
theorem vs_continue : VS X E (.Continue pos) sCnt := ⟨_, ps_continue, fun F N S σ H ρ fp Z r s hm po => by
  cases hm
  exact po σ S H (Nx.refl s)⟩
theorem vs_never : VS X E st (fun _ => none) := ⟨_, ps_never, fun _ _ _ _ _ _ _ _ _ _ hm _ => by cases hm⟩
/-- what is done with a value -/
def sVal (m : M0 D) (f : D → MS) : MS := fun ρ => match m ρ with
  | none => none
  | some (.ok d, ρ') => f d ρ'
  | some (.error x, ρ') => some (.ex x, ρ')
theorem sVal_some {m : M0 D} {f : D → MS} {ρ : Rho} {r} (h : sVal m f ρ = some r) : (∃ d ρ', m ρ = some (.ok d, ρ') ∧ f d ρ' = some r) ∨ ∃ x ρ', m ρ = some (.error x, ρ') ∧ r = (.ex x, ρ') := by
  unfold sVal at h
  split at h
  · cases h
  · rename_i a ρ' e
    exact .inl ⟨a, ρ', e, h⟩
  · rename_i x ρ' e
    cases h
    exact .inr ⟨x, ρ', e, rfl⟩
theorem po_err {G : Glob} {F : Set0} {N : Lnt} {S : Set0} {σ : L2.St} {H : Hp} {Q : VK} {Z : Ends} {x : Exn} {ρ' : Rho} (p : PoS G E F N S H Z (.ex x, ρ')) : PoE G E F N S σ H Q (.error x, ρ') :=
  fun C dd S' H' n h1 h2 => p C dd σ S' H' n h1 h2
theorem po_errO {G : Glob} {F : Set0} {N : Lnt} {S : Set0} {σ : L2.St} {H : Hp} {Q : VK} {Z : Ends} {x : Exn} {ρ' : Rho} (p : PoS G E F N S H Z (.ex x, ρ')) : PoO G E F N S σ H Q (.error x, ρ') :=
  fun C dd S' H' n h1 h2 => p C dd σ S' H' n h1 h2
def sSet (i : Nat) (m : M0 D) : MS := sVal m fun d ρ => some (.nx, ρ.set i (.im d))
def sOwn (i : Nat) (m : M0 D) : MS := sVal m fun d ρ => some (.nx, ρ.set i (.ow d))
theorem vs_set {i : Nat} {x : Str} {pos' : Pos} (hN : X.N.Nodup) (hi : X.N[i]? = some x) (hx : Loc X.env.scope x) (he : VE X E e me) (hs : swapsWith e (some (.Name x pos')) pos.line X.env = pure false := by rfl) (hf : X.fn x = true ∨ X.env.scope.names.lookup x = some .local := by first | exact .inl rfl | exact .inr rfl | assumption) :
    VS X E (.Assign [.Name x pos'] e pos) (sSet i me) := by
  obtain ⟨t, ht, q⟩ := he.run
  refine ⟨_, ps_set hN hi hx ht hs hf, fun F N S σ H ρ fp Z r s hm po => ?_⟩
  rcases sVal_some hm with ⟨d, ρ1, e1, e2⟩ | ⟨y, ρ1, e1, rfl⟩
  · cases e2
    exact q F N S σ H ρ fp _ _ s e1 fun v S1 H1 n1 r1 => po _ S1 H1 (n1.setI i r1)
  · exact q F N S σ H ρ fp _ _ s e1 (po_err po)
theorem vs_own {i : Nat} {x : Str} {pos' : Pos} (hN : X.N.Nodup) (hi : X.N[i]? = some x) (hx : Loc X.env.scope x) (he : VO X E e me) (hs : swapsWith e (some (.Name x pos')) pos.line X.env = pure false := by rfl) (hf : X.fn x = true ∨ X.env.scope.names.lookup x = some .local := by first | exact .inl rfl | exact .inr rfl | assumption) :
    VS X E (.Assign [.Name x pos'] e pos) (sOwn i me) := by
  obtain ⟨t, ht, q⟩ := he.run
  refine ⟨_, ps_set hN hi hx ht hs hf, fun F N S σ H ρ fp Z r s hm po => ?_⟩
  rcases sVal_some hm with ⟨d, ρ1, e1, e2⟩ | ⟨y, ρ1, e1, rfl⟩
  · cases e2
    exact q F N S σ H ρ fp _ _ s e1 fun a S1 H1 n1 => po _ S1 H1 (n1.setO i)
  · exact q F N S σ H ρ fp _ _ s e1 (po_errO po)
def sExpr (m : M0 D) : MS := sVal m fun _ ρ => some (.nx, ρ)
theorem vs_expr (he : VE X E e me) (hs : swapsWith e none pos.line X.env = pure false := by rfl) : VS X E (.Expr e pos) (sExpr me) := by
  obtain ⟨t, ht, q⟩ := he.run
  refine ⟨_, ps_expr ht hs, fun F N S σ H ρ fp Z r s hm po => ?_⟩
  rcases sVal_some hm with ⟨d, ρ1, e1, e2⟩ | ⟨y, ρ1, e1, rfl⟩
  · cases e2
    exact q F N S σ H ρ fp _ _ s e1 fun v S1 H1 n1 r1 => po _ S1 H1 n1
  · exact q F N S σ H ρ fp _ _ s e1 (po_err po)
def sRet (m : M0 D) : MS := sVal m fun d ρ => some (.rt d, ρ)
def sRetO (m : M0 D) : MS := sVal m fun d ρ => some (.ro d, ρ)
theorem vs_ret (he : VE X E e me) : VS X E (.Return (some e) pos) (sRet me) := by
  obtain ⟨t, ht, q⟩ := he.run
  refine ⟨_, ps_ret ht, fun F N S σ H ρ fp Z r s hm po => ?_⟩
  rcases sVal_some hm with ⟨d, ρ1, e1, e2⟩ | ⟨y, ρ1, e1, rfl⟩
  · cases e2
    exact q F N S σ H ρ fp _ _ s e1 fun v S1 H1 n1 r1 => po v _ S1 H1 n1 r1
  · exact q F N S σ H ρ fp _ _ s e1 (po_err po)
theorem vs_retO (he : VO X E e me) : VS X E (.Return (some e) pos) (sRetO me) := by
  obtain ⟨t, ht, q⟩ := he.run
  refine ⟨_, ps_ret ht, fun F N S σ H ρ fp Z r s hm po => ?_⟩
  rcases sVal_some hm with ⟨d, ρ1, e1, e2⟩ | ⟨y, ρ1, e1, rfl⟩
  · cases e2
    exact q F N S σ H ρ fp _ _ s e1 fun v S1 H1 n1 => po v _ S1 H1 n1
  · exact q F N S σ H ρ fp _ _ s e1 (po_errO po)
/-- a slot's own object is handed back -/
def sRetV (i : Nat) : MS := fun ρ => match ρ[i]? with
  | some (.ow d) => some (.ro d, ρ.set i .un)
  | _ => none
theorem vs_retV (i : Nat) {x : Str} {pos' : Pos} (hN : X.N[i]? = some x := by rfl) (hv : Vis X.env.scope x := by first | exact Or.inl rfl | exact Or.inr (Or.inl rfl) | exact Or.inr (Or.inr rfl)) (hd : (x == ("__debug__" : Str)) = false := by decide)
    (hcd : (x == ("__classdict__" : Str)) = false := by decide) : VS X E (.Return (some (.Name x pos')) pos) (sRetV i) := by
  refine ⟨_, ps_ret (pe_var hN hv hd hcd), fun F N S σ H ρ fp Z r s hm po => ?_⟩
  unfold sRetV at hm
  split at hm
  · rename_i d e
    cases hm
    obtain ⟨a, h1, o, n⟩ := s.ow i _ d e rfl
    have hg := drop0_get [i] ρ
    refine ⟨_, h1, po a σ S H ⟨fun _ h => h, fun _ _ => rfl, fun _ h => h, fp, fp i, s.less List.length_set hg, o, fun b hb => ⟨(n b hb).1, (n b hb).2, s.no i d e b hb⟩, fun j t u h w b hb => ?_⟩⟩
    by_cases hj : i = j
    · subst hj
      rcases hg i t h with z | z
      · subst z; cases w
      · have hl : i < ρ.length := (List.getElem?_eq_some_iff.mp e).1
        rw [List.getElem?_set_self hl] at h
        cases h; cases w
    · rw [List.getElem?_set_ne hj] at h
      exact s.sep i j _ t d u hj e rfl h w b hb
  · cases hm
theorem vs_retN : VS X E (.Return none pos) (fun ρ => some (.rt .non, ρ)) := ⟨_, ps_retN, fun F N S σ H ρ fp Z r s hm po => by
  cases hm
  exact po .non σ S H (Nx.refl s) .non⟩
/-! ### if -/
variable {c : Expr} {mc : M0 Bool} {as bs : List Stmt} {ma mb : MS}
def sIf (c : M0 Bool) (a b : MS) : MS := fun ρ => match c ρ with
  | none => none
  | some (.ok true, ρ') => a ρ'
  | some (.ok false, ρ') => b ρ'
  | some (.error x, ρ') => some (.ex x, ρ')
theorem vs_if (hc : VTe X E c mc) (ha : VSs X E as ma) (hb : VSs X E bs mb) : VS X E (.If c as bs pos) (sIf mc ma mb) := by
  obtain ⟨t, ht, q0⟩ := hc.run
  obtain ⟨u, hu, q1⟩ := ha.run
  obtain ⟨w, hw, q2⟩ := hb.run
  refine ⟨_, ps_if ht hu hw, fun F N S σ H ρ fp Z r s hm po => ?_⟩
  unfold sIf at hm
  split at hm
  · cases hm
  · rename_i ρ1 e1
    refine q0 F N S σ H ρ fp _ _ s e1 fun S1 H1 n1 => ?_
    obtain ⟨fp1, s1⟩ := n1.sim
    exact q1 F N S1 σ H1 ρ1 fp1 Z r s1 hm (po.step n1)
  · rename_i ρ1 e1
    refine q0 F N S σ H ρ fp _ _ s e1 fun S1 H1 n1 => ?_
    obtain ⟨fp1, s1⟩ := n1.sim
    exact q2 F N S1 σ H1 ρ1 fp1 Z r s1 hm (po.step n1)
  · rename_i x ρ1 e1
    cases hm
    exact q0 F N S σ H ρ fp _ _ s e1 fun C dd S' H' n h1 h2 => po C dd σ S' H' n h1 h2
end
end Vs

set_option Elab.async false
set_option linter.all false
set_option maxRecDepth 100000
set_option maxHeartbeats 4000000
namespace Vs
open PySem L2

/-! ### the same judgements with a reading that hangs on the meaning alone -/
def tvP (G : Glob) (p : Fr0) : TE := fun σ H Q => ∃ (S : Set0) (ρ : Rho) (d : D), Dom S H ∧ Cov G S σ H ρ ∧ p ρ = some d ∧ ∀ v S' H', Gr S H S' H' → Rep G S' H' v d → Q v H'
def tvT (G : Glob) (p : Rho → Option Bool) : TT := fun σ H Q => ∃ (S : Set0) (ρ : Rho) (d : Bool), Dom S H ∧ Cov G S σ H ρ ∧ p ρ = some d ∧ ∀ H', Same H H' → Q d H'
def tvE (G : Glob) (E : XK) (m : M0 D) : TE := fun σ H Q => ∃ (F : Set0) (N : Lnt) (S : Set0) (ρ : Rho) (fp : Nat → List Addr) (r : _), Sim G F N S σ H ρ fp ∧ m ρ = some r ∧ PoE G E F N S σ H Q r
def tvTe (G : Glob) (E : XK) (m : M0 Bool) : TT := fun σ H Q => ∃ (F : Set0) (N : Lnt) (S : Set0) (ρ : Rho) (fp : Nat → List Addr) (r : _), Sim G F N S σ H ρ fp ∧ m ρ = some r ∧ PoT G E F N S σ H Q r
section
variable {X : Cx} {E : XK} {e : Expr}
theorem VP.pe {p : Fr0} (h : VP X e p) : PE X e (tvP X.gk p) := by
  obtain ⟨t, ht, k⟩ := h.run
  exact ⟨fun pins s σ H Q I ⟨S, ρ, d, h1, h2, h3, h4⟩ => ht.run pins s σ H Q I (k S σ H ρ d Q h1 h2 h3 h4)⟩
theorem VT.pt {p : Rho → Option Bool} (h : VT X e p) : PT X e (tvT X.gk p) := by
  obtain ⟨t, ht, k⟩ := h.run
  exact ⟨fun pins s σ H Q I ⟨S, ρ, d, h1, h2, h3, h4⟩ => ht.run pins s σ H Q I (k S σ H ρ d Q h1 h2 h3 h4)⟩
theorem VE.pe {m : M0 D} (h : VE X E e m) : PE X e (tvE X.gk E m) := by
  obtain ⟨t, ht, k⟩ := h.run
  exact ⟨fun pins s σ H Q I ⟨F, N, S, ρ, fp, r, h1, h2, h3⟩ => ht.run pins s σ H Q I (k F N S σ H ρ fp Q r h1 h2 h3)⟩
theorem VTe.pt {m : M0 Bool} (h : VTe X E e m) : PT X e (tvTe X.gk E m) := by
  obtain ⟨t, ht, k⟩ := h.run
  exact ⟨fun pins s σ H Q I ⟨F, N, S, ρ, fp, r, h1, h2, h3⟩ => ht.run pins s σ H Q I (k F N S σ H ρ fp Q r h1 h2 h3)⟩
end

/-! ### targets -/
def setAll {α : Type} (l : List α) : List Nat → List α → List α
  | j :: js, v :: vs => setAll (l.set j v) js vs
  | _, _ => l
theorem setAll_len {α : Type} : ∀ (js : List Nat) (vs : List α) (l : List α), (setAll l js vs).length = l.length
  | [], [], _ => rfl
  | [], _ :: _, _ => rfl
  | _ :: _, [], _ => rfl
  | j :: js, v :: vs, l => (setAll_len js vs _).trans List.length_set
theorem setAll_out {α : Type} {i : Nat} : ∀ (js : List Nat) (vs : List α) (l : List α), i ∉ js → (setAll l js vs)[i]? = l[i]?
  | [], [], _, _ => rfl
  | [], _ :: _, _, _ => rfl
  | _ :: _, [], _, _ => rfl
  | j :: js, v :: vs, l, h => by
    refine (setAll_out js vs _ fun z => h (List.mem_cons_of_mem _ z)).trans ?_
    exact List.getElem?_set_ne fun z => h (by rw [z]; exact List.mem_cons_self)
structure VG (X : Cx) (tg : Expr) (js : List Nat) (sp : D → Option (List D)) : Prop where
  run : ∃ t, PG X tg t ∧ ∀ (S : Set0) (σ : L2.St) (H : Hp) (v : V) (d : D) (ds : List D) (Q : L2.St → Hp → Prop), Rep X.gk S H v d → sp d = some ds →
    (∀ vs, RepL X.gk S H vs ds → vs.length = js.length → Q (setAll σ js (vs.map some)) H) → t v σ H Q
structure VGs (X : Cx) (tgs : List Expr) (js : List Nat) (sp : List D → Option (List D)) : Prop where
  run : ∃ t, PGs X tgs t ∧ ∀ (S : Set0) (σ : L2.St) (H : Hp) (v : List V) (d : List D) (ds : List D) (Q : L2.St → Hp → Prop), RepL X.gk S H v d → sp d = some ds →
    (∀ vs, RepL X.gk S H vs ds → vs.length = js.length → Q (setAll σ js (vs.map some)) H) → t v σ H Q
theorem RepL.append {G : Glob} {S : Set0} {H : Hp} : ∀ {vs ws : List V} {ds es : List D}, RepL G S H vs ds → RepL G S H ws es → RepL G S H (vs ++ ws) (ds ++ es)
  | _, _, _, _, .nil, h => h
  | _, _, _, _, .cons r l, h => .cons r (RepL.append l h)
theorem setAll_append {α : Type} : ∀ (is js : List Nat) (vs ws : List α) (l : List α), vs.length = is.length → setAll (setAll l is vs) js ws = setAll l (is ++ js) (vs ++ ws)
  | [], js, [], ws, l, _ => rfl
  | i :: is, js, v :: vs, ws, l, h => setAll_append is js vs ws _ (by simpa using h)
  | [], _, _ :: _, _, _, h => by simp at h
  | _ :: _, _, [], _, _, h => by simp at h
section
variable {X : Cx} {pos : Pos}
def gOne : D → Option (List D) := fun d => some [d]
theorem vg_name (i : Nat) {x : Str} (hN : X.N.Nodup) (hi : X.N[i]? = some x) (hx : Loc X.env.scope x) (hf : X.fn x = true ∨ X.env.scope.names.lookup x = some .local := by first | exact .inl rfl | exact .inr rfl | assumption) : VG X (.Name x pos) [i] gOne :=
  ⟨_, pg_name hN hi hx hf, fun S σ H v d ds Q r h k => by
    cases h
    exact k [v] (.cons r .nil) rfl⟩
def gsNil : List D → Option (List D)
  | [] => some []
  | _ => none
def gsCons (f : D → Option (List D)) (g : List D → Option (List D)) : List D → Option (List D)
  | d :: ds => (f d).bind fun x => (g ds).bind fun y => some (x ++ y)
  | _ => none
theorem vgs_nil : VGs X [] [] gsNil := ⟨_, pgs_nil, fun S σ H v d ds Q r h k => by
  cases r with
  | nil => cases h; exact ⟨rfl, k [] .nil rfl⟩
  | cons _ _ => cases h⟩
theorem vgs_cons {e : Expr} {es : List Expr} {is js : List Nat} {f : D → Option (List D)} {g : List D → Option (List D)} (h1 : VG X e is f) (h2 : VGs X es js g)
    (hs : (assignEach (e :: es) X.env).map (·.2) = assign e X.env :: (assignEach es X.env).map (·.2) := by rfl) : VGs X (e :: es) (is ++ js) (gsCons f g) := by
  obtain ⟨t, ht, q1⟩ := h1.run
  obtain ⟨u, hu, q2⟩ := h2.run
  refine ⟨_, pgs_cons ht hu hs, fun S σ H v d ds Q r h k => ?_⟩
  cases r with
  | nil => cases h
  | cons r l =>
    obtain ⟨x, e1, h⟩ := Option.bind_eq_some_iff.mp h
    obtain ⟨y, e2, h⟩ := Option.bind_eq_some_iff.mp h
    cases h
    refine ⟨_, _, rfl, q1 S σ H _ _ x _ r e1 fun vs r1 l1 => ?_⟩
    refine q2 S _ H _ _ y _ l e2 fun ws r2 l2 => ?_
    have z := k (vs ++ ws) (r1.append r2) (by rw [List.length_append, List.length_append, l1, l2])
    rw [List.map_append, ← setAll_append is js _ _ σ (by rw [List.length_map]; exact l1)] at z
    exact z
/-- (a, b, ..) = a tuple of as many -/
def gTupD (n : Nat) (g : List D → Option (List D)) : D → Option (List D)
  | .tup l => if l.length = n then g l else none
  | .tpl l => if l.length = n then g l else none
  | _ => none
theorem vg_tup {es : List Expr} {k : Nat} {js : List Nat} {g : List D → Option (List D)} {n : Nat} (hc : X.calm = true) (h : VGs X es js g)
    (hn : (assignEach es X.env).length = n := by rfl) (hst : (assignEach es X.env).findIdx? (·.1) = none := by rfl) : VG X (.Tuple es k pos) js (gTupD n g) := by
  obtain ⟨t, ht, q1⟩ := h.run
  refine ⟨_, pg_tup hc ht hn hst, fun S σ H v d ds Q r h k => ?_⟩
  cases r with
  | tup a rd l =>
    have h : (if _ = n then g _ else none) = some ds := h
    split at h
    · rename_i hl
      exact ⟨_, _, rfl, .inl rd.kit, l.len.trans hl, q1 S σ H _ _ ds Q l h k⟩
    · cases h
  | tpl a rd l =>
    have h : (if _ = n then g _ else none) = some ds := h
    split at h
    · rename_i hl
      exact ⟨_, _, rfl, .inl rd.kit, l.len.trans hl, q1 S σ H _ _ ds Q l h k⟩
    · cases h
  | non => cases h
  | bl _ => cases h
  | int _ => cases h
  | str _ => cases h
  | lst _ _ _ => cases h
  | scr _ => cases h
  | dct _ _ _ => cases h
  | ins _ _ _ _ => cases h
end
section
variable {G : Glob} {F : Set0} {N : Lnt} {S : Set0} {H : Hp}
theorem Sim.setAll : ∀ {js : List Nat} {vs : List V} {ds : List D} {σ : L2.St} {ρ : Rho} {fp : Nat → List Addr}, RepL G S H vs ds → Sim G F N S σ H ρ fp → Sim G F N S (setAll σ js (vs.map some)) H (setAll ρ js (ds.map .im)) fp
  | [], _, _, _, _, _, .nil, s => s
  | [], _, _, _, _, _, .cons _ _, s => s
  | _ :: _, _, _, _, _, _, .nil, s => s
  | j :: js, _, _, _, _, _, .cons r l, s => Sim.setAll (js := js) l (s.setI j r)
theorem Cov.setI {σ : L2.St} {ρ : Rho} {v : V} {d : D} (c : Cov G S σ H ρ) (i : Nat) (r : Rep G S H v d) : Cov G S (σ.set i (some v)) H (ρ.set i (.im d)) := ⟨by rw [List.length_set, List.length_set]; exact c.len, fun j e h => by
  by_cases hj : i = j
  · subst hj
    by_cases hl' : i < ρ.length
    · rw [List.getElem?_set_self hl'] at h
      cases h
      exact ⟨v, List.getElem?_set_self (Nat.lt_of_lt_of_le hl' c.len), r⟩
    · rw [List.getElem?_eq_none (by rw [List.length_set]; omega)] at h; cases h
  · rw [List.getElem?_set_ne hj] at h ⊢
    exact c.im j e h⟩
theorem Cov.setAll : ∀ {js : List Nat} {vs : List V} {ds : List D} {σ : L2.St} {ρ : Rho}, RepL G S H vs ds → Cov G S σ H ρ → Cov G S (setAll σ js (vs.map some)) H (setAll ρ js (ds.map .im))
  | [], _, _, _, _, .nil, s => s
  | [], _, _, _, _, .cons _ _, s => s
  | _ :: _, _, _, _, _, .nil, s => s
  | j :: js, _, _, _, _, .cons r l, s => Cov.setAll (js := js) l (s.setI j r)
end

/-! ### what is walked -/
/-- J yields what stands for xs, while what lies in S stays -/
structure Walks (G : Glob) (J : It) (S : Set0) (H1 : Hp) (xs : List D) : Prop where
  go : ∀ (i : Nat) (S' : Set0) (H : Hp), i < xs.length → (∀ b, S b → S' b) → (∀ b, S b → H b = H1 b) → Dom S' H →
    J.go i H ∧ ∀ v H', J.yld i H v H' → ∃ S'' d, xs[i]? = some d ∧ Gr S' H S'' H' ∧ Rep G S'' H' v d
  stop : ∀ (i : Nat) (H : Hp), xs.length ≤ i → (∀ b, S b → H b = H1 b) → J.stop i H
structure VIp (X : Cx) (tg iter : Expr) (p : Rho → Option (List D)) : Prop where
  run : ∃ wi, PI X tg iter wi ∧ ∀ (S : Set0) (σ : L2.St) (H : Hp) (ρ : Rho) (xs : List D) (R : It → Hp → Prop), Dom S H → Cov X.gk S σ H ρ → p ρ = some xs →
    (∀ J S' H', Gr S H S' H' → Walks X.gk J S' H' xs → R J H') → wi σ H R
structure VI (X : Cx) (E : XK) (tg iter : Expr) (m : M0 (List D)) : Prop where
  run : ∃ wi, PI X tg iter wi ∧ ∀ (F : Set0) (N : Lnt) (S : Set0) (σ : L2.St) (H : Hp) (ρ : Rho) (fp : Nat → List Addr) (R : It → Hp → Prop) r, Sim X.gk F N S σ H ρ fp → m ρ = some r →
    (match r with
      | (.ok xs, ρ') => ∀ J S' H', Nx X.gk F N S H S' H' σ ρ' → Walks X.gk J S' H' xs → R J H'
      | (.error x, ρ') => ∀ C dd S' H', Nx X.gk F N S H S' H' σ ρ' → X.mg x.c = some (.ref C) → ExR X.gk S' H' x.fs dd → E (.ref C) dd H') → wi σ H R
theorem RepL.get {G : Glob} {S : Set0} {H : Hp} : ∀ {vs : List V} {ds : List D} {i : Nat} {v : V}, RepL G S H vs ds → vs[i]? = some v → ∃ d, ds[i]? = some d ∧ Rep G S H v d
  | _, _, _, _, .nil, h => by simp at h
  | _, _, 0, _, .cons r _, h => by simp at h; subst h; exact ⟨_, rfl, r⟩
  | _, _, i + 1, v, .cons _ l, h => by
    obtain ⟨d, h1, h2⟩ := RepL.get (i := i) (v := v) l (by simpa using h)
    exact ⟨d, by simpa using h1, h2⟩
theorem RepL.kept {G : Glob} {S S' : Set0} {H1 H : Hp} {vs : List V} {ds : List D} (le : ∀ b, S b → S' b) (k : ∀ b, S b → H b = H1 b) (l : RepL G S H1 vs ds) : RepL G S' H vs ds := l.mono le (fun b u hb r => Rd.eq (k b hb) r) _ _
section
variable {X : Cx} {E : XK} {tg : Expr} {e : Expr} {pos : Pos}
theorem VIp.vi {iter : Expr} {p : Rho → Option (List D)} (h : VIp X tg iter p) : VI X E tg iter (mP p) := by
  obtain ⟨wi, hw, q⟩ := h.run
  refine ⟨wi, hw, fun F N S σ H ρ fp R r s hm po => ?_⟩
  obtain ⟨xs, e1, rfl⟩ := Option.map_eq_some_iff.mp hm
  exact q S σ H ρ xs R s.domS s.cov e1 fun J S' H' g w => po J S' H' (Nx.of_gr s g) w
theorem walks_list {G : Glob} {K : PySem.W.Frag} {S : Set0} {H : Hp} {a : Addr} {vs : List V} {ds : List D} (hs : S a) (r : Rd H a (.lst vs)) (l : RepL G S H vs ds) : Walks G (Itl K a) S H ds where
  go := fun i S' H' hi le k dm => by
    have hl := l.len
    have sq : SqL K H' a vs := .inl (Rd.eq (k a hs) r).kit
    have hv : vs[i]? = some vs[i] := List.getElem?_eq_getElem (by omega)
    refine ⟨⟨vs, _, sq, hv⟩, fun v H2 y => ?_⟩
    obtain ⟨rfl, y⟩ := y
    obtain ⟨d, h1, h2⟩ := (l.kept le k).get (y vs sq)
    exact ⟨S', d, h1, Gr.refl dm, h2⟩
  stop := fun i H' hi k => ⟨vs, .inl (Rd.eq (k a hs) r).kit, by rw [l.len]; exact hi⟩
theorem walks_tup {G : Glob} {K : PySem.W.Frag} {S : Set0} {H : Hp} {a : Addr} {vs : List V} {ds : List D} (hs : S a) (r : Tb H a vs) (l : RepL G S H vs ds) : Walks G (Itt K a) S H ds where
  go := fun i S' H' hi le k dm => by
    have hl := l.len
    have sq : SqT K H' a vs := .inl (r.mono fun u z => Rd.eq (k a hs) z).kit
    have hv : vs[i]? = some vs[i] := List.getElem?_eq_getElem (by omega)
    refine ⟨⟨vs, _, sq, hv⟩, fun v H2 y => ?_⟩
    obtain ⟨rfl, y⟩ := y
    obtain ⟨d, h1, h2⟩ := (l.kept le k).get (y vs sq)
    exact ⟨S', d, h1, Gr.refl dm, h2⟩
  stop := fun i H' hi k => ⟨vs, .inl (r.mono fun u z => Rd.eq (k a hs) z).kit, by rw [l.len]; exact hi⟩
def asL : D → Option (List D)
  | .lst l => some l
  | _ => none
def asT : D → Option (List D)
  | .tup l => some l
  | _ => none
def iL (p : Fr0) : Rho → Option (List D) := fun ρ => (p ρ).bind asL
def iT (p : Fr0) : Rho → Option (List D) := fun ρ => (p ρ).bind asT
theorem vi_list {p : Fr0} (h : VP X e p) : VIp X tg e (iL p) := by
  obtain ⟨t, ht, q⟩ := h.run
  refine ⟨_, pi_list ht, fun S σ H ρ xs R dm c hp k => ?_⟩
  obtain ⟨d, e1, e2⟩ := Option.bind_eq_some_iff.mp hp
  cases d with
  | lst l =>
    cases e2
    refine q S σ H ρ _ _ dm c e1 fun v S' H' g r => ?_
    cases r with
    | lst a rd l => exact ⟨_, rfl, ⟨_, .inl rd.kit⟩, k _ S' H' g (walks_list a rd l)⟩
  | _ => cases e2
theorem vi_tup {p : Fr0} (h : VP X e p) : VIp X tg e (iT p) := by
  obtain ⟨t, ht, q⟩ := h.run
  refine ⟨_, pi_tup ht, fun S σ H ρ xs R dm c hp k => ?_⟩
  obtain ⟨d, e1, e2⟩ := Option.bind_eq_some_iff.mp hp
  cases d with
  | tup l =>
    cases e2
    refine q S σ H ρ _ _ dm c e1 fun v S' H' g r => ?_
    cases r with
    | tup a rd l => exact ⟨_, rfl, ⟨_, .inl rd.kit⟩, k _ S' H' g (walks_tup a rd l)⟩
  | _ => cases e2
def miL (m : M0 D) : M0 (List D) := bnd m fun d => opt (asL d)
def miT (m : M0 D) : M0 (List D) := bnd m fun d => opt (asT d)
theorem vi_listE {m : M0 D} (h : VE X E e m) : VI X E tg e (miL m) := by
  obtain ⟨t, ht, q⟩ := h.run
  refine ⟨_, pi_list ht, fun F N S σ H ρ fp R r s hm po => ?_⟩
  rcases bnd_some hm with ⟨d, ρ1, e1, hm⟩ | ⟨x, ρ1, e1, rfl⟩
  · obtain ⟨l, e2, rfl⟩ := Option.map_eq_some_iff.mp hm
    cases d with
    | lst l =>
      cases e2
      refine q F N S σ H ρ fp _ _ s e1 fun v S' H' g r => ?_
      cases r with
      | lst a rd l => exact ⟨_, rfl, ⟨_, .inl rd.kit⟩, po _ S' H' g (walks_list a rd l)⟩
    | _ => cases e2
  · exact q F N S σ H ρ fp _ _ s e1 po
theorem vi_tupE {m : M0 D} (h : VE X E e m) : VI X E tg e (miT m) := by
  obtain ⟨t, ht, q⟩ := h.run
  refine ⟨_, pi_tup ht, fun F N S σ H ρ fp R r s hm po => ?_⟩
  rcases bnd_some hm with ⟨d, ρ1, e1, hm⟩ | ⟨x, ρ1, e1, rfl⟩
  · obtain ⟨l, e2, rfl⟩ := Option.map_eq_some_iff.mp hm
    cases d with
    | tup l =>
      cases e2
      refine q F N S σ H ρ fp _ _ s e1 fun v S' H' g r => ?_
      cases r with
      | tup a rd l => exact ⟨_, rfl, ⟨_, .inl rd.kit⟩, po _ S' H' g (walks_tup a rd l)⟩
    | _ => cases e2
  · exact q F N S σ H ρ fp _ _ s e1 po
/-- lo, lo + 1, .. -/
def rl (lo : Int) (n : Nat) : List D := (List.range n).map fun i => .int (lo + (i : Nat))
theorem rl_len (lo : Int) (n : Nat) : (rl lo n).length = n := by unfold rl; rw [List.length_map, List.length_range]
theorem rl_get {lo : Int} {n i : Nat} (h : i < n) : (rl lo n)[i]? = some (.int (lo + (i : Nat))) := by
  unfold rl
  rw [List.getElem?_map, List.getElem?_range h] <;> rfl
theorem walks_range {G : Glob} {S : Set0} {H : Hp} (lo : Int) (n : Nat) : Walks G (Itr lo n) S H (rl lo n) where
  go := fun i S' H' hi le k dm => by
    rw [rl_len] at hi
    refine ⟨hi, fun v H2 y => ?_⟩
    obtain ⟨rfl, rfl⟩ := y
    exact ⟨S', _, rl_get hi, Gr.refl dm, .int _⟩
  stop := fun i H' hi k => by rw [rl_len] at hi; exact hi
def rng1 : List D → Option (List D)
  | [.int j] => if -(2 ^ 62) ≤ j ∧ j < 2 ^ 62 then some (rl 0 j.toNat) else none
  | _ => none
def rng2 : List D → Option (List D)
  | [.int i, .int j] => if -(2 ^ 62) ≤ i ∧ i < 2 ^ 62 ∧ -(2 ^ 62) ≤ j ∧ j < 2 ^ 62 then some (rl i (j - i).toNat) else none
  | _ => none
theorem rng1_some {l : List D} {xs : List D} (h : rng1 l = some xs) : ∃ j : Int, l = [.int j] ∧ -(2 ^ 62) ≤ j ∧ j < 2 ^ 62 ∧ xs = rl 0 j.toNat := by
  unfold rng1 at h
  split at h
  · rename_i j
    split at h
    · rename_i hj
      cases h
      exact ⟨j, rfl, hj.1, hj.2, rfl⟩
    · cases h
  · cases h
theorem rng2_some {l : List D} {xs : List D} (h : rng2 l = some xs) : ∃ i j : Int, l = [.int i, .int j] ∧ (-(2 ^ 62) ≤ i ∧ i < 2 ^ 62 ∧ -(2 ^ 62) ≤ j ∧ j < 2 ^ 62) ∧ xs = rl i (j - i).toNat := by
  unfold rng2 at h
  split at h
  · rename_i i j
    split at h
    · rename_i hj
      cases h
      exact ⟨i, j, rfl, hj, rfl⟩
    · cases h
  · cases h
theorem RepL.int1 {G : Glob} {S : Set0} {H : Hp} {vs : List V} {j : Int} (r : RepL G S H vs [.int j]) : vs = [.int j] := by
  cases r with
  | cons r l => cases l; cases r; rfl
theorem RepL.int2 {G : Glob} {S : Set0} {H : Hp} {vs : List V} {i j : Int} (r : RepL G S H vs [.int i, .int j]) : vs = [.int i, .int j] := by
  cases r with
  | cons r l => cases r; rw [l.int1]
variable {a b : Expr} {p : Pos}
theorem vi_range1 {ps : Rho → Option (List D)} (hg : Gl X "range") (hm : X.gk "range" = none) (ha : VA X [a] ps) (hs : starEach [a] X.env = [(false, eval a X.env)] := by rfl) : VIp X tg (.Call (.Name "range" p) [a] [] pos) (fun ρ => (ps ρ).bind rng1) := by
  obtain ⟨t, ht, q⟩ := ha.run
  refine ⟨_, pi_range1 hg hm ht hs, fun S σ H ρ xs R dm c hp k => ?_⟩
  obtain ⟨l, e1, e2⟩ := Option.bind_eq_some_iff.mp hp
  obtain ⟨j, rfl, h1, h2, rfl⟩ := rng1_some e2
  refine q S σ H ρ _ _ dm c e1 fun vs S' H' g r => ?_
  exact ⟨j, r.int1, h1, h2, k _ S' H' g (walks_range 0 _)⟩
theorem vi_range2 {ps : Rho → Option (List D)} (hg : Gl X "range") (hm : X.gk "range" = none) (ha : VA X [a, b] ps) (hs : starEach [a, b] X.env = [(false, eval a X.env), (false, eval b X.env)] := by rfl) (hs2 : starEach [b] X.env = [(false, eval b X.env)] := by rfl) :
    VIp X tg (.Call (.Name "range" p) [a, b] [] pos) (fun ρ => (ps ρ).bind rng2) := by
  obtain ⟨t, ht, q⟩ := ha.run
  refine ⟨_, pi_range2 hg hm ht hs hs2, fun S σ H ρ xs R dm c hp k => ?_⟩
  obtain ⟨l, e1, e2⟩ := Option.bind_eq_some_iff.mp hp
  obtain ⟨i, j, rfl, h1, rfl⟩ := rng2_some e2
  refine q S σ H ρ _ _ dm c e1 fun vs S' H' g r => ?_
  exact ⟨i, j, r.int2, h1, k _ S' H' g (walks_range i _)⟩
theorem vi_range1E {ms : M0 (List D)} (hg : Gl X "range") (hm : X.gk "range" = none) (ha : VAe X E [a] ms) (hs : starEach [a] X.env = [(false, eval a X.env)] := by rfl) : VI X E tg (.Call (.Name "range" p) [a] [] pos) (bnd ms fun l => opt (rng1 l)) := by
  obtain ⟨t, ht, q⟩ := ha.run
  refine ⟨_, pi_range1 hg hm ht hs, fun F N S σ H ρ fp R r s hm po => ?_⟩
  rcases bnd_some hm with ⟨l, ρ1, e1, hm⟩ | ⟨x, ρ1, e1, rfl⟩
  · obtain ⟨xs, e2, rfl⟩ := Option.map_eq_some_iff.mp hm
    obtain ⟨j, rfl, h1, h2, rfl⟩ := rng1_some e2
    refine q F N S σ H ρ fp _ _ s e1 fun vs S' H' g r => ?_
    exact ⟨j, r.int1, h1, h2, po _ S' H' g (walks_range 0 _)⟩
  · exact q F N S σ H ρ fp _ _ s e1 po
end

/-! ### for -/
section
variable {X : Cx} {E : XK} {tg iter : Expr} {body : List Stmt} {mi : M0 (List D)} {js : List Nat} {sp : D → Option (List D)} {mb : MS} {pos : Pos}
def loop (js : List Nat) (sp : D → Option (List D)) (mb : MS) : List D → MS
  | [], ρ => some (.nx, ρ)
  | x :: xs, ρ => match sp x with
    | none => none
    | some ds => match mb (setAll ρ js (ds.map .im)) with
      | some (.nx, ρ') => loop js sp mb xs ρ'
      | some (.cnt, ρ') => loop js sp mb xs ρ'
      | some (.brk, ρ') => some (.nx, ρ')
      | r => r
def sFor (mi : M0 (List D)) (js : List Nat) (sp : D → Option (List D)) (mb : MS) : MS := fun ρ => match mi ρ with
  | none => none
  | some (.ok xs, ρ') => loop js sp mb xs ρ'
  | some (.error x, ρ') => some (.ex x, ρ')
theorem vs_for (hp : PassesOwn (model X.prog X.w) X.A X.env X.xe) (hc : X.calm = true) (hi : VI X E tg iter mi) (hg : VG X tg js sp) (hb : VSs X E body mb)
    (hs : ∀ x, foldedSetIterable iter X.env x = pure x := by intro _; rfl) : VS X E (.For tg iter body [] pos) (sFor mi js sp mb) := by
  obtain ⟨wi, hw, q0⟩ := hi.run
  obtain ⟨g, hg, q1⟩ := hg.run
  obtain ⟨t, ht, q2⟩ := hb.run
  refine ⟨_, ps_for hp hc hw hg ht hs, fun F N S σ H ρ fp Z r s hm po => ?_⟩
  unfold sFor at hm
  split at hm
  · cases hm
  · rename_i xs ρ1 e1
    refine q0 F N S σ H ρ fp _ _ s e1 fun J S1 H1 n1 wk => ?_
    have po1 := po.step n1
    refine ⟨fun i m σ' H' => m = xs.length - i ∧ i ≤ xs.length ∧ ∃ S' ρ', Nx X.gk F N S1 H1 S' H' σ' ρ' ∧ loop js sp mb (xs.drop i) ρ' = some r, ⟨xs.length, by omega, by omega, S1, ρ1, ?_, ?_⟩, ?_⟩
    · obtain ⟨fp1, s1⟩ := n1.sim
      exact Nx.refl s1
    · exact hm
    · rintro i m σ2 H2 ⟨rfl, hi, S2, ρ2, n2, e2⟩
      obtain ⟨fp2, s2⟩ := n2.sim
      by_cases hlt : i < xs.length
      · have hx : xs.drop i = xs[i] :: xs.drop (i + 1) := (List.drop_eq_getElem_cons hlt)
        rw [hx] at e2
        obtain ⟨go, yl⟩ := wk.go i S2 H2 hlt n2.le (fun b hb => n2.kept b (.inl hb)) s2.domS
        refine .inr ⟨go, fun σ' H' => ∃ S' ρ', Nx X.gk F N S1 H1 S' H' σ' ρ' ∧ loop js sp mb (xs.drop (i + 1)) ρ' = some r, fun σ' H' ⟨S', ρ', a1, a2⟩ => ⟨xs.length - (i + 1), by omega, rfl, hlt, S', ρ', a1, a2⟩, fun x H3 y => ?_⟩
        obtain ⟨S3, d, h1, g3, r3⟩ := yl x H3 y
        have hd : xs[i] = d := by rw [List.getElem?_eq_getElem hlt] at h1; exact Option.some.inj h1
        rw [hd] at e2
        have n3 := n2.trans (Nx.of_gr s2 g3)
        obtain ⟨fp3, s3⟩ := n3.sim
        unfold loop at e2
        cases es : sp d with
        | none => rw [es] at e2; cases e2
        | some ds =>
          rw [es] at e2
          dsimp only at e2
          refine q1 S3 _ H3 x d ds _ r3 es fun vs rl hl => ?_
          have s4 := Sim.setAll (js := js) rl s3
          have n4 : Nx X.gk F N S1 H1 S3 H3 (setAll σ2 js (vs.map some)) (setAll ρ2 js (ds.map .im)) := ⟨n3.le, n3.kept, n3.grow, _, s4⟩
          cases eb : mb (setAll ρ2 js (ds.map .im)) with
          | none => rw [eb] at e2; cases e2
          | some rb =>
            obtain ⟨fl, ρ5⟩ := rb
            rw [eb] at e2
            refine q2 F N S3 _ H3 _ _ _ _ s4 eb ?_
            cases fl with
            | nx => exact fun σ5 S5 H5 n5 => ⟨S5, ρ5, n4.trans n5, e2⟩
            | cnt => exact fun σ5 S5 H5 n5 => ⟨S5, ρ5, n4.trans n5, e2⟩
            | brk =>
              cases e2
              exact fun σ5 S5 H5 n5 => po1 σ5 S5 H5 (n4.trans n5)
            | rt d =>
              cases e2
              exact fun v σ5 S5 H5 n5 r5 => po1 v σ5 S5 H5 (n4.trans n5) r5
            | ro d =>
              cases e2
              exact fun v σ5 S5 H5 n5 => po1 v σ5 S5 H5 (n4.transO n5)
            | ex x =>
              cases e2
              exact fun C dd σ5 S5 H5 n5 z1 z2 => po1 C dd σ5 S5 H5 (n4.trans n5) z1 z2
      · have hn : xs.drop i = [] := List.drop_eq_nil_of_le (by omega)
        rw [hn] at e2
        cases e2
        exact .inl ⟨wk.stop i H2 (by omega) (fun b hb => n2.kept b (.inl hb)), po1 σ2 S2 H2 n2⟩
  · rename_i x ρ1 e1
    cases hm
    exact q0 F N S σ H ρ fp _ _ s e1 fun C dd S' H' n h1 h2 => po C dd σ S' H' n h1 h2
/-! ### while -/
variable {c : Expr} {mc : M0 Bool}
def sWhile (c : M0 Bool) (b : MS) : Nat → MS
  | 0, _ => none
  | n + 1, ρ => match c ρ with
    | none => none
    | some (.error x, ρ1) => some (.ex x, ρ1)
    | some (.ok false, ρ1) => some (.nx, ρ1)
    | some (.ok true, ρ1) => match b ρ1 with
      | some (.nx, ρ2) => sWhile c b n ρ2
      | some (.cnt, ρ2) => sWhile c b n ρ2
      | some (.brk, ρ2) => some (.nx, ρ2)
      | r => r
theorem vs_while (n : Nat) (hp : PassesOwn (model X.prog X.w) X.A X.env X.xe) (hc : VTe X E c mc) (hb : VSs X E body mb) : VS X E (.While c body [] pos) (sWhile mc mb n) := by
  obtain ⟨tc, hc, q1⟩ := hc.run
  obtain ⟨t, ht, q2⟩ := hb.run
  refine ⟨_, ps_while hp hc ht, fun F N S σ H ρ fp Z r s hm po => ?_⟩
  refine ⟨fun m σ' H' => ∃ S' ρ', Nx X.gk F N S H S' H' σ' ρ' ∧ sWhile mc mb m ρ' = some r, ⟨n, S, ρ, Nx.refl s, hm⟩, ?_⟩
  rintro m σ2 H2 ⟨S2, ρ2, n2, e2⟩
  obtain ⟨fp2, s2⟩ := n2.sim
  cases m with
  | zero => cases e2
  | succ m =>
    unfold sWhile at e2
    cases ec : mc ρ2 with
    | none => rw [ec] at e2; cases e2
    | some rc =>
      obtain ⟨fc, ρ3⟩ := rc
      rw [ec] at e2
      refine q1 F N S2 σ2 H2 ρ2 fp2 _ _ s2 ec ?_
      cases fc with
      | error x =>
        cases e2
        exact fun C dd S' H' n h1 h2 => po C dd σ2 S' H' (n2.trans n) h1 h2
      | ok b =>
        intro S3 H3 n3
        have n3 := n2.trans n3
        obtain ⟨fp3, s3⟩ := n3.sim
        cases b with
        | false =>
          cases e2
          rw [if_neg Bool.false_ne_true]
          exact po σ2 S3 H3 n3
        | true =>
          rw [if_pos rfl]
          dsimp only at e2
          refine ⟨fun σ' H' => ∃ S' ρ', Nx X.gk F N S H S' H' σ' ρ' ∧ sWhile mc mb m ρ' = some r, fun σ' H' z => ⟨m, Nat.lt_succ_self m, z⟩, ?_⟩
          cases eb : mb ρ3 with
          | none => rw [eb] at e2; cases e2
          | some rb =>
            obtain ⟨fl, ρ5⟩ := rb
            rw [eb] at e2
            refine q2 F N S3 _ H3 _ _ _ _ s3 eb ?_
            cases fl with
            | nx => exact fun σ5 S5 H5 n5 => ⟨S5, ρ5, n3.trans n5, e2⟩
            | cnt => exact fun σ5 S5 H5 n5 => ⟨S5, ρ5, n3.trans n5, e2⟩
            | brk =>
              cases e2
              exact fun σ5 S5 H5 n5 => po σ5 S5 H5 (n3.trans n5)
            | rt d =>
              cases e2
              exact fun v σ5 S5 H5 n5 r5 => po v σ5 S5 H5 (n3.trans n5) r5
            | ro d =>
              cases e2
              exact fun v σ5 S5 H5 n5 => po v σ5 S5 H5 (n3.transO n5)
            | ex x =>
              cases e2
              exact fun C dd σ5 S5 H5 n5 z1 z2 => po C dd σ5 S5 H5 (n3.trans n5) z1 z2
end
end Vs

set_option Elab.async false
set_option linter.all false
set_option maxRecDepth 100000
set_option maxHeartbeats 4000000
namespace Vs
open PySem L2

theorem wipe_in {i : Nat} : ∀ {vs : List Nat} {σ : L2.St}, i ∈ vs → i < σ.length → (wipe σ vs)[i]? = some none
  | v :: vs, σ, h, hl => by
    unfold wipe
    by_cases hv : v = i
    · subst hv
      exact List.getElem?_set_self (by rw [wipe_length]; exact hl)
    · rw [List.getElem?_set_ne hv]
      exact wipe_in ((List.mem_cons.mp h).resolve_left (Ne.symm hv)) hl
/-- what the block's own slots hold does not matter -/
theorem wipe_eq {vs : List Nat} {σ σ' : L2.St} (hl : σ'.length = σ.length) (h : ∀ i, i ∉ vs → σ'[i]? = σ[i]?) : wipe σ' vs = wipe σ vs := by
  refine List.ext_getElem? fun i => ?_
  by_cases hi : i ∈ vs
  · by_cases hj : i < σ.length
    · rw [wipe_in hi hj, wipe_in hi (by rw [hl]; exact hj)]
    · rw [List.getElem?_eq_none (by rw [wipe_length, hl]; omega), List.getElem?_eq_none (by rw [wipe_length]; omega)]
  · rw [wipe_out hi, wipe_out hi, h i hi]
theorem wipe_setAll {js vs : List Nat} {σ : L2.St} {ws : List (Option V)} (h : ∀ j ∈ js, j ∈ vs) : wipe (setAll (wipe σ vs) js ws) vs = wipe σ vs :=
  wipe_eq (by rw [setAll_len, wipe_length]) fun i hi => by rw [setAll_out js ws _ fun z => hi (h i z), wipe_out hi]
theorem drop0_in {i : Nat} : ∀ {is : List Nat} {ρ : Rho}, i ∈ is → ∀ t, (drop0 ρ is)[i]? = some t → t = .un
  | j :: js, ρ, h, t, e => by
    by_cases hj : i ∈ js
    · exact drop0_in hj t e
    · have hji : j = i := ((List.mem_cons.mp h).resolve_right hj).symm
      subst hji
      rcases drop0_get js _ j t e with z | z
      · exact z
      · by_cases hl : j < ρ.length
        · rw [List.getElem?_set_self hl] at z
          exact (Option.some.inj z).symm
        · rw [List.getElem?_eq_none (by rw [List.length_set]; omega)] at z; cases z
theorem Cov.wipe {G : Glob} {S : Set0} {σ : L2.St} {H : Hp} {ρ : Rho} (is : List Nat) (c : Cov G S σ H ρ) : Cov G S (wipe σ is) H (drop0 ρ is) :=
  ⟨by rw [wipe_length, drop0_len]; exact c.len, fun i d e => by
    by_cases hi : i ∈ is
    · cases drop0_in hi _ e
    · rcases drop0_get is ρ i _ e with z | z
      · cases z
      · rw [wipe_out hi]
        exact c.im i d z⟩
theorem Sim.wipe {G : Glob} {F : Set0} {N : Lnt} {S : Set0} {σ : L2.St} {H : Hp} {ρ : Rho} {fp : Nat → List Addr} (is : List Nat) (s : Sim G F N S σ H ρ fp) : Sim G F N S (L2.wipe σ is) H (drop0 ρ is) fp := by
  have s' := s.less (drop0_len is ρ) (drop0_get is ρ)
  refine ⟨by rw [wipe_length]; exact s'.len, (Cov.wipe is s.cov).im, fun i t d e w => ?_, s'.no, s'.sep, s'.dom, s'.off, fun i d e => ?_⟩
  · by_cases hi : i ∈ is
    · cases drop0_in hi _ e; cases w
    · rw [wipe_out hi]
      exact s'.ow i t d e w
  · by_cases hi : i ∈ is
    · cases drop0_in hi _ e
    · rw [wipe_out hi]
      exact s'.lent i d e
/-- back from the block -/
theorem Sim.unwipe {G : Glob} {F : Set0} {N : Lnt} {S : Set0} {σ : L2.St} {H : Hp} {ρ : Rho} {fp : Nat → List Addr} {is : List Nat} (hu : ∀ i ∈ is, ∀ t, ρ[i]? = some t → t = .un) (s : Sim G F N S (L2.wipe σ is) H ρ fp) : Sim G F N S σ H ρ fp := by
  refine ⟨by have := s.len; rw [wipe_length] at this; exact this, fun i d e => ?_, fun i t d e w => ?_, s.no, s.sep, s.dom, s.off, fun i d e => ?_⟩
  · by_cases hi : i ∈ is
    · cases hu i hi _ e
    · have := s.im i d e
      rw [wipe_out hi] at this
      exact this
  · by_cases hi : i ∈ is
    · cases hu i hi _ e; cases w
    · have := s.ow i t d e w
      rw [wipe_out hi] at this
      exact this
  · by_cases hi : i ∈ is
    · cases hu i hi _ e
    · have := s.lent i d e
      rw [wipe_out hi] at this
      exact this

/-! ### a comprehension that changes nothing -/
def comp (js : List Nat) (sp : D → Option (List D)) (pq : Rho → Option Bool) (pe : Fr0) (ρ : Rho) : List D → Option (List D)
  | [] => some []
  | x :: xs => (sp x).bind fun ds => (pq (setAll ρ js (ds.map .im))).bind fun b =>
    if b = true then (pe (setAll ρ js (ds.map .im))).bind fun y => (comp js sp pq pe ρ xs).bind fun l => some (y :: l) else comp js sp pq pe ρ xs
def pComp (own : List Nat) (pi : Rho → Option (List D)) (js : List Nat) (sp : D → Option (List D)) (pq : Rho → Option Bool) (pe : Fr0) : Fr0 := fun ρ =>
  (pi ρ).bind fun xs => if xs.length ≤ 100000 then (comp js sp pq pe (drop0 ρ own) xs).map .lst else none
abbrev pYes : Rho → Option Bool := fun _ => some true
abbrev RdT (G : Glob) (tt : TT) (pq : Rho → Option Bool) : Prop := ∀ (S : Set0) (σ : L2.St) (H : Hp) (ρ : Rho) (b : Bool) (Q : Bool → Hp → Prop), Dom S H → Cov G S σ H ρ → pq ρ = some b → (∀ H', Same H H' → Q b H') → tt σ H Q
theorem rdT_yes {G : Glob} : RdT G tYes pYes := fun S σ H ρ b Q dm c h k => by
  cases h
  exact k H (Same.refl H)
theorem rdT_tv {G : Glob} {p : Rho → Option Bool} : RdT G (tvT G p) p := fun S σ H ρ b Q dm c h k => ⟨S, ρ, b, dm, c, h, k⟩
section
variable {X : Cx} {E : XK} {elt tg iter : Expr} {ifs : List Expr} {scope : Scope} {own : List (Str × Nat)} {pos : Pos} {js : List Nat} {sp : D → Option (List D)}
abbrev RunFr (X : Cx) (t : TE) (p : Fr0) : Prop := ∀ (S : Set0) (σ : L2.St) (H : Hp) (ρ : Rho) (d : D) (Q : VK), Dom S H → Cov X.gk S σ H ρ → p ρ = some d → (∀ a S' H' fp, Gr S H S' H' → Own X.gk S' H' a d fp → (∀ b ∈ fp, H b = none ∧ ¬ S' b) → Q (.ref a) H') → t σ H Q
theorem lcP {wi : TI} {g : TG} {tt : TT} {pi : Rho → Option (List D)} {pq : Rho → Option Bool} {pe : Fr0} (hj : ∀ j ∈ js, j ∈ own.map (·.2))
    (q0 : ∀ (S : Set0) (σ : L2.St) (H : Hp) (ρ : Rho) (xs : List D) (R : It → Hp → Prop), Dom S H → Cov X.gk S σ H ρ → pi ρ = some xs → (∀ J S' H', Gr S H S' H' → Walks X.gk J S' H' xs → R J H') → wi σ H R)
    (q1 : ∀ (S : Set0) (σ : L2.St) (H : Hp) (v : V) (d : D) (ds : List D) (Q : L2.St → Hp → Prop), Rep X.gk S H v d → sp d = some ds → (∀ vs, RepL X.gk S H vs ds → vs.length = js.length → Q (setAll σ js (vs.map some)) H) → g v σ H Q)
    (q2 : RdT X.gk tt pq) : RunFr X (tLc wi g tt (tvP X.gk pe) (own.map (·.2))) (pComp (own.map (·.2)) pi js sp pq pe) := by
  intro S σ H ρ d Q dm cv hp k
  unfold pComp at hp
  obtain ⟨xs, e0, hp⟩ := Option.bind_eq_some_iff.mp hp
  split at hp
  case isFalse => cases hp
  rename_i hsz
  obtain ⟨out, e1, rfl⟩ := Option.map_eq_some_iff.mp hp
  refine q0 S σ H ρ xs _ dm cv e0 fun J S1 H1 g1 wk => ?_
  intro p np
  have sD : Same H1 (upd H1 p (.lst [])) := same_new np
  have nS1 : ¬ S1 p := fun z => g1.dom p z np
  have cv1 := (cv.gr g1).wipe (own.map (·.2))
  have keep : ∀ {H2 : Hp}, Same H1 H2 → ∀ b, S1 b → H2 b = H1 b := fun k b hb => same_eq k (g1.dom b hb)
  refine ⟨fun i m H2 => m = xs.length - i ∧ i ≤ xs.length ∧ ∃ (S2 : Set0) (vs : List V) (ds l : List D), (∀ b, S1 b → S2 b) ∧ (∀ b, S2 b → S1 b ∨ H1 b = none) ∧ ¬ S2 p ∧ Same H1 H2 ∧ Dom S2 H2 ∧ H2 p = some (.lst vs) ∧ RepL X.gk S2 H2 vs ds ∧
    comp js sp pq pe (drop0 ρ (own.map (·.2))) (xs.drop i) = some l ∧ ds ++ l = out ∧ ds.length ≤ i, ⟨xs.length, by omega, by omega, S1, [], [], out, fun _ h => h, fun _ h => .inl h, nS1, sD, g1.dom.same sD, upd_same, .nil, e1, rfl, Nat.le_refl _⟩, ?_⟩
  rintro i m H2 ⟨rfl, hi, S2, vs, ds, l, le, nw, nD, sm, dm2, hD, rl, ec, eo, hdl⟩
  by_cases hlt : i < xs.length
  · have hx : xs.drop i = xs[i] :: xs.drop (i + 1) := List.drop_eq_getElem_cons hlt
    rw [hx] at ec
    obtain ⟨go, yl⟩ := wk.go i S2 H2 hlt le (keep sm) dm2
    refine .inr ⟨go, fun H5 => ∃ (S2 : Set0) (vs : List V) (ds l : List D), (∀ b, S1 b → S2 b) ∧ (∀ b, S2 b → S1 b ∨ H1 b = none) ∧ ¬ S2 p ∧ Same H1 H5 ∧ Dom S2 H5 ∧ H5 p = some (.lst vs) ∧ RepL X.gk S2 H5 vs ds ∧
      comp js sp pq pe (drop0 ρ (own.map (·.2))) (xs.drop (i + 1)) = some l ∧ ds ++ l = out ∧ ds.length ≤ i + 1, fun H' z => ⟨xs.length - (i + 1), by omega, rfl, hlt, z⟩, fun x H3 y => ?_⟩
    obtain ⟨S3, d, h1, g3, r3⟩ := yl x H3 y
    have hd : xs[i] = d := by rw [List.getElem?_eq_getElem hlt] at h1; exact Option.some.inj h1
    rw [hd] at ec
    have sm3 := sm.trans g3.same
    have nw3 : ∀ b, S3 b → S1 b ∨ H1 b = none := fun b hb => by
      rcases g3.new b hb with z | z
      · exact nw b z
      · exact .inr (sm.free z)
    have nD3 : ¬ S3 p := fun z => by
      rcases g3.new p z with w | w
      · exact nD w
      · rw [hD] at w; cases w
    have le3 : ∀ b, S1 b → S3 b := fun b hb => g3.le b (le b hb)
    obtain ⟨ds', es, ec⟩ := Option.bind_eq_some_iff.mp ec
    obtain ⟨b, eb, ec⟩ := Option.bind_eq_some_iff.mp ec
    refine q1 S3 _ H3 x d ds' _ r3 es fun ws rw hl => ⟨wipe_setAll hj, ?_⟩
    have cv3 : Cov X.gk S3 (wipe σ (own.map (·.2))) H3 (drop0 ρ (own.map (·.2))) := ⟨cv1.len, fun j e z => by
      obtain ⟨v, a1, a2⟩ := cv1.im j e z
      exact ⟨v, a1, Rep.mono le3 (fun b u _ r => Rd.same sm3 r) _ _ a2⟩⟩
    have cv4 := Cov.setAll (js := js) rw cv3
    refine q2 S3 _ H3 _ b _ g3.dom cv4 eb fun H4 s4 => ?_
    have sm4 := sm3.trans s4
    have rl4 : RepL X.gk S3 H4 vs ds := rl.mono (fun b hb => g3.le b hb) (fun b u _ r => Rd.same s4 (Rd.same g3.same r)) _ _
    cases b with
    | false =>
      rw [if_neg Bool.false_ne_true] at ec ⊢
      exact ⟨S3, vs, ds, l, le3, nw3, nD3, sm4, g3.dom.same s4, s4 _ _ (g3.same _ _ hD), rl4, ec, eo, by omega⟩
    | true =>
      rw [if_pos rfl] at ec ⊢
      obtain ⟨yd, ey, ec⟩ := Option.bind_eq_some_iff.mp ec
      obtain ⟨l', el, ec⟩ := Option.bind_eq_some_iff.mp ec
      cases ec
      refine ⟨S3, _, yd, g3.dom.same s4, cv4.same g3.dom s4, ey, fun yv S5 H5 g5 r5 => ⟨vs, g5.same _ _ (s4 _ _ (g3.same _ _ hD)), ?_, ?_⟩⟩
      · rw [rl.len]
        exact Nat.lt_of_le_of_lt hdl (Nat.lt_of_lt_of_le hlt (line5 hsz))
      · have nD5 : ¬ S5 p := fun z => by
          rcases g5.new p z with w | w
          · exact nD3 w
          · rw [s4 _ _ (g3.same _ _ hD)] at w; cases w
        have hv : ∀ b u, S5 b → Rd H5 b u → Rd (upd H5 p (.lst (vs ++ [yv]))) b u := fun b u hb r => Rd.eq (upd_ne fun (z : b = p) => nD5 (z ▸ hb)) r
        refine ⟨S5, vs ++ [yv], ds ++ [yd], l', fun b hb => g5.le b (le3 b hb), fun b hb => ?_, nD5, fun b u e => ?_, fun b hb => ?_, upd_same, ?_, el, by rw [List.append_assoc]; exact eo, by rw [List.length_append]; show _ + 1 ≤ _; omega⟩
        · rcases g5.new b hb with z | z
          · exact nw3 b z
          · exact .inr (sm4.free z)
        · rw [upd_ne (ne_of_none e np)]
          exact g5.same _ _ (sm4 _ _ e)
        · rw [upd_ne fun (z : b = p) => nD5 (z ▸ hb)]
          exact g5.dom b hb
        · exact RepL.append (RepL.mono (fun _ h => h) hv _ _ (g5.repL rl4)) (.cons (Rep.mono (fun _ h => h) hv _ _ r5) .nil)
  · have hn : xs.drop i = [] := List.drop_eq_nil_of_le (by omega)
    rw [hn] at ec
    cases ec
    rw [List.append_nil] at eo
    subst eo
    refine .inl ⟨wk.stop i H2 (by omega) (keep sm), ?_⟩
    refine k p S2 H2 [p] ⟨fun b hb => le b (g1.le b hb), fun b hb => ?_, g1.same.trans sm, dm2⟩ (.lst hD rl) fun b hb => ?_
    · rcases nw b hb with z | z
      · exact g1.new b z
      · exact .inr (g1.same.free z)
    · obtain rfl := List.mem_singleton.mp hb
      exact ⟨g1.same.free np, nD⟩
abbrev BlkE (X : Cx) (scope : Scope) (P : Cx → Prop) : Prop := ∀ (s : Shared) (H : Hp) (C : Addr) (cl : List (Str × Addr)) (fp : List Addr), P (X.blk s H scope (compEnvC scope cl C X.env) fp)
def tvG (G : Glob) (js : List Nat) (sp : D → Option (List D)) : TG := fun v σ H Q => ∃ (S : Set0) (d : D) (ds : List D), Rep G S H v d ∧ sp d = some ds ∧ ∀ vs, RepL G S H vs ds → vs.length = js.length → Q (setAll σ js (vs.map some)) H
theorem VG.pg {js : List Nat} {tg : Expr} (h : VG X tg js sp) : PG X tg (tvG X.gk js sp) := by
  obtain ⟨t, ht, q⟩ := h.run
  exact ⟨fun pins s σ H v u Q I r ⟨S, d, ds, h1, h2, h3⟩ => ht.run pins s σ H v u Q I r (q S σ H v d ds Q h1 h2 h3)⟩
/-- [elt for tg in iter] -/
theorem vf_lc {pi : Rho → Option (List D)} {pe : Fr0} (hc : X.calm = true) (hN : X.N.Nodup) (hi : VIp X tg iter pi) (ok : BlkOk X.N X.env.scope scope own) (hj : ∀ j ∈ js, j ∈ own.map (·.2))
    (hg : BlkE X scope fun X => VG X tg js sp) (he : BlkE X scope fun X => VP X elt pe) (hs : ∀ x, foldedSetIterable iter X.env x = pure x := by intro _; rfl) :
    VF X (.ListComp elt [⟨tg, iter, [], 0⟩] scope pos) (pComp (own.map (·.2)) pi js sp pYes pe) := by
  obtain ⟨wi, hw, q0⟩ := hi.run
  exact ⟨_, pe_lc (g := tvG X.gk js sp) hc hN hw ok (fun s H C cl fp => (hg s H C cl fp).pg) (fun _ _ _ _ _ => pts_nil) (fun s H C cl fp => (he s H C cl fp).pe) hs, lcP hj q0 (fun S σ H v d ds Q r e k => ⟨S, d, ds, r, e, k⟩) rdT_yes⟩
/-- .. if c -/
theorem vf_lcIf {c : Expr} {pi : Rho → Option (List D)} {pe : Fr0} {pq : Rho → Option Bool} (hc : X.calm = true) (hN : X.N.Nodup) (hi : VIp X tg iter pi) (ok : BlkOk X.N X.env.scope scope own) (hj : ∀ j ∈ js, j ∈ own.map (·.2))
    (hg : BlkE X scope fun X => VG X tg js sp) (ht : BlkE X scope fun X => VT X c pq) (he : BlkE X scope fun X => VP X elt pe) (hs : ∀ x, foldedSetIterable iter X.env x = pure x := by intro _; rfl) :
    VF X (.ListComp elt [⟨tg, iter, [c], 0⟩] scope pos) (pComp (own.map (·.2)) pi js sp pq pe) := by
  obtain ⟨wi, hw, q0⟩ := hi.run
  exact ⟨_, pe_lc (g := tvG X.gk js sp) hc hN hw ok (fun s H C cl fp => (hg s H C cl fp).pg) (fun s H C cl fp => pts_one (ht s H C cl fp).pt) (fun s H C cl fp => (he s H C cl fp).pe) hs, lcP hj q0 (fun S σ H v d ds Q r e k => ⟨S, d, ds, r, e, k⟩) rdT_tv⟩
end

/-! ### a comprehension whose items may change what is ours -/
def compM (js : List Nat) (sp : D → Option (List D)) (mq : M0 Bool) (me : M0 D) (own : List Nat) : List D → Rho → Option (List D × Rho)
  | [], ρ => some ([], ρ)
  | x :: xs, ρ => match sp x with
    | none => none
    | some ds => match mq (setAll ρ js (ds.map .im)) with
      | some (.ok false, ρ1) => compM js sp mq me own xs (drop0 ρ1 own)
      | some (.ok true, ρ1) => match me ρ1 with
        | some (.ok y, ρ2) => (compM js sp mq me own xs (drop0 ρ2 own)).map fun r => (y :: r.1, r.2)
        | _ => none
      | _ => none
def mComp (own : List Nat) (mi : M0 (List D)) (js : List Nat) (sp : D → Option (List D)) (mq : M0 Bool) (me : M0 D) : M0 D := bnd mi fun xs ρ =>
  if xs.length ≤ 100000 then (compM js sp mq me own xs (drop0 ρ own)).map fun r => (.ok (.lst r.1), r.2) else none
abbrev mYes : M0 Bool := fun ρ => some (.ok true, ρ)
theorem rdM_yes {X : Cx} {E : XK} : RunT X E tYes mYes := fun F N S σ H ρ fp Q r s hm po => by
  cases hm
  exact po S H (Nx.refl s)
theorem rdM_tv {X : Cx} {E : XK} {m : M0 Bool} : RunT X E (tvTe X.gk E m) m := fun F N S σ H ρ fp Q r s hm po => ⟨F, N, S, ρ, fp, r, s, hm, po⟩
section
variable {X : Cx} {E : XK} {elt tg iter : Expr} {ifs : List Expr} {scope : Scope} {own : List (Str × Nat)} {pos : Pos} {js : List Nat} {sp : D → Option (List D)}
theorem lcM {wi : TI} {g : TG} {tt : TT} {mi : M0 (List D)} {mq : M0 Bool} {me : M0 D} (hj : ∀ j ∈ js, j ∈ own.map (·.2))
    (q0 : ∀ (F : Set0) (N : Lnt) (S : Set0) (σ : L2.St) (H : Hp) (ρ : Rho) (fp : Nat → List Addr) (R : It → Hp → Prop) r, Sim X.gk F N S σ H ρ fp → mi ρ = some r →
      (match r with
        | (.ok xs, ρ') => ∀ J S' H', Nx X.gk F N S H S' H' σ ρ' → Walks X.gk J S' H' xs → R J H'
        | (.error x, ρ') => ∀ C dd S' H', Nx X.gk F N S H S' H' σ ρ' → X.mg x.c = some (.ref C) → ExR X.gk S' H' x.fs dd → E (.ref C) dd H') → wi σ H R)
    (q1 : ∀ (S : Set0) (σ : L2.St) (H : Hp) (v : V) (d : D) (ds : List D) (Q : L2.St → Hp → Prop), Rep X.gk S H v d → sp d = some ds → (∀ vs, RepL X.gk S H vs ds → vs.length = js.length → Q (setAll σ js (vs.map some)) H) → g v σ H Q)
    (q2 : RunT X E0 tt mq) : RunO X E (tLc wi g tt (tvE X.gk E0 me) (own.map (·.2))) (mComp (own.map (·.2)) mi js sp mq me) := by
  intro F N S σ H ρ fp Q r s hm po
  rcases bnd_some hm with ⟨xs, ρ1, e0, hm⟩ | ⟨x, ρ1, e0, rfl⟩
  case inr => exact q0 F N S σ H ρ fp _ _ s e0 fun C dd S' H' n h1 h2 => po C dd S' H' n h1 h2
  split at hm
  case isFalse => cases hm
  rename_i hsz
  obtain ⟨⟨out, ρe⟩, e1, rfl⟩ := Option.map_eq_some_iff.mp hm
  refine q0 F N S σ H ρ fp _ _ s e0 fun J S1 H1 n1 wk => ?_
  obtain ⟨fp1, s1⟩ := n1.sim
  intro p np
  have nS1 : ¬ S1 p := fun z => s1.domS p z np
  have sD : Same H1 (upd H1 p (.lst [])) := same_new np
  -- the block's own state
  have start : Sim X.gk (fun b => F b ∨ b = p) N S1 (wipe σ (own.map (·.2))) (upd H1 p (.lst [])) (drop0 ρ1 (own.map (·.2))) fp1 := by
    have w := (s1.same sD).wipe (own.map (·.2))
    refine ⟨w.len, w.im, fun i t d e z => ?_, w.no, w.sep, fun b hb => ?_, fun b hb => ⟨fun z => ?_, (w.off b hb).2⟩, w.lent⟩
    · obtain ⟨a, a1, a2, a3⟩ := w.ow i t d e z
      refine ⟨a, a1, a2, fun b hb => ⟨(a3 b hb).1, fun q => ?_⟩⟩
      rcases q with q | q
      · exact (a3 b hb).2 q
      · obtain ⟨t', e', -⟩ : ∃ t', ρ1[i]? = some t' ∧ t' = t := by
          rcases drop0_get _ ρ1 i t e with y | y
          · subst y; cases z
          · exact ⟨t, y, rfl⟩
        have y : ρ1[i]? = some t := by
          rcases drop0_get _ ρ1 i t e with y | y
          · subst y; cases z
          · exact y
        obtain ⟨_, _, o, _⟩ := s1.ow i t d y z
        exact o.there b hb (q ▸ np)
    · rcases hb with hb | (hb | rfl) | hb
      · exact w.dom b (.inl hb)
      · exact w.dom b (.inr (.inl hb))
      · rw [upd_same]; exact nofun
      · exact w.dom b (.inr (.inr hb))
    · rcases z with z | rfl
      · exact (w.off b hb).1 z
      · exact nS1 hb
  have dropped : ∀ i ∈ own.map (·.2), ∀ t, (drop0 ρ1 (own.map (·.2)))[i]? = some t → t = .un := fun i hi t e => drop0_in hi t e
  refine ⟨fun i m H2 => m = xs.length - i ∧ i ≤ xs.length ∧ ∃ (S2 : Set0) (ρ2 : Rho) (fp2 : Nat → List Addr) (vs : List V) (ds l : List D), Sim X.gk (fun b => F b ∨ b = p) N S2 (wipe σ (own.map (·.2))) H2 ρ2 fp2 ∧ (∀ i ∈ own.map (·.2), ∀ t, ρ2[i]? = some t → t = .un) ∧
    (∀ b, S1 b → S2 b) ∧ (∀ b, S1 b ∨ F b → H2 b = H1 b) ∧ (∀ b, H1 b ≠ none → H2 b ≠ none) ∧ H2 p = some (.lst vs) ∧ RepL X.gk S2 H2 vs ds ∧
    compM js sp mq me (own.map (·.2)) (xs.drop i) ρ2 = some (l, ρe) ∧ ds ++ l = out ∧ ds.length ≤ i,
    ⟨xs.length, by omega, by omega, S1, _, fp1, [], [], out, start, dropped, fun _ h => h, fun b hb => same_eq sD (s1.dom b (hb.imp id .inl)), fun b hb => same_there sD hb, upd_same, .nil, e1, rfl, Nat.le_refl _⟩, ?_⟩
  rintro i m H2 ⟨rfl, hi, S2, ρ2, fp2, vs, ds, l, s2, du, le, kp, gw, hD, rl, ec, eo, hdl⟩
  by_cases hlt : i < xs.length
  · have hx : xs.drop i = xs[i] :: xs.drop (i + 1) := List.drop_eq_getElem_cons hlt
    rw [hx] at ec
    obtain ⟨go, yl⟩ := wk.go i S2 H2 hlt le (fun b hb => kp b (.inl hb)) s2.domS
    refine .inr ⟨go, fun H2 => ∃ (S2 : Set0) (ρ2 : Rho) (fp2 : Nat → List Addr) (vs : List V) (ds l : List D), Sim X.gk (fun b => F b ∨ b = p) N S2 (wipe σ (own.map (·.2))) H2 ρ2 fp2 ∧ (∀ i ∈ own.map (·.2), ∀ t, ρ2[i]? = some t → t = .un) ∧
      (∀ b, S1 b → S2 b) ∧ (∀ b, S1 b ∨ F b → H2 b = H1 b) ∧ (∀ b, H1 b ≠ none → H2 b ≠ none) ∧ H2 p = some (.lst vs) ∧ RepL X.gk S2 H2 vs ds ∧
      compM js sp mq me (own.map (·.2)) (xs.drop (i + 1)) ρ2 = some (l, ρe) ∧ ds ++ l = out ∧ ds.length ≤ i + 1, fun H' z => ⟨xs.length - (i + 1), by omega, rfl, hlt, z⟩, fun x H3 y => ?_⟩
    obtain ⟨S3, d, h1, g3, r3⟩ := yl x H3 y
    have hd : xs[i] = d := by rw [List.getElem?_eq_getElem hlt] at h1; exact Option.some.inj h1
    rw [hd] at ec
    have n3 := Nx.of_gr s2 g3
    have s3 := s2.grow g3
    -- what a state behind S3, H3 gives for the next turn
    have nxt : ∀ {S4 : Set0} {H4 : Hp} {σ4 : L2.St} {ρ4 : Rho} {vs' : List V} {ds' l' : List D}, Nx X.gk (fun b => F b ∨ b = p) N S3 H3 S4 H4 σ4 ρ4 → wipe σ4 (own.map (·.2)) = wipe σ (own.map (·.2)) →
        ∀ {H5 : Hp}, (∀ b, b ≠ p → H5 b = H4 b) → H5 p = some (.lst vs') → RepL X.gk S4 H4 vs' ds' → compM js sp mq me (own.map (·.2)) (xs.drop (i + 1)) (drop0 ρ4 (own.map (·.2))) = some (l', ρe) → ds' ++ l' = out → ds'.length ≤ i + 1 →
        ∃ (S2 : Set0) (ρ2 : Rho) (fp2 : Nat → List Addr) (vs : List V) (ds l : List D), Sim X.gk (fun b => F b ∨ b = p) N S2 (wipe σ (own.map (·.2))) H5 ρ2 fp2 ∧ (∀ i ∈ own.map (·.2), ∀ t, ρ2[i]? = some t → t = .un) ∧
          (∀ b, S1 b → S2 b) ∧ (∀ b, S1 b ∨ F b → H5 b = H1 b) ∧ (∀ b, H1 b ≠ none → H5 b ≠ none) ∧ H5 p = some (.lst vs) ∧ RepL X.gk S2 H5 vs ds ∧
          compM js sp mq me (own.map (·.2)) (xs.drop (i + 1)) ρ2 = some (l, ρe) ∧ ds ++ l = out ∧ ds.length ≤ i + 1 := by
      intro S4 H4 σ4 ρ4 vs' ds' l' n4 w4 H5 hne hp5 rl4 ec4 eo4 hl4
      obtain ⟨fp4, s4⟩ := n4.sim
      have nS4 : ∀ b, S4 b → b ≠ p := fun b hb z => (s4.off b hb).1 (.inr z)
      have hv : ∀ b u, S4 b → Rd H4 b u → Rd H5 b u := fun b u hb r => Rd.eq (hne b (nS4 b hb)) r
      have s5 : Sim X.gk (fun b => F b ∨ b = p) N S4 σ4 H5 ρ4 fp4 := by
        refine ⟨s4.len, fun j e z => ?_, fun j t e z w => ?_, s4.no, s4.sep, fun b hb => ?_, s4.off, s4.lent⟩
        · obtain ⟨v, a1, a2⟩ := s4.im j e z
          exact ⟨v, a1, Rep.mono (fun _ h => h) hv _ _ a2⟩
        · obtain ⟨a, a1, a2, a3⟩ := s4.ow j t e z w
          exact ⟨a, a1, a2.mono (fun _ h => h) hv (fun b hb => hne b fun q => (a3 b hb).2 (.inr q)), a3⟩
        · by_cases hb' : b = p
          · rw [hb', hp5]; exact nofun
          · rw [hne b hb']
            exact s4.dom b hb
      have s6 := s5.wipe (own.map (·.2))
      rw [w4] at s6
      refine ⟨S4, _, fp4, vs', ds', l', s6, fun j hj' t e => drop0_in hj' t e, fun b hb => n4.le b (n3.le b (le b hb)), fun b hb => ?_, fun b hb => ?_, hp5, RepL.mono (fun _ h => h) hv _ _ rl4, ec4, eo4, hl4⟩
      · have hb' : b ≠ p := fun z => by
          rcases hb with hb | hb
          · exact nS1 (z ▸ hb)
          · exact s1.dom b (.inr (.inl hb)) (z ▸ np)
        rw [hne b hb']
        have e3 : H3 b = H2 b := n3.kept b (by
          rcases hb with hb | hb
          · exact .inl (le b hb)
          · exact .inr (.inl hb))
        have e4 : H4 b = H3 b := n4.kept b (by
          rcases hb with hb | hb
          · exact .inl (n3.le b (le b hb))
          · exact .inr (.inl hb))
        exact e4.trans (e3.trans (kp b hb))
      · by_cases hb' : b = p
        · rw [hb', hp5]; exact nofun
        · rw [hne b hb']
          exact n4.grow b (n3.grow b (gw b hb))
    have hp3 : H3 p = some (.lst vs) := g3.same _ _ hD
    have rl3 := g3.repL rl
    unfold compM at ec
    cases es : sp d with
    | none => rw [es] at ec; cases ec
    | some ds' =>
      rw [es] at ec
      dsimp only at ec
      refine q1 S3 _ H3 x d ds' _ r3 es fun ws rw hl => ⟨wipe_setAll hj, ?_⟩
      have s4 := Sim.setAll (js := js) rw s3
      cases eq : mq (setAll ρ2 js (ds'.map .im)) with
      | none => rw [eq] at ec; cases ec
      | some rq =>
        obtain ⟨rq, ρ5⟩ := rq
        rw [eq] at ec
        cases rq with
        | error x => cases ec
        | ok b =>
          refine q2 _ N S3 _ H3 _ _ _ _ s4 eq fun S5 H5 n5 => ?_
          obtain ⟨fp5, s5⟩ := n5.sim
          have hp5 : H5 p = some (.lst vs) := (n5.kept p (.inr (.inr rfl))).trans hp3
          have rl5 := n5.repL rl3
          cases b with
          | false =>
            rw [if_neg Bool.false_ne_true]
            exact nxt n5 (wipe_setAll hj) (fun _ _ => rfl) hp5 rl5 ec eo (by omega)
          | true =>
            rw [if_pos rfl]
            dsimp only at ec
            cases ee : me ρ5 with
            | none => rw [ee] at ec; cases ec
            | some re =>
              obtain ⟨re, ρ6⟩ := re
              rw [ee] at ec
              cases re with
              | error x => cases ec
              | ok yd =>
                obtain ⟨⟨l', ρ7⟩, el, ez⟩ := Option.map_eq_some_iff.mp ec
                cases ez
                refine ⟨_, N, S5, ρ5, fp5, _, s5, ee, fun yv S6 H6 n6 r6 => ⟨vs, ?_, ?_, ?_⟩⟩
                · exact (n6.kept p (.inr (.inr rfl))).trans hp5
                · rw [rl.len]
                  exact Nat.lt_of_le_of_lt hdl (Nat.lt_of_lt_of_le hlt (line5 hsz))
                · exact nxt (n5.trans n6) (wipe_setAll hj) (fun b hb => upd_ne hb) upd_same (RepL.append (n6.repL rl5) (.cons r6 .nil)) el (by rw [List.append_assoc]; exact eo) (by rw [List.length_append]; show _ + 1 ≤ _; omega)
  · have hn : xs.drop i = [] := List.drop_eq_nil_of_le (by omega)
    rw [hn] at ec
    cases ec
    rw [List.append_nil] at eo
    subst eo
    refine .inl ⟨wk.stop i H2 (by omega) (fun b hb => kp b (.inl hb)), ?_⟩
    have s3 := s2.unwipe du
    refine po p S2 H2 ⟨fun b hb => le b (n1.le b hb), fun b hb => (kp b (hb.imp (n1.le b) id)).trans (n1.kept b hb), fun b hb => gw b (n1.grow b hb), fp2, [p], ?_, .lst hD rl, fun b hb => ?_, fun j t e z w b hb q => ?_⟩
    · refine ⟨s3.len, s3.im, fun j t e z w => ?_, s3.no, s3.sep, fun b hb => s3.dom b (hb.imp id fun z => z.imp .inl id), fun b hb => ⟨fun z => (s3.off b hb).1 (.inl z), (s3.off b hb).2⟩, s3.lent⟩
      obtain ⟨a, a1, a2, a3⟩ := s3.ow j t e z w
      exact ⟨a, a1, a2, fun b hb => ⟨(a3 b hb).1, fun z => (a3 b hb).2 (.inl z)⟩⟩
    · obtain rfl := List.mem_singleton.mp hb
      exact ⟨fun z => (s2.off b z).1 (.inr rfl), fun z => s1.dom b (.inr (.inl z)) np, fun z => s1.dom b (.inr (.inr z)) np⟩
    · obtain rfl := List.mem_singleton.mp hb
      obtain ⟨_, _, _, a3⟩ := s3.ow j t e z w
      exact (a3 b q).2 (.inr rfl)
theorem vo_lc {mi : M0 (List D)} {me : M0 D} (hc : X.calm = true) (hN : X.N.Nodup) (hi : VI X E tg iter mi) (ok : BlkOk X.N X.env.scope scope own) (hj : ∀ j ∈ js, j ∈ own.map (·.2))
    (hg : BlkE X scope fun X => VG X tg js sp) (he : BlkE X scope fun X => VE X E0 elt me) (hs : ∀ x, foldedSetIterable iter X.env x = pure x := by intro _; rfl) :
    VO X E (.ListComp elt [⟨tg, iter, [], 0⟩] scope pos) (mComp (own.map (·.2)) mi js sp mYes me) := by
  obtain ⟨wi, hw, q0⟩ := hi.run
  exact ⟨_, pe_lc (g := tvG X.gk js sp) hc hN hw ok (fun s H C cl fp => (hg s H C cl fp).pg) (fun _ _ _ _ _ => pts_nil) (fun s H C cl fp => (he s H C cl fp).pe) hs, lcM hj q0 (fun S σ H v d ds Q r e k => ⟨S, d, ds, r, e, k⟩) rdM_yes⟩
theorem vo_lcIf {c : Expr} {mi : M0 (List D)} {me : M0 D} {mq : M0 Bool} (hc : X.calm = true) (hN : X.N.Nodup) (hi : VI X E tg iter mi) (ok : BlkOk X.N X.env.scope scope own) (hj : ∀ j ∈ js, j ∈ own.map (·.2))
    (hg : BlkE X scope fun X => VG X tg js sp) (ht : BlkE X scope fun X => VTe X E0 c mq) (he : BlkE X scope fun X => VE X E0 elt me) (hs : ∀ x, foldedSetIterable iter X.env x = pure x := by intro _; rfl) :
    VO X E (.ListComp elt [⟨tg, iter, [c], 0⟩] scope pos) (mComp (own.map (·.2)) mi js sp mq me) := by
  obtain ⟨wi, hw, q0⟩ := hi.run
  exact ⟨_, pe_lc (g := tvG X.gk js sp) hc hN hw ok (fun s H C cl fp => (hg s H C cl fp).pg) (fun s H C cl fp => pts_one (ht s H C cl fp).pt) (fun s H C cl fp => (he s H C cl fp).pe) hs, lcM hj q0 (fun S σ H v d ds Q r e k => ⟨S, d, ds, r, e, k⟩) rdM_tv⟩
/-! ### .. given a name: the block swaps the name's value -/
theorem RunFr.o {t : TE} {p : Fr0} (k : RunFr X t p) : RunO X E t (mP p) := fun F N S σ H ρ fp Q r s hm po => by
  obtain ⟨d, e1, rfl⟩ := Option.map_eq_some_iff.mp hm
  exact k S σ H ρ d Q s.domS s.cov e1 fun a S' H' fa g o hf => po a S' H' (NxO.of_gr s g o hf)
theorem RunFr.l {t : TE} {p : Fr0} (k : RunFr X t p) : RunO X E t (mL p) := fun F N S σ H ρ fp Q r s hm po => by
  obtain ⟨d, e1, e2⟩ := Option.bind_eq_some_iff.mp hm
  split at e2
  · rename_i hd
    cases e2
    refine k _ σ H _ d Q s.all_dom s.all_cov e1 fun a S' H' fa g o hf => po a S H' ?_
    exact NxO.of_gr s (Gr.heap s.domS g.same) (o.flat hd) fun b hb => ⟨(hf b hb).1, fun z => s.domS b z (hf b hb).1⟩
  · cases e2
structure VLc (X : Cx) (E : XK) (e : Expr) (m : M0 D) : Prop where
  run : ∃ t, RunO X E t m ∧ ∀ (i : Nat) (y : Str) (py spos : Pos), X.N[i]? = some y → X.env.scope.names.lookup y = some .local → swapsWith e (some (.Name y py)) spos.line X.env = pure true → PS X (.Assign [.Name y py] e spos) (tAsg t (gName i))
theorem vl_lc {pi : Rho → Option (List D)} {pe : Fr0} (hc : X.calm = true) (hN : X.N.Nodup) (hi : VIp X tg iter pi) (ok : BlkOk X.N X.env.scope scope own) (hj : ∀ j ∈ js, j ∈ own.map (·.2)) (hg : BlkE X scope fun X => VG X tg js sp) (he : BlkE X scope fun X => VP X elt pe) (hs : ∀ x, foldedSetIterable iter X.env x = pure x := by intro _; rfl) :
    VLc X E (.ListComp elt [⟨tg, iter, [], 0⟩] scope pos) (mP (pComp (own.map (·.2)) pi js sp pYes pe)) := by
  obtain ⟨wi, hw, q0⟩ := hi.run
  exact ⟨_, RunFr.o (lcP hj q0 (fun S σ H v d ds Q r e k => ⟨S, d, ds, r, e, k⟩) rdT_yes), fun i y py spos h1 h2 h3 => ps_setLc (g := tvG X.gk js sp) hc hN h1 h2 h3 hw ok (fun s H C cl fp => (hg s H C cl fp).pg) (fun _ _ _ _ _ => pts_nil) (fun s H C cl fp => (he s H C cl fp).pe) hs⟩
theorem vl_lcIf {c : Expr} {pi : Rho → Option (List D)} {pe : Fr0} {pq : Rho → Option Bool} (hc : X.calm = true) (hN : X.N.Nodup) (hi : VIp X tg iter pi) (ok : BlkOk X.N X.env.scope scope own) (hj : ∀ j ∈ js, j ∈ own.map (·.2)) (hg : BlkE X scope fun X => VG X tg js sp) (ht : BlkE X scope fun X => VT X c pq) (he : BlkE X scope fun X => VP X elt pe) (hs : ∀ x, foldedSetIterable iter X.env x = pure x := by intro _; rfl) :
    VLc X E (.ListComp elt [⟨tg, iter, [c], 0⟩] scope pos) (mP (pComp (own.map (·.2)) pi js sp pq pe)) := by
  obtain ⟨wi, hw, q0⟩ := hi.run
  exact ⟨_, RunFr.o (lcP hj q0 (fun S σ H v d ds Q r e k => ⟨S, d, ds, r, e, k⟩) rdT_tv), fun i y py spos h1 h2 h3 => ps_setLc (g := tvG X.gk js sp) hc hN h1 h2 h3 hw ok (fun s H C cl fp => (hg s H C cl fp).pg) (fun s H C cl fp => pts_one (ht s H C cl fp).pt) (fun s H C cl fp => (he s H C cl fp).pe) hs⟩
theorem vl_lcL {pi : Rho → Option (List D)} {pe : Fr0} (hc : X.calm = true) (hN : X.N.Nodup) (hi : VIp X tg iter pi) (ok : BlkOk X.N X.env.scope scope own) (hj : ∀ j ∈ js, j ∈ own.map (·.2)) (hg : BlkE X scope fun X => VG X tg js sp) (he : BlkE X scope fun X => VP X elt pe) (hs : ∀ x, foldedSetIterable iter X.env x = pure x := by intro _; rfl) :
    VLc X E (.ListComp elt [⟨tg, iter, [], 0⟩] scope pos) (mL (pComp (own.map (·.2)) pi js sp pYes pe)) := by
  obtain ⟨wi, hw, q0⟩ := hi.run
  exact ⟨_, RunFr.l (lcP hj q0 (fun S σ H v d ds Q r e k => ⟨S, d, ds, r, e, k⟩) rdT_yes), fun i y py spos h1 h2 h3 => ps_setLc (g := tvG X.gk js sp) hc hN h1 h2 h3 hw ok (fun s H C cl fp => (hg s H C cl fp).pg) (fun _ _ _ _ _ => pts_nil) (fun s H C cl fp => (he s H C cl fp).pe) hs⟩
theorem vl_lcM {mi : M0 (List D)} {me : M0 D} (hc : X.calm = true) (hN : X.N.Nodup) (hi : VI X E tg iter mi) (ok : BlkOk X.N X.env.scope scope own) (hj : ∀ j ∈ js, j ∈ own.map (·.2)) (hg : BlkE X scope fun X => VG X tg js sp) (he : BlkE X scope fun X => VE X E0 elt me) (hs : ∀ x, foldedSetIterable iter X.env x = pure x := by intro _; rfl) :
    VLc X E (.ListComp elt [⟨tg, iter, [], 0⟩] scope pos) (mComp (own.map (·.2)) mi js sp mYes me) := by
  obtain ⟨wi, hw, q0⟩ := hi.run
  exact ⟨_, lcM hj q0 (fun S σ H v d ds Q r e k => ⟨S, d, ds, r, e, k⟩) rdM_yes, fun i y py spos h1 h2 h3 => ps_setLc (g := tvG X.gk js sp) hc hN h1 h2 h3 hw ok (fun s H C cl fp => (hg s H C cl fp).pg) (fun _ _ _ _ _ => pts_nil) (fun s H C cl fp => (he s H C cl fp).pe) hs⟩
theorem vl_lcMIf {c : Expr} {mi : M0 (List D)} {me : M0 D} {mq : M0 Bool} (hc : X.calm = true) (hN : X.N.Nodup) (hi : VI X E tg iter mi) (ok : BlkOk X.N X.env.scope scope own) (hj : ∀ j ∈ js, j ∈ own.map (·.2)) (hg : BlkE X scope fun X => VG X tg js sp) (ht : BlkE X scope fun X => VTe X E0 c mq) (he : BlkE X scope fun X => VE X E0 elt me) (hs : ∀ x, foldedSetIterable iter X.env x = pure x := by intro _; rfl) :
    VLc X E (.ListComp elt [⟨tg, iter, [c], 0⟩] scope pos) (mComp (own.map (·.2)) mi js sp mq me) := by
  obtain ⟨wi, hw, q0⟩ := hi.run
  exact ⟨_, lcM hj q0 (fun S σ H v d ds Q r e k => ⟨S, d, ds, r, e, k⟩) rdM_tv, fun i y py spos h1 h2 h3 => ps_setLc (g := tvG X.gk js sp) hc hN h1 h2 h3 hw ok (fun s H C cl fp => (hg s H C cl fp).pg) (fun s H C cl fp => pts_one (ht s H C cl fp).pt) (fun s H C cl fp => (he s H C cl fp).pe) hs⟩
theorem vs_ownL {i : Nat} {y : Str} {py spos : Pos} {e : Expr} {m : M0 D} (h : VLc X E e m) (hi : X.N[i]? = some y) (hl : X.env.scope.names.lookup y = some .local) (hsw : swapsWith e (some (.Name y py)) spos.line X.env = pure true) : VS X E (.Assign [.Name y py] e spos) (sOwn i m) := by
  obtain ⟨t, q, ps⟩ := h.run
  refine ⟨_, ps i y py spos hi hl hsw, fun F N S σ H ρ fp Z r s hm po => ?_⟩
  rcases sVal_some hm with ⟨d, ρ1, e1, e2⟩ | ⟨y, ρ1, e1, rfl⟩
  · cases e2
    exact q F N S σ H ρ fp _ _ s e1 fun a S1 H1 n1 => po _ S1 H1 (n1.setO i)
  · exact q F N S σ H ρ fp _ _ s e1 (po_errO po)
theorem vs_setL {i : Nat} {y : Str} {py spos : Pos} {e : Expr} {m : M0 D} (h : VLc X E e m) (hi : X.N[i]? = some y) (hl : X.env.scope.names.lookup y = some .local) (hsw : swapsWith e (some (.Name y py)) spos.line X.env = pure true) : VS X E (.Assign [.Name y py] e spos) (sSet i m) := by
  obtain ⟨t, q, ps⟩ := h.run
  refine ⟨_, ps i y py spos hi hl hsw, fun F N S σ H ρ fp Z r s hm po => ?_⟩
  rcases sVal_some hm with ⟨d, ρ1, e1, e2⟩ | ⟨y, ρ1, e1, rfl⟩
  · cases e2
    refine q F N S σ H ρ fp _ _ s e1 fun a S1 H1 n1 => ?_
    obtain ⟨S2, n2, r2⟩ := n1.nx
    exact po _ S2 H1 (n2.setI i r2)
  · exact q F N S σ H ρ fp _ _ s e1 (po_errO po)
end
end Vs

set_option Elab.async false
set_option linter.all false
set_option maxRecDepth 100000
set_option maxHeartbeats 4000000
namespace Vs
open PySem L2
open PySem.Spec PyProof.Rows

/-! ### defs: what they promise over plain data -/
inductive FR where
  /-- a value that stands still; .. that is new and the caller's own; an exception. out: what the lent arguments hold behind -/
  | ret (d : D) (out : List D)
  | own (d : D) (out : List D)
  | exc (x : Exn) (out : List D)
def FR.out : FR → List D
  | .ret _ o => o
  | .own _ o => o
  | .exc _ o => o
/-- the arguments: ms tells which are lent -/
structure Args (G : Glob) (S : Set0) (H : Hp) (ms : List Bool) (vs : List V) (ds : List D) (fp : Nat → List Addr) : Prop where
  len : vs.length = ds.length
  ml : ms.length ≤ vs.length
  im : ∀ (i : Nat) (v : V) (d : D), vs[i]? = some v → ds[i]? = some d → ms[i]? ≠ some true → Rep G S H v d
  mu : ∀ (i : Nat) (v : V) (d : D), vs[i]? = some v → ds[i]? = some d → ms[i]? = some true → ∃ a, v = .ref a ∧ Own G S H a d (fp i) ∧ ∀ b ∈ fp i, ¬ S b
  sep : ∀ (i j : Nat), i ≠ j → ms[i]? = some true → ms[j]? = some true → ∀ b ∈ fp i, b ∉ fp j
abbrev Lent (ms : List Bool) (fp : Nat → List Addr) : Set0 := fun b => ∃ i, ms[i]? = some true ∧ b ∈ fp i
/-- behind a call -/
structure CEnd (G : Glob) (S : Set0) (H : Hp) (ms : List Bool) (vs : List V) (fp : Nat → List Addr) (S' : Set0) (H' : Hp) (out : List D) (fp' : Nat → List Addr) : Prop where
  le : ∀ b, S b → S' b
  new : ∀ b, S' b → S b ∨ H b = none
  kept : ∀ b, H b ≠ none → ¬ Lent ms fp b → H' b = H b
  grow : ∀ b, H b ≠ none → H' b ≠ none
  dom : Dom S' H'
  mu : ∀ (i : Nat) (v : V), vs[i]? = some v → ms[i]? = some true → ∃ a d, v = .ref a ∧ out[i]? = some d ∧ Own G S' H' a d (fp' i) ∧ ∀ b ∈ fp' i, ¬ S' b ∧ (H b = none ∨ Lent ms fp b)
  sep : ∀ (i j : Nat), i ≠ j → ms[i]? = some true → ms[j]? = some true → ∀ b ∈ fp' i, b ∉ fp' j
def FPost (G : Glob) (S : Set0) (H : Hp) (ms : List Bool) (vs : List V) (fp : Nat → List Addr) (Q : VK) (E : XK) : FR → Prop
  | .ret d out => ∀ v S' H' fp', CEnd G S H ms vs fp S' H' out fp' → Rep G S' H' v d → Q v H'
  | .own d out => ∀ a S' H' fp' fa, CEnd G S H ms vs fp S' H' out fp' → Own G S' H' a d fa → (∀ b ∈ fa, H b = none ∧ ¬ S' b ∧ ∀ i, ms[i]? = some true → b ∉ fp' i) → Q (.ref a) H'
  | .exc x out => ∀ C dd S' H' fp', CEnd G S H ms vs fp S' H' out fp' → G x.c = some (.ref C) → ExR G S' H' x.fs dd → E (.ref C) dd H'
abbrev Sem0 := List D → Option FR
def spV (G : Glob) (n : Nat) (ms : List Bool) (sem : Sem0) : Sp := fun vs H Q E => vs.length = n ∧ ∃ S ds fp r, Args G S H ms vs ds fp ∧ Dom S H ∧ sem ds = some r ∧ FPost G S H ms vs fp Q E r

/-- a def at f keeps a promise, where nothing is under way of being shown -/
structure FnG (P : Program) (w : World) (K : PySem.W.Frag) (mg : Str → Option Value) (base : Heap) (k : Nat) (f : Addr) (fd : FuncData) (ps : List Str) (sp : Sp) : Prop where
  run : ∀ (A : Around) (outer : List Env) (s : Shared) (H : Hp) (args : PySem.Args) (us : List Value) (vs : List V) (Q : VK) (E : XK), A.guards = some [] → Room k A → Env0 P w K mg base A outer s H → vs.length = ps.length → BindsTo s fd args (ps.zip us) → Vals vs us → sp vs H Q E →
    codeAny (model P w) A (.call (.ref f) args) (CR (L2.CX P w) outer P w H s Q E) s
theorem FnG.mono {P : Program} {w : World} {K : PySem.W.Frag} {mg : Str → Option Value} {base : Heap} {j k : Nat} {f : Addr} {fd : FuncData} {ps : List Str} {sp : Sp} (F : FnG P w K mg base j f fd ps sp) (h : j ≤ k) : FnG P w K mg base k f fd ps sp :=
  ⟨fun A outer s H args us vs Q E hg hr => F.run A outer s H args us vs Q E hg (hr.mono h)⟩
theorem FnG.imp {P : Program} {w : World} {K : PySem.W.Frag} {mg : Str → Option Value} {base : Heap} {k : Nat} {f : Addr} {fd : FuncData} {ps : List Str} {sp sp' : Sp} (F : FnG P w K mg base k f fd ps sp) (h : ∀ vs H Q E, sp' vs H Q E → sp vs H Q E) : FnG P w K mg base k f fd ps sp' :=
  ⟨fun A outer s H args us vs Q E hg hr he hl hb hv hs => F.run A outer s H args us vs Q E hg hr he hl hb hv (h _ _ _ _ hs)⟩
/-- THE RULE for a def -/
theorem fnG_of {P : Program} {w : World} {K : PySem.W.Frag} {mg : Str → Option Value} {base : Heap} {k : Nat} {f : Addr} {name qual : Str} {params : Arguments} {body : List Stmt} {scope : Scope} {dV kV doc pm cdv ct oc : Value} {an od : Option Addr}
    {osl : Array (Option Value)} {N ps : List Str} {sp : Sp} (lk : K.lookup f = some ⟨oc, od, .func (PySem.W.fnOf name qual params body scope dV kV doc pm an cdv ct), osl⟩) (hcd : PySem.W.codeIn K cdv qual = true) (S : FnScope N ps scope)
    (hbody : ∀ (A : Around) (outer : List Env) (s : Shared) (H : Hp) (vs : List V) (Q : VK) (E : XK), A.guards = some [] → Room k (A.deeper (envOfC qual scope s.heap.objs.size f cdv)) → vs.length = ps.length → sp vs H Q E →
      ∃ t, PSs (cxOf (L2.CX P w) P w K mg base N qual scope f cdv A outer s H E) body t ∧ t { nx := fun _ H' => Q .non H', rt := Q } (L2.start N vs) H) :
    FnG P w K mg base (k + 1) f (PySem.W.fnOf name qual params body scope dV kV doc pm an cdv ct) ps sp := by
  constructor
  intro A outer s H args us vs Q E hgd hroom env0 hlen hbind hvals hpromise
  have inK := env0.mod.kin.keeps fun b o e => (env0.bs b o e).1
  have nolim := env0.mod.nolimit.keeps fun b o e => (env0.bs b o e).1
  refine codeAny_call_function hroom.depth (inK _ _ lk) rfl S.co S.gen rfl (PySem.W.codeRec_of inK hcd) (hbind _ _ _ _ ?_)
  refine wpAny_newFunctionEnv_cells S.kind (fun y hy => ?_) fun env eenv s1 begun => ?_
  · obtain ⟨n, v⟩ := y
    rcases S.par n (List.of_mem_zip hy).1 with q | q
    · exact .inl q
    · exact .inr ⟨q, PySem.W.cellsFrom_some _ _ _ (.inl q)⟩
  · subst eenv
    refine ⟨nolim.keeps begun.toInCall.keep, codeAny_func ?_⟩
    obtain ⟨t, ht, hq⟩ := hbody A outer s H vs Q E hgd (hroom.deeper _) hlen hpromise
    have I := inv_start (CX := L2.CX P w) (E := E) S hroom.hd env0 hlen hvals begun
    refine wpAny_mono (ht.run [] s1 (L2.start N vs) H _ I hq) (fun fl s' hs => ?_) fun e s' hs => hs
    cases fl with
    | ret u =>
      obtain ⟨v, σ', H', J, rv, q⟩ := hs
      exact ⟨v, H', J.os, J.bare, J.base, J.hok, rv, q⟩
    | next =>
      obtain ⟨σ', H', J, q⟩ := hs
      exact ⟨V.non, H', J.os, J.bare, J.base, J.hok, rfl, q⟩
    | brk =>
      obtain ⟨_, _, _, q⟩ := hs
      exact q.elim
    | cont =>
      obtain ⟨_, _, _, q⟩ := hs
      exact q.elim

/-! ### the body's run against the promise -/
def entry : List Bool → List D → Rho
  | true :: ms, d :: ds => .mu d :: entry ms ds
  | _ :: ms, d :: ds => .im d :: entry ms ds
  | [], d :: ds => .im d :: entry [] ds
  | _, [] => []
def entryN (ms : List Bool) (n : Nat) (ds : List D) : Rho := entry ms ds ++ List.replicate (n - ds.length) .un
def outs : List Bool → Rho → Option (List D)
  | [], _ => some []
  | true :: ms, .mu d :: ρ => (outs ms ρ).bind fun l => some (d :: l)
  | false :: ms, _ :: ρ => (outs ms ρ).bind fun l => some (.non :: l)
  | _, _ => none
def runF (ms : List Bool) (n : Nat) (m : MS) : Sem0 := fun ds => match m (entryN ms n ds) with
  | none => none
  | some (fl, ρ) => match outs ms ρ with
    | none => none
    | some o => match fl with
      | .nx => some (.ret .non o)
      | .rt d => some (.ret d o)
      | .ro d => some (.own d o)
      | .ex x => some (.exc x o)
      | _ => none
theorem entry_len : ∀ (ms : List Bool) (ds : List D), (entry ms ds).length = ds.length
  | true :: ms, d :: ds => congrArg (· + 1) (entry_len ms ds)
  | false :: ms, d :: ds => congrArg (· + 1) (entry_len ms ds)
  | [], d :: ds => congrArg (· + 1) (entry_len [] ds)
  | [], [] => rfl
  | true :: _, [] => rfl
  | false :: _, [] => rfl
theorem entry_get : ∀ (ms : List Bool) (ds : List D) (i : Nat) (t : Sl), (entry ms ds)[i]? = some t → ∃ d, ds[i]? = some d ∧ ((ms[i]? = some true ∧ t = .mu d) ∨ (ms[i]? ≠ some true ∧ t = .im d))
  | true :: ms, d :: ds, 0, t, h => ⟨d, rfl, .inl ⟨rfl, (Option.some.inj h).symm⟩⟩
  | false :: ms, d :: ds, 0, t, h => ⟨d, rfl, .inr ⟨nofun, (Option.some.inj h).symm⟩⟩
  | [], d :: ds, 0, t, h => ⟨d, rfl, .inr ⟨nofun, (Option.some.inj h).symm⟩⟩
  | true :: ms, d :: ds, i + 1, t, h => entry_get ms ds i t h
  | false :: ms, d :: ds, i + 1, t, h => entry_get ms ds i t h
  | [], d :: ds, i + 1, t, h => by
    obtain ⟨e, h1, h2⟩ := entry_get [] ds i t h
    exact ⟨e, h1, h2⟩
  | [], [], _, _, h => by simp [entry] at h
  | true :: _, [], _, _, h => by simp [entry] at h
  | false :: _, [], _, _, h => by simp [entry] at h
theorem entryN_get {ms : List Bool} {n : Nat} {ds : List D} {i : Nat} {t : Sl} (h : (entryN ms n ds)[i]? = some t) : t = .un ∨ ∃ d, ds[i]? = some d ∧ ((ms[i]? = some true ∧ t = .mu d) ∨ (ms[i]? ≠ some true ∧ t = .im d)) := by
  unfold entryN at h
  by_cases hi : i < (entry ms ds).length
  · rw [List.getElem?_append_left hi] at h
    exact .inr (entry_get ms ds i t h)
  · rw [List.getElem?_append_right (by omega), List.getElem?_replicate] at h
    split at h
    · exact .inl (Option.some.inj h).symm
    · cases h
theorem outs_get : ∀ (ms : List Bool) (ρ : Rho) (o : List D) (i : Nat), outs ms ρ = some o → ms[i]? = some true → ∃ d, ρ[i]? = some (.mu d) ∧ o[i]? = some d
  | [], _, _, _, _, h => by simp at h
  | true :: ms, .mu d :: ρ, o, 0, e, _ => by
    obtain ⟨l, _, e⟩ := Option.bind_eq_some_iff.mp e
    cases e
    exact ⟨d, rfl, rfl⟩
  | true :: ms, .mu d :: ρ, o, i + 1, e, h => by
    obtain ⟨l, e1, e⟩ := Option.bind_eq_some_iff.mp e
    cases e
    exact outs_get ms ρ l i e1 h
  | false :: ms, t :: ρ, o, i + 1, e, h => by
    have e : (outs ms ρ).bind (fun l => some (.non :: l)) = some o := by cases t <;> exact e
    obtain ⟨l, e1, e⟩ := Option.bind_eq_some_iff.mp e
    cases e
    exact outs_get ms ρ l i e1 h
  | false :: ms, _ :: _, _, 0, _, h => by cases h
  | true :: _, [], _, _, e, _ => by simp [outs] at e
  | false :: _, [], _, _, e, _ => by simp [outs] at e
  | true :: _, .un :: _, _, _, e, _ => by simp [outs] at e
  | true :: _, .im _ :: _, _, _, e, _ => by simp [outs] at e
  | true :: _, .ow _ :: _, _, _, e, _ => by simp [outs] at e
theorem start_get {N : List Str} {vs : List V} {i : Nat} {v : V} (h : vs[i]? = some v) : (L2.start N vs)[i]? = some (some v) := by
  unfold L2.start
  have hi : i < vs.length := (List.getElem?_eq_some_iff.mp h).1
  rw [List.getElem?_append_left (by rw [List.length_map]; exact hi), List.getElem?_map, h] <;> rfl
section
variable {G : Glob} {S : Set0} {H : Hp} {ms : List Bool} {vs : List V} {ds : List D} {fp : Nat → List Addr} {N : List Str}
def refAt (vs : List V) (i : Nat) : Addr := match vs[i]? with
  | some (.ref a) => a
  | _ => 0
abbrev lnt (ms : List Bool) (vs : List V) (fp : Nat → List Addr) : Lnt := ⟨Lent ms fp, refAt vs⟩
abbrev Frn (S : Set0) (H : Hp) (ms : List Bool) (fp : Nat → List Addr) : Set0 := fun b => H b ≠ none ∧ ¬ S b ∧ ¬ Lent ms fp b
/-- the frame at the entry -/
theorem Args.sim (a : Args G S H ms vs ds fp) (dm : Dom S H) (hN : ds.length ≤ N.length) : Sim G (Frn S H ms fp) (lnt ms vs fp) S (L2.start N vs) H (entryN ms N.length ds) fp := by
  have hm : ∀ (i : Nat) (d : D), ds[i]? = some d → ms[i]? = some true → ∃ c, vs[i]? = some (.ref c) ∧ Own G S H c d (fp i) ∧ ∀ b ∈ fp i, ¬ S b := fun i d e h => by
    have hi : i < vs.length := by rw [a.len]; exact (List.getElem?_eq_some_iff.mp e).1
    obtain ⟨c, e1, o, n⟩ := a.mu i _ d (List.getElem?_eq_getElem hi) e h
    exact ⟨c, by rw [List.getElem?_eq_getElem hi, e1], o, n⟩
  have ow : ∀ {i : Nat} {t : Sl} {d : D}, (entryN ms N.length ds)[i]? = some t → t.own? = some d → ds[i]? = some d ∧ ms[i]? = some true ∧ t = .mu d := fun {i t d} e w => by
    rcases entryN_get e with rfl | ⟨d', h1, h2⟩
    · cases w
    · rcases h2 with ⟨h2, rfl⟩ | ⟨_, rfl⟩
      · cases w
        exact ⟨h1, h2, rfl⟩
      · cases w
  refine ⟨?_, fun i d e => ?_, fun i t d e w => ?_, fun i d e => ?_, fun i j t u d e hn h1 w1 h2 w2 => ?_, fun b hb => ?_, fun b hb => ⟨fun z => z.2.1 hb, fun ⟨i, z1, z2⟩ => ?_⟩, fun i d e => ?_⟩
  · unfold L2.start entryN
    rw [List.length_append, List.length_append, List.length_map, List.length_replicate, List.length_replicate, entry_len, a.len]
  · rcases entryN_get e with z | ⟨d', h1, h2⟩
    · cases z
    · rcases h2 with ⟨_, z⟩ | ⟨h2, z⟩
      · cases z
      · cases z
        have hi : i < vs.length := by rw [a.len]; exact (List.getElem?_eq_some_iff.mp h1).1
        exact ⟨vs[i], start_get (List.getElem?_eq_getElem hi), a.im i _ d (List.getElem?_eq_getElem hi) h1 h2⟩
  · obtain ⟨h1, h2, _⟩ := ow e w
    obtain ⟨c, e1, o, n⟩ := hm i d h1 h2
    exact ⟨c, start_get e1, o, fun b hb => ⟨n b hb, fun z => z.2.2 ⟨i, h2, hb⟩⟩⟩
  · rcases entryN_get e with z | ⟨d', h1, h2⟩
    · cases z
    · rcases h2 with ⟨_, z⟩ | ⟨h2, z⟩ <;> cases z
  · exact a.sep i j hn (ow h1 w1).2.1 (ow h2 w2).2.1
  · rcases hb with hb | hb | ⟨i, h1, h2⟩
    · exact dm b hb
    · exact hb.1
    · have hi : i < ds.length := Nat.lt_of_lt_of_le (List.getElem?_eq_some_iff.mp h1).1 (by rw [← a.len]; exact a.ml)
      obtain ⟨c, e1, o, n⟩ := hm i _ (List.getElem?_eq_getElem hi) h1
      exact o.there b h2
  · have hi : i < ds.length := Nat.lt_of_lt_of_le (List.getElem?_eq_some_iff.mp z1).1 (by rw [← a.len]; exact a.ml)
    obtain ⟨c, e1, o, n⟩ := hm i _ (List.getElem?_eq_getElem hi) z1
    exact n b z2 hb
  · obtain ⟨h1, h2, _⟩ := ow e (d := d) rfl
    obtain ⟨c, e1, _, _⟩ := hm i d h1 h2
    have e2 : refAt vs i = c := by unfold refAt; rw [e1]
    show _ = some (some (V.ref (refAt vs i)))
    rw [e2]
    exact start_get e1
/-- the frame's end, for the caller -/
theorem Args.done (a : Args G S H ms vs ds fp) {S' : Set0} {H' : Hp} {σ' : L2.St} {ρ' : Rho} {o : List D}
    (le : ∀ b, S b → S' b) (kept : ∀ b, S b ∨ Frn S H ms fp b → H' b = H b) (grow : ∀ b, H b ≠ none → H' b ≠ none) {fp' : Nat → List Addr}
    (s : Sim G (Frn S H ms fp) (lnt ms vs fp) S' σ' H' ρ' fp') (ho : outs ms ρ' = some o) : CEnd G S H ms vs fp S' H' o fp' := by
  refine ⟨le, fun b hb => ?_, fun b h1 h2 => kept b ?_, grow, s.domS, fun i v hv hm => ?_, fun i j hn h1 h2 => ?_⟩
  · by_cases h : H b = none
    · exact .inr h
    · by_cases hS : S b
      · exact .inl hS
      · by_cases hl : Lent ms fp b
        · exact absurd hl (s.off b hb).2
        · exact absurd ⟨h, hS, hl⟩ (s.off b hb).1
  · by_cases hS : S b
    · exact .inl hS
    · exact .inr ⟨h1, hS, h2⟩
  · obtain ⟨d, e1, e2⟩ := outs_get ms ρ' o i ho hm
    obtain ⟨c, e3, ow, n⟩ := s.ow i _ d e1 rfl
    have e4 : σ'[i]? = some (some (V.ref (refAt vs i))) := s.lent i d e1
    rw [e3] at e4
    cases e4
    have hi : i < ds.length := by rw [← a.len]; exact (List.getElem?_eq_some_iff.mp hv).1
    obtain ⟨c, e5, _, _⟩ := a.mu i v _ hv (List.getElem?_eq_getElem hi) hm
    have e6 : refAt vs i = c := by unfold refAt; rw [hv, e5]
    rw [e6] at ow
    refine ⟨c, d, e5, e2, ow, fun b hb => ⟨(n b hb).1, ?_⟩⟩
    by_cases h : H b = none
    · exact .inl h
    · by_cases hl : Lent ms fp b
      · exact .inr hl
      · by_cases hS : S b
        · exact absurd (le b hS) (n b hb).1
        · exact absurd ⟨h, hS, hl⟩ (n b hb).2
  · obtain ⟨d, e1, _⟩ := outs_get ms ρ' o i ho h1
    obtain ⟨e, e2, _⟩ := outs_get ms ρ' o j ho h2
    exact s.sep i j _ _ d e hn e1 rfl e2 rfl
end
/-- a def's promise, by its body over plain data. m may hang on nothing of the entry -/
theorem Fun.okV {P : Program} {w : World} {K : PySem.W.Frag} {mg : Str → Option Value} {base : Heap} {x qual : Str} {st : Stmt} {f : Addr} {fd : FuncData} {N ps : List Str} {k : Nat} {ms : List Bool} {sem : Sem0} (F : Fun K x qual st f fd) (S : FnScope N ps (defScope st))
    (hb : ∀ (X : Cx) (E : XK) (cdv : Value) (A : Around) (outer : List Env) (s : Shared) (H : Hp), X = cxOf (L2.CX P w) P w K mg base N qual (defScope st) f cdv A outer s H E → A.guards = some [] → Room k X.A → ∃ m, VSs X E (defBody st) m ∧ ∀ ds r, ds.length = ps.length → sem ds = some r → runF ms N.length m ds = some r) :
    FnG P w K mg base (k + 1) f fd ps (spV ⟨mg, K⟩ ps.length ms sem) := by
  obtain ⟨oc, od, kV, doc, pm, an, cdv, ct, osl, rfl, lk, hcd⟩ := F.ex
  refine fnG_of lk hcd S fun A outer s H vs Q E hg hr hl hsp => ?_
  obtain ⟨m, hm, hs⟩ := hb _ E cdv A outer s H rfl hg hr
  obtain ⟨t, ht, q⟩ := hm.run
  refine ⟨t, ht, ?_⟩
  obtain ⟨_, S0, ds, fp, r, a, dm, e1, po⟩ := hsp
  have hps : ps.length ≤ N.length := by
    have e := congrArg List.length S.pre
    rw [List.length_take] at e
    omega
  have e2 := hs ds r (a.len.symm.trans hl) e1
  have s1 := a.sim (N := N) dm (by rw [← a.len, hl]; exact hps)
  unfold runF at e2
  cases em : m (entryN ms N.length ds) with
  | none => rw [em] at e2; cases e2
  | some z =>
    obtain ⟨fl, ρ'⟩ := z
    rw [em] at e2
    dsimp only at e2
    cases eo : outs ms ρ' with
    | none => rw [eo] at e2; cases e2
    | some o =>
      rw [eo] at e2
      dsimp only at e2
      refine q (Frn S0 H ms fp) (lnt ms vs fp) S0 _ H _ fp _ _ s1 em ?_
      cases fl with
      | nx =>
        cases e2
        rintro σ' S' H' ⟨le, kp, gw, fp', s'⟩
        exact po .non S' H' fp' (a.done le kp gw s' eo) .non
      | rt d =>
        cases e2
        rintro v σ' S' H' ⟨le, kp, gw, fp', s'⟩ rv
        exact po v S' H' fp' (a.done le kp gw s' eo) rv
      | ro d =>
        cases e2
        rintro c σ' S' H' ⟨le, kp, gw, fp', fa, s', o', hf, hs'⟩
        refine po c S' H' fp' fa (a.done le kp gw s' eo) o' fun b hb => ⟨?_, (hf b hb).1, fun i hi z => ?_⟩
        · by_cases h : H b = none
          · exact h
          · by_cases hS : S0 b
            · exact absurd (le b hS) (hf b hb).1
            · by_cases hl : Lent ms fp b
              · exact absurd hl (hf b hb).2.2
              · exact absurd ⟨h, hS, hl⟩ (hf b hb).2.1
        · obtain ⟨d', e3, _⟩ := outs_get ms ρ' o i eo hi
          exact hs' i _ d' e3 rfl b hb z
      | ex x =>
        cases e2
        rintro C dd σ' S' H' ⟨le, kp, gw, fp', s'⟩ z1 z2
        exact po C dd S' H' fp' (a.done le kp gw s' eo) z1 z2
      | brk => cases e2
      | cnt => cases e2
end Vs

set_option Elab.async false
set_option linter.all false
set_option maxRecDepth 100000
set_option maxHeartbeats 4000000
namespace Vs
open PySem L2
open PySem.Spec PyProof.Rows

/-! ### calls of defs, as readings -/
section
variable {X : Cx} {E : XK} {k : Nat} {f C : Addr} {fd : FuncData} {ps : List Str} {ms : List Bool} {sem : Sem0} {x : Str} {p pos apos : Pos} {e o : Expr} {es : List Expr} {t : TA} {ta : TE} {m : Str}
def tFn (G : Glob) (n : Nat) (ms : List Bool) (sem : Sem0) (E : XK) (t : TA) : TE := fun σ H Q => t σ H fun vs H1 => spV G n ms sem vs H1 Q E
theorem run_fnG {pins : List (Addr × Obj)} {σ : L2.St} {H : Hp} {s : Shared} {Q : VK} {us : List Value} {vs : List V} (F : FnG X.prog X.w X.K X.gk X.base k f fd ps (spV X.gk ps.length ms sem)) (hr : Room k X.A) (hgd : X.A.guards = some []) (hb : Binds X.K fd ps [])
    (hx : Passes (L2.CX X.prog X.w) X E) (I : Inv X pins σ H s) (r : Vals vs us) (h : spV X.gk ps.length ms sem vs H Q E) : wpAny (model X.prog X.w) X.A (call (.ref f) us) (EP X pins σ Q) X.xe s := by
  have hl : vs.length = ps.length := h.1
  have bnd := hb s us I.kIn (by rw [List.append_nil, ← r.length]; exact hl)
  rw [List.append_nil] at bnd
  refine wpAny_call (codeAny_mono (F.run X.A X.stack s H ⟨us, []⟩ us vs Q E hgd hr I.env0 hl bnd r h) fun res s' hq => ?_)
  match res, hq with
  | .error y, hq => exact hx pins σ H s y s' I hq
  | .ok (.ret u), hq => exact I.after hq
theorem pe_fnG (F : FnG X.prog X.w X.K X.gk X.base k f fd ps (spV X.gk ps.length ms sem)) (hr : Room k X.A) (hgd : X.A.guards = some []) (hg : Gl X x) (hm : X.mg x = some (.ref f)) (hk : PySem.W.keepIn X.K (.ref f) = true) (hb : Binds X.K fd ps [])
    (hx : Passes (L2.CX X.prog X.w) X E) (ha : PA X (e :: es) t) (hdb : (x == ("__debug__" : Str)) = false := by decide) (he : starEach (e :: es) X.env = (false, eval e X.env) :: starEach es X.env := by rfl)
    (hpl : (backTo pos (starEach es X.env)).any (·.1) = false := by rfl) : PE X (.Call (.Name x p) (e :: es) [] pos) (tFn X.gk ps.length ms sem E t) := by
  constructor
  intro pins s σ H Q I h
  refine wpAny_Call_Name_kw (ld_glob I hg hm ?_ hdb)
  refine PySem.W.callWith_K (h₀ := X.base) I.ok.mod.kin hk (thn (ha.run pos pins s σ H _ I h) fun us s1 hv => ?_) he hpl
  obtain ⟨vs, H1, I1, r, q⟩ := hv
  exact ⟨I1.kIn, run_fnG F hr hgd hb hx I1 r q⟩
theorem pe_fnG0 (F : FnG X.prog X.w X.K X.gk X.base k f fd ps (spV X.gk ps.length ms sem)) (hr : Room k X.A) (hgd : X.A.guards = some []) (hg : Gl X x) (hm : X.mg x = some (.ref f)) (hk : PySem.W.keepIn X.K (.ref f) = true) (hb : Binds X.K fd ps [])
    (hx : Passes (L2.CX X.prog X.w) X E) (hdb : (x == ("__debug__" : Str)) = false := by decide) : PE X (.Call (.Name x p) [] [] pos) (tFn X.gk ps.length ms sem E tNil) := by
  constructor
  intro pins s σ H Q I h
  refine wpAny_Call_Name_kw (ld_glob I hg hm ?_ hdb)
  exact PySem.W.callWith_K0 I.kIn hk (run_fnG (us := []) F hr hgd hb hx I .nil h)
end

/-! ### a call that changes nothing of ours -/
section
variable {G : Glob} {S : Set0} {H : Hp}
theorem RepL.at : ∀ {vs : List V} {ds : List D} {i : Nat} {v : V} {d : D}, RepL G S H vs ds → vs[i]? = some v → ds[i]? = some d → Rep G S H v d
  | _, _, i, _, _, .nil, h, _ => by simp at h
  | _, _, 0, _, _, .cons r _, h, h' => by
    simp at h h'
    subst h h'
    exact r
  | _, _, i + 1, _, _, .cons _ l, h, h' => RepL.at (i := i) l (by simpa using h) (by simpa using h')
theorem no_lent {fp : Nat → List Addr} {b : Addr} : ¬ Lent [] fp b := fun ⟨_, z, _⟩ => by cases z
theorem RepL.args {vs : List V} {ds : List D} (r : RepL G S H vs ds) : Args G S H [] vs ds fun _ => [] :=
  ⟨r.len, Nat.zero_le _, fun i v d h1 h2 _ => r.at h1 h2, fun i v d _ _ h => (by cases h), fun i j _ h _ => (by cases h)⟩
theorem CEnd.gr {vs : List V} {S' : Set0} {H' : Hp} {out : List D} {fp fp' : Nat → List Addr} (c : CEnd G S H [] vs fp S' H' out fp') : Gr S H S' H' :=
  ⟨c.le, c.new, fun b u e => by rw [c.kept b (by rw [e]; exact nofun) no_lent, e], c.dom⟩
end
def fnP (n : Nat) (sem : Sem0) : List D → Option D := fun ds => if ds.length = n then (match sem ds with
  | some (.ret d _) => some d
  | _ => none) else none
def fnO (n : Nat) (sem : Sem0) : List D → Option D := fun ds => if ds.length = n then (match sem ds with
  | some (.own d _) => some d
  | _ => none) else none
section
variable {X : Cx} {E : XK} {k : Nat} {f C : Addr} {fd : FuncData} {ps : List Str} {sem : Sem0} {x : Str} {p pos apos : Pos} {e o : Expr} {es : List Expr} {m : Str} {pa : Rho → Option (List D)} {ma : M0 (List D)}
theorem fnP_some {n : Nat} {ds : List D} {d : D} (h : fnP n sem ds = some d) : ds.length = n ∧ ∃ o, sem ds = some (.ret d o) := by
  unfold fnP at h
  split at h
  · rename_i hl
    split at h
    · rename_i o e
      cases h
      exact ⟨hl, _, e⟩
    · cases h
  · cases h
theorem fnO_some {n : Nat} {ds : List D} {d : D} (h : fnO n sem ds = some d) : ds.length = n ∧ ∃ o, sem ds = some (.own d o) := by
  unfold fnO at h
  split at h
  · rename_i hl
    split at h
    · rename_i o e
      cases h
      exact ⟨hl, _, e⟩
    · cases h
  · cases h
theorem spP {G : Glob} {S : Set0} {H : Hp} {n : Nat} {vs : List V} {ds : List D} {d : D} {Q : VK} (dm : Dom S H) (r : RepL G S H vs ds) (h : fnP n sem ds = some d) (k : ∀ v S' H', Gr S H S' H' → Rep G S' H' v d → Q v H') : spV G n [] sem vs H Q E := by
  obtain ⟨hl, o, e⟩ := fnP_some h
  exact ⟨r.len.trans hl, S, ds, _, _, r.args, dm, e, fun v S' H' fp' c r' => k v S' H' c.gr r'⟩
theorem spO {G : Glob} {S : Set0} {H : Hp} {n : Nat} {vs : List V} {ds : List D} {d : D} {Q : VK} (dm : Dom S H) (r : RepL G S H vs ds) (h : fnO n sem ds = some d) (k : ∀ a S' H' fp, Gr S H S' H' → Own G S' H' a d fp → (∀ b ∈ fp, H b = none ∧ ¬ S' b) → Q (.ref a) H') : spV G n [] sem vs H Q E := by
  obtain ⟨hl, o, e⟩ := fnO_some h
  exact ⟨r.len.trans hl, S, ds, _, _, r.args, dm, e, fun a S' H' fp' fa c o' hf => k a S' H' fa c.gr o' fun b hb => ⟨(hf b hb).1, (hf b hb).2.1⟩⟩
theorem vp_fn (F : FnG X.prog X.w X.K X.gk X.base k f fd ps (spV X.gk ps.length [] sem)) (hr : Room k X.A) (hgd : X.A.guards = some []) (hg : Gl X x) (hm : X.mg x = some (.ref f)) (hk : PySem.W.keepIn X.K (.ref f) = true) (hb : Binds X.K fd ps []) (ha : VA X (e :: es) pa)
    (hdb : (x == ("__debug__" : Str)) = false := by decide) (he : starEach (e :: es) X.env = (false, eval e X.env) :: starEach es X.env := by rfl) (hpl : (backTo pos (starEach es X.env)).any (·.1) = false := by rfl) :
    VP X (.Call (.Name x p) (e :: es) [] pos) (pCall (fnP ps.length sem) pa) := by
  obtain ⟨t, ht, q⟩ := ha.run
  refine ⟨_, pe_fnG (E := E0) F hr hgd hg hm hk hb passL ht hdb he hpl, fun S σ H ρ d Q dm cv hp k => ?_⟩
  obtain ⟨l, e1, hp⟩ := Option.bind_eq_some_iff.mp hp
  exact q S σ H ρ l _ dm cv e1 fun vs S1 H1 g1 r1 => spP g1.dom r1 hp fun v S2 H2 g2 r2 => k v S2 H2 (g1.trans g2) r2
theorem vf_fn (F : FnG X.prog X.w X.K X.gk X.base k f fd ps (spV X.gk ps.length [] sem)) (hr : Room k X.A) (hgd : X.A.guards = some []) (hg : Gl X x) (hm : X.mg x = some (.ref f)) (hk : PySem.W.keepIn X.K (.ref f) = true) (hb : Binds X.K fd ps []) (ha : VA X (e :: es) pa)
    (hdb : (x == ("__debug__" : Str)) = false := by decide) (he : starEach (e :: es) X.env = (false, eval e X.env) :: starEach es X.env := by rfl) (hpl : (backTo pos (starEach es X.env)).any (·.1) = false := by rfl) :
    VF X (.Call (.Name x p) (e :: es) [] pos) (pCall (fnO ps.length sem) pa) := by
  obtain ⟨t, ht, q⟩ := ha.run
  refine ⟨_, pe_fnG (E := E0) F hr hgd hg hm hk hb passL ht hdb he hpl, fun S σ H ρ d Q dm cv hp k => ?_⟩
  obtain ⟨l, e1, hp⟩ := Option.bind_eq_some_iff.mp hp
  exact q S σ H ρ l _ dm cv e1 fun vs S1 H1 g1 r1 => spO g1.dom r1 hp fun v S2 H2 fp g2 r2 hf => k v S2 H2 fp (g1.trans g2) r2 fun b hb => ⟨g1.same.free (hf b hb).1, (hf b hb).2⟩
end

/-! ### a call that is lent what is ours -/
/-- the arguments as they come: is tells which are lent, and from which slot -/
inductive ArgM (G : Glob) (S : Set0) (H : Hp) (σ : L2.St) : List (Option Nat) → List V → List D → Prop
  | nil : ArgM G S H σ [] [] []
  | val {is : List (Option Nat)} {v : V} {d : D} {vs : List V} {ds : List D} : Rep G S H v d → ArgM G S H σ is vs ds → ArgM G S H σ (none :: is) (v :: vs) (d :: ds)
  | lend {is : List (Option Nat)} {i : Nat} {v : V} {d : D} {vs : List V} {ds : List D} : σ[i]? = some (some v) → ArgM G S H σ is vs ds → ArgM G S H σ (some i :: is) (v :: vs) (d :: ds)
structure VAm (X : Cx) (E : XK) (es : List Expr) (is : List (Option Nat)) (m : M0 (List D)) : Prop where
  run : ∃ t, PA X es t ∧ ∀ (F : Set0) (N : Lnt) (S : Set0) (σ : L2.St) (H : Hp) (ρ : Rho) (fp : Nat → List Addr) (Q : List V → Hp → Prop) r, Sim X.gk F N S σ H ρ fp → m ρ = some r →
    (match r with
      | (.ok ds, ρ') => ∀ vs S' H', Nx X.gk F N S H S' H' σ ρ' → ArgM X.gk S' H' σ is vs ds → Q vs H'
      | (.error x, ρ') => ∀ C dd S' H', Nx X.gk F N S H S' H' σ ρ' → X.mg x.c = some (.ref C) → ExR X.gk S' H' x.fs dd → E (.ref C) dd H') → t σ H Q
theorem Nx.argM {G : Glob} {F : Set0} {N : Lnt} {S S' : Set0} {H H' : Hp} {σ σ' : L2.St} {ρ' : Rho} (x : Nx G F N S H S' H' σ' ρ') : ∀ {is : List (Option Nat)} {vs : List V} {ds : List D}, ArgM G S H σ is vs ds → ArgM G S' H' σ is vs ds
  | _, _, _, .nil => .nil
  | _, _, _, .val r l => .val (x.rep r) (Nx.argM x l)
  | _, _, _, .lend e l => .lend e (Nx.argM x l)
section
variable {X : Cx} {E : XK} {e : Expr} {es : List Expr} {is : List (Option Nat)} {m : M0 D} {ms : M0 (List D)}
theorem am_nil : VAm X E [] [] maNil := ⟨_, pa_nil, fun F N S σ H ρ fp Q q s hm po => by
  cases hm
  exact po [] S H (Nx.refl s) .nil⟩
theorem am_val (he : VE X E e m) (hr : VAm X E es is ms) (hs : starEach (e :: es) X.env = (false, eval e X.env) :: starEach es X.env := by rfl) : VAm X E (e :: es) (none :: is) (maCons m ms) := by
  obtain ⟨t, ht, q1⟩ := he.run
  obtain ⟨u, hu, q2⟩ := hr.run
  refine ⟨_, pa_cons ht hu hs, fun F N S σ H ρ fp Q q s hm po => ?_⟩
  rcases bnd_some hm with ⟨x, ρ1, e1, hm⟩ | ⟨x, ρ1, e1, rfl⟩
  · refine q1 F N S σ H ρ fp _ _ s e1 fun v S1 H1 n1 r1 => ?_
    obtain ⟨fp1, s1⟩ := n1.sim
    rcases bnd_some hm with ⟨y, ρ2, e2, hm⟩ | ⟨y, ρ2, e2, rfl⟩
    · cases hm
      exact q2 F N S1 σ H1 ρ1 fp1 _ _ s1 e2 fun u S2 H2 n2 r2 => po (v :: u) S2 H2 (n1.trans n2) (.val (n2.rep r1) r2)
    · exact q2 F N S1 σ H1 ρ1 fp1 _ _ s1 e2 fun C dd S' H' n h1 h2 => po C dd S' H' (n1.trans n) h1 h2
  · exact q1 F N S σ H ρ fp _ _ s e1 po
def maLend (ms : M0 (List D)) : M0 (List D) := bnd ms fun l => opt (some (.non :: l))
theorem am_lend (i : Nat) {x : Str} {pos : Pos} {is : List (Option Nat)} (hr : VAm X E es is ms) (hN : X.N[i]? = some x := by rfl) (hv : Vis X.env.scope x := by first | exact Or.inl rfl | exact Or.inr (Or.inl rfl) | exact Or.inr (Or.inr rfl)) (hd : (x == ("__debug__" : Str)) = false := by decide)
    (hcd : (x == ("__classdict__" : Str)) = false := by decide) (hs : starEach (.Name x pos :: es) X.env = (false, eval (.Name x pos) X.env) :: starEach es X.env := by rfl) : VAm X E (.Name x pos :: es) (some i :: is) (fun ρ => match ρ[i]? with
      | some (.ow _) => maLend ms ρ
      | some (.mu _) => maLend ms ρ
      | _ => none) := by
  obtain ⟨u, hu, q2⟩ := hr.run
  refine ⟨_, pa_cons (pe_var hN hv hd hcd) hu hs, fun F N S σ H ρ fp Q q s hm po => ?_⟩
  have key : ∀ (t : Sl) (d : D), ρ[i]? = some t → t.own? = some d → maLend ms ρ = some q → tCons (tVar i) u σ H Q := fun t d e w hm => by
    obtain ⟨a, h1, _, _⟩ := s.ow i t d e w
    refine ⟨_, h1, ?_⟩
    rcases bnd_some hm with ⟨y, ρ2, e2, hm⟩ | ⟨y, ρ2, e2, rfl⟩
    · cases hm
      exact q2 F N S σ H ρ fp _ _ s e2 fun u S2 H2 n2 r2 => po (_ :: u) S2 H2 n2 (.lend h1 r2)
    · exact q2 F N S σ H ρ fp _ _ s e2 po
  split at hm
  · rename_i d e
    exact key _ d e rfl hm
  · rename_i d e
    exact key _ d e rfl hm
  · cases hm
end
def fill : List (Option Nat) → List D → Rho → Option (List D)
  | [], [], _ => some []
  | none :: is, d :: ds, ρ => (fill is ds ρ).map (d :: ·)
  | some i :: is, _ :: ds, ρ => match ρ[i]? with
    | some (.ow d) => (fill is ds ρ).map (d :: ·)
    | some (.mu d) => (fill is ds ρ).map (d :: ·)
    | _ => none
  | _, _, _ => none
def Sl.put (t : Sl) (o : D) : Sl := match t with
  | .ow _ => .ow o
  | .mu _ => .mu o
  | t => t
def setOut : List (Option Nat) → List D → Rho → Rho
  | none :: is, _ :: os, ρ => setOut is os ρ
  | some i :: is, o :: os, ρ => setOut is os (match ρ[i]? with
    | some t => ρ.set i (t.put o)
    | none => ρ)
  | _, _, ρ => ρ
theorem fill_get : ∀ {is : List (Option Nat)} {ds full : List D} {ρ : Rho} {j : Nat}, fill is ds ρ = some full →
    (∀ i, is[j]? = some (some i) → ∃ t d, ρ[i]? = some t ∧ t.own? = some d ∧ full[j]? = some d) ∧ (is[j]? = some none → full[j]? = ds[j]?) ∧ full.length = ds.length ∧ is.length = ds.length
  | [], [], full, ρ, j, h => by
    cases h
    exact ⟨fun i z => by simp at z, fun z => by simp at z, rfl, rfl⟩
  | none :: is, d :: ds, full, ρ, j, h => by
    obtain ⟨l, e, rfl⟩ := Option.map_eq_some_iff.mp h
    have ih := fun j => fill_get (j := j) e
    refine ⟨fun i z => ?_, fun z => ?_, congrArg (· + 1) (ih 0).2.2.1, congrArg (· + 1) (ih 0).2.2.2⟩
    · cases j with
      | zero => simp at z
      | succ j => exact (ih j).1 i (by simpa using z)
    · cases j with
      | zero => rfl
      | succ j => exact (ih j).2.1 (by simpa using z)
  | some i :: is, d :: ds, full, ρ, j, h => by
    have key : ∀ t d', ρ[i]? = some t → t.own? = some d' → (fill is ds ρ).map (d' :: ·) = some full → (∀ i', (some i :: is)[j]? = some (some i') → ∃ t d, ρ[i']? = some t ∧ t.own? = some d ∧ full[j]? = some d) ∧ ((some i :: is)[j]? = some none → full[j]? = (d :: ds)[j]?) ∧ full.length = (d :: ds).length ∧ (some i :: is).length = (d :: ds).length := by
      intro t d' e1 e2 h
      obtain ⟨l, e, rfl⟩ := Option.map_eq_some_iff.mp h
      have ih := fun j => fill_get (j := j) e
      refine ⟨fun i' z => ?_, fun z => ?_, congrArg (· + 1) (ih 0).2.2.1, congrArg (· + 1) (ih 0).2.2.2⟩
      · cases j with
        | zero =>
          simp at z
          subst z
          exact ⟨t, d', e1, e2, rfl⟩
        | succ j => exact (ih j).1 i' (by simpa using z)
      · cases j with
        | zero => simp at z
        | succ j => exact (ih j).2.1 (by simpa using z)
    unfold fill at h
    split at h
    · rename_i d' e
      exact key _ d' e rfl h
    · rename_i d' e
      exact key _ d' e rfl h
    · cases h
  | [], _ :: _, _, _, _, h => by simp [fill] at h
  | none :: _, [], _, _, _, h => by simp [fill] at h
  | some _ :: _, [], _, _, _, h => by simp [fill] at h
theorem setOut_len : ∀ (is : List (Option Nat)) (os : List D) (ρ : Rho), (setOut is os ρ).length = ρ.length
  | [], _, _ => by unfold setOut; rfl
  | none :: is, o :: os, ρ => setOut_len is os ρ
  | some i :: is, o :: os, ρ => by
    unfold setOut
    rw [setOut_len is os]
    split
    · exact List.length_set
    · rfl
  | none :: _, [], _ => rfl
  | some _ :: _, [], _ => rfl
/-- the slots that were lent hold what came back -/
theorem setOut_get : ∀ {is : List (Option Nat)} {os : List D} {ρ : Rho} {i : Nat}, is.Pairwise (fun a b => a = none ∨ a ≠ b) →
    (∀ (j : Nat) (o : D) (t : Sl), is[j]? = some (some i) → os[j]? = some o → ρ[i]? = some t → (setOut is os ρ)[i]? = some (t.put o)) ∧ ((∀ (j : Nat), is[j]? = some (some i) → os[j]? = none) → (setOut is os ρ)[i]? = ρ[i]?)
  | [], os, ρ, i, _ => ⟨fun j o t h => by simp at h, fun _ => by unfold setOut; rfl⟩
  | none :: is, [], ρ, i, _ => ⟨fun j o t _ h => by simp at h, fun _ => rfl⟩
  | some _ :: is, [], ρ, i, _ => ⟨fun j o t _ h => by simp at h, fun _ => rfl⟩
  | none :: is, o :: os, ρ, i, hp => by
    obtain ⟨_, hp⟩ := List.pairwise_cons.mp hp
    have ih := setOut_get (os := os) (ρ := ρ) (i := i) hp
    refine ⟨fun j o' t h1 h2 h3 => ?_, fun h => ih.2 fun j z => h (j + 1) (by simpa using z)⟩
    cases j with
    | zero => simp at h1
    | succ j => exact ih.1 j o' t (by simpa using h1) (by simpa using h2) h3
  | some i0 :: is, o :: os, ρ, i, hp => by
    obtain ⟨hne, hp⟩ := List.pairwise_cons.mp hp
    have hne : ∀ (j : Nat), is[j]? ≠ some (some i0) := fun j z => by
      rcases hne _ (List.mem_of_getElem? z) with w | w
      · cases w
      · exact w rfl
    have ih := fun ρ => setOut_get (os := os) (ρ := ρ) (i := i) hp
    unfold setOut
    by_cases hi : i = i0
    · subst hi
      have out := (ih (match ρ[i]? with
        | some t => ρ.set i (t.put o)
        | none => ρ)).2 fun j z => absurd z (hne j)
      refine ⟨fun j o' t h1 h2 h3 => ?_, fun h => ?_⟩
      · cases j with
        | zero =>
          simp at h2
          subst h2
          rw [out, h3]
          exact List.getElem?_set_self (List.getElem?_eq_some_iff.mp h3).1
        | succ j => exact absurd (by simpa using h1) (hne j)
      · have z := h 0 rfl
        simp at z
    · have same : (match ρ[i0]? with
        | some t => ρ.set i0 (t.put o)
        | none => ρ)[i]? = ρ[i]? := by
        split
        · exact List.getElem?_set_ne (Ne.symm hi)
        · rfl
      refine ⟨fun j o' t h1 h2 h3 => ?_, fun h => ?_⟩
      · cases j with
        | zero =>
          simp at h1
          exact absurd h1.symm hi
        | succ j => exact (ih _).1 j o' t (by simpa using h1) (by simpa using h2) (same.trans h3)
      · exact ((ih _).2 fun j z => h (j + 1) (by simpa using z)).trans same
/-- ms says of the places what is says -/
def agree : List Bool → List (Option Nat) → Bool
  | [], is => is.all Option.isNone
  | true :: ms, some _ :: is => agree ms is
  | false :: ms, none :: is => agree ms is
  | _, _ => false
theorem agree_get : ∀ {ms : List Bool} {is : List (Option Nat)} {j : Nat}, agree ms is = true → (ms[j]? = some true ↔ ∃ i, is[j]? = some (some i)) ∧ ms.length ≤ is.length
  | [], is, j, h => by
    refine ⟨⟨fun z => by simp at z, fun ⟨i, z⟩ => ?_⟩, Nat.zero_le _⟩
    have := List.all_eq_true.mp h _ (List.mem_of_getElem? z)
    cases this
  | true :: ms, some i :: is, j, h => by
    have ih := fun j => agree_get (ms := ms) (is := is) (j := j) h
    refine ⟨?_, Nat.succ_le_succ (ih 0).2⟩
    cases j with
    | zero => simp
    | succ j => simpa using (ih j).1
  | false :: ms, none :: is, j, h => by
    have ih := fun j => agree_get (ms := ms) (is := is) (j := j) h
    refine ⟨?_, Nat.succ_le_succ (ih 0).2⟩
    cases j with
    | zero => simp
    | succ j => simpa using (ih j).1
  | true :: _, [], _, h => by cases h
  | true :: _, none :: _, _, h => by cases h
  | false :: _, [], _, h => by cases h
  | false :: _, some _ :: _, _, h => by cases h
theorem ArgM.get {G : Glob} {S : Set0} {H : Hp} {σ : L2.St} : ∀ {is : List (Option Nat)} {vs : List V} {ds : List D}, ArgM G S H σ is vs ds →
    vs.length = ds.length ∧ is.length = ds.length ∧ ∀ (j : Nat) (v : V), vs[j]? = some v → (∃ i, is[j]? = some (some i) ∧ σ[i]? = some (some v)) ∨ (is[j]? = some none ∧ ∀ d, ds[j]? = some d → Rep G S H v d)
  | _, _, _, .nil => ⟨rfl, rfl, fun j v h => by simp at h⟩
  | _, _, _, .val r l => by
    obtain ⟨h1, h2, h3⟩ := ArgM.get l
    refine ⟨congrArg (· + 1) h1, congrArg (· + 1) h2, fun j v h => ?_⟩
    cases j with
    | zero =>
      simp at h
      subst h
      exact .inr ⟨rfl, fun d z => by simp at z; subst z; exact r⟩
    | succ j =>
      rcases h3 j v (by simpa using h) with ⟨i, a1, a2⟩ | ⟨a1, a2⟩
      · exact .inl ⟨i, by simpa using a1, a2⟩
      · exact .inr ⟨by simpa using a1, fun d z => a2 d (by simpa using z)⟩
  | _, _, _, .lend e l => by
    obtain ⟨h1, h2, h3⟩ := ArgM.get l
    refine ⟨congrArg (· + 1) h1, congrArg (· + 1) h2, fun j v h => ?_⟩
    cases j with
    | zero =>
      simp at h
      subst h
      exact .inl ⟨_, rfl, e⟩
    | succ j =>
      rcases h3 j v (by simpa using h) with ⟨i, a1, a2⟩ | ⟨a1, a2⟩
      · exact .inl ⟨i, by simpa using a1, a2⟩
      · exact .inr ⟨by simpa using a1, fun d z => a2 d (by simpa using z)⟩
end Vs

set_option Elab.async false
set_option linter.all false
set_option maxRecDepth 100000
set_option maxHeartbeats 4000000
namespace Vs
open PySem L2
open PySem.Spec PyProof.Rows

def fpc (is : List (Option Nat)) (fp : Nat → List Addr) : Nat → List Addr := fun j => match is[j]? with
  | some (some i) => fp i
  | _ => []
theorem fpc_at {is : List (Option Nat)} {fp : Nat → List Addr} {j i : Nat} (h : is[j]? = some (some i)) : fpc is fp j = fp i := by unfold fpc; rw [h]
theorem Own.fp_eq {G : Glob} {S : Set0} {H : Hp} {a : Addr} {d : D} {fp : List Addr} (o : Own G S H a d fp) : fp = [a] := by cases o <;> rfl
theorem apart_ix : ∀ {is : List (Option Nat)} {j j' i i' : Nat}, is.Pairwise (fun a b => a = none ∨ a ≠ b) → j ≠ j' → is[j]? = some (some i) → is[j']? = some (some i') → i ≠ i'
  | [], _, _, _, _, _, _, h, _ => by simp at h
  | x :: is, j, j', i, i', hp, hn, h, h' => by
    obtain ⟨h1, h2⟩ := List.pairwise_cons.mp hp
    cases j with
    | zero =>
      cases j' with
      | zero => exact absurd rfl hn
      | succ j' =>
        simp at h h'
        subst h
        rcases h1 _ (List.mem_of_getElem? h') with z | z
        · cases z
        · exact fun e => z (by rw [e])
    | succ j =>
      cases j' with
      | zero =>
        simp at h h'
        subst h'
        rcases h1 _ (List.mem_of_getElem? h) with z | z
        · cases z
        · exact fun e => z (by rw [e])
      | succ j' =>
        have hjj : j ≠ j' := fun e => hn (congrArg (· + 1) e)
        exact apart_ix h2 hjj (by simpa using h) (by simpa using h')
section
variable {G : Glob} {F : Set0} {N : Lnt} {S : Set0} {σ : L2.St} {H : Hp} {ρ : Rho} {fp : Nat → List Addr} {ms : List Bool} {is : List (Option Nat)} {vs : List V} {ds full : List D}
theorem Sim.args (s : Sim G F N S σ H ρ fp) (a : ArgM G S H σ is vs ds) (hf : fill is ds ρ = some full) (ha : agree ms is = true) (hp : is.Pairwise (fun a b => a = none ∨ a ≠ b)) : Args G S H ms vs full (fpc is fp) := by
  obtain ⟨l1, l2, ag⟩ := a.get
  have l3 := (fill_get (j := 0) hf).2.2.1
  refine ⟨by omega, by have := (agree_get (j := 0) ha).2; omega, fun j v d h1 h2 h3 => ?_, fun j v d h1 h2 h3 => ?_, fun j j' hn h1 h2 b hb => ?_⟩
  · rcases ag j v h1 with ⟨i, z, _⟩ | ⟨z, r⟩
    · exact absurd ((agree_get ha).1.mpr ⟨i, z⟩) h3
    · exact r d (((fill_get hf).2.1 z).symm.trans h2)
  · obtain ⟨i, z⟩ := (agree_get ha).1.mp h3
    obtain ⟨t, d', e1, e2, e3⟩ := (fill_get hf).1 i z
    obtain rfl : d' = d := Option.some.inj (e3.symm.trans h2)
    obtain ⟨c, e4, o, n⟩ := s.ow i t _ e1 e2
    rcases ag j v h1 with ⟨i', z', e5⟩ | ⟨z', _⟩
    · rw [z] at z'
      cases z'
      rw [e4] at e5
      cases e5
      rw [fpc_at z]
      exact ⟨c, rfl, o, fun b hb => (n b hb).1⟩
    · rw [z] at z'
      cases z'
  · obtain ⟨i, z⟩ := (agree_get ha).1.mp h1
    obtain ⟨i', z'⟩ := (agree_get ha).1.mp h2
    rw [fpc_at z] at hb
    rw [fpc_at z']
    obtain ⟨t, d, e1, e2, _⟩ := (fill_get hf).1 i z
    obtain ⟨u, w, e3, e4, _⟩ := (fill_get hf).1 i' z'
    exact s.sep i i' t u d w (apart_ix hp hn z z') e1 e2 e3 e4 b hb
/-- behind the call -/
theorem Sim.called (s : Sim G F N S σ H ρ fp) (a : ArgM G S H σ is vs ds) (hf : fill is ds ρ = some full) (ha : agree ms is = true) (hp : is.Pairwise (fun a b => a = none ∨ a ≠ b)) {S' : Set0} {H' : Hp} {out : List D} {fp' : Nat → List Addr}
    (c : CEnd G S H ms vs (fpc is fp) S' H' out fp') : (∀ b, S b → S' b) ∧ (∀ b, S b ∨ F b → H' b = H b) ∧ (∀ b, H b ≠ none → H' b ≠ none) ∧ Sim G F N S' σ H' (setOut is out ρ) fp ∧ ∀ b, Lent ms (fpc is fp) b → ∃ (i : Nat) (t : Sl) (d : D), ρ[i]? = some t ∧ t.own? = some d ∧ b ∈ fp i := by
  obtain ⟨l1, l2, ag⟩ := a.get
  have lentOf : ∀ b, Lent ms (fpc is fp) b → ∃ (j i : Nat) (t : Sl) (d : D), is[j]? = some (some i) ∧ ρ[i]? = some t ∧ t.own? = some d ∧ b ∈ fp i := fun b ⟨j, z1, z2⟩ => by
    obtain ⟨i, z⟩ := (agree_get ha).1.mp z1
    obtain ⟨t, d, e1, e2, _⟩ := (fill_get hf).1 i z
    rw [fpc_at z] at z2
    exact ⟨j, i, t, d, z, e1, e2, z2⟩
  have kept : ∀ b, S b ∨ F b → H' b = H b := fun b hb => c.kept b (s.dom b (hb.imp id .inl)) fun hl => by
    obtain ⟨j, i, t, d, _, e1, e2, z2⟩ := lentOf b hl
    obtain ⟨_, _, _, n⟩ := s.ow i t d e1 e2
    rcases hb with hb | hb
    · exact (n b z2).1 hb
    · exact (n b z2).2 hb
  have rep : ∀ {v : V} {d : D}, Rep G S H v d → Rep G S' H' v d := fun {v d} r => Rep.mono c.le (fun b u hb r => Rd.eq (kept b (.inl hb)) r) d v r
  -- what a slot holds behind
  have back : ∀ (i : Nat) (t' : Sl), (setOut is out ρ)[i]? = some t' → (∃ (j : Nat) (t : Sl) (d o : D) (a : Addr), is[j]? = some (some i) ∧ ρ[i]? = some t ∧ t.own? = some d ∧ t' = t.put o ∧ σ[i]? = some (some (V.ref a)) ∧ Own G S' H' a o (fp i)) ∨ ((∀ j : Nat, is[j]? ≠ some (some i)) ∧ ρ[i]? = some t') := by
    intro i t' e
    by_cases hl : ∃ j : Nat, is[j]? = some (some i)
    · obtain ⟨j, hj⟩ := hl
      obtain ⟨t, d, e1, e2, _⟩ := (fill_get hf).1 i hj
      have hjl : j < vs.length := by rw [l1, ← l2]; exact (List.getElem?_eq_some_iff.mp hj).1
      have hm : ms[j]? = some true := (agree_get ha).1.mpr ⟨i, hj⟩
      obtain ⟨a', o, e3, e4, ow', _⟩ := c.mu j _ (List.getElem?_eq_getElem hjl) hm
      rcases ag j _ (List.getElem?_eq_getElem hjl) with ⟨i', z', e5⟩ | ⟨z', _⟩
      · rw [hj] at z'
        cases z'
        rw [e3] at e5
        obtain ⟨a2, e6, ow2, _⟩ := s.ow i t d e1 e2
        rw [e6] at e5
        cases e5
        have e7 := (setOut_get (os := out) (ρ := ρ) (i := i) hp).1 j o t hj e4 e1
        rw [e7] at e
        cases e
        refine .inl ⟨j, t, d, o, _, hj, e1, e2, rfl, e6, ?_⟩
        rw [ow2.fp_eq, ← ow'.fp_eq]
        exact ow'
      · rw [hj] at z'; cases z'
    · have hl' : ∀ j : Nat, is[j]? ≠ some (some i) := fun j z => hl ⟨j, z⟩
      rw [(setOut_get (os := out) (ρ := ρ) (i := i) hp).2 fun j z => absurd z (hl' j)] at e
      exact .inr ⟨hl', e⟩
  have put_own : ∀ {t : Sl} {d o : D}, t.own? = some d → (t.put o).own? = some o := fun {t d o} h => by cases t <;> first | rfl | cases h
  refine ⟨c.le, kept, c.grow, ⟨by rw [setOut_len]; exact s.len, fun i d e => ?_, fun i t' d e w => ?_, fun i d e => ?_, fun i j t u d e hn h1 w1 h2 w2 => ?_, fun b hb => ?_, fun b hb => ?_, fun i d e => ?_⟩, fun b hl => ?_⟩
  · rcases back i _ e with ⟨j, t, d', o, a', _, _, e2, e3, _⟩ | ⟨_, e⟩
    · have := put_own (o := o) e2
      rw [← e3] at this
      cases this
    · obtain ⟨v, h1, r⟩ := s.im i d e
      exact ⟨v, h1, rep r⟩
  · rcases back i _ e with ⟨j, t, d', o, a', hj, e1, e2, rfl, e4, ow'⟩ | ⟨hn, e⟩
    · rw [put_own e2] at w
      cases w
      obtain ⟨a2, _, ow2, n2⟩ := s.ow i t d' e1 e2
      refine ⟨a', e4, ow', fun b hb => ⟨fun z => ?_, (n2 b hb).2⟩⟩
      rcases c.new b z with z | z
      · exact (n2 b hb).1 z
      · exact ow2.there b hb z
    · obtain ⟨a2, h1, ow2, n2⟩ := s.ow i t' d e w
      refine ⟨a2, h1, ow2.mono c.le (fun b u hb r => Rd.eq (kept b (.inl hb)) r) fun b hb => c.kept b (ow2.there b hb) fun hl => ?_, fun b hb => ⟨fun z => ?_, (n2 b hb).2⟩⟩
      · obtain ⟨j, i', t2, d2, z1, z2, z3, z4⟩ := lentOf b hl
        have hii : i ≠ i' := fun q => hn j (by rw [q]; exact z1)
        exact s.sep i i' t' t2 d d2 hii e w z2 z3 b hb z4
      · rcases c.new b z with z | z
        · exact (n2 b hb).1 z
        · exact ow2.there b hb z
  · rcases back i _ e with ⟨j, t, d', o, a', hj, e1, e2, e3, _⟩ | ⟨_, e⟩
    · cases t with
      | ow d2 => exact s.no i d2 e1
      | mu d2 => cases e3
      | un => cases e2
      | im d2 => cases e2
    · exact s.no i d e
  · have own_back : ∀ {i : Nat} {t : Sl} {d : D}, (setOut is out ρ)[i]? = some t → t.own? = some d → ∃ t' d', ρ[i]? = some t' ∧ t'.own? = some d' := fun {i t d} e w => by
      rcases back i _ e with ⟨j, t2, d', o, a', _, e1, e2, _⟩ | ⟨_, e⟩
      · exact ⟨t2, d', e1, e2⟩
      · exact ⟨t, d, e, w⟩
    obtain ⟨t1, d1, z1, z2⟩ := own_back h1 w1
    obtain ⟨t2, d2, z3, z4⟩ := own_back h2 w2
    exact s.sep i j t1 t2 d1 d2 hn z1 z2 z3 z4
  · rcases hb with hb | hb
    · exact c.dom b hb
    · exact c.grow b (s.dom b (.inr hb))
  · rcases c.new b hb with hb | hb
    · exact s.off b hb
    · exact ⟨fun z => s.dom b (.inr (.inl z)) hb, fun z => s.dom b (.inr (.inr z)) hb⟩
  · rcases back i _ e with ⟨j, t, d', o, a', hj, e1, e2, e3, _⟩ | ⟨_, e⟩
    · cases t with
      | mu d2 => exact s.lent i d2 e1
      | ow d2 => cases e3
      | un => cases e2
      | im d2 => cases e2
    · exact s.lent i d e
  · obtain ⟨j, i, t, d, _, e1, e2, z⟩ := lentOf b hl
    exact ⟨i, t, d, e1, e2, z⟩
end
section
variable {X : Cx} {E : XK} {k : Nat} {f C : Addr} {fd : FuncData} {ps : List Str} {sem : Sem0} {ms : List Bool} {is : List (Option Nat)} {x : Str} {p pos apos : Pos} {e o : Expr} {es : List Expr} {m : Str} {ma : M0 (List D)}
/-- the value stands still -/
def mFn (n : Nat) (sem : Sem0) (is : List (Option Nat)) (ma : M0 (List D)) : M0 D := bnd ma fun ds ρ => match fill is ds ρ with
  | none => none
  | some full => if full.length = n then (match sem full with
    | some (.ret d out) => some (.ok d, setOut is out ρ)
    | some (.exc x out) => some (.error x, setOut is out ρ)
    | _ => none) else none
/-- .. is new -/
def mFnO (n : Nat) (sem : Sem0) (is : List (Option Nat)) (ma : M0 (List D)) : M0 D := bnd ma fun ds ρ => match fill is ds ρ with
  | none => none
  | some full => if full.length = n then (match sem full with
    | some (.own d out) => some (.ok d, setOut is out ρ)
    | some (.exc x out) => some (.error x, setOut is out ρ)
    | _ => none) else none
theorem goFn {t : TA} {n : Nat} (ha : agree ms is = true) (hp : is.Pairwise (fun a b => a = none ∨ a ≠ b)) (h : ∀ (F : Set0) (N : Lnt) (S : Set0) (σ : L2.St) (H : Hp) (ρ : Rho) (fp : Nat → List Addr) (Q : List V → Hp → Prop) r, Sim X.gk F N S σ H ρ fp → ma ρ = some r →
    (match r with
      | (.ok ds, ρ') => ∀ vs S' H', Nx X.gk F N S H S' H' σ ρ' → ArgM X.gk S' H' σ is vs ds → Q vs H'
      | (.error x, ρ') => ∀ C dd S' H', Nx X.gk F N S H S' H' σ ρ' → X.mg x.c = some (.ref C) → ExR X.gk S' H' x.fs dd → E (.ref C) dd H') → t σ H Q) : RunE X E (tFn X.gk n ms sem E t) (mFn n sem is ma) := by
  intro F N S σ H ρ fp Q q s hm po
  rcases bnd_some hm with ⟨ds, ρ1, e1, hm⟩ | ⟨x, ρ1, e1, rfl⟩
  case inr => exact h F N S σ H ρ fp _ _ s e1 po
  refine h F N S σ H ρ fp _ _ s e1 fun vs S1 H1 n1 am => ?_
  obtain ⟨fp1, s1⟩ := n1.sim
  split at hm
  · cases hm
  · rename_i full ef
    split at hm
    case isFalse => cases hm
    rename_i hl
    have lv : vs.length = n := by
      obtain ⟨l1, _, _⟩ := am.get
      have := (fill_get (j := 0) ef).2.2.1
      omega
    split at hm
    · rename_i d out es
      cases hm
      refine ⟨lv, S1, full, _, _, s1.args am ef ha hp, s1.domS, es, fun v S2 H2 fp' c r2 => ?_⟩
      obtain ⟨x1, x2, x3, x4, _⟩ := s1.called am ef ha hp c
      exact po v S2 H2 (n1.trans ⟨x1, x2, x3, fp1, x4⟩) r2
    · rename_i y out es
      cases hm
      refine ⟨lv, S1, full, _, _, s1.args am ef ha hp, s1.domS, es, fun C dd S2 H2 fp' c z1 z2 => ?_⟩
      obtain ⟨x1, x2, x3, x4, _⟩ := s1.called am ef ha hp c
      exact po C dd S2 H2 (n1.trans ⟨x1, x2, x3, fp1, x4⟩) z1 z2
    · cases hm
theorem goFnO {t : TA} {n : Nat} (ha : agree ms is = true) (hp : is.Pairwise (fun a b => a = none ∨ a ≠ b)) (h : ∀ (F : Set0) (N : Lnt) (S : Set0) (σ : L2.St) (H : Hp) (ρ : Rho) (fp : Nat → List Addr) (Q : List V → Hp → Prop) r, Sim X.gk F N S σ H ρ fp → ma ρ = some r →
    (match r with
      | (.ok ds, ρ') => ∀ vs S' H', Nx X.gk F N S H S' H' σ ρ' → ArgM X.gk S' H' σ is vs ds → Q vs H'
      | (.error x, ρ') => ∀ C dd S' H', Nx X.gk F N S H S' H' σ ρ' → X.mg x.c = some (.ref C) → ExR X.gk S' H' x.fs dd → E (.ref C) dd H') → t σ H Q) : RunO X E (tFn X.gk n ms sem E t) (mFnO n sem is ma) := by
  intro F N S σ H ρ fp Q q s hm po
  rcases bnd_some hm with ⟨ds, ρ1, e1, hm⟩ | ⟨x, ρ1, e1, rfl⟩
  case inr => exact h F N S σ H ρ fp _ _ s e1 po
  refine h F N S σ H ρ fp _ _ s e1 fun vs S1 H1 n1 am => ?_
  obtain ⟨fp1, s1⟩ := n1.sim
  split at hm
  · cases hm
  · rename_i full ef
    split at hm
    case isFalse => cases hm
    rename_i hl
    have lv : vs.length = n := by
      obtain ⟨l1, _, _⟩ := am.get
      have := (fill_get (j := 0) ef).2.2.1
      omega
    split at hm
    · rename_i d out es
      cases hm
      refine ⟨lv, S1, full, _, _, s1.args am ef ha hp, s1.domS, es, fun a S2 H2 fp' fa c r2 hf => ?_⟩
      obtain ⟨x1, x2, x3, x4, _⟩ := s1.called am ef ha hp c
      refine po a S2 H2 (n1.transO ⟨x1, x2, x3, fp1, fa, x4, r2, fun b hb => ⟨(hf b hb).2.1, fun z => s1.dom b (.inr (.inl z)) (hf b hb).1, fun z => s1.dom b (.inr (.inr z)) (hf b hb).1⟩, fun i t e e1 e2 b hb z => ?_⟩)
      -- a slot's own object stood ahead of the call
      have tb : ∃ t' d', ρ1[i]? = some t' ∧ t'.own? = some d' := by
        by_cases hl : ∃ j : Nat, is[j]? = some (some i)
        · obtain ⟨j, hj⟩ := hl
          obtain ⟨t', d', y1, y2, _⟩ := (fill_get ef).1 i hj
          exact ⟨t', d', y1, y2⟩
        · rw [(setOut_get (os := out) (ρ := ρ1) (i := i) hp).2 fun j q => absurd ⟨j, q⟩ hl] at e1
          exact ⟨t, e, e1, e2⟩
      obtain ⟨t', d', y1, y2⟩ := tb
      obtain ⟨_, _, o', _⟩ := s1.ow i t' d' y1 y2
      exact o'.there b z (hf b hb).1
    · rename_i y out es
      cases hm
      refine ⟨lv, S1, full, _, _, s1.args am ef ha hp, s1.domS, es, fun C dd S2 H2 fp' c z1 z2 => ?_⟩
      obtain ⟨x1, x2, x3, x4, _⟩ := s1.called am ef ha hp c
      exact po C dd S2 H2 (n1.trans ⟨x1, x2, x3, fp1, x4⟩) z1 z2
    · cases hm
theorem ve_fn (F : FnG X.prog X.w X.K X.gk X.base k f fd ps (spV X.gk ps.length ms sem)) (hr : Room k X.A) (hgd : X.A.guards = some []) (hg : Gl X x) (hm : X.mg x = some (.ref f)) (hk : PySem.W.keepIn X.K (.ref f) = true) (hb : Binds X.K fd ps []) (hx : Passes (L2.CX X.prog X.w) X E) (ha : VAm X E (e :: es) is ma)
    (hag : agree ms is = true := by rfl) (hp : is.Pairwise (fun a b => a = none ∨ a ≠ b) := by decide) (hdb : (x == ("__debug__" : Str)) = false := by decide) (he : starEach (e :: es) X.env = (false, eval e X.env) :: starEach es X.env := by rfl) (hpl : (backTo pos (starEach es X.env)).any (·.1) = false := by rfl) :
    VE X E (.Call (.Name x p) (e :: es) [] pos) (mFn ps.length sem is ma) := by
  obtain ⟨t, ht, q⟩ := ha.run
  exact ⟨_, pe_fnG F hr hgd hg hm hk hb hx ht hdb he hpl, goFn hag hp q⟩
theorem vo_fn (F : FnG X.prog X.w X.K X.gk X.base k f fd ps (spV X.gk ps.length ms sem)) (hr : Room k X.A) (hgd : X.A.guards = some []) (hg : Gl X x) (hm : X.mg x = some (.ref f)) (hk : PySem.W.keepIn X.K (.ref f) = true) (hb : Binds X.K fd ps []) (hx : Passes (L2.CX X.prog X.w) X E) (ha : VAm X E (e :: es) is ma)
    (hag : agree ms is = true := by rfl) (hp : is.Pairwise (fun a b => a = none ∨ a ≠ b) := by decide) (hdb : (x == ("__debug__" : Str)) = false := by decide) (he : starEach (e :: es) X.env = (false, eval e X.env) :: starEach es X.env := by rfl) (hpl : (backTo pos (starEach es X.env)).any (·.1) = false := by rfl) :
    VO X E (.Call (.Name x p) (e :: es) [] pos) (mFnO ps.length sem is ma) := by
  obtain ⟨t, ht, q⟩ := ha.run
  exact ⟨_, pe_fnG F hr hgd hg hm hk hb hx ht hdb he hpl, goFnO hag hp q⟩
end
end Vs

set_option Elab.async false
set_option linter.all false
set_option maxRecDepth 100000
set_option maxHeartbeats 4000000
/-! sets of texts: made, filled, told by their length, put in order -/
namespace Vs
open PySem PySem.Spec PyProof.Rows L2
open PySem.Froz (TxOk SD sObj addTx tailTx)

def txK (e : Int × Value) : Str := match e.2 with | .str x _ => x | _ => ⟨#[]⟩
structure SxD (P : Program) (w : World) (D : SD) (l : List Str) : Prop where
  ok : TxOk P w D l
  pm : (D.1.toList.map txK).Perm l
  nd : l.Nodup
  ris : Ris D.2.2.place.toList
  led : w.params.followText "set-order" = true ∨ D.2.2.led = true
def Sx (P : Program) (w : World) (h : Heap) (a : Addr) (l : List Str) : Prop := ∃ D, h.get? a = some (sObj "set" D) ∧ SxD P w D l ∧ l.length ≤ 4000
theorem Sx.keep {P : Program} {w : World} {h h' : Heap} {a : Addr} {l : List Str} (x : Sx P w h a l) (k : ∀ o, h.get? a = some o → h'.get? a = some o) : Sx P w h' a l := by
  obtain ⟨D, e, q⟩ := x
  exact ⟨D, k _ e, q⟩
def emptyD (w : World) : SD := (#[], 0, .fresh 0 0 (!w.params.followText "set-order"))
theorem SxD.none (P : Program) (w : World) : SxD P w (emptyD w) [] where
  ok := .nil (by rfl)
  pm := .refl _
  nd := .nil
  ris := .nil
  led := by
    unfold emptyD
    cases h : w.params.followText "set-order"
    · right; rfl
    · left; rfl
section
variable {P : Program} {w : World} {A : Around} {E : Value → Shared → Prop} {s : Shared}
theorem tail_pm (ep : Nat) (es : Array (Int × Value)) (t : SetTable) (b : Bool) : (tailTx ep es t b).1.toList.Perm es.toList ∧ (Ris t.place.toList → Ris (tailTx ep es t b).2.2.place.toList) ∧ (tailTx ep es t b).2.2.led = t.led := by
  unfold tailTx
  split
  · exact ⟨relayAll_perm _ _ _, fun _ => relayAll_ris _ _ _, relayAll_led _ _ _⟩
  · exact ⟨.refl _, fun r => r, rfl⟩
theorem plainOff (t : SetTable) : (if t.plain = true then { t with plain := false } else t).place = t.place ∧ (if t.plain = true then { t with plain := false } else t).led = t.led := by
  split <;> exact ⟨rfl, rfl⟩
theorem SxD.add {D : SD} {l : List Str} {k : Str} (u : Tok) (F : SxD P w D l) (hk : k ∉ l) : SxD P w (addTx (hashStr w k) (.str k u) D) (k :: l) := by
  have ok := PySem.Froz.add_ok (k := k) u F.ok
  obtain ⟨es, ep, t⟩ := D
  have hp := layNew_perm t es (hashStr w k) (.str k u)
  have hr := layNew_ris t es (hashStr w k) (.str k u) F.ris
  have hl := layNew_led t es (hashStr w k) (.str k u)
  rw [Array.toList_push] at hp
  unfold addTx at ok ⊢
  dsimp only at ok ⊢
  have tp := tail_pm ep (layNew t es (hashStr w k) (.str k u)).1 (if (layNew t es (hashStr w k) (.str k u)).2.1.plain = true then { (layNew t es (hashStr w k) (.str k u)).2.1 with plain := false } else (layNew t es (hashStr w k) (.str k u)).2.1) (layNew t es (hashStr w k) (.str k u)).2.2.1
  refine ⟨ok, ?_, List.nodup_cons.mpr ⟨hk, F.nd⟩, tp.2.1 (by rw [(plainOff _).1]; exact hr), F.led.imp id fun z => by rw [tp.2.2, (plainOff _).2, hl]; exact z⟩
  have q := ((tp.1.trans hp).trans (List.perm_append_singleton _ _)).map txK
  exact q.trans (List.Perm.cons k F.pm)
/-- what is behind a set's add -/
def sxAdd (l : List Str) (k : Str) : List Str := if k ∈ l then l else k :: l
theorem sxAdd_len (l : List Str) (k : Str) : (sxAdd l k).length ≤ l.length + 1 := by
  unfold sxAdd; split <;> simp
theorem sx_hash {a : Addr} {l : List Str} {k : Str} {u : Tok} {Q : Bool → Shared → Prop} (R : Sx P w s.heap a l) (hb : l.length < 4000)
    (hQ : ∀ b h', Heap.SameBut a s.heap h' → Sx P w h' a (sxAdd l k) → Q b { s with heap := h' }) : wpAny (model P w) A (setAddHashed a (.str k u) (hashStr w k)) Q E s := by
  obtain ⟨D, ho, F, hl⟩ := R
  have hsb : scanBound = 4096 := rfl
  by_cases hk : k ∈ l
  · have e : sxAdd l k = l := if_pos hk
    rw [e] at hQ
    obtain ⟨es, ep, t⟩ := D
    have hf : t.fits es.size = true := F.ok.fit
    have hel : ElemsOf (PySem.strKind P w) es.toList := F.ok.el
    have hsz : es.size = l.length := F.ok.sz
    have hkey : (PySem.strKind P w).is k (.str k u) = true := PySem.Froz.is_str k u
    obtain ⟨e0, he0, q0⟩ := (F.ok.mem k).mp hk
    unfold setAddHashed setAddHashedIn
    refine wpAny_holding (wpAny_bind (wpAny_setState_of ho rfl hf ?_))
    dsimp only
    rw [byScan_of rfl (by omega) hel]
    simp only [↓reduceIte]
    unfold setAddByScan
    refine wpAny_bind (wpAny_bind (wpAny_rule (wpAny_bind ?_)))
    refine wpAny_setScan_of (knd := PySem.strKind P w) (k := k) hkey ho rfl hf hel ?_
    cases hi : List.findIdx? (fun e => (PySem.strKind P w).is k e.2) es.toList with
    | none =>
      have c := List.findIdx?_eq_none_iff.mp hi e0 he0
      rw [q0] at c
      cases c
    | some j =>
      dsimp only
      exact wpAny_pure (wpAny_pure (hQ false s.heap (Heap.SameBut.refl a _) ⟨_, ho, F, hl⟩))
  · have e : sxAdd l k = k :: l := if_neg hk
    rw [e] at hQ
    refine PySem.Froz.add_x ho F.ok hk (by omega) (hQ true _ (Heap.SameBut.update s.heap a _) ?_)
    exact ⟨_, PySem.Froz.get_upd _ ho rfl, F.add u hk, by simp; omega⟩
theorem sx_add {a : Addr} {l : List Str} {k : Str} {u : Tok} {Q : Value → Shared → Prop} (R : Sx P w s.heap a l) (hb : l.length < 4000)
    (hQ : ∀ h', Heap.SameBut a s.heap h' → Sx P w h' a (sxAdd l k) → Q .none { s with heap := h', toks := s.toks + 1 }) : wpAny (model P w) A (call (.builtin "set.add") [.ref a, .str k u]) Q E s := by
  have hT : s.TypeIs (.ref a) "set" := by
    obtain ⟨D, ho, _⟩ := R
    exact ⟨_, ho, rfl⟩
  refine wpAny_call_entry F.slot_set_add hT F.entry_set_add ?_ (F.args_set_add_2 _ _)
  unfold Builtin.«set.add» Builtin.Frozenset.oneOther
  simp only [List.isEmpty_nil, bind_assoc]
  unfold Builtin.Frozenset.addrOf setAdd
  refine wpAny_bind (wpAny_pure (wpAny_bind (wpAny_pure ?_)))
  refine wpAny_bind (wpAny_holding (wpAny_bind ((PySem.strKind P w).pyHash (PySem.Froz.is_str k u) ?_)))
  refine sx_hash (s := { s with toks := s.toks + 1 }) R hb fun b h' sb r => ?_
  exact wpAny_pure ⟨_, rfl, hQ h' sb r⟩
end
end Vs

set_option Elab.async false
set_option linter.all false
set_option maxRecDepth 100000
set_option maxHeartbeats 4000000
namespace Vs
open PySem PySem.Spec PyProof.Rows L2
/-- the set of texts at a, as a tracked thing -/
def SxO (P : Program) (w : World) (a : Addr) (l : List Str) : HO := .ext fun h => Sx P w h a l
theorem sxO_ok {P : Program} {w : World} {H : Hp} {h : Heap} {a : Addr} {l : List Str} (R : Sx P w h a l) : ObjOk P w H h a (SxO P w a l) := by
  refine ⟨R, ?_, fun h1 h2 p k => Sx.keep p k⟩
  obtain ⟨D, e, _⟩ := R
  exact ⟨_, e⟩
theorem sx_new {P : Program} {w : World} (h : Heap) : Sx P w (h.push { cls := .type "set", dict := none, data := .set #[] 0 (.fresh 0 0 (!w.params.followText "set-order")) }) h.objs.size [] :=
  ⟨emptyD w, Heap.get?_push_size _ rfl, SxD.none P w, by simp⟩
section
variable {X : Cx}
theorem sxO_at {pins : List (Addr × Obj)} {σ : L2.St} {H : Hp} {s : Shared} {a : Addr} {l : List Str} (I : Inv X pins σ H s) (e : H a = some (SxO X.prog X.w a l)) : Sx X.prog X.w s.heap a l := (I.hok a _ e).1
theorem sx_put {pins : List (Addr × Obj)} {σ : L2.St} {H : Hp} {s : Shared} {E : Value → Shared → Prop} {T : Addr} {l : List Str} {k : Str} {u : Tok} {Q : Value → Shared → Prop} (I : Inv X pins σ H s) (e : H T = some (SxO X.prog X.w T l)) (hl : l.length < 4000)
    (q : ∀ s', Inv X pins σ (upd H T (SxO X.prog X.w T (sxAdd l k))) s' → Q .none s') : wpAny (model X.prog X.w) X.A (call (.builtin "set.add") [.ref T, .str k u]) Q E s := by
  refine sx_add (sxO_at I e) hl fun h' sb R => q _ (I.write (e := T) (t' := s.toks + 1) (by rw [e]; trivial) (.inl rfl) (fun b o hb ho => (sb.2 b hb).trans ho) ?_ (sxO_ok R))
  obtain ⟨D, e', _⟩ := R
  exact ⟨_, e'⟩
/-- {elt for tg in iter}: T the new set -/
def tSx (P : Program) (w : World) (wi : TI) (g : TG) (te : TE) (vs : List Nat) : TE := fun σ H Q => wi σ H fun J H1 => ∀ T, H1 T = none → ∃ W : Nat → Nat → Hp → Prop, (∃ m, W 0 m (upd H1 T (SxO P w T []))) ∧ ∀ i m H, W i m H →
  (J.stop i H ∧ Q (.ref T) H) ∨ (J.go i H ∧ ∃ Nx : Hp → Prop, (∀ H', Nx H' → ∃ m', m' < m ∧ W (i + 1) m' H') ∧ ∀ x H', J.yld i H x H' → g x (wipe σ vs) H' fun σ2 H2 => wipe σ2 vs = wipe σ vs ∧
    te σ2 H2 fun y H4 => ∃ (c : Str) (l : List Str), y = .str c ∧ H4 T = some (SxO P w T l) ∧ l.length < 4000 ∧ Nx (upd H4 T (SxO P w T (sxAdd l c))))
theorem pe_sx {elt tg iter : Expr} {scope : Scope} {own : List (Str × Nat)} {pos : Pos} {wi : TI} {g : TG} {te : TE} (hc : X.calm = true) (hN : X.N.Nodup) (hi : PI X tg iter wi) (ok : BlkOk X.N X.env.scope scope own)
    (hg : BlkE X scope fun X => PG X tg g) (he : BlkE X scope fun X => PE X elt te) (hs : ∀ x, foldedSetIterable iter X.env x = pure x := by intro _; rfl) : PE X (.SetComp elt [⟨tg, iter, [], 0⟩] scope pos) (tSx X.prog X.w wi g te (own.map (·.2))) := by
  refine ⟨fun pins s σ H Q I h => ?_⟩
  rw [PpSet.eval_SetComp]
  have fr : ∀ y ∈ scope.names, y.2 = .free → ∃ c, X.env.cells.lookup y.1 = some c := fun y hy e => (ok.free y hy e).elim (fun k => I.ok.has _ (.inl k)) fun k => I.ok.has _ (.inr k)
  refine wpAny_comprehension_free (use := none) rfl hs (closure_ok fr) ok.kind (fun y hy e => by rw [ok.uniq y hy, e]) (thn (hi.run pins s σ H _ I h) fun xv s1 hx => thn hx fun itv s2 h2 => ?_)
  obtain ⟨it, fp, tn, J, H2, e, I2, Tu, st2, f2, q⟩ := h2
  subst e
  refine PpSet.newSet_ok (newEnv_comp ?_)
  generalize eT : s2.heap.objs.size = T
  have hT : H2 T = none := I2.hok.fresh (Nat.le_of_eq eT)
  obtain ⟨W, ⟨m0, w0⟩, turn⟩ := q T hT
  generalize es3 : ({ s2 with heap := s2.heap.push { cls := .type "set", dict := none, data := .set #[] 0 (.fresh 0 0 (!X.w.params.followText "set-order")) } } : Shared) = s3
  have hp3 : s3.heap = s2.heap.push { cls := .type "set", dict := none, data := .set #[] 0 (.fresh 0 0 (!X.w.params.followText "set-order")) } := by rw [← es3]
  have keep3 : ∀ b o, s2.heap.get? b = some o → s3.heap.get? b = some o := fun b o e => by rw [hp3]; exact Heap.get?_push_of_some _ e
  have I3 : Inv X pins σ (upd H2 T (SxO X.prog X.w T [])) s3 := by
    rw [← es3]
    refine I2.laid (t' := s2.toks) (fun b o e => Heap.get?_push_of_some _ e) (Nat.le_of_eq eT) (sxO_ok ?_)
    rw [← eT]
    exact sx_new _
  have f3 : ∀ b ∈ fp, FpOk X pins (upd H2 T (SxO X.prog X.w T [])) b ∧ b < s3.heap.objs.size := fun b hb => by
    obtain ⟨o, e, _⟩ := Tu.obj _ _ st2 b hb
    have lt : b < s2.heap.objs.size := Heap.lt_size e
    exact ⟨⟨by rw [upd_ne (by rw [← eT]; exact Nat.ne_of_lt lt)]; exact (f2 b hb).1, (f2 b hb).2⟩, by rw [hp3, Heap.size_push]; exact Nat.lt_succ_of_lt lt⟩
  have I4 := block_start I3 ok hN f3
  have st3 : tn 0 s3.heap := Tu.keep _ _ _ st2 fun b _ o e => keep3 b o e
  have nfp : ∀ b ∈ fp, (upd H2 T (SxO X.prog X.w T [])) b = none := fun b hb => (f3 b hb).1.1
  have pg := hg s3 (upd H2 T (SxO X.prog X.w T [])) s3.heap.objs.size (cellsFrom (s3.heap.objs.size + 1) scope.names (cloFrom X.env.cells scope.names [])) fp
  have pe := he s3 (upd H2 T (SxO X.prog X.w T [])) s3.heap.objs.size (cellsFrom (s3.heap.objs.size + 1) scope.names (cloFrom X.env.cells scope.names [])) fp
  show codeAny _ _ (.compStart (.SetComp elt [⟨tg, iter, [], 0⟩] scope pos) 0 (.ref it) (.ref T) (compEnvC scope (cellsFrom (s3.heap.objs.size + 1) scope.names (cloFrom X.env.cells scope.names [])) s3.heap.objs.size X.env)) (compPost (model X.prog X.w) X.A X.xe none _ (.ref T) s3.heap.objs.size) { s3 with heap := pushCells (s3.heap.push { cls := .type "dict", data := .dict #[] }) scope.names }
  generalize ece : compEnvC scope (cellsFrom (s3.heap.objs.size + 1) scope.names (cloFrom X.env.cells scope.names [])) s3.heap.objs.size X.env = ce at I4 pg pe ⊢
  have cL : ce.locals = s3.heap.objs.size := by rw [← ece] <;> rfl
  generalize eH3 : upd H2 T (SxO X.prog X.w T []) = H3 at I3 I4 pg pe w0 nfp f3
  generalize es4 : ({ s3 with heap := pushCells (s3.heap.push { cls := .type "dict", data := .dict #[] }) scope.names } : Shared) = s4 at I4 ⊢
  have st4 : tn 0 s4.heap := Tu.keep _ _ _ st3 fun b _ o e => by rw [← es4]; exact pushCells_keeps _ _ _ _ (Heap.get?_push_of_some _ e)
  have stat : ∀ {σ' : L2.St} {H' : Hp} {s' : Shared}, Inv (X.blk s3 H3 scope ce fp) [] σ' H' s' → (∀ b ∈ fp, H' b = none) → ∀ b ∈ fp, FpOk (X.blk s3 H3 scope ce fp) [] H' b := fun {σ' H' s'} I' hn b hb =>
    ⟨hn b hb, (I'.ok.exf b hb).1, I'.ok.exfs b hb, .inl hb, fun x c e => (I'.ok.exf b hb).2 x c e, fun p hp => absurd (show p ∈ ([] : List (Addr × Obj)) ++ [] from hp) (by simp)⟩
  refine PpSet.codeAny_compStart_set ?lp (Tu.self X.A 0 _ _ _ st4 ?lp)
  refine PpSet.compLoopS_any (fun n s' => ∃ i H', Inv (X.blk s3 H3 scope ce fp) [] (wipe σ (own.map (·.2))) H' s' ∧ tn i s'.heap ∧ (∀ b ∈ fp, H' b = none) ∧ W i n H') ?_ m0 ⟨0, H3, I4, st4, nfp, w0⟩
  rintro n s5 ⟨i, H5, I5, st5, n5, w5⟩
  rcases turn i n H5 w5 with ⟨stop, qq⟩ | ⟨go, Nx, hNx, step⟩
  · refine thnF (Tu.done (X.blk s3 H3 scope ce fp) rfl rfl rfl hc i [] s5 _ H5 (fun _ _ => False) I5 (stat I5 n5) st5 stop) fun r s6 ⟨hr, I6⟩ => ?_
    subst hr
    have I7 : Inv X pins σ H5 s6 := I3.call' (ch := fp) I6.os I6.base I6.hok I6.bare fun b hb => ⟨(f3 b hb).1.2.2.2.1, (f3 b hb).1.2.1, (f3 b hb).1.2.2.2.2.1, (f3 b hb).1.2.2.2.2.2⟩
    have nC : H5 s3.heap.objs.size = none := by
      have z : H5 ce.locals = none := I6.free
      rwa [cL] at z
    obtain ⟨m, hn, _⟩ := I6.loc
    have hn : s6.heap.Ns ce.locals m := hn
    rw [cL] at hn
    obtain ⟨f0, f1, _, f3', f4, f5⟩ := I3.fpOk (Nat.le_refl s3.heap.objs.size) nC
    refine ⟨m, hn, fun h'' sb => ⟨.ref T, H5, I7.turned (t' := s6.toks) (fun b o hb e => (sb.2 b hb).trans e) f0 f1 f3' f4 f5, rfl, qq⟩⟩
  · refine thnF (Tu.item (X.blk s3 H3 scope ce fp) rfl rfl rfl hc i [] s5 _ H5 (fun _ _ => False) I5 (stat I5 n5) st5 go) fun r s6 ⟨u, hr, h6⟩ => ?_
    subst hr
    refine thnF h6 fun _ s7 ⟨x, H7, I7, r7, y7, st7, n7⟩ => ?_
    refine thnF (pg.run _ s7 _ H7 x u _ (I7.pinned (stat I7 n7) (Tu.obj _ _ st7)) r7 (step x H7 y7)) fun _ s8 ⟨σ8, H8, I8, hw8, q8⟩ => ?_
    refine wpAny_pure ?_
    rw [if_pos rfl]
    refine thnF (pe.run _ s8 σ8 H8 _ I8 q8) fun z s10 ⟨yv, H10, I10, r10, c, l, ey, hT10, hl, nx⟩ => ?_
    subst ey
    obtain ⟨tk, rfl⟩ := (show ∃ t, z = Value.str c t from r10)
    refine sx_put (X := X.blk s3 H3 scope ce fp) I10 hT10 hl fun s11 I11 => ?_
    obtain ⟨m', hm, w'⟩ := hNx _ nx
    have pin' : ∀ b ∈ fp, ∀ o, s7.heap.get? b = some o → s11.heap.get? b = some o ∧ (upd H10 T (SxO X.prog X.w T (sxAdd l c))) b = none := fun b hb o e =>
      let z := I11.pin (b, o) (List.mem_append_right _ (List.mem_append_right _ (mem_pinsAt hb e)))
      ⟨z.1, z.2.1⟩
    have hl' : (wipe σ (own.map (·.2))).length = σ8.length := by rw [← hw8, wipe_length]
    refine ⟨m', hm, i + 1, _, (I11.unpinned (pins := [])).weak hl' (fun j v e => ?_), Tu.keep _ _ _ st7 fun b hb o e => (pin' b hb o e).1, fun b hb => ?_, w'⟩
    · rw [← hw8] at e
      exact (wipe_some e).1
    · obtain ⟨o, e, _⟩ := Tu.obj _ _ st7 b hb
      exact (pin' b hb o e).2
end
end Vs

set_option Elab.async false
set_option linter.all false
set_option maxRecDepth 100000
set_option maxHeartbeats 4000000
namespace Vs
open PySem PySem.Spec PyProof.Rows L2
/-- the texts, each once -/
def uniq (ks : List Str) : List Str := ks.foldl sxAdd []
theorem uniq_len_go : ∀ (ks l : List Str), (ks.foldl sxAdd l).length ≤ l.length + ks.length
  | [], l => by simp
  | k :: ks, l => by
    have a := uniq_len_go ks (sxAdd l k)
    have b := sxAdd_len l k
    simp only [List.foldl_cons, List.length_cons]
    omega
theorem uniq_len (ks : List Str) : (uniq ks).length ≤ ks.length := by
  have := uniq_len_go ks []
  simpa [uniq] using this
theorem uniq_snoc {ks : List Str} {i : Nat} {k : Str} (h : ks[i]? = some k) : uniq (ks.take (i + 1)) = sxAdd (uniq (ks.take i)) k := by
  unfold uniq
  rw [List.take_add_one, h]
  simp [List.foldl_append]
theorem strs_get : ∀ {us : List Value} {ks : List Str}, StrsAre us ks → ∀ {i : Nat} {v : Value}, us[i]? = some v → ∃ k u, ks[i]? = some k ∧ v = .str k u
  | _, _, .nil, i, v, h => by simp at h
  | _, _, .cons x u _, 0, v, h => by
    simp at h
    exact ⟨x, u, rfl, h.symm⟩
  | _, _, .cons x u r, i + 1, v, h => by
    obtain ⟨k, u', a, b⟩ := strs_get r (i := i) (v := v) (by simpa using h)
    exact ⟨k, u', by simpa using a, b⟩
theorem strs_len : ∀ {us : List Value} {ks : List Str}, StrsAre us ks → us.length = ks.length
  | _, _, .nil => rfl
  | _, _, .cons _ _ r => congrArg (· + 1) (strs_len r)
section
variable {P : Program} {w : World} {A : Around} {E : Value → Shared → Prop} {s : Shared}
/-- the loop that fills a set with texts -/
theorem sx_loop {J : Addr} {fp wr : List Addr} {G : Array GenState → Array GenState → Prop} {n : Nat} {Pv : Nat → Value → Prop} {St : Nat → Shared → Prop} {R : Result → Shared → Prop} (W : WalksS P w A.in1 J fp wr G n Pv St) (T : Addr) (hT : T ∉ fp) (ks : List Str)
    (hn : n = ks.length) (h1000 : ks.length ≤ 1000) (hv : ∀ i v, Pv i v → ∃ k u, ks[i]? = some k ∧ v = .str k u) :
    ∀ (m i : Nat) (s : Shared), n - i = m → i ≤ n → St i s → Sx P w s.heap T (uniq (ks.take i)) → (∀ s', Moved (T :: wr) G s s' → Sx P w s'.heap T (uniq ks) → R (.ok (.ret .none)) s') →
      codeAny (model P w) A (.builtin "set.update.loop" ⟨[.ref T, .ref J], []⟩) R s := by
  have hTw : T ∉ wr := fun h => hT (W.sub _ h)
  have wider : ∀ b ∈ wr, b ∈ T :: wr := fun b hb => .tail _ hb
  intro m
  induction m with
  | zero =>
    intro i s hm hi st hS fin
    obtain rfl : i = n := by omega
    refine codeAny_builtin F.entry_set_update_loop ?_
    rw [Around.under_plainId F.plain_set_update_loop _]
    refine wpAny_bind (m := pyNext (.ref J)) (W.done s _ _ st fun s' mv => ?_)
    refine wpAny_pure (fin s' (mv.mono wider) ?_)
    rw [hn, List.take_length] at hS
    exact hS.keep fun o e => mv.heap T o hTw e
  | succ m ih =>
    intro i s hm hi st hS fin
    have lt : i < n := by omega
    refine codeAny_builtin F.entry_set_update_loop ?_
    rw [Around.under_plainId F.plain_set_update_loop _]
    refine wpAny_bind (m := pyNext (.ref J)) (W.item i s _ _ lt st fun v s' pv st' mv => ?_)
    obtain ⟨k, u, hk, rfl⟩ := hv i v pv
    have hS' := hS.keep fun o e => mv.heap T o hTw e
    refine wpAny_bind (m := holding [Value.str k u] (setAdd T (.str k u))) (wpAny_holding ?_)
    unfold setAdd
    refine wpAny_holding (wpAny_bind ((PySem.strKind P w).pyHash (PySem.Froz.is_str k u) ?_))
    have hul : (uniq (ks.take i)).length < 4000 := by
      have := uniq_len (ks.take i)
      have := List.length_take_le i ks
      omega
    refine sx_hash (s := { s' with toks := s'.toks + 1 }) hS' hul fun b h' sb q => ?_
    rw [← uniq_snoc hk] at q
    refine wpAny_pure ⟨plainId_quiet F.plain_set_update_loop _, ih (i + 1) _ (by omega) lt (W.frame _ s' _ _ st' (Nat.le_succ _) fun b hb o e => ?_) q fun s'' mv' q' => fin s'' (Moved.trans W.gtrans ((mv.mono wider).then_heap (Nat.le_succ _) fun b o hb e => ?_) mv') q'⟩
    · rw [sb.2 b fun z : b = T => hT (z ▸ hb)]
      exact e
    · rw [sb.2 b fun z : b = T => hb (z ▸ List.mem_cons_self)]
      exact e
def sObj0 (w : World) : Obj := { cls := .type "set", dict := none, data := .set #[] 0 (.fresh 0 0 (!w.params.followText "set-order")) }

/-- set(xs), xs a list of texts -/
theorem sx_of_list {l : Addr} {items : Array Value} (ks : List Str) {Q : Value → Shared → Prop} (hh : A.handled = none) (hl : s.heap.IsList l items) (hit : StrsAre items.toList ks) (h1000 : ks.length ≤ 1000)
    (h : ∀ (h' : Heap) (tk : Nat), Sx P w h' s.heap.objs.size (uniq ks) → (∀ b o, s.heap.get? b = some o → h'.get? b = some o) → Q (.ref s.heap.objs.size) { s with heap := h', toks := tk }) : wpAny (model P w) A (call (.type "set") [.ref l]) Q E s := by
  have hsz : items.size = ks.length := by rw [← strs_len hit, Array.length_toList]
  generalize eN : ({ cls := .type "set", dict := none, data := .set #[] 0 (.fresh 0 0 (!w.params.followText "set-order")) } : Obj) = N
  have eN' : N = sObj0 w := eN.symm
  obtain ⟨c, tl, hmro⟩ := F.called_set.mro
  have k1 := F.called_set.made
  have k2 := F.called_set.sub
  refine wpAny_call (codeAny_of_tree ?_)
  show wpAny _ _ (callAny (.type "set") _) _ _ _
  refine wpAny_pure ⟨Code.quiet_builtin _ (by decide +kernel), codeAny_builtin F.entry_type_call ?_⟩
  rw [Around.under_plain (weight_type_call_type "set" [.ref l] []) rfl]
  have k3 := F.called_set.notType
  have k4 := F.called_set.canCreate
  have k5 := F.typeCall_set_1 (.ref l)
  repeat (any_goals (first | assumption | wp_step))
  refine codeAny_mono (code_set_led1 (.ref l) (E := E) (Q₁ := fun obj s₁ => obj = .ref s.heap.objs.size ∧ s₁ = { s with heap := s.heap.push N }) (by rw [← eN]; exact ⟨rfl, rfl⟩)) fun r s₁ hr => ?_
  cases r with
  | error e => exact hr
  | ok fl =>
    cases fl with
    | ret obj =>
      obtain ⟨rfl, rfl⟩ := hr
      have hS : (s.heap.push N).get? s.heap.objs.size = some N := Heap.get?_push_size _ (by rw [← eN] <;> rfl)
      have hT : Shared.TypeIs { s with heap := s.heap.push N } (.ref s.heap.objs.size) "set" := ⟨_, hS, by rw [← eN]⟩
      have k6 := F.called_set.init.lookup
      have k7 := F.called_set.init.bind (.ref s.heap.objs.size)
      repeat (any_goals (first | assumption | wp_step))
      refine codeAny_mono (codeAny_call_builtin (R := wants (fun r s₂ => r = .none ∧ ∃ h' tk, s₂ = { s with heap := h', toks := tk } ∧ Sx P w h' s.heap.objs.size (uniq ks) ∧ (∀ b o, s.heap.get? b = some o → h'.get? b = some o)) E) F.called_set.init.plain F.entry_set_init (check_set_init_1 hT ?_)) fun r₂ s₂ hr₂ => ?_
      · obtain ⟨⟨ocls, odict, odata, oslots⟩, hol, hcl, nl, hdl⟩ := hl
        simp only at hcl hdl
        subst hcl; subst hdl; subst eN
        unfold sObj0 at eN'
        clear eN'
        have hol' : (s.heap.push { cls := .type "set", dict := none, data := .set #[] 0 (.fresh 0 0 (!w.params.followText "set-order")) }).get? l = some { cls := .type "list", dict := odict, data := .seq items nl, slots := oslots } := Heap.get?_push_of_some _ hol
        have k8 := F.sub_list_set
        have k9 := F.sub_list_frozenset
        have ka : (Value.type "list" == Value.type "dict") = false := by decide
        have hl1 : (s.heap.push { cls := .type "set", dict := none, data := .set #[] 0 (.fresh 0 0 (!w.params.followText "set-order")) }).IsList l items := ⟨_, hol', rfl, nl, rfl⟩
        unfold Builtin.«set.__init__» noKeywords Builtin.Frozenset.updateFrom
        generalize hPI : pyIter = PI
        wp_walk
        subst hPI
        refine wpAny_pyIter_list hl1 ?_
        refine wpAny_bind (wpAny_runValue ?_)
        have hlS : l < s.heap.objs.size := Heap.lt_size hol
        have hJ : (s.heap.push { cls := .type "set", dict := none, data := .set #[] 0 (.fresh 0 0 (!w.params.followText "set-order")) }).objs.size = s.heap.objs.size + 1 := Heap.size_push ..
        have hlJ : l ≠ (s.heap.push { cls := .type "set", dict := none, data := .set #[] 0 (.fresh 0 0 (!w.params.followText "set-order")) }).objs.size := by rw [hJ]; exact Nat.ne_of_lt (Nat.lt_succ_of_lt hlS)
        have hTJ : s.heap.objs.size ∉ [(s.heap.push { cls := .type "set", dict := none, data := .set #[] 0 (.fresh 0 0 (!w.params.followText "set-order")) }).objs.size, l] := by
          rw [hJ]
          simp only [List.mem_cons, List.not_mem_nil, or_false, not_or]
          exact ⟨Nat.ne_of_lt (Nat.lt_succ_self _), Nat.ne_of_gt hlS⟩
        refine sx_loop ((Walks.list (by simp [hh]) _ l hlJ items).toS) s.heap.objs.size hTJ ks hsz h1000 (fun i v pv => strs_get hit (by rw [Array.getElem?_toList]; exact pv)) (items.size - 0) 0 _ (by omega) (Nat.zero_le _) ⟨⟨_, Heap.get?_push_size _ rfl, rfl, rfl⟩, (hl1.push _)⟩ ?zero9 ?fin9
        case zero9 =>
          exact ⟨emptyD w, (Heap.get?_push_of_some _ hS).trans rfl, SxD.none P w, by simp [uniq]⟩
        case fin9 =>
          rintro ⟨h', g2, d', tk', os'⟩ mv q
          obtain rfl : g2 = s.gens := mv.gens
          obtain rfl : d' = s.drawn := mv.drawn
          obtain rfl : os' = s.os := mv.os
          refine wpAny_pure (wpAny_pure ⟨rfl, h', tk', rfl, q, fun b o e => ?_⟩)
          have hb : b < s.heap.objs.size := Heap.lt_size e
          refine mv.heap b o ?_ (Heap.get?_push_of_some _ (Heap.get?_push_of_some _ e))
          rw [hJ]
          simp only [List.mem_cons, List.not_mem_nil, or_false, not_or]
          exact ⟨Nat.ne_of_lt hb, Nat.ne_of_lt (Nat.lt_succ_of_lt hb)⟩
      · cases r₂ with
        | error e => exact hr₂
        | ok fl₂ =>
          cases fl₂ with
          | ret r =>
            obtain ⟨rfl, h', tk, rfl, q, hk⟩ := hr₂
            repeat (any_goals (first | assumption | wp_step))
            exact h _ _ q hk
          | _ => exact hr₂.elim
    | _ => exact hr.elim

/-- set(xs), xs a tuple of texts -/
theorem sx_of_tuple {l : Addr} {items : Array Value} (ks : List Str) {Q : Value → Shared → Prop} (hh : A.handled = none) (hl : s.heap.IsTuple l items) (hit : StrsAre items.toList ks) (h1000 : ks.length ≤ 1000)
    (h : ∀ (h' : Heap) (tk : Nat), Sx P w h' s.heap.objs.size (uniq ks) → (∀ b o, s.heap.get? b = some o → h'.get? b = some o) → Q (.ref s.heap.objs.size) { s with heap := h', toks := tk }) : wpAny (model P w) A (call (.type "set") [.ref l]) Q E s := by
  have hsz : items.size = ks.length := by rw [← strs_len hit, Array.length_toList]
  generalize eN : ({ cls := .type "set", dict := none, data := .set #[] 0 (.fresh 0 0 (!w.params.followText "set-order")) } : Obj) = N
  have eN' : N = sObj0 w := eN.symm
  obtain ⟨c, tl, hmro⟩ := F.called_set.mro
  have k1 := F.called_set.made
  have k2 := F.called_set.sub
  refine wpAny_call (codeAny_of_tree ?_)
  show wpAny _ _ (callAny (.type "set") _) _ _ _
  refine wpAny_pure ⟨Code.quiet_builtin _ (by decide +kernel), codeAny_builtin F.entry_type_call ?_⟩
  rw [Around.under_plain (weight_type_call_type "set" [.ref l] []) rfl]
  have k3 := F.called_set.notType
  have k4 := F.called_set.canCreate
  have k5 := F.typeCall_set_1 (.ref l)
  repeat (any_goals (first | assumption | wp_step))
  refine codeAny_mono (code_set_led1 (.ref l) (E := E) (Q₁ := fun obj s₁ => obj = .ref s.heap.objs.size ∧ s₁ = { s with heap := s.heap.push N }) (by rw [← eN]; exact ⟨rfl, rfl⟩)) fun r s₁ hr => ?_
  cases r with
  | error e => exact hr
  | ok fl =>
    cases fl with
    | ret obj =>
      obtain ⟨rfl, rfl⟩ := hr
      have hS : (s.heap.push N).get? s.heap.objs.size = some N := Heap.get?_push_size _ (by rw [← eN] <;> rfl)
      have hT : Shared.TypeIs { s with heap := s.heap.push N } (.ref s.heap.objs.size) "set" := ⟨_, hS, by rw [← eN]⟩
      have k6 := F.called_set.init.lookup
      have k7 := F.called_set.init.bind (.ref s.heap.objs.size)
      repeat (any_goals (first | assumption | wp_step))
      refine codeAny_mono (codeAny_call_builtin (R := wants (fun r s₂ => r = .none ∧ ∃ h' tk, s₂ = { s with heap := h', toks := tk } ∧ Sx P w h' s.heap.objs.size (uniq ks) ∧ (∀ b o, s.heap.get? b = some o → h'.get? b = some o)) E) F.called_set.init.plain F.entry_set_init (check_set_init_1 hT ?_)) fun r₂ s₂ hr₂ => ?_
      · obtain ⟨⟨ocls, odict, odata, oslots⟩, hol, hcl, nl, hdl⟩ := hl
        simp only at hcl hdl
        subst hcl; subst hdl; subst eN
        unfold sObj0 at eN'
        clear eN'
        have hol' : (s.heap.push { cls := .type "set", dict := none, data := .set #[] 0 (.fresh 0 0 (!w.params.followText "set-order")) }).get? l = some { cls := .type "tuple", dict := odict, data := .seq items nl, slots := oslots } := Heap.get?_push_of_some _ hol
        have k8 := F.sub_tuple_set
        have k9 := F.sub_tuple_frozenset
        have ka : (Value.type "tuple" == Value.type "dict") = false := by decide
        have hl1 : (s.heap.push { cls := .type "set", dict := none, data := .set #[] 0 (.fresh 0 0 (!w.params.followText "set-order")) }).IsTuple l items := ⟨_, hol', rfl, nl, rfl⟩
        unfold Builtin.«set.__init__» noKeywords Builtin.Frozenset.updateFrom
        generalize hPI : pyIter = PI
        wp_walk
        subst hPI
        refine wpAny_pyIter_tuple hl1 ?_
        refine wpAny_bind (wpAny_runValue ?_)
        have hlS : l < s.heap.objs.size := Heap.lt_size hol
        have hJ : (s.heap.push { cls := .type "set", dict := none, data := .set #[] 0 (.fresh 0 0 (!w.params.followText "set-order")) }).objs.size = s.heap.objs.size + 1 := Heap.size_push ..
        have hlJ : l ≠ (s.heap.push { cls := .type "set", dict := none, data := .set #[] 0 (.fresh 0 0 (!w.params.followText "set-order")) }).objs.size := by rw [hJ]; exact Nat.ne_of_lt (Nat.lt_succ_of_lt hlS)
        have hTJ : s.heap.objs.size ∉ [(s.heap.push { cls := .type "set", dict := none, data := .set #[] 0 (.fresh 0 0 (!w.params.followText "set-order")) }).objs.size, l] := by
          rw [hJ]
          simp only [List.mem_cons, List.not_mem_nil, or_false, not_or]
          exact ⟨Nat.ne_of_lt (Nat.lt_succ_self _), Nat.ne_of_gt hlS⟩
        refine sx_loop ((Walks.tuple (by simp [hh]) _ l hlJ items).toS) s.heap.objs.size hTJ ks hsz h1000 (fun i v pv => strs_get hit (by rw [Array.getElem?_toList]; exact pv)) (items.size - 0) 0 _ (by omega) (Nat.zero_le _) ⟨⟨_, Heap.get?_push_size _ rfl, rfl, rfl⟩, (hl1.push _)⟩ ?zero9 ?fin9
        case zero9 =>
          exact ⟨emptyD w, (Heap.get?_push_of_some _ hS).trans rfl, SxD.none P w, by simp [uniq]⟩
        case fin9 =>
          rintro ⟨h', g2, d', tk', os'⟩ mv q
          obtain rfl : g2 = s.gens := mv.gens
          obtain rfl : d' = s.drawn := mv.drawn
          obtain rfl : os' = s.os := mv.os
          refine wpAny_pure (wpAny_pure ⟨rfl, h', tk', rfl, q, fun b o e => ?_⟩)
          have hb : b < s.heap.objs.size := Heap.lt_size e
          refine mv.heap b o ?_ (Heap.get?_push_of_some _ (Heap.get?_push_of_some _ e))
          rw [hJ]
          simp only [List.mem_cons, List.not_mem_nil, or_false, not_or]
          exact ⟨Nat.ne_of_lt hb, Nat.ne_of_lt (Nat.lt_succ_of_lt hb)⟩
      · cases r₂ with
        | error e => exact hr₂
        | ok fl₂ =>
          cases fl₂ with
          | ret r =>
            obtain ⟨rfl, h', tk, rfl, q, hk⟩ := hr₂
            repeat (any_goals (first | assumption | wp_step))
            exact h _ _ q hk
          | _ => exact hr₂.elim
    | _ => exact hr.elim
end
end Vs

set_option Elab.async false
set_option linter.all false
set_option maxRecDepth 100000
set_option maxHeartbeats 4000000
namespace Vs
open PySem PySem.Spec PyProof.Rows L2
section
variable {P : Program} {w : World} {A : Around} {E : Value → Shared → Prop} {s : Shared}
theorem strs_of_map : ∀ (l : List (Int × Value)), PySem.ElemsOf (PySem.strKind P w) l → StrsAre (l.map (·.2)) (l.map txK)
  | [], _ => .nil
  | e :: l, h => by
    obtain ⟨⟨k, q, _⟩, _⟩ := h e (.head _)
    obtain ⟨u, hu⟩ := Value.isStrOf_shape q
    have r := strs_of_map l fun x hx => h x (.tail _ hx)
    rw [List.map_cons, List.map_cons]
    have e1 : txK e = k := by unfold txK; rw [hu]
    rw [e1, hu]
    exact .cons k u r
theorem strs_perm {us : List Value} {ks : List Str} (h : StrsAre us ks) {vs : List Value} (p : vs.Perm us) : StrsAre vs (vs.map fun v => match v with | .str x _ => x | _ => ⟨#[]⟩) ∧ (vs.map fun v => match v with | .str x _ => x | _ => ⟨#[]⟩).Perm ks := by
  have all : ∀ v ∈ vs, ∃ k u, v = .str k u := fun v hv => by
    obtain ⟨i, hi⟩ := List.getElem?_of_mem (p.mem_iff.mp hv)
    obtain ⟨k, u, _, e⟩ := strs_get h hi
    exact ⟨k, u, e⟩
  have go : ∀ (l : List Value), (∀ v ∈ l, ∃ k u, v = .str k u) → StrsAre l (l.map fun v => match v with | .str x _ => x | _ => ⟨#[]⟩) := fun l => by
    induction l with
    | nil => exact fun _ => .nil
    | cons v l ih =>
      intro h
      obtain ⟨k, u, rfl⟩ := h v (.head _)
      exact .cons k u (ih fun x hx => h x (.tail _ hx))
  have back : ∀ {us : List Value} {ks : List Str}, StrsAre us ks → (us.map fun v => match v with | .str x _ => x | _ => ⟨#[]⟩) = ks := fun h => by
    induction h with
    | nil => rfl
    | cons x u r ih => rw [List.map_cons, ih]
  refine ⟨go vs all, ?_⟩
  have q := p.map fun v => match v with | .str x _ => x | _ => (⟨#[]⟩ : Str)
  rwa [back h] at q
/-- sorted(a set of texts) -/
theorem sx_sorted {a : Addr} {l : List Str} {Q : Value → Shared → Prop} (R : Sx P w s.heap a l) (hh : A.handled = none) (h64 : l.length < 64)
    (q : ∀ s' p (out : List Value) (c : Nat) (ks : List Str), (∀ b o, s.heap.get? b = some o → s'.heap.get? b = some o) → s'.gens = s.gens → s'.os = s.os → s.heap.objs.size ≤ p → s'.heap.get? p = some (seqObj "list" out.toArray c) →
      StrsAre out ks → ks.Perm l → sortedS ks = true → Q (.ref p) s') : wpAny (model P w) A (call (.builtin "sorted") [.ref a]) Q E s := by
  obtain ⟨⟨es, ep, t⟩, ho, F, hl⟩ := R
  have hsz : es.size = l.length := F.ok.sz
  have hscan : scanBound = 4096 := rfl
  refine Calls.call_function_entry kind_sorted plain_sorted entry_sorted (args_sorted1 _) ?_
  unfold Builtin.«sorted»
  refine wpAny_bind (m := checkCount "sorted" 1 1 _) (wpAny_pure ?_)
  refine wpAny_bind (collect_set (A := A.in1) hh ⟨_, ho, rfl, rfl⟩ F.ok.fit (by show es.size < _; omega) F.ris F.led fun s1 vs k1 hz g1 o1 pm => ?_)
  obtain ⟨hS, hp⟩ := strs_perm (strs_of_map (P := P) (w := w) es.toList F.ok.el) pm
  have hvl : vs.length = l.length := by rw [pm.length_eq, List.length_map, Array.length_toList]; exact hsz
  generalize (vs.map fun v => match v with | .str x _ => x | _ => (⟨#[]⟩ : Str)) = ss at hS hp
  refine wpAny_bind (wpAny_newList ?_ (by rw [hvl, sizeLine_eq]; omega))
  have hoL : (s1.heap.push (seqObj "list" vs.toArray 0)).get? s1.heap.objs.size = some (seqObj "list" vs.toArray 0) := Heap.get?_push_size _ rfl
  refine wpAny_bind (wpAny_holding (wpAny_call_entry slot_list_sort ⟨_, hoL, rfl⟩ entry_list_sort (list_sort_treeK strKind_oneLt hoL hS.keysOf (fun v₁ v₂ rest e => keyKind_strs (by rw [← e]; exact hS)) (by rw [hvl]; exact h64) fun st' a1 a2 => ⟨_, rfl, ?_⟩) (args_list_sort _)))
  obtain ⟨ks, b1, b2, b3⟩ := sorted_out_str hS a1 a2
  obtain ⟨c, hc⟩ := sortedHeap_at (vs := vs) (out := (arrOf st').map (·.2)) hoL
  refine wpAny_pure ⟨_, rfl, q _ s1.heap.objs.size ((arrOf st').map (·.2)).toList c ks (fun b u e => ?_) g1 o1 hz (by rw [Array.toArray_toList]; exact hc) b1 ((b2.trans hp).trans F.pm) b3⟩
  have e1 := k1 b u e
  have lt := Heap.lt_size e1
  show (sortedHeap _ s1.heap.objs.size vs _).get? b = some u
  rw [sortedHeap_old (Nat.ne_of_lt lt) (by rw [size_push']; exact Nat.lt_succ_of_lt lt)]
  exact Heap.get?_push_of_some _ e1
end
section
variable {X : Cx}
theorem strs_vals : ∀ {us : List Value} {ks : List Str}, StrsAre us ks → Vals (ks.map V.str) us
  | _, _, .nil => .nil
  | _, _, .cons x u r => .cons ⟨u, rfl⟩ (strs_vals r)
def rSxSort (P : Program) (w : World) : List V → Hp → VK → Prop := fun vs H Q => ∃ (a : Addr) (l : List Str), vs = [V.ref a] ∧ H a = some (SxO P w a l) ∧ l.length < 64 ∧ ∀ (ks : List Str) (p : Addr), ks.Perm l → sortedS ks = true → H p = none → Q (.ref p) (upd H p (.lst (ks.map V.str)))
theorem cr_sxSort (hc : X.calm = true) : CallR X (.builtin "sorted") (rSxSort X.prog X.w) := by
  intro pins s σ H vs us Q I r h
  obtain ⟨a, l, rfl, ha, hl, q⟩ := h
  rw [Vals.ref1 r]
  refine sx_sorted (sxO_at I ha) (I.ok.hd hc) hl fun s' p out c ks k g o hp hg hS pm so => ?_
  have hn : H p = none := I.hok.fresh hp
  have hlen : (ks.map V.str).length ≤ sizeLine := by rw [List.length_map, pm.length_eq, sizeLine_eq]; omega
  have Jv : Inv X pins σ (upd H p (.lst (ks.map V.str))) { s with heap := s'.heap, gens := s'.gens, drawn := s'.drawn, toks := s'.toks } :=
    I.call (ch := []) (Un.laid k hp hn) (I.hok.laid k hp ⟨hlen, out, c, strs_vals hS, hg⟩) (by rw [g]; exact I.bare) (fun _ z => nomatch z)
  have e : s' = { s with heap := s'.heap, gens := s'.gens, drawn := s'.drawn, toks := s'.toks } := by
    cases s'; cases s; cases o; rfl
  rw [e]
  exact ⟨.ref p, _, Jv, rfl, q ks p pm so hn⟩
def rSxLen (P : Program) (w : World) : List V → Hp → VK → Prop := fun vs H Q => ∃ (a : Addr) (l : List Str), vs = [V.ref a] ∧ H a = some (SxO P w a l) ∧ Q (.int l.length) H
theorem cr_sxLen : CallR X (.builtin "len") (rSxLen X.prog X.w) := by
  intro pins s σ H vs us Q I r h
  obtain ⟨a, l, rfl, ha, q⟩ := h
  rw [Vals.ref1 r]
  obtain ⟨⟨es, ep, t⟩, ho, F, hl⟩ := sxO_at I ha
  have hsz : es.size = l.length := F.ok.sz
  refine call_len_set ho ⟨rfl, rfl, rfl⟩ rfl F.ok.fit (by show (es.size : Int) < _; omega) ⟨.int l.length, H, I.tok _, ⟨_, by rw [hsz]⟩, q⟩
theorem vals_strs : ∀ {ks : List Str} {us : List Value}, Vals (ks.map V.str) us → StrsAre us ks
  | [], _, .nil => .nil
  | k :: ks, _, .cons r t => by
    obtain ⟨u, rfl⟩ := r
    exact .cons k u (vals_strs t)
def rSxOf (K : PySem.W.Frag) (P : Program) (w : World) : List V → Hp → VK → Prop := fun vs H Q => ∃ (a : Addr) (ks : List Str), vs = [V.ref a] ∧ (SqL K H a (ks.map V.str) ∨ SqT K H a (ks.map V.str)) ∧ ks.length ≤ 1000 ∧ ∀ p, H p = none → Q (.ref p) (upd H p (SxO P w p (uniq ks)))
theorem cr_sxOf (hc : X.calm = true) : CallR X (.type "set") (rSxOf X.K X.prog X.w) := by
  intro pins s σ H vs us Q I r h
  obtain ⟨a, ks, rfl, hs, hl, q⟩ := h
  rw [Vals.ref1 r]
  have hn : H s.heap.objs.size = none := I.hok.fresh (Nat.le_refl _)
  rcases hs with hs | hs
  · obtain ⟨its, rv, pl, _⟩ := I.list hs
    refine sx_of_list ks (I.ok.hd hc) pl.isList (by simpa using vals_strs rv) hl fun h' tk R k => ?_
    exact ⟨.ref _, _, I.laid (t' := tk) k (Nat.le_refl _) (sxO_ok R), rfl, q _ hn⟩
  · obtain ⟨its, rv, pl, _⟩ := I.tuple hs
    refine sx_of_tuple ks (I.ok.hd hc) pl (by simpa using vals_strs rv) hl fun h' tk R k => ?_
    exact ⟨.ref _, _, I.laid (t' := tk) k (Nat.le_refl _) (sxO_ok R), rfl, q _ hn⟩
end
end Vs

set_option Elab.async false
set_option linter.all false
set_option maxRecDepth 100000
set_option maxHeartbeats 4000000
namespace Vs
open PySem L2
/-! ### texts in order -/
def leT (x y : Str) : Bool := decide (x.cps.toList ≤ y.cps.toList)
def sortT (l : List Str) : List Str := l.mergeSort leT
theorem leT_total (a b : Str) : (leT a b || leT b a) = true := by
  unfold leT
  by_cases h : a.cps.toList ≤ b.cps.toList
  · simp [h]
  · simp [h, List.le_of_lt (List.not_le.mp h)]
theorem leT_trans (a b c : Str) (h1 : leT a b = true) (h2 : leT b c = true) : leT a c = true := by
  unfold leT at *
  rw [decide_eq_true_eq] at *
  exact List.le_trans h1 h2
theorem leT_anti (a b : Str) (h1 : leT a b = true) (h2 : leT b a = true) : a = b := by
  unfold leT at *
  rw [decide_eq_true_eq] at *
  have := List.le_antisymm h1 h2
  obtain ⟨⟨a⟩⟩ := a
  obtain ⟨⟨b⟩⟩ := b
  simp at this
  rw [this]
theorem leT_rising : ∀ (l : List Str) (p : Str), PyProof.Rows.risingS p l = true → (∀ y ∈ l, leT p y = true) ∧ l.Pairwise (fun a b => leT a b = true)
  | [], p, _ => ⟨nofun, .nil⟩
  | x :: r, p, h => by
    unfold PyProof.Rows.risingS at h
    rw [Bool.and_eq_true, Bool.not_eq_true', PyProof.Rows.ltCps_eq, decide_eq_false_iff_not] at h
    obtain ⟨a, b⟩ := leT_rising r x h.2
    have px : leT p x = true := by unfold leT; rw [decide_eq_true_eq]; exact List.not_lt.mp h.1
    refine ⟨fun y hy => ?_, .cons a b⟩
    rcases List.mem_cons.mp hy with rfl | hy
    · exact px
    · exact leT_trans _ _ _ px (a y hy)
theorem leT_sorted {l : List Str} (h : PyProof.Rows.sortedS l = true) : l.Pairwise (fun a b => leT a b = true) := by
  cases l with
  | nil => exact .nil
  | cons x r => exact .cons (leT_rising r x h).1 (leT_rising r x h).2
theorem sortT_perm (l : List Str) : (sortT l).Perm l := List.mergeSort_perm _ _
theorem sortT_pw (l : List Str) : (sortT l).Pairwise (fun a b => leT a b = true) := List.pairwise_mergeSort leT_trans leT_total l
theorem sortT_eq {ks l : List Str} (p : ks.Perm l) (h : ks.Pairwise (fun a b => leT a b = true)) : ks = sortT l :=
  List.Perm.eq_of_pairwise (fun a b _ _ => leT_anti a b) h (sortT_pw l) (p.trans (sortT_perm l).symm)
/-! ### data that are texts -/
def asS : D → Option Str
  | .str s => some s
  | _ => none
def asSs : List D → Option (List Str)
  | [] => some []
  | .str s :: l => (asSs l).map (s :: ·)
  | _ :: _ => none
theorem asSs_map : ∀ l : List Str, asSs (l.map .str) = some l
  | [] => rfl
  | s :: l => by rw [List.map_cons, asSs, asSs_map l] <;> rfl
theorem asSs_inv : ∀ {l : List D} {ks : List Str}, asSs l = some ks → l = ks.map .str
  | [], ks, h => by cases h; rfl
  | .str s :: l, ks, h => by
    obtain ⟨r, e, rfl⟩ := Option.map_eq_some_iff.mp h
    rw [asSs_inv e] <;> rfl
  | .non :: _, _, h => nomatch h
  | .bl _ :: _, _, h => nomatch h
  | .int _ :: _, _, h => nomatch h
  | .lst _ :: _, _, h => nomatch h
  | .tup _ :: _, _, h => nomatch h
  | .tpl _ :: _, _, h => nomatch h
  | .scr _ :: _, _, h => nomatch h
  | .dct _ :: _, _, h => nomatch h
  | .ins _ _ :: _, _, h => nomatch h
theorem RepL.strs {G : Glob} {S : Set0} {H : Hp} : ∀ {ks : List Str} {vs : List V}, RepL G S H vs (ks.map .str) → vs = ks.map V.str
  | [], _, .nil => rfl
  | _ :: _, _, .cons r l => by rw [r.str_inv, RepL.strs l] <;> rfl
theorem RepL.of_strs {G : Glob} {S : Set0} {H : Hp} : ∀ (ks : List Str), RepL G S H (ks.map V.str) (ks.map .str)
  | [] => .nil
  | k :: ks => .cons (.str k) (RepL.of_strs ks)
/-- a list or tuple -/
def asSeq : D → Option (List D)
  | .lst l => some l
  | .tup l => some l
  | _ => none
def seqS (d : D) : Option (List Str) := (asSeq d).bind asSs
theorem seqS_rep {G : Glob} {K : PySem.W.Frag} {S : Set0} {H : Hp} {v : V} {d : D} {ks : List Str} (r : Rep G S H v d) (h : seqS d = some ks) : ∃ a, v = .ref a ∧ (SqL K H a (ks.map V.str) ∨ SqT K H a (ks.map V.str)) := by
  obtain ⟨l, e1, e2⟩ := Option.bind_eq_some_iff.mp h
  obtain rfl := asSs_inv e2
  cases r with
  | lst a rd l => cases e1; rw [l.strs] at rd; exact ⟨_, rfl, .inl (.inl rd.kit)⟩
  | tup a rd l => cases e1; rw [l.strs] at rd; exact ⟨_, rfl, .inr (.inl rd.kit)⟩
  | non => cases e1
  | bl _ => cases e1
  | int _ => cases e1
  | str _ => cases e1
  | tpl _ _ _ => cases e1
  | scr _ => cases e1
  | dct _ _ _ => cases e1
  | ins _ _ _ _ => cases e1
/-! ### sets of texts -/
structure VX (X : Cx) (e : Expr) (p : Rho → Option (List Str)) : Prop where
  run : ∃ t, PE X e t ∧ ∀ (S : Set0) (σ : L2.St) (H : Hp) (ρ : Rho) (l : List Str) (Q : VK), Dom S H → Cov X.gk S σ H ρ → p ρ = some l →
    (∀ a S' H', Gr S H S' H' → H' a = some (SxO X.prog X.w a l) → Q (.ref a) H') → t σ H Q
def xSet (ps : Rho → Option (List D)) : Rho → Option (List Str) := fun ρ => (ps ρ).bind fun ds => match ds with
  | [d] => (seqS d).bind fun ks => if ks.length ≤ 1000 then some (uniq ks) else none
  | _ => none
section
variable {X : Cx} {e : Expr} {x : Str} {p pos : Pos}
theorem vx_set {ps : Rho → Option (List D)} (hc : X.calm = true) (hg : Gl X x) (hm : X.mg x = none) (hv : bootBuiltins x = some (.type "set")) (ha : VA X [e] ps) (hn : x ≠ "__name__" := by decide) (hdb : (x == ("__debug__" : Str)) = false := by decide)
    (he : starEach [e] X.env = (false, eval e X.env) :: starEach [] X.env := by rfl) (hpl : (backTo pos (starEach [] X.env)).any (·.1) = false := by rfl) : VX X (.Call (.Name x p) [e] [] pos) (xSet ps) := by
  obtain ⟨t, ht, q⟩ := ha.run
  refine ⟨_, pe_callTy (cr_sxOf hc) hg hm hv ht hn hdb he hpl, fun S σ H ρ l Q dm cv hp k => ?_⟩
  unfold xSet at hp
  obtain ⟨ds, e1, hp⟩ := Option.bind_eq_some_iff.mp hp
  refine q S σ H ρ ds _ dm cv e1 fun vs S1 H1 g1 r1 => ?_
  cases r1 with
  | nil => cases hp
  | cons r rl =>
    cases rl with
    | cons _ _ => cases hp
    | nil =>
      obtain ⟨ks, e2, hp⟩ := Option.bind_eq_some_iff.mp hp
      split at hp
      · cases hp
        obtain ⟨a, rfl, hs⟩ := seqS_rep (K := X.K) r e2
        exact ⟨a, ks, rfl, hs, by assumption, fun p np => k p S1 _ (g1.trans (Gr.heap g1.dom (same_new np))) upd_same⟩
      · cases hp
/-- {elt for tg in iter} -/
def xComp (own : List Nat) (pi : Rho → Option (List D)) (js : List Nat) (sp : D → Option (List D)) (pe : Fr0) : Rho → Option (List Str) := fun ρ =>
  (pi ρ).bind fun xs => if xs.length ≤ 1000 then ((comp js sp pYes pe (drop0 ρ own) xs).bind asSs).map uniq else none
theorem uniq_app (ks l : List Str) : ∀ r, List.foldl sxAdd r (ks ++ l) = List.foldl sxAdd (List.foldl sxAdd r ks) l := fun r => List.foldl_append
theorem vx_comp {elt tg iter : Expr} {scope : Scope} {own : List (Str × Nat)} {js : List Nat} {sp : D → Option (List D)} {pi : Rho → Option (List D)} {pe : Fr0} (hc : X.calm = true) (hN : X.N.Nodup) (hi : VIp X tg iter pi) (ok : BlkOk X.N X.env.scope scope own) (hj : ∀ j ∈ js, j ∈ own.map (·.2))
    (hg : BlkE X scope fun X => VG X tg js sp) (he : BlkE X scope fun X => VP X elt pe) (hs : ∀ x, foldedSetIterable iter X.env x = pure x := by intro _; rfl) : VX X (.SetComp elt [⟨tg, iter, [], 0⟩] scope pos) (xComp (own.map (·.2)) pi js sp pe) := by
  obtain ⟨wi, hw, q0⟩ := hi.run
  refine ⟨_, pe_sx (g := tvG X.gk js sp) (te := tvP X.gk pe) hc hN hw ok (fun s H C cl fp => (hg s H C cl fp).pg) (fun s H C cl fp => (he s H C cl fp).pe) hs, fun S σ H ρ d Q dm cv hp k => ?_⟩
  unfold xComp at hp
  obtain ⟨xs, e0, hp⟩ := Option.bind_eq_some_iff.mp hp
  split at hp
  case isFalse => cases hp
  rename_i hsz
  obtain ⟨ks, e1, rfl⟩ := Option.map_eq_some_iff.mp hp
  refine q0 S σ H ρ xs _ dm cv e0 fun J S1 H1 g1 wk => ?_
  intro p np
  have sD : Same H1 (upd H1 p (SxO X.prog X.w p [])) := same_new np
  have nS1 : ¬ S1 p := fun z => g1.dom p z np
  have cv1 := (cv.gr g1).wipe (own.map (·.2))
  have keep : ∀ {H2 : Hp}, Same H1 H2 → ∀ b, S1 b → H2 b = H1 b := fun k b hb => same_eq k (g1.dom b hb)
  refine ⟨fun i m H2 => m = xs.length - i ∧ i ≤ xs.length ∧ ∃ (S2 : Set0) (l : List Str) (r : List Str), (∀ b, S1 b → S2 b) ∧ (∀ b, S2 b → S1 b ∨ H1 b = none) ∧ ¬ S2 p ∧ Same H1 H2 ∧ Dom S2 H2 ∧ H2 p = some (SxO X.prog X.w p l) ∧
    (comp js sp pYes pe (drop0 ρ (own.map (·.2))) (xs.drop i)).bind asSs = some r ∧ r.foldl sxAdd l = uniq ks ∧ l.length ≤ i, ⟨xs.length, by omega, by omega, S1, [], ks, fun _ h => h, fun _ h => .inl h, nS1, sD, g1.dom.same sD, upd_same, e1, rfl, Nat.le_refl _⟩, ?_⟩
  rintro i m H2 ⟨rfl, hi, S2, l, r, le, nw, nD, sm, dm2, hD, ec, eo, hdl⟩
  by_cases hlt : i < xs.length
  · have hx : xs.drop i = xs[i] :: xs.drop (i + 1) := List.drop_eq_getElem_cons hlt
    rw [hx] at ec
    obtain ⟨go, yl⟩ := wk.go i S2 H2 hlt le (keep sm) dm2
    refine .inr ⟨go, fun H5 => ∃ (S2 : Set0) (l : List Str) (r : List Str), (∀ b, S1 b → S2 b) ∧ (∀ b, S2 b → S1 b ∨ H1 b = none) ∧ ¬ S2 p ∧ Same H1 H5 ∧ Dom S2 H5 ∧ H5 p = some (SxO X.prog X.w p l) ∧
      (comp js sp pYes pe (drop0 ρ (own.map (·.2))) (xs.drop (i + 1))).bind asSs = some r ∧ r.foldl sxAdd l = uniq ks ∧ l.length ≤ i + 1, fun H' z => ⟨xs.length - (i + 1), by omega, rfl, hlt, z⟩, fun x H3 y => ?_⟩
    obtain ⟨S3, d, h1, g3, r3⟩ := yl x H3 y
    have hd : xs[i] = d := by rw [List.getElem?_eq_getElem hlt] at h1; exact Option.some.inj h1
    rw [hd] at ec
    have sm3 := sm.trans g3.same
    have nw3 : ∀ b, S3 b → S1 b ∨ H1 b = none := fun b hb => by
      rcases g3.new b hb with z | z
      · exact nw b z
      · exact .inr (sm.free z)
    have nD3 : ¬ S3 p := fun z => by
      rcases g3.new p z with w | w
      · exact nD w
      · rw [hD] at w; cases w
    have le3 : ∀ b, S1 b → S3 b := fun b hb => g3.le b (le b hb)
    obtain ⟨cs, ec, ea⟩ := Option.bind_eq_some_iff.mp ec
    unfold comp at ec
    obtain ⟨ds', es, ec⟩ := Option.bind_eq_some_iff.mp ec
    obtain ⟨b, eb, ec⟩ := Option.bind_eq_some_iff.mp ec
    cases eb
    rw [if_pos rfl] at ec
    obtain ⟨yd, ey, ec⟩ := Option.bind_eq_some_iff.mp ec
    obtain ⟨l', el, ec⟩ := Option.bind_eq_some_iff.mp ec
    cases ec
    refine ⟨S3, d, ds', r3, es, fun ws rw hl => ⟨wipe_setAll hj, ?_⟩⟩
    have cv3 : Cov X.gk S3 (wipe σ (own.map (·.2))) H3 (drop0 ρ (own.map (·.2))) := ⟨cv1.len, fun j e z => by
      obtain ⟨v, a1, a2⟩ := cv1.im j e z
      exact ⟨v, a1, Rep.mono le3 (fun b u _ r => Rd.same sm3 r) _ _ a2⟩⟩
    have cv4 := Cov.setAll (js := js) rw cv3
    refine ⟨S3, _, yd, g3.dom, cv4, ey, fun yv S5 H5 g5 r5 => ?_⟩
    have nD5 : ¬ S5 p := fun z => by
      rcases g5.new p z with w | w
      · exact nD3 w
      · rw [g3.same _ _ hD] at w; cases w
    cases yd with
    | str c =>
      obtain ⟨r', er, rfl⟩ := Option.map_eq_some_iff.mp ea
      refine ⟨c, l, r5.str_inv, g5.same _ _ (g3.same _ _ hD), by omega, S5, sxAdd l c, r', fun b hb => g5.le b (le3 b hb), fun b hb => ?_, nD5, fun b u e => ?_, fun b hb => ?_, upd_same, by rw [el]; exact er, eo, by have := sxAdd_len l c; omega⟩
      · rcases g5.new b hb with z | z
        · exact nw3 b z
        · exact .inr (sm3.free z)
      · rw [upd_ne (ne_of_none e np)]
        exact g5.same _ _ (sm3 _ _ e)
      · rw [upd_ne fun (z : b = p) => nD5 (z ▸ hb)]
        exact g5.dom b hb
    | _ => cases ea
  · have hn : xs.drop i = [] := List.drop_eq_nil_of_le (by omega)
    rw [hn] at ec
    cases ec
    have eo : l = uniq ks := eo
    subst eo
    refine .inl ⟨wk.stop i H2 (by omega) (keep sm), ?_⟩
    refine k p S2 H2 ⟨fun b hb => le b (g1.le b hb), fun b hb => ?_, g1.same.trans sm, dm2⟩ hD
    rcases nw b hb with z | z
    · exact g1.new b z
    · exact .inr (g1.same.free z)
/-! what is asked of them -/
theorem vp_lenX {f : Str} {pf : Pos} {q : Rho → Option (List Str)} (h : VX X e q) (hg : Gl X f) (hm : X.mg f = none) (hv : bootBuiltins f = some (.builtin "len")) (hn : f ≠ "__name__" := by decide) (hdb : (f == ("__debug__" : Str)) = false := by decide)
    (he : starEach [e] X.env = (false, eval e X.env) :: starEach [] X.env := by rfl) (hpl : (backTo pos (starEach [] X.env)).any (·.1) = false := by rfl) : VP X (.Call (.Name f pf) [e] [] pos) (fun ρ => (q ρ).map fun l => .int l.length) := by
  obtain ⟨t, ht, k⟩ := h.run
  refine ⟨_, pe_callB cr_sxLen hg hm hv (pa_cons ht pa_nil he) hn hdb he hpl, fun S σ H ρ d Q dm cv hp k' => ?_⟩
  obtain ⟨l, e1, rfl⟩ := Option.map_eq_some_iff.mp hp
  exact k S σ H ρ l _ dm cv e1 fun a S1 H1 g1 ha => ⟨a, l, rfl, ha, k' _ S1 H1 g1 (.int _)⟩
theorem vf_sortX {f : Str} {pf : Pos} {q : Rho → Option (List Str)} (h : VX X e q) (hc : X.calm = true) (hg : Gl X f) (hm : X.mg f = none) (hv : bootBuiltins f = some (.builtin "sorted")) (hn : f ≠ "__name__" := by decide) (hdb : (f == ("__debug__" : Str)) = false := by decide)
    (he : starEach [e] X.env = (false, eval e X.env) :: starEach [] X.env := by rfl) (hpl : (backTo pos (starEach [] X.env)).any (·.1) = false := by rfl) : VF X (.Call (.Name f pf) [e] [] pos) (fun ρ => (q ρ).bind fun l => if l.length < 64 then some (.lst ((sortT l).map .str)) else none) := by
  obtain ⟨t, ht, k⟩ := h.run
  refine ⟨_, pe_callB (cr_sxSort hc) hg hm hv (pa_cons ht pa_nil he) hn hdb he hpl, fun S σ H ρ d Q dm cv hp k' => ?_⟩
  obtain ⟨l, e1, hp⟩ := Option.bind_eq_some_iff.mp hp
  split at hp
  · cases hp
    refine k S σ H ρ l _ dm cv e1 fun a S1 H1 g1 ha => ⟨a, l, rfl, ha, by assumption, fun ks p pm so np => ?_⟩
    rw [sortT_eq pm (leT_sorted so)]
    refine k' p S1 _ [p] (g1.trans (Gr.heap g1.dom (same_new np))) (.lst upd_same (RepL.of_strs _)) fun b hb => ?_
    obtain rfl := List.mem_singleton.mp hb
    exact ⟨g1.same.free np, fun z => g1.dom _ z np⟩
  · cases hp
end
end Vs

set_option Elab.async false
set_option linter.all false
set_option maxRecDepth 100000
set_option maxHeartbeats 4000000
namespace Vs
open PySem L2
/-! ### plain data of the kit -/
mutual
def D.py : D → Option PyData
  | .non => some .none
  | .bl b => some (.bool b)
  | .int i => some (.int i)
  | .str s => some (.str s)
  | .lst l => (D.pys l).map .list
  | .tup l => (D.pys l).map .tuple
  | _ => none
def D.pys : List D → Option (List PyData)
  | [] => some []
  | d :: l => (D.py d).bind fun x => (D.pys l).map (x :: ·)
end
mutual
theorem Rep.dp {G : Glob} {K : PySem.W.Frag} {S : Set0} {H : Hp} : ∀ (d : D) (v : V) (e : PyData), Rep G S H v d → d.py = some e → Dp K H v e
  | .non, _, _, r, h => by cases r; cases h; exact .non
  | .bl b, _, _, r, h => by cases r; cases h; exact .bl b
  | .int i, _, _, r, h => by cases r; cases h; exact .int i
  | .str s, _, _, r, h => by cases r; cases h; exact .str s
  | .lst l, _, _, r, h => by
    obtain ⟨es, h1, rfl⟩ := Option.map_eq_some_iff.mp (show (D.pys l).map PyData.list = some _ by simpa [D.py] using h)
    cases r with
    | lst a rd rl => exact .lst (.inl rd.kit) (RepL.dp l _ es rl h1)
  | .tup l, _, _, r, h => by
    obtain ⟨es, h1, rfl⟩ := Option.map_eq_some_iff.mp (show (D.pys l).map PyData.tuple = some _ by simpa [D.py] using h)
    cases r with
    | tup a rd rl => exact .tup (.inl rd.kit) (RepL.dp l _ es rl h1)
  | .dct _, _, _, _, h => by simp [D.py] at h
  | .tpl _, _, _, _, h => by simp [D.py] at h
  | .scr _, _, _, _, h => by simp [D.py] at h
  | .ins _ _, _, _, _, h => by simp [D.py] at h
theorem RepL.dp {G : Glob} {K : PySem.W.Frag} {S : Set0} {H : Hp} : ∀ (ds : List D) (vs : List V) (es : List PyData), RepL G S H vs ds → D.pys ds = some es → DpAll K H vs es
  | [], _, _, r, h => by
    cases r
    simp [D.pys] at h
    subst h
    exact .nil
  | d :: ds, _, _, r, h => by
    cases r with
    | cons r rl =>
      rw [D.pys] at h
      obtain ⟨x, h1, h⟩ := Option.bind_eq_some_iff.mp h
      obtain ⟨xs, h2, rfl⟩ := Option.map_eq_some_iff.mp h
      exact .cons (Rep.dp d _ x r h1) (RepL.dp ds _ xs rl h2)
end

/-! ### joining ways -/
section
variable {G : Glob} {r r' : R2} {g g' : D → D → Option D}
abbrev r2or (r r' : R2) : R2 := fun x y H Q => r x y H Q ∨ r' x y H Q
abbrev g2or (g g' : D → D → Option D) : D → D → Option D := fun a b => (g a b).or (g' a b)
theorem P2.or (h : P2 G r g) (h' : P2 G r' g') : P2 G (r2or r r') (g2or g g') := fun S H x y a b d Q dm ra rb e k => by
  have e : (g a b).or (g' a b) = some d := e
  cases e1 : g a b with
  | some d' =>
    rw [e1] at e
    cases e
    exact .inl (h S H x y a b d Q dm ra rb e1 k)
  | none =>
    rw [e1, Option.none_or] at e
    exact .inr (h' S H x y a b d Q dm ra rb e k)
theorem F2.p2 (h : F2 G r g) : P2 G r g := fun S H x y a b d Q dm ra rb e k => h S H x y a b d Q dm ra rb e fun a S' H' fp gr o hf => by
  obtain ⟨g', q⟩ := freeze gr o hf
  exact k _ _ _ g' q
end

/-! ### ints -/
def gI (c : Int → Int → Bool) (f : Int → Int → D) : D → D → Option D
  | .int i, .int j => if c i j = true then some (f i j) else none
  | _, _ => none
abbrev yes2 : Int → Int → Bool := fun _ _ => true
theorem p2_I {G : Glob} {C : Int → Int → Prop} {c : Int → Int → Bool} {fv : Int → Int → V} {f : Int → Int → D} (hC : ∀ i j, c i j = true → C i j) (hf : ∀ S H i j, Rep G S H (fv i j) (f i j)) : P2 G (rI C fv) (gI c f) := fun S H x y a b d Q dm ra rb e k => by
  unfold gI at e
  split at e
  · split at e
    · rename_i h
      cases e
      exact ⟨_, _, ra.int_inv, rb.int_inv, hC _ _ h, k _ S H (Gr.refl dm) (hf _ _ _ _)⟩
    · cases e
  · cases e
theorem p2_I0 {G : Glob} {fv : Int → Int → V} {f : Int → Int → D} (hf : ∀ S H i j, Rep G S H (fv i j) (f i j)) : P2 G (rI0 fv) (gI yes2 f) := fun S H x y a b d Q dm ra rb e k => by
  unfold gI at e
  split at e
  · cases e
    exact ⟨_, _, ra.int_inv, rb.int_inv, k _ S H (Gr.refl dm) (hf _ _ _ _)⟩
  · cases e
def cMul (i j : Int) : Bool := decide (-2 ^ 64 < i ∧ i < 2 ^ 64 ∨ -2 ^ 64 < j ∧ j < 2 ^ 64)
def cDiv (i j : Int) : Bool := decide (0 < j ∧ j < 1073741824)
def cMod (i j : Int) : Bool := decide (0 < j)
def cPow (i j : Int) : Bool := decide (0 ≤ j ∧ j ≤ 1000000 ∧ i.natAbs < 2 ^ 64)
section
variable {G : Glob}
theorem p2_mul : P2 G (rI CMul fun i j => .int (i * j)) (gI cMul fun i j => .int (i * j)) := p2_I (fun i j h => by simpa [cMul, CMul] using h) fun _ _ _ _ => .int _
theorem p2_div : P2 G (rI CDiv fun i j => .int (i / j)) (gI cDiv fun i j => .int (i / j)) := p2_I (fun i j h => by simpa [cDiv, CDiv] using h) fun _ _ _ _ => .int _
theorem p2_mod : P2 G (rI (fun _ j => 0 < j) fun i j => .int (i % j)) (gI cMod fun i j => .int (i % j)) := p2_I (fun i j h => of_decide_eq_true h) fun _ _ _ _ => .int _
theorem p2_pow : P2 G (rI CPow fun i j => .int (i ^ j.toNat)) (gI cPow fun i j => .int (i ^ j.toNat)) := p2_I (fun i j h => by simpa [cPow, CPow] using h) fun _ _ _ _ => .int _
theorem p2_sub : P2 G (rI0 fun i j => .int (i - j)) (gI yes2 fun i j => .int (i - j)) := p2_I0 fun _ _ _ _ => .int _
theorem p2_addI : P2 G (rI0 fun i j => .int (i + j)) (gI yes2 fun i j => .int (i + j)) := p2_I0 fun _ _ _ _ => .int _
theorem p2_ltI : P2 G (rI0 fun i j => .bl (decide (i < j))) (gI yes2 fun i j => .bl (decide (i < j))) := p2_I0 fun _ _ _ _ => .bl _
theorem p2_leI : P2 G (rI0 fun i j => .bl (decide (i ≤ j))) (gI yes2 fun i j => .bl (decide (i ≤ j))) := p2_I0 fun _ _ _ _ => .bl _
theorem p2_gtI : P2 G (rI0 fun i j => .bl (decide (j < i))) (gI yes2 fun i j => .bl (decide (j < i))) := p2_I0 fun _ _ _ _ => .bl _
theorem p2_geI : P2 G (rI0 fun i j => .bl (decide (j ≤ i))) (gI yes2 fun i j => .bl (decide (j ≤ i))) := p2_I0 fun _ _ _ _ => .bl _
end
/-! ### texts -/
def gT (c : Str → Str → Bool) (f : Str → Str → D) : D → D → Option D
  | .str i, .str j => if c i j = true then some (f i j) else none
  | _, _ => none
theorem p2_T {G : Glob} {r : R2} {c : Str → Str → Bool} {fv : Str → Str → V} {f : Str → Str → D} (hr : ∀ i j H (Q : VK), c i j = true → Q (fv i j) H → r (.str i) (.str j) H Q) (hf : ∀ S H i j, Rep G S H (fv i j) (f i j)) : P2 G r (gT c f) := fun S H x y a b d Q dm ra rb e k => by
  unfold gT at e
  split at e
  · split at e
    · rename_i h
      cases e
      rw [ra.str_inv, rb.str_inv]
      exact hr _ _ _ _ h (k _ S H (Gr.refl dm) (hf _ _ _ _))
    · cases e
  · cases e
abbrev yesT : Str → Str → Bool := fun _ _ => true
def cLen (i j : Str) : Bool := decide (i.length + j.length ≤ 100000)
section
variable {X : Cx}
/-! the two kinds of one operator -/
abbrev gAddIT : D → D → Option D := g2or (gI yes2 fun i j => .int (i + j)) (gT cLen fun i j => .str (i ++ j))
def rAddT : R2 := fun x y H Q => ∃ i j, x = .str i ∧ y = .str j ∧ i.length + j.length ≤ sizeLine ∧ Q (.str (i ++ j)) H
theorem p2_addIT : P2 X.gk (r2or (rI0 fun i j => .int (i + j)) rAddT) gAddIT := P2.or p2_addI (p2_T (fun i j H Q h q => ⟨i, j, rfl, rfl, line5 (of_decide_eq_true h), q⟩) fun _ _ _ _ => .str _)
theorem op_addIT : OpR X (binaryOp .Add) (r2or (rI0 fun i j => .int (i + j)) rAddT) := op_add.or op_add_str
def rLtS : R2 := fun x y H Q => ∃ i j, x = .str i ∧ y = .str j ∧ Q (.bl (decide (i.cps.toList < j.cps.toList))) H
def rLeS : R2 := fun x y H Q => ∃ i j, x = .str i ∧ y = .str j ∧ Q (.bl (!decide (j.cps.toList < i.cps.toList))) H
def rGtS : R2 := fun x y H Q => ∃ i j, x = .str i ∧ y = .str j ∧ Q (.bl (decide (j.cps.toList < i.cps.toList))) H
def rGeS : R2 := fun x y H Q => ∃ i j, x = .str i ∧ y = .str j ∧ Q (.bl (!decide (i.cps.toList < j.cps.toList))) H
abbrev gLt : D → D → Option D := g2or (gI yes2 fun i j => .bl (decide (i < j))) (gT yesT fun i j => .bl (decide (i.cps.toList < j.cps.toList)))
abbrev gLe : D → D → Option D := g2or (gI yes2 fun i j => .bl (decide (i ≤ j))) (gT yesT fun i j => .bl (!decide (j.cps.toList < i.cps.toList)))
abbrev gGt : D → D → Option D := g2or (gI yes2 fun i j => .bl (decide (j < i))) (gT yesT fun i j => .bl (decide (j.cps.toList < i.cps.toList)))
abbrev gGe : D → D → Option D := g2or (gI yes2 fun i j => .bl (decide (j ≤ i))) (gT yesT fun i j => .bl (!decide (i.cps.toList < j.cps.toList)))
theorem p2_lt : P2 X.gk (r2or (rI0 fun i j => .bl (decide (i < j))) rLtS) gLt := P2.or p2_ltI (p2_T (fun i j H Q _ q => ⟨i, j, rfl, rfl, q⟩) fun _ _ _ _ => .bl _)
theorem p2_le : P2 X.gk (r2or (rI0 fun i j => .bl (decide (i ≤ j))) rLeS) gLe := P2.or p2_leI (p2_T (fun i j H Q _ q => ⟨i, j, rfl, rfl, q⟩) fun _ _ _ _ => .bl _)
theorem p2_gt : P2 X.gk (r2or (rI0 fun i j => .bl (decide (j < i))) rGtS) gGt := P2.or p2_gtI (p2_T (fun i j H Q _ q => ⟨i, j, rfl, rfl, q⟩) fun _ _ _ _ => .bl _)
theorem p2_ge : P2 X.gk (r2or (rI0 fun i j => .bl (decide (j ≤ i))) rGeS) gGe := P2.or p2_geI (p2_T (fun i j H Q _ q => ⟨i, j, rfl, rfl, q⟩) fun _ _ _ _ => .bl _)
theorem op_ltX : OpR X (compareOp .Lt) (r2or (rI0 fun i j => .bl (decide (i < j))) rLtS) := op_lt.or op_lt_str
theorem op_leX : OpR X (compareOp .LtE) (r2or (rI0 fun i j => .bl (decide (i ≤ j))) rLeS) := op_le.or op_le_str
theorem op_gtX : OpR X (compareOp .Gt) (r2or (rI0 fun i j => .bl (decide (j < i))) rGtS) := op_gt.or op_gt_str
theorem op_geX : OpR X (compareOp .GtE) (r2or (rI0 fun i j => .bl (decide (j ≤ i))) rGeS) := op_ge.or op_ge_str

/-! ### equal or not -/
/-- of scalars of one kind, and of nothing -/
def eqS : D → D → Option Bool
  | .int i, .int j => some (decide (i = j))
  | .str i, .str j => some (decide (i = j))
  | .bl i, .bl j => some (decide (i = j))
  | .non, .non => some true
  | .non, .int _ => some false
  | .non, .str _ => some false
  | .non, .bl _ => some false
  | .int _, .non => some false
  | .str _, .non => some false
  | .bl _, .non => some false
  | .int _, .str _ => some false
  | .str _, .int _ => some false
  | _, _ => none
theorem eqS_scal {G : Glob} {S : Set0} {H : Hp} {x y : V} {a b : D} {c : Bool} (ra : Rep G S H x a) (rb : Rep G S H y b) (e : eqS a b = some c) : scal x y = true ∧ decide (x = y) = c := by
  unfold eqS at e
  split at e <;> cases e
  · rw [ra.int_inv, rb.int_inv]; simp [scal]
  · rw [ra.str_inv, rb.str_inv]; simp [scal]
  · rw [ra.bl_inv, rb.bl_inv]; simp [scal]
  · rw [ra.non_inv, rb.non_inv]; simp [scal]
  · rw [ra.non_inv, rb.int_inv]; simp [scal]
  · rw [ra.non_inv, rb.str_inv]; simp [scal]
  · rw [ra.non_inv, rb.bl_inv]; simp [scal]
  · rw [ra.int_inv, rb.non_inv]; simp [scal]
  · rw [ra.str_inv, rb.non_inv]; simp [scal]
  · rw [ra.bl_inv, rb.non_inv]; simp [scal]
  · rw [ra.int_inv, rb.str_inv]; simp [scal]
  · rw [ra.str_inv, rb.int_inv]; simp [scal]
/-- of lists and tuples of such -/
def eqP (a b : D) : Option Bool := a.py.bind fun x => b.py.bind fun y => if (SeqAt.shaped x && SeqAt.shaped y) = true then some (PyData.eqv x y) else none
def gEq (a b : D) : Option D := ((eqS a b).or (eqP a b)).map .bl
def gNe (a b : D) : Option D := ((eqS a b).or (eqP a b)).map fun c => .bl (!c)
theorem op_eqX (hu : X.A.units + 64 < cLine) : OpR X (compareOp .Eq) (r2or rEq (rEqD X.K)) := op_eq.or (op_eqD hu)
theorem op_neX (hu : X.A.units + 64 < cLine) : OpR X (compareOp .NotEq) (r2or rNe (rNeD X.K)) := op_ne.or (op_neD hu)
theorem eqP_dp {G : Glob} {K : PySem.W.Frag} {S : Set0} {H : Hp} {x y : V} {a b : D} {c : Bool} (ra : Rep G S H x a) (rb : Rep G S H y b) (e : eqP a b = some c) : ∃ d f, Dp K H x d ∧ Dp K H y f ∧ SeqAt.shaped d = true ∧ SeqAt.shaped f = true ∧ PyData.eqv d f = c := by
  obtain ⟨d, h1, e⟩ := Option.bind_eq_some_iff.mp e
  obtain ⟨f, h2, e⟩ := Option.bind_eq_some_iff.mp e
  split at e
  · rename_i h
    cases e
    rw [Bool.and_eq_true] at h
    exact ⟨d, f, ra.dp _ _ _ h1, rb.dp _ _ _ h2, h.1, h.2, rfl⟩
  · cases e
theorem p2_eq : P2 X.gk (r2or rEq (rEqD X.K)) gEq := fun S H x y a b d Q dm ra rb e k => by
  obtain ⟨c, e0, rfl⟩ := Option.map_eq_some_iff.mp e
  clear e
  cases e1 : eqS a b with
  | some c' =>
    rw [e1] at e0
    cases e0
    obtain ⟨h1, h2⟩ := eqS_scal ra rb e1
    exact .inl ⟨h1, by rw [h2]; exact k _ S H (Gr.refl dm) (.bl _)⟩
  | none =>
    rw [e1, Option.none_or] at e0
    obtain ⟨u, f, h1, h2, h3, h4, h5⟩ := eqP_dp (K := X.K) ra rb e0
    exact .inr ⟨u, f, h1, h2, h3, h4, by rw [h5]; exact k _ S H (Gr.refl dm) (.bl _)⟩
theorem p2_ne : P2 X.gk (r2or rNe (rNeD X.K)) gNe := fun S H x y a b d Q dm ra rb e k => by
  obtain ⟨c, e0, rfl⟩ := Option.map_eq_some_iff.mp e
  clear e
  cases e1 : eqS a b with
  | some c' =>
    rw [e1] at e0
    cases e0
    obtain ⟨h1, h2⟩ := eqS_scal ra rb e1
    exact .inl ⟨h1, by rw [h2]; exact k _ S H (Gr.refl dm) (.bl _)⟩
  | none =>
    rw [e1, Option.none_or] at e0
    obtain ⟨u, f, h1, h2, h3, h4, h5⟩ := eqP_dp (K := X.K) ra rb e0
    exact .inr ⟨u, f, h1, h2, h3, h4, by rw [h5]; exact k _ S H (Gr.refl dm) (.bl _)⟩

/-! ### is -/
def isC : D → D → Option Bool
  | .non, .non => some true
  | _, .non => some false
  | .bl a, .bl b => some (decide (a = b))
  | _, .bl _ => some false
  | _, _ => none
def gIs (a b : D) : Option D := (isC a b).map .bl
def gIsNot (a b : D) : Option D := (isC a b).map fun c => .bl (!c)
def rIsC (f : Bool → Bool) : R2 := fun x y H Q => (y = .non ∧ Q (.bl (f (decide (x = .non)))) H) ∨ ∃ b, y = .bl b ∧ ((∃ c, x = .bl c ∧ Q (.bl (f (decide (c = b)))) H) ∨ ((x = .non ∨ (∃ i, x = .int i) ∨ (∃ i, x = .str i) ∨ ∃ c, x = .ref c) ∧ Q (.bl (f false)) H))
theorem rep_non {G : Glob} {S : Set0} {H : Hp} {v : V} {d : D} (r : Rep G S H v d) : v = .non ↔ d = .non := by
  cases r <;> simp
theorem p2_isC {f : Bool → Bool} : P2 X.gk (rIsC f) (fun a b => (isC a b).map fun c => .bl (f c)) := fun S H x y a b d Q dm ra rb e k => by
  obtain ⟨c, e0, rfl⟩ := Option.map_eq_some_iff.mp e
  clear e
  have fin : ∀ {c' : Bool}, c' = c → Q (.bl (f c')) H := fun h => by
    subst h
    exact k _ S H (Gr.refl dm) (.bl _)
  unfold isC at e0
  split at e0 <;> cases e0
  · exact .inl ⟨rb.non_inv, fin (by rw [ra.non_inv]; simp)⟩
  · rename_i h
    exact .inl ⟨rb.non_inv, fin (decide_eq_false fun z => h ((rep_non ra).mp z))⟩
  · exact .inr ⟨_, rb.bl_inv, .inl ⟨_, ra.bl_inv, fin rfl⟩⟩
  · rename_i h
    refine .inr ⟨_, rb.bl_inv, .inr ⟨?_, fin rfl⟩⟩
    cases ra with
    | non => exact .inl rfl
    | bl b => exact absurd rfl (h b)
    | int i => exact .inr (.inl ⟨i, rfl⟩)
    | str i => exact .inr (.inr (.inl ⟨i, rfl⟩))
    | lst _ _ _ => exact .inr (.inr (.inr ⟨_, rfl⟩))
    | tup _ _ _ => exact .inr (.inr (.inr ⟨_, rfl⟩))
    | tpl _ _ _ => exact .inr (.inr (.inr ⟨_, rfl⟩))
    | scr _ => exact .inr (.inr (.inr ⟨_, rfl⟩))
    | dct _ _ _ => exact .inr (.inr (.inr ⟨_, rfl⟩))
    | ins _ _ _ _ => exact .inr (.inr (.inr ⟨_, rfl⟩))
theorem is_bl_raw {A : Around} {P : Program} {w : World} {E : Value → Shared → Prop} {s : Shared} {v : Value} {b : Bool} {Q : Value → Shared → Prop} (hv : ∀ c, v ≠ .bool c) (hb : ∀ c, v ≠ .builtin c) (h : Q (.bool false) s) : wpAny (model P w) A (compareOp .Is v (.bool b)) Q E s := by
  refine wpAny_is_other ?_ (hv b) h
  cases v <;> first | rfl | exact absurd rfl (hb _)
theorem isNot_bl_raw {A : Around} {P : Program} {w : World} {E : Value → Shared → Prop} {s : Shared} {v : Value} {b : Bool} {Q : Value → Shared → Prop} (hv : ∀ c, v ≠ .bool c) (hb : ∀ c, v ≠ .builtin c) (h : Q (.bool true) s) : wpAny (model P w) A (compareOp .IsNot v (.bool b)) Q E s := by
  refine wpAny_isNot_other ?_ (hv b) h
  cases v <;> first | rfl | exact absurd rfl (hb _)
theorem noBl {x : V} {v : Value} (r : RelV x v) (h : x = .non ∨ (∃ i, x = .int i) ∨ (∃ i, x = .str i) ∨ ∃ c, x = .ref c) : (∀ c, v ≠ .bool c) ∧ ∀ c, v ≠ .builtin c := by
  rcases h with rfl | ⟨i, rfl⟩ | ⟨i, rfl⟩ | ⟨i, rfl⟩
  · cases r; exact ⟨nofun, nofun⟩
  · obtain ⟨t, rfl⟩ := r; exact ⟨nofun, nofun⟩
  · obtain ⟨t, rfl⟩ := r; exact ⟨nofun, nofun⟩
  · cases r; exact ⟨nofun, nofun⟩
theorem op_isX : OpR X (compareOp .Is) (rIsC fun b => b) := by
  intro pins s σ H x y v u Q I rx ry h
  rcases h with ⟨rfl, q⟩ | ⟨b, rfl, ⟨c, rfl, q⟩ | ⟨h, q⟩⟩
  · exact op_isN pins s σ H x _ v u Q I rx ry ⟨rfl, q⟩
  · exact op_is_bl pins s σ H _ _ v u Q I rx ry ⟨c, b, rfl, rfl, q⟩
  · cases (show u = Value.bool b from ry)
    exact is_bl_raw (noBl rx h).1 (noBl rx h).2 ⟨.bl false, H, I, rfl, q⟩
theorem op_isNotX : OpR X (compareOp .IsNot) (rIsC fun b => !b) := by
  intro pins s σ H x y v u Q I rx ry h
  rcases h with ⟨rfl, q⟩ | ⟨b, rfl, ⟨c, rfl, q⟩ | ⟨h, q⟩⟩
  · exact op_notN pins s σ H x _ v u Q I rx ry ⟨rfl, q⟩
  · exact op_isnot_bl pins s σ H _ _ v u Q I rx ry ⟨c, b, rfl, rfl, q⟩
  · cases (show u = Value.bool b from ry)
    exact isNot_bl_raw (noBl rx h).1 (noBl rx h).2 ⟨.bl true, H, I, rfl, q⟩
end
end Vs

set_option Elab.async false
set_option linter.all false
set_option maxRecDepth 100000
set_option maxHeartbeats 4000000
namespace Vs
open PySem L2
/-! ### in -/
def D.fl : D → Bool
  | .non => true
  | .bl _ => true
  | .int _ => true
  | .str _ => true
  | _ => false
def eqF : D → D → Bool
  | .non, .non => true
  | .bl a, .bl b => a == b
  | .bl a, .int b => (if a then 1 else 0) == b
  | .int a, .bl b => a == (if b then 1 else 0)
  | .int a, .int b => a == b
  | .str a, .str b => a == b
  | _, _ => false
section
variable {G : Glob} {S : Set0} {H : Hp}
theorem fl_rep {v : V} {d : D} (r : Rep G S H v d) (h : d.fl = true) : flatV v = true := by
  cases r <;> first | rfl | (simp [D.fl] at h)
theorem eqF_rep {x y : V} {a b : D} (ra : Rep G S H x a) (rb : Rep G S H y b) (h1 : a.fl = true) (h2 : b.fl = true) : eqV x y = eqF a b := by
  cases ra <;> cases rb <;> first | rfl | (simp [D.fl] at h1; done) | (simp [D.fl] at h2; done)
theorem flL_rep : ∀ {vs : List V} {ds : List D}, RepL G S H vs ds → ds.all D.fl = true → vs.all flatV = true
  | _, _, .nil, _ => rfl
  | _, _, .cons r l, h => by
    rw [List.all_cons, Bool.and_eq_true] at h ⊢
    exact ⟨fl_rep r h.1, flL_rep l h.2⟩
theorem inF_rep {x : V} {a : D} (ra : Rep G S H x a) (h1 : a.fl = true) : ∀ {vs : List V} {ds : List D}, RepL G S H vs ds → ds.all D.fl = true → inV x vs = ds.any fun z => eqF z a
  | _, _, .nil, _ => rfl
  | _, _, .cons r l, h => by
    rw [List.all_cons, Bool.and_eq_true] at h
    have ih := inF_rep ra h1 l h.2
    unfold inV at ih ⊢
    rw [List.any_cons, List.any_cons, ih, eqF_rep r ra h.1 h1]
end
theorem any_str (s : Str) : ∀ ks : List Str, ((ks.map D.str).any fun z => eqF z (.str s)) = decide (s ∈ ks)
  | [] => rfl
  | k :: ks => by
    rw [List.map_cons, List.any_cons, any_str s ks]
    by_cases h : k = s
    · subst h; simp [eqF]
    · have h' : ¬ s = k := fun z => h z.symm
      simp [eqF, h, h']
theorem all_fl_str (ks : List Str) : (ks.map D.str).all D.fl = true := by simp [D.fl]
/-- a sign in a text -/
def inStr (x z : Str) : Option Bool := match x.cps.toList with
  | [c] => some (decide (c ∈ z.cps.toList))
  | _ => none
def inDeep (a b : D) (l : List D) : Option Bool := match b with
  | .lst _ => a.py.bind fun x => (D.pys l).bind fun ys => if (SeqAt.shaped x && SeqAt.shaped (.list ys)) = true then some (ys.any fun z => PyData.eqv z x) else none
  | _ => none
def inSeq (a b : D) : Option Bool := (asSeq b).bind fun l => if (a.fl && l.all D.fl) = true then some (l.any fun z => eqF z a) else inDeep a b l
/-- is a in b -/
def inC (a b : D) : Option Bool := match a, b with
  | .str x, .str z => inStr x z
  | a, b => inSeq a b
def gIn (a b : D) : Option D := (inC a b).map .bl
def gNotIn (a b : D) : Option D := (inC a b).map fun c => .bl (!c)
def rInX (K : PySem.W.Frag) (neg : Bool) : R2 := fun x y H Q => (∃ c z, x = .str ⟨#[c]⟩ ∧ y = .str z ∧ Q (.bl (if neg then !decide (c ∈ z.cps.toList) else decide (c ∈ z.cps.toList))) H) ∨ rIn K neg x y H Q ∨ (if neg then rNotInD K x y H Q else rInD K x y H Q)
section
variable {X : Cx}
theorem op_inX (hu : X.A.units + 65 < cLine) : OpR X (compareOp .In) (rInX X.K false) := by
  intro pins s σ H x y v u Q I rx ry h
  rcases h with h | h | h
  · exact op_in_sign pins s σ H x y v u Q I rx ry h
  · exact op_in_seq pins s σ H x y v u Q I rx ry h
  · exact op_inD hu pins s σ H x y v u Q I rx ry h
theorem op_notInX (hu : X.A.units + 65 < cLine) : OpR X (compareOp .NotIn) (rInX X.K true) := by
  intro pins s σ H x y v u Q I rx ry h
  rcases h with h | h | h
  · exact op_notIn_sign pins s σ H x y v u Q I rx ry h
  · exact op_notIn_seq pins s σ H x y v u Q I rx ry h
  · exact op_notInD hu pins s σ H x y v u Q I rx ry h
theorem asSeq_rep {G : Glob} {K : PySem.W.Frag} {S : Set0} {H : Hp} {v : V} {d : D} {l : List D} (r : Rep G S H v d) (h : asSeq d = some l) : ∃ a vs, v = .ref a ∧ ((d = .lst l ∧ SqL K H a vs) ∨ (d = .tup l ∧ SqT K H a vs)) ∧ RepL G S H vs l := by
  cases r with
  | lst a rd l => cases h; exact ⟨_, _, rfl, .inl ⟨rfl, .inl rd.kit⟩, l⟩
  | tup a rd l => cases h; exact ⟨_, _, rfl, .inr ⟨rfl, .inl rd.kit⟩, l⟩
  | non => cases h
  | bl _ => cases h
  | int _ => cases h
  | str _ => cases h
  | tpl _ _ _ => cases h
  | scr _ => cases h
  | dct _ _ _ => cases h
  | ins _ _ _ _ => cases h
theorem pys_dp {G : Glob} {K : PySem.W.Frag} {S : Set0} {H : Hp} {y : V} {l : List D} {ys : List PyData} (r : Rep G S H y (.lst l)) (h : D.pys l = some ys) : Dp K H y (.list ys) := Rep.dp (.lst l) y _ r (by simp [D.py, h])
theorem any_dp (f : PyData → Bool) (ys : List PyData) : (ys.any fun z => f z) = ys.any f := rfl
theorem p2_inX {neg : Bool} : P2 X.gk (rInX X.K neg) (fun a b => (inC a b).map fun c => .bl (if neg then !c else c)) := fun S H x y a b d Q dm ra rb e k => by
  obtain ⟨c, e0, rfl⟩ := Option.map_eq_some_iff.mp e
  clear e
  have fin : ∀ {c' : Bool}, c' = c → Q (.bl (if neg then !c' else c')) H := fun h => by
    subst h
    exact k _ S H (Gr.refl dm) (.bl _)
  have seq : inSeq a b = some c → rInX X.K neg x y H Q := fun e1 => by
    obtain ⟨l, h1, e1⟩ := Option.bind_eq_some_iff.mp e1
    obtain ⟨p, vs, rfl, hs, rl⟩ := asSeq_rep (K := X.K) rb h1
    split at e1
    · rename_i h
      cases e1
      rw [Bool.and_eq_true] at h
      exact .inr (.inl ⟨p, vs, rfl, hs.imp (·.2) (·.2), fl_rep ra h.1, flL_rep rl h.2, fin (inF_rep ra h.1 rl h.2)⟩)
    · rcases hs with ⟨rfl, hs⟩ | ⟨rfl, hs⟩
      · obtain ⟨xd, h2, e1⟩ := Option.bind_eq_some_iff.mp e1
        obtain ⟨ys, h3, e1⟩ := Option.bind_eq_some_iff.mp e1
        split at e1
        · rename_i h
          cases e1
          rw [Bool.and_eq_true] at h
          have e2 := fin rfl
          refine .inr (.inr ?_)
          cases neg with
          | true => exact ⟨xd, ys, ra.dp _ _ _ h2, pys_dp rb h3, h.1, h.2, e2⟩
          | false => exact ⟨xd, ys, ra.dp _ _ _ h2, pys_dp rb h3, h.1, h.2, e2⟩
        · cases e1
      · cases e1
  unfold inC at e0
  split at e0
  · rename_i x0 z0
    unfold inStr at e0
    split at e0
    · rename_i c0 h
      have e0 := Option.some.inj e0
      refine .inl ⟨c0, z0, ?_, rb.str_inv, fin e0⟩
      rw [ra.str_inv]
      obtain ⟨⟨l⟩⟩ := x0
      have h : l = [c0] := h
      rw [h]
    · cases e0
  · exact seq e0
end

/-! ### items -/
def gIx (a b : D) : Option D := match a, b with
  | .lst l, .int i => atI l i
  | .tup l, .int i => atI l i
  | .str z, .int i => if z.length ≤ 100000 then (atI z.cps.toList i).map fun c => .str ⟨#[c]⟩ else none
  | _, _ => none
theorem atI_rep {G : Glob} {S : Set0} {H : Hp} {vs : List V} {ds : List D} {i : Int} {d : D} (rl : RepL G S H vs ds) (h : atI ds i = some d) : ∃ v, atI vs i = some v ∧ Rep G S H v d := by
  unfold atI at h ⊢
  obtain ⟨j, h1, h2⟩ := Option.bind_eq_some_iff.mp h
  rw [rl.len, h1]
  cases e : vs[j]? with
  | none =>
    have : ds.length ≤ j := by rw [← rl.len]; exact List.getElem?_eq_none_iff.mp e
    rw [List.getElem?_eq_none this] at h2
    cases h2
  | some v =>
    obtain ⟨d', q1, q2⟩ := rl.get e
    rw [q1] at h2
    cases h2
    exact ⟨v, e, q2⟩
section
variable {X : Cx}
abbrev rIxX (K : PySem.W.Frag) : R2 := fun x y H Q => (rIxL K x y H Q ∨ rIxT K x y H Q) ∨ rIxS x y H Q
theorem ix_X : IxR X (rIxX X.K) := (ix_list.or ix_tup).or ix_str
theorem p2_ix : P2 X.gk (rIxX X.K) gIx := fun S H x y a b d Q dm ra rb e k => by
  unfold gIx at e
  split at e
  · cases ra with
    | lst a rd rl =>
      obtain ⟨v, h1, h2⟩ := atI_rep rl e
      exact .inl (.inl ⟨_, _, _, v, rfl, rb.int_inv, .inl rd.kit, h1, k v S H (Gr.refl dm) h2⟩)
  · cases ra with
    | tup a rd rl =>
      obtain ⟨v, h1, h2⟩ := atI_rep rl e
      exact .inl (.inr ⟨_, _, _, v, rfl, rb.int_inv, .inl rd.kit, h1, k v S H (Gr.refl dm) h2⟩)
  · split at e
    · obtain ⟨c, h1, rfl⟩ := Option.map_eq_some_iff.mp e
      exact .inr ⟨_, _, c, ra.str_inv, rb.int_inv, line5 (by assumption), h1, k _ S H (Gr.refl dm) (.str _)⟩
    · cases e
  · cases e
/-! ### lists put together -/
def gCat (a b : D) : Option D := match a, b with
  | .lst x, .lst y => if x.length + y.length ≤ 100000 then some (.lst (x ++ y)) else none
  | _, _ => none
theorem f2_cat : F2 X.gk rCat gCat := fun S H x y a b d Q dm ra rb e k => by
  unfold gCat at e
  split at e
  · split at e
    · cases e
      cases ra with
      | lst a1 rd rl =>
        cases rb with
        | lst a2 rd2 rl2 =>
          refine ⟨_, _, _, _, rfl, rfl, rd.lst, rd2.lst, line5 (by rw [rl.len, rl2.len]; assumption), fun p np => ?_⟩
          refine k p S _ [p] (Gr.heap dm (same_new np)) (.lst upd_same ((Gr.heap dm (same_new np)).repL (rl.append rl2))) fun b hb => ?_
          obtain rfl := List.mem_singleton.mp hb
          exact ⟨np, fun z => dm _ z np⟩
    · cases e
  · cases e
def gCatT (a b : D) : Option D := match a, b with
  | .tup x, .tup y => if x.length + y.length ≤ 100000 then some (.tup (x ++ y)) else none
  | _, _ => none
abbrev gAdd : D → D → Option D := g2or gAddIT (g2or gCat gCatT)
def rCatB (K : PySem.W.Frag) : R2 := fun x y H Q => ∃ a b xs ys, x = .ref a ∧ y = .ref b ∧ SqT K H a xs ∧ SqT K H b ys ∧ xs.length + ys.length ≤ sizeLine ∧ (xs = [] → Q (.ref b) H) ∧ (xs ≠ [] → ys = [] → Q (.ref a) H) ∧ (xs ≠ [] → ys ≠ [] → ∀ p o, o.dict = none → H p = none → Q (.ref p) (upd H p (.frz o (.tup (xs ++ ys)))))
theorem op_catB : OpR X (binaryOp .Add) (rCatB X.K) := by
  intro pins s σ H x y v u Q I rx ry h
  obtain ⟨a, b, xs, ys, rfl, rfl, ha, hb, hz, q0, q1, q2⟩ := h
  by_cases hx : xs = []
  · exact op_catA pins s σ H _ _ v u Q I rx ry ⟨a, b, xs, ys, rfl, rfl, ha, hb, hz, q0, fun z => absurd hx z, fun z => absurd hx z⟩
  · by_cases hy : ys = []
    · exact op_catA pins s σ H _ _ v u Q I rx ry ⟨a, b, xs, ys, rfl, rfl, ha, hb, hz, q0, q1, fun _ z => absurd hy z⟩
    · cases rx
      cases ry
      obtain ⟨its, r1, p1, _⟩ := I.tuple ha
      obtain ⟨its2, r2, p2, _⟩ := I.tuple hb
      refine HT.cat_tup p1 p2 (fun z => hx (r1.nil_iff.mp z)) (fun z => absurd (r2.nil_iff.mp z) hy) (fun z => ?_) (by rw [← r1.length, ← r2.length]; exact hz)
      refine ⟨.ref s.heap.objs.size, _, I.laid (t' := s.toks) (o := .frz _ (.tup (xs ++ ys))) (fun b ob q => Heap.get?_push_of_some _ q) (Nat.le_refl _) ⟨Heap.get?_push_size _ rfl, ?_⟩, rfl, q2 hx hy _ _ rfl (I.hok.fresh (Nat.le_refl _))⟩
      exact ⟨by rw [List.length_append]; exact hz, _, r1.append r2, ⟨_, Heap.get?_push_size _ rfl, rfl, _, rfl⟩⟩
theorem p2_catT : P2 X.gk (rCatB X.K) gCatT := fun S H x y a b d Q dm ra rb e k => by
  unfold gCatT at e
  split at e
  · split at e
    · cases e
      cases ra with
      | tup a1 rd rl =>
        cases rb with
        | tup a2 rd2 rl2 =>
          have l1 := rl.len
          have l2 := rl2.len
          refine ⟨_, _, _, _, rfl, rfl, .inl rd.kit, .inl rd2.kit, line5 (by rw [l1, l2]; assumption), fun h => ?_, fun h h' => ?_, fun h h' p o ob np => ?_⟩
          · subst h
            cases rl
            exact k _ S H (Gr.refl dm) (.tup a2 rd2 rl2)
          · subst h'
            cases rl2
            rw [List.append_nil] at k
            exact k _ S H (Gr.refl dm) (.tup a1 rd rl)
          · exact k _ _ _ (Gr.add dm np) (.tup (.inr rfl) (.ofT ob upd_same) ((Gr.add dm np).repL (rl.append rl2)))
    · cases e
  · cases e
theorem op_addX : OpR X (binaryOp .Add) (r2or (r2or (rI0 fun i j => .int (i + j)) rAddT) (r2or rCat (rCatB X.K))) := op_addIT.or (op_cat.or op_catB)
theorem p2_add : P2 X.gk (r2or (r2or (rI0 fun i j => .int (i + j)) rAddT) (r2or rCat (rCatB X.K))) gAdd := P2.or p2_addIT (P2.or f2_cat.p2 p2_catT)

/-! ### parts -/
def cut (l : List D) (lo hi : Option Int) : List D := (l.drop (HT.sIx l.length 0 lo)).take (HT.sIx l.length l.length hi - HT.sIx l.length 0 lo)
def gSlL (d : D) (lo hi : Option Int) : Option D := match d with
  | .lst l => some (.lst (cut l lo hi))
  | _ => none
def gSl (d : D) (lo hi : Option Int) : Option D := match d with
  | .lst l => some (.lst (cut l lo hi))
  | .tup l => some (.tup (cut l lo hi))
  | .str z => if z.length ≤ 100000 then some (.str (cutS z lo hi)) else none
  | _ => none
theorem RepL.take {G : Glob} {S : Set0} {H : Hp} : ∀ {vs : List V} {ds : List D} (n : Nat), RepL G S H vs ds → RepL G S H (vs.take n) (ds.take n)
  | _, _, 0, _ => by rw [List.take_zero, List.take_zero]; exact .nil
  | _, _, n + 1, .nil => .nil
  | _, _, n + 1, .cons r l => .cons r (RepL.take n l)
theorem RepL.drop {G : Glob} {S : Set0} {H : Hp} : ∀ {vs : List V} {ds : List D} (n : Nat), RepL G S H vs ds → RepL G S H (vs.drop n) (ds.drop n)
  | _, _, 0, l => l
  | _, _, n + 1, .nil => .nil
  | _, _, n + 1, .cons r l => RepL.drop n l
theorem cut_rep {G : Glob} {S : Set0} {H : Hp} {vs : List V} {ds : List D} {lo hi : Option Int} (l : RepL G S H vs ds) : RepL G S H (cutV vs lo hi) (cut ds lo hi) := by
  unfold cutV cut
  rw [l.len]
  exact (l.drop _).take _
/-- a bound of a slice -/
structure VO0 (X : Cx) (e : Option Expr) (p : Rho → Option (Option Int)) : Prop where
  run : ∃ t, PO X e t ∧ ∀ (S : Set0) (σ : L2.St) (H : Hp) (ρ : Rho) (b : Option Int) (Q : Option Int → Hp → Prop), Dom S H → Cov X.gk S σ H ρ → p ρ = some b → (∀ H', Same H H' → Q b H') → t σ H Q
def bNo : Rho → Option (Option Int) := fun _ => some none
def asI : D → Option Int
  | .int i => some i
  | _ => none
def bAt (p : Fr0) : Rho → Option (Option Int) := fun ρ => ((p ρ).bind asI).map some
theorem vb_no : VO0 X none bNo := ⟨_, po_none, fun S σ H ρ b Q dm cv hp k => by cases hp; exact k H (Same.refl H)⟩
theorem vb_at {e : Expr} {p : Fr0} (h : VP X e p) : VO0 X (some e) (bAt p) := by
  obtain ⟨t, ht, q⟩ := h.run
  refine ⟨_, po_some ht, fun S σ H ρ b Q dm cv hp k => ?_⟩
  obtain ⟨i, h1, rfl⟩ := Option.map_eq_some_iff.mp hp
  obtain ⟨d, h2, h3⟩ := Option.bind_eq_some_iff.mp h1
  cases d <;> cases h3
  exact q S σ H ρ _ _ dm cv h2 fun v S' H' g r => ⟨_, r.int_inv, k H' g.same⟩
def pSl (g : D → Option Int → Option Int → Option D) (p : Fr0) (lo hi : Rho → Option (Option Int)) : Fr0 := fun ρ => (p ρ).bind fun d => (lo ρ).bind fun l => (hi ρ).bind fun h => g d l h
theorem vf_slL {e : Expr} {p : Fr0} {lo hi : Option Expr} {pl ph : Rho → Option (Option Int)} {pos p2 : Pos} (he : VP X e p) (hl : VO0 X lo pl) (hh : VO0 X hi ph) : VF X (.Subscript e (.Slice lo hi none p2) pos) (pSl gSlL p pl ph) := by
  obtain ⟨t, ht, q⟩ := he.run
  obtain ⟨tl, htl, ql⟩ := hl.run
  obtain ⟨th, hth, qh⟩ := hh.run
  refine ⟨_, pe_slice sl_list ht htl hth, fun S σ H ρ d Q dm cv hp k => ?_⟩
  obtain ⟨x, h1, hp⟩ := Option.bind_eq_some_iff.mp hp
  obtain ⟨l, h2, hp⟩ := Option.bind_eq_some_iff.mp hp
  obtain ⟨h, h3, hp⟩ := Option.bind_eq_some_iff.mp hp
  cases x <;> cases hp
  refine q S σ H ρ _ _ dm cv h1 fun v S1 H1 g1 r1 => ?_
  refine ql S1 σ H1 ρ _ _ g1.dom (cv.gr g1) h2 fun H2 s2 => ?_
  refine qh S1 σ H2 ρ _ _ (g1.dom.same s2) ((cv.gr g1).same g1.dom s2) h3 fun H3 s3 => ?_
  have gg : Gr S H S1 H3 := g1.trans (Gr.heap g1.dom (s2.trans s3))
  have r3 := (Gr.heap g1.dom (s2.trans s3)).rep r1
  cases r3 with
  | lst a rd rl =>
    refine ⟨_, _, rfl, .inl rd.kit, fun p np => ?_⟩
    refine k p _ _ [p] (gg.trans (Gr.heap gg.dom (same_new np))) (.lst upd_same ((Gr.heap gg.dom (same_new np)).repL (cut_rep rl))) fun b hb => ?_
    obtain rfl := List.mem_singleton.mp hb
    exact ⟨gg.same.free np, fun z => gg.dom _ z np⟩
def rSlB2 (K : PySem.W.Frag) : V → Option Int → Option Int → Hp → VK → Prop := fun x lo hi H Q => ∃ a xs, x = .ref a ∧ SqT K H a xs ∧ (HT.sIx xs.length 0 lo = 0 ∧ HT.sIx xs.length xs.length hi = xs.length → Q (.ref a) H) ∧
  (¬ (HT.sIx xs.length 0 lo = 0 ∧ HT.sIx xs.length xs.length hi = xs.length) → ∀ p o, o.dict = none → H p = none → Q (.ref p) (upd H p (.frz o (.tup (cutV xs lo hi)))))
theorem sl_tupB : SlR X (rSlB2 X.K) := by
  intro pins s σ H x v vl vu lo hi sl Q I rx hs pl pu h
  obtain ⟨a, xs, rfl, hx, q1, q2⟩ := h
  by_cases hw : HT.sIx xs.length 0 lo = 0 ∧ HT.sIx xs.length xs.length hi = xs.length
  · exact sl_tupA pins s σ H _ v vl vu lo hi sl Q I rx hs pl pu ⟨a, xs, rfl, hx, q1, fun z => absurd hw z⟩
  · cases rx
    obtain ⟨its, r, ht, hz⟩ := I.tuple hx
    have e : its.toArray.size = xs.length := by rw [List.size_toArray]; exact r.length.symm
    refine ⟨"tuple", _, PyProof.Rows.slot_tuple_getitem.lookup, ht.typeIs, HT.getItem_tuple_cut ht hs pl pu (by rw [e]; exact hw) ?_ (by rw [e]; exact hz)⟩
    rw [e]
    refine ⟨.ref s.heap.objs.size, _, I.laid (t' := s.toks) (o := .frz _ (.tup (cutV xs lo hi))) (fun b ob q => Heap.get?_push_of_some _ q) (Nat.le_refl _) ⟨Heap.get?_push_size _ rfl, ?_⟩, rfl, q2 hw _ _ rfl (I.hok.fresh (Nat.le_refl _))⟩
    exact ⟨Nat.le_trans (cutV_length xs lo hi) hz, _, (r.drop (HT.sIx xs.length 0 lo)).take (HT.sIx xs.length xs.length hi - HT.sIx xs.length 0 lo), ⟨_, Heap.get?_push_size _ rfl, rfl, _, rfl⟩⟩
theorem sIx_full {n : Nat} {lo hi : Option Int} {l : List D} (hn : l.length = n) (h : HT.sIx n 0 lo = 0 ∧ HT.sIx n n hi = n) : cut l lo hi = l := by
  subst hn
  unfold cut
  rw [h.1, h.2, Nat.sub_zero, List.drop_zero, List.take_length]
theorem vp_sl {e : Expr} {p : Fr0} {lo hi : Option Expr} {pl ph : Rho → Option (Option Int)} {pos p2 : Pos} (he : VP X e p) (hl : VO0 X lo pl) (hh : VO0 X hi ph) : VP X (.Subscript e (.Slice lo hi none p2) pos) (pSl gSl p pl ph) := by
  obtain ⟨t, ht, q⟩ := he.run
  obtain ⟨tl, htl, ql⟩ := hl.run
  obtain ⟨th, hth, qh⟩ := hh.run
  refine ⟨_, pe_slice (SlR.or (SlR.or sl_list sl_tupB) sl_str) ht htl hth, fun S σ H ρ d Q dm cv hp k => ?_⟩
  obtain ⟨x, h1, hp⟩ := Option.bind_eq_some_iff.mp hp
  obtain ⟨l, h2, hp⟩ := Option.bind_eq_some_iff.mp hp
  obtain ⟨h, h3, hp⟩ := Option.bind_eq_some_iff.mp hp
  refine q S σ H ρ _ _ dm cv h1 fun v S1 H1 g1 r1 => ?_
  refine ql S1 σ H1 ρ _ _ g1.dom (cv.gr g1) h2 fun H2 s2 => ?_
  refine qh S1 σ H2 ρ _ _ (g1.dom.same s2) ((cv.gr g1).same g1.dom s2) h3 fun H3 s3 => ?_
  have gg : Gr S H S1 H3 := g1.trans (Gr.heap g1.dom (s2.trans s3))
  have r3 := (Gr.heap g1.dom (s2.trans s3)).rep r1
  cases r3 with
  | lst a rd rl =>
    cases hp
    refine .inl (.inl ⟨_, _, rfl, .inl rd.kit, fun p np => ?_⟩)
    exact k _ _ _ (gg.trans (Gr.add gg.dom np)) (.lst (.inr rfl) (.ofL upd_same) ((Gr.add gg.dom np).repL (cut_rep rl)))
  | tup a rd rl =>
    cases hp
    refine .inl (.inr ⟨_, _, rfl, .inl rd.kit, fun h => ?_, fun _ p o ob np => ?_⟩)
    · rw [rl.len] at h
      have e := sIx_full rfl h
      rw [e] at k
      exact k _ _ _ gg (.tup a rd rl)
    · exact k _ _ _ (gg.trans (Gr.add gg.dom np)) (.tup (.inr rfl) (.ofT ob upd_same) ((Gr.add gg.dom np).repL (cut_rep rl)))
  | str z =>
    have hp : (if z.length ≤ 100000 then some (D.str (cutS z l h)) else none) = some d := hp
    split at hp
    · cases hp
      exact .inr ⟨z, rfl, line5 (by assumption), k _ _ _ gg (.str _)⟩
    · cases hp
  | tpl _ _ _ => cases hp
  | scr _ => cases hp
  | non => cases hp
  | bl _ => cases hp
  | int _ => cases hp
  | dct _ _ _ => cases hp
  | ins _ _ _ _ => cases hp
end
end Vs

set_option Elab.async false
set_option linter.all false
set_option maxRecDepth 100000
set_option maxHeartbeats 4000000
namespace Vs
open PySem L2
section
variable {X : Cx}
/-! ### two ways at once -/
theorem pe_either {e : Expr} {t t' : TE} (h : PE X e t) (h' : PE X e t') : PE X e (fun σ H Q => t σ H Q ∨ t' σ H Q) :=
  ⟨fun pins s σ H Q I q => q.elim (h.run pins s σ H Q I) (h'.run pins s σ H Q I)⟩
/-! ### methods of lists, tuples, dicts, texts -/
def tyW (K : PySem.W.Frag) (T : String) (x : V) (H : Hp) : Prop := match x with
  | .str _ => T = "str"
  | .ref p => (T = "list" ∧ ∃ xs, SqL K H p xs) ∨ (T = "tuple" ∧ ∃ o xs, o.dict = none ∧ H p = some (.frz o (.tup xs))) ∨ (T = "dict" ∧ ∃ kvs, Rd H p (.dK kvs))
  | _ => False
theorem tyW_is {pins : List (Addr × Obj)} {σ : L2.St} {H : Hp} {s : Shared} {T : String} {x : V} {v : Value} (I : Inv X pins σ H s) (r : RelV x v) (ty : tyW X.K T x H) : s.TypeIs v T ∧ ∀ a, v = .ref a → ∃ ob, s.heap.get? a = some ob ∧ ob.dict = none := by
  cases x with
  | str z => exact tyV_is I r (show tyV X.K T (.str z) H from ty)
  | ref p =>
    rcases ty with ⟨rfl, h⟩ | ⟨rfl, o, xs, od, h⟩ | ⟨rfl, kvs, h⟩
    · exact tyV_is I r (.inl ⟨rfl, h⟩)
    · cases r
      obtain ⟨e, z⟩ := I.hok p _ h
      obtain ⟨_, its, _, o', e', c, _⟩ := z
      rw [e] at e'
      cases e'
      refine ⟨⟨o, e, c⟩, fun a q => ?_⟩
      cases q
      exact ⟨o, e, od⟩
    · cases r
      have z := h.kit.ok I.hok
      obtain ⟨_, _, _, _, o, _, _, e, ex, _⟩ := z
      refine ⟨⟨o, e, ex.1⟩, fun a q => ?_⟩
      cases q
      exact ⟨o, e, ex.2.1⟩
  | _ => exact False.elim ty
def tBW (K : PySem.W.Frag) (T : String) (r : V → List V → Hp → VK → Prop) (to : TE) (t : TA) : TE := fun σ H Q => to σ H fun x H1 => tyW K T x H1 ∧ t σ H1 fun xs H2 => r x xs H2 Q
def tBW0 (K : PySem.W.Frag) (T : String) (r : V → List V → Hp → VK → Prop) (to : TE) : TE := fun σ H Q => to σ H fun x H1 => tyW K T x H1 ∧ r x [] H1 Q
variable {o e : Expr} {es : List Expr} {to : TE} {t : TA} {name : Str} {apos cpos : Pos} {T id : String} {r : V → List V → Hp → VK → Prop}
theorem pe_bw (pa : PlainAttrs T) (slot : Slot T name id) (hty : typeOf (.builtin id) = pure (.type "method_descriptor")) (hm : MtR X id r) (ho : PE X o to) (ha : PA X (e :: es) t) (hbase : attributeBase o name X.env (eval o X.env) = eval o X.env := by rfl)
    (hfew : ((backTo cpos (starEach (e :: es) X.env)).all (fun x => !x.1) && (backToKw cpos (keywordEach [] X.env)).all (fun x => x.1.isSome) && decide ((e :: es).length + ([] : List Keyword).length + (if ([] : List Keyword).isEmpty then 0 else 1) < 30)) = true := by rfl)
    (hline : (apos.endLine == cpos.line) = true := by rfl) (hs : starEach (e :: es) X.env = (false, eval e X.env) :: starEach es X.env := by rfl) (hpl : (backTo cpos (starEach es X.env)).any (·.1) = false := by rfl) : PE X (.Call (.Attribute o name apos) (e :: es) [] cpos) (tBW X.K T r to t) := by
  refine ⟨fun pins s σ H Q I h => wpAny_Call_method_late hbase hfew hline rfl (thn (ho.run pins s σ H _ I h) fun v s1 ⟨x, H1, I1, r1, ty, q1⟩ => ?_)⟩
  refine ⟨T, id, pa, slot, hty, (tyW_is I1 r1 ty).1, (tyW_is I1 r1 ty).2, ?_⟩
  have hA := ha.run cpos pins s1 σ H1 _ I1 q1
  rw [hs] at hA ⊢
  refine Calls.callWith_builtin (by show (false || (backTo cpos (starEach es X.env)).any (·.1)) = false; rw [hpl] <;> rfl) (Calls.evalArgs_plain (thn hA fun us s2 ⟨vs, H2, I2, r2, q2⟩ => hm pins s2 σ H2 x vs v us Q I2 r1 r2 q2))
theorem pe_bw0 (pa : PlainAttrs T) (slot : Slot T name id) (hty : typeOf (.builtin id) = pure (.type "method_descriptor")) (hm : MtR X id r) (ho : PE X o to) (hbase : attributeBase o name X.env (eval o X.env) = eval o X.env := by rfl) (hline : (apos.endLine == cpos.line) = true := by rfl) :
    PE X (.Call (.Attribute o name apos) [] [] cpos) (tBW0 X.K T r to) := by
  refine ⟨fun pins s σ H Q I h => wpAny_Call_method0_late hbase hline (thn (ho.run pins s σ H _ I h) fun v s1 ⟨x, H1, I1, r1, ty, q1⟩ => ?_)⟩
  exact ⟨T, id, pa, slot, hty, (tyW_is I1 r1 ty).1, (tyW_is I1 r1 ty).2, Calls.callWith_builtin rfl (PySem.evalArgs_none (hm pins s1 σ H1 x [] v [] Q I1 r1 .nil q1))⟩
/-- a method, by data: nothing changes -/
def PM1 (X : Cx) (T : String) (r : V → List V → Hp → VK → Prop) (g : D → List D → Option D) : Prop := ∀ (S : Set0) (H : Hp) (x : V) (vs : List V) (a : D) (ds : List D) (d : D) (Q : VK), Dom S H → Rep X.gk S H x a → RepL X.gk S H vs ds → g a ds = some d →
  tyW X.K T x H ∧ ((∀ v S' H', Gr S H S' H' → Rep X.gk S' H' v d → Q v H') → r x vs H Q)
theorem tyW_same {K : PySem.W.Frag} {x : V} {H H' : Hp} (k : Same H H') (h : tyW K T x H) : tyW K T x H' := by
  cases x with
  | str z => exact h
  | ref p =>
    rcases h with ⟨rfl, xs, h⟩ | ⟨rfl, o, xs, od, h⟩ | ⟨rfl, kvs, h⟩
    · refine .inl ⟨rfl, xs, ?_⟩
      rcases h with h | h
      · rcases h with h | ⟨o, h⟩
        · exact .inl (.inl (k _ _ h))
        · exact .inl (.inr ⟨o, k _ _ h⟩)
      · exact .inr h
    · exact .inr (.inl ⟨rfl, o, xs, od, k _ _ h⟩)
    · exact .inr (.inr ⟨rfl, kvs, Rd.same k h⟩)
  | _ => exact h.elim
def pMt (g : D → List D → Option D) (p : Fr0) (ps : Rho → Option (List D)) : Fr0 := fun ρ => (p ρ).bind fun a => (ps ρ).bind fun l => g a l
/-! ### index -/
def gIndexL (d : D) (ys : List D) : Option D := match d, ys with
  | .lst l, [y] => if (y.fl && l.all D.fl) = true then (l.findIdx? fun z => eqF z y).map fun j => .int (j : Nat) else none
  | _, _ => none
def gIndexT (d : D) (ys : List D) : Option D := match d, ys with
  | .tup l, [.str s] => (asSs l).bind fun ks => (ks.findIdx? fun z => decide (z = s)).map fun j => .int (j : Nat)
  | _, _ => none
theorem pm_indexL : PM1 X "list" (rIndex X.K) gIndexL := fun S H x vs a ds d Q dm ra rl e => by
  unfold gIndexL at e
  split at e
  · split at e
    · rename_i l y hf
      obtain ⟨j, h1, rfl⟩ := Option.map_eq_some_iff.mp e
      rw [Bool.and_eq_true] at hf
      cases ra with
      | lst p rd rs =>
        cases rl with
        | cons ry r0 =>
          cases r0
          refine ⟨.inl ⟨rfl, _, .inl rd.kit⟩, fun k => ?_⟩
          obtain ⟨hj, hp, hno⟩ := List.findIdx?_eq_some_iff_getElem.mp h1
          have hl := rs.len
          obtain ⟨z, hz1, hz2⟩ := rs.get (i := j) (v := _) (List.getElem?_eq_getElem (by omega))
          rw [List.getElem?_eq_getElem hj] at hz1
          cases hz1
          have fl_at : ∀ (m : Nat) (hm : m < l.length), (l[m]).fl = true := fun m hm => List.all_eq_true.mp hf.2 _ (List.getElem_mem hm)
          refine ⟨_, _, _, j, _, rfl, rfl, .inl rd.kit, fl_rep ry hf.1, flL_rep rs hf.2, List.getElem?_eq_getElem (by omega), (eqF_rep hz2 ry (fl_at j hj) hf.1).trans hp, fun m z' hm hz' => ?_, k _ S H (Gr.refl dm) (.int _)⟩
          obtain ⟨d', q1, q2⟩ := rs.get hz'
          have hml : m < l.length := by omega
          rw [List.getElem?_eq_getElem hml] at q1
          cases q1
          rw [eqF_rep q2 ry (fl_at m hml) hf.1]
          simpa using hno m hm
    · cases e
  · cases e
def rIndexT (K : PySem.W.Frag) : V → List V → Hp → VK → Prop := fun x xs H Q => ∃ p, ∃ ys : List Str, ∃ z j, x = .ref p ∧ xs = [.str z] ∧ SqT K H p (ys.map V.str) ∧ ys[j]? = some z ∧ (∀ m, m < j → ys[m]? ≠ some z) ∧ Q (.int (j : Nat)) H
theorem pm_indexT : PM1 X "tuple" (rIndexT X.K) gIndexT := fun S H x vs a ds d Q dm ra rl e => by
  unfold gIndexT at e
  split at e
  · rename_i l s
    obtain ⟨ks, h0, e⟩ := Option.bind_eq_some_iff.mp e
    obtain ⟨j, h1, rfl⟩ := Option.map_eq_some_iff.mp e
    obtain rfl := asSs_inv h0
    cases ra with
    | tup p rd rs =>
      cases rl with
      | cons ry r0 =>
        cases r0
        obtain ⟨o, od, ho⟩ := rd.tup
        refine ⟨.inr (.inl ⟨rfl, o, _, od, ho⟩), fun k => ?_⟩
        obtain ⟨hj, hp, hno⟩ := List.findIdx?_eq_some_iff_getElem.mp h1
        refine ⟨_, ks, s, j, rfl, by rw [ry.str_inv], .inl (by rw [← rs.strs]; exact rd.kit), by rw [List.getElem?_eq_getElem hj, of_decide_eq_true hp], fun m hm hz => ?_, k _ S H (Gr.refl dm) (.int _)⟩
        have hml : m < ks.length := by omega
        rw [List.getElem?_eq_getElem hml] at hz
        have := hno m hm
        rw [Option.some.inj hz] at this
        simp at this
  · cases e
def gIndex (d : D) (ys : List D) : Option D := (gIndexL d ys).or (gIndexT d ys)
theorem vp_index {p : Fr0} {ps : Rho → Option (List D)} (ho : VP X o p) (ha : VA X [e] ps) (hbase : attributeBase o "index" X.env (eval o X.env) = eval o X.env := by rfl)
    (hfew : ((backTo cpos (starEach [e] X.env)).all (fun x => !x.1) && (backToKw cpos (keywordEach [] X.env)).all (fun x => x.1.isSome) && decide ([e].length + ([] : List Keyword).length + (if ([] : List Keyword).isEmpty then 0 else 1) < 30)) = true := by rfl)
    (hline : (apos.endLine == cpos.line) = true := by rfl) (hs : starEach [e] X.env = (false, eval e X.env) :: starEach [] X.env := by rfl) (hpl : (backTo cpos (starEach [] X.env)).any (·.1) = false := by rfl) : VP X (.Call (.Attribute o "index" apos) [e] [] cpos) (pMt gIndex p ps) := by
  obtain ⟨to, ht, q1⟩ := ho.run
  obtain ⟨ta, hta, q2⟩ := ha.run
  refine ⟨_, pe_either (pe_bw F.plainAttrs_list F.slot_list_index F.type_list_index mt_index ht hta hbase hfew hline hs hpl) (pe_bw F.plainAttrs_tuple F.slot_tuple_index F.type_tuple_index mt_tup_index ht hta hbase hfew hline hs hpl), fun S σ H ρ d Q dm cv hp k => ?_⟩
  obtain ⟨a, h1, hp⟩ := Option.bind_eq_some_iff.mp hp
  obtain ⟨l, h2, hp⟩ := Option.bind_eq_some_iff.mp hp
  have hp : (gIndexL a l).or (gIndexT a l) = some d := hp
  cases h3 : gIndexL a l with
  | some d' =>
    rw [h3] at hp
    cases hp
    refine .inl (q1 S σ H ρ a _ dm cv h1 fun x S1 H1 g1 r1 => ?_)
    have ty : tyW X.K "list" x H1 := by
      unfold gIndexL at h3
      split at h3
      · cases r1 with
        | lst p rd rs => exact .inl ⟨rfl, _, .inl rd.kit⟩
      · cases h3
    refine ⟨ty, q2 S1 σ H1 ρ l _ g1.dom (cv.gr g1) h2 fun vs S2 H2 g2 r2 => ?_⟩
    exact (pm_indexL S2 H2 x vs a l d Q g2.dom (g2.rep r1) r2 h3).2 fun v S3 H3 g3 r3 => k v S3 H3 ((g1.trans g2).trans g3) r3
  | none =>
    rw [h3, Option.none_or] at hp
    refine .inr (q1 S σ H ρ a _ dm cv h1 fun x S1 H1 g1 r1 => ?_)
    have ty : tyW X.K "tuple" x H1 := by
      unfold gIndexT at hp
      split at hp
      · cases r1 with
        | tup p rd rs =>
          obtain ⟨o, od, ho⟩ := rd.tup
          exact .inr (.inl ⟨rfl, o, _, od, ho⟩)
      · cases hp
    refine ⟨ty, q2 S1 σ H1 ρ l _ g1.dom (cv.gr g1) h2 fun vs S2 H2 g2 r2 => ?_⟩
    exact (pm_indexT S2 H2 x vs a l d Q g2.dom (g2.rep r1) r2 hp).2 fun v S3 H3 g3 r3 => k v S3 H3 ((g1.trans g2).trans g3) r3

/-! ### len, list, tuple, all, any -/
def gLen (ds : List D) : Option D := match ds with
  | [.lst l] => some (.int (l.length : Nat))
  | [.tup l] => some (.int (l.length : Nat))
  | [.str z] => if z.length ≤ 100000 then some (.int (z.length : Nat)) else none
  | _ => none
def rLenX (K : PySem.W.Frag) : List V → Hp → VK → Prop := fun xs H Q => (∃ p ys, xs = [.ref p] ∧ (SqL K H p ys ∨ SqT K H p ys) ∧ Q (.int ys.length) H) ∨ ∃ z, xs = [.str z] ∧ z.length ≤ sizeLine ∧ Q (.int z.length) H
theorem cr_lenX : CallR X (.builtin "len") (rLenX X.K) := call_len_seq.or call_len_str
theorem p1_len : PC1 X.gk (rLenX X.K) gLen := fun S H vs ds d Q dm rl e k => by
  unfold gLen at e
  split at e
  · cases e
    cases rl with
    | cons r r0 =>
      cases r0
      cases r with
      | lst a rd rs => exact .inl ⟨_, _, rfl, .inl (.inl rd.kit), by rw [rs.len]; exact k _ S H (Gr.refl dm) (.int _)⟩
  · cases e
    cases rl with
    | cons r r0 =>
      cases r0
      cases r with
      | tup a rd rs => exact .inl ⟨_, _, rfl, .inr (.inl rd.kit), by rw [rs.len]; exact k _ S H (Gr.refl dm) (.int _)⟩
  · split at e
    · cases e
      cases rl with
      | cons r r0 =>
        cases r0
        cases r with
        | str z => exact .inr ⟨_, rfl, line5 (by assumption), k _ S H (Gr.refl dm) (.int _)⟩
    · cases e
  · cases e
def gList (ds : List D) : Option D := match ds with
  | [d] => (asSeq d).map .lst
  | _ => none
def rListX (K : PySem.W.Frag) : List V → Hp → VK → Prop := fun xs H Q => ∃ p ys, xs = [.ref p] ∧ (SqL K H p ys ∨ SqT K H p ys) ∧ ∀ l, H l = none → Q (.ref l) (upd H l (.lst ys))
theorem cr_listX : CallR X (.type "list") (rListX X.K) := call_list_of
theorem f1_list : FC1 X.gk (rListX X.K) gList := fun S H vs ds d Q dm rl e k => by
  unfold gList at e
  split at e
  · obtain ⟨l, h1, rfl⟩ := Option.map_eq_some_iff.mp e
    cases rl with
    | cons r r0 =>
      cases r0
      obtain ⟨a, us, rfl, hs, rs⟩ := asSeq_rep (K := X.K) r h1
      refine ⟨a, us, rfl, hs.imp (·.2) (·.2), fun p np => k p S _ [p] (Gr.heap dm (same_new np)) (.lst upd_same ((Gr.heap dm (same_new np)).repL rs)) fun b hb => ?_⟩
      obtain rfl := List.mem_singleton.mp hb
      exact ⟨np, fun z => dm _ z np⟩
  · cases e
def gTuple (ds : List D) : Option D := match ds with
  | [d] => (asSeq d).map .tup
  | _ => none
def rTupleB (K : PySem.W.Frag) : List V → Hp → VK → Prop := fun xs H Q => ∃ p ys, xs = [.ref p] ∧ ((SqL K H p ys ∧ ∀ l o, o.dict = none → H l = none → Q (.ref l) (upd H l (.frz o (.tup ys)))) ∨ (SqT K H p ys ∧ Q (.ref p) H))
theorem cr_tupleB : CallR X (.type "tuple") (rTupleB X.K) := by
  intro pins s σ H xs us Q I r h
  obtain ⟨p, ys, rfl, h⟩ := h
  rw [Vals.ref1 r]
  rcases h with ⟨hq, q⟩ | ⟨hq, q⟩
  · obtain ⟨its, r', pl, hz⟩ := I.list hq
    have hl := r'.length
    refine call_tuple_list pl.isList (fun h' kp => ?_) (by simp only [List.size_toArray] <;> omega)
    have I1 : Inv X pins σ H { s with heap := h' } := I.kept (t' := s.toks) kp
    refine ⟨.ref h'.objs.size, _, I1.laid (t' := s.toks) (o := .frz { cls := .type "tuple", data := .seq its.toArray } (.tup ys)) (fun b o e => Heap.get?_push_of_some _ e) (Nat.le_refl _) ?_, rfl, q _ _ rfl (I1.hok.fresh (Nat.le_refl _))⟩
    exact ⟨Heap.get?_push_size _ rfl, hz, its, r', ⟨_, Heap.get?_push_size _ rfl, rfl, _, rfl⟩⟩
  · obtain ⟨its, r', pl, hz⟩ := I.tuple hq
    exact call_tuple_same pl ⟨.ref p, H, I, rfl, q⟩
theorem p1_tuple : PC1 X.gk (rTupleB X.K) gTuple := fun S H vs ds d Q dm rl e k => by
  unfold gTuple at e
  split at e
  · obtain ⟨l, h1, rfl⟩ := Option.map_eq_some_iff.mp e
    cases rl with
    | cons r r0 =>
      cases r0
      cases r with
      | lst a rd rs => cases h1; exact ⟨_, _, rfl, .inl ⟨.inl rd.kit, fun p o ob np => k _ _ _ (Gr.add dm np) (.tup (.inr rfl) (.ofT ob upd_same) ((Gr.add dm np).repL rs))⟩⟩
      | tup a rd rs => cases h1; exact ⟨_, _, rfl, .inr ⟨.inl rd.kit, k _ _ _ (Gr.refl dm) (.tup a rd rs)⟩⟩
      | non => cases h1
      | bl _ => cases h1
      | int _ => cases h1
      | str _ => cases h1
      | tpl _ _ _ => cases h1
      | scr _ => cases h1
      | dct _ _ _ => cases h1
      | ins _ _ _ _ => cases h1
  · cases e
def asBs : List D → Option (List Bool)
  | [] => some []
  | .bl b :: l => (asBs l).map (b :: ·)
  | _ :: _ => none
theorem asBs_map : ∀ l : List Bool, asBs (l.map .bl) = some l
  | [] => rfl
  | b :: l => by rw [List.map_cons, asBs, asBs_map l] <;> rfl
theorem asBs_rep {G : Glob} {S : Set0} {H : Hp} : ∀ {ds : List D} {bs : List Bool} {vs : List V}, asBs ds = some bs → RepL G S H vs ds → vs = bs.map V.bl
  | [], bs, _, h, r => by cases h; cases r; rfl
  | .bl b :: l, bs, _, h, .cons r rl => by
    obtain ⟨r', e, rfl⟩ := Option.map_eq_some_iff.mp h
    rw [r.bl_inv, asBs_rep e rl] <;> rfl
  | .non :: _, _, _, h, _ => nomatch h
  | .int _ :: _, _, _, h, _ => nomatch h
  | .str _ :: _, _, _, h, _ => nomatch h
  | .lst _ :: _, _, _, h, _ => nomatch h
  | .tup _ :: _, _, _, h, _ => nomatch h
  | .tpl _ :: _, _, _, h, _ => nomatch h
  | .scr _ :: _, _, _, h, _ => nomatch h
  | .dct _ :: _, _, _, h, _ => nomatch h
  | .ins _ _ :: _, _, _, h, _ => nomatch h
def gBools (f : List Bool → Bool) (ds : List D) : Option D := match ds with
  | [.lst l] => (asBs l).map fun bs => .bl (f bs)
  | _ => none
abbrev gAll : List D → Option D := gBools fun bs => bs.all _root_.id
abbrev gAny : List D → Option D := gBools fun bs => bs.any _root_.id
theorem p1_all : PC1 X.gk (rAll X.K) gAll := fun S H vs ds d Q dm rl e k => by
  unfold gAll gBools at e
  split at e
  · obtain ⟨bs, h1, rfl⟩ := Option.map_eq_some_iff.mp e
    cases rl with
    | cons r r0 =>
      cases r0
      cases r with
      | lst a rd rs => exact ⟨_, bs, rfl, .inl (by rw [← asBs_rep h1 rs]; exact rd.kit), k _ S H (Gr.refl dm) (.bl _)⟩
  · cases e
theorem p1_any : PC1 X.gk (rAny X.K) gAny := fun S H vs ds d Q dm rl e k => by
  unfold gAny gBools at e
  split at e
  · obtain ⟨bs, h1, rfl⟩ := Option.map_eq_some_iff.mp e
    cases rl with
    | cons r r0 =>
      cases r0
      cases r with
      | lst a rd rs => exact ⟨_, bs, rfl, .inl (by rw [← asBs_rep h1 rs]; exact rd.kit), k _ S H (Gr.refl dm) (.bl _)⟩
  · cases e
end
end Vs

set_option Elab.async false
set_option linter.all false
set_option maxRecDepth 100000
set_option maxHeartbeats 4000000
namespace Vs
open PySem L2
/-! ### sorted -/
def alikeB (es : List PyData) : Bool := es.all fun d => es.all fun d' => PySem.W.alike d d'
def tup1 : PyData → Bool
  | .tuple (_ :: _) => true
  | _ => false
def notTN : PyData → Bool
  | .none => false
  | .tuple _ => false
  | _ => true
def sortableB (es : List PyData) : Bool := es.all tup1 || es.all notTN
theorem alikeB_of {es : List PyData} (h : alikeB es = true) : PySem.W.AllAlike es := fun d hd d' hd' => List.all_eq_true.mp (List.all_eq_true.mp h d hd) d' hd'
theorem sortableB_of {es : List PyData} (h : sortableB es = true) : PySem.W.Sortable es := by
  unfold sortableB at h
  rw [Bool.or_eq_true] at h
  rcases h with h | h
  · refine .inl fun d hd => ?_
    have z := List.all_eq_true.mp h d hd
    unfold tup1 at z
    split at z
    · exact ⟨_, _, rfl⟩
    · cases z
  · refine .inr fun d hd => ?_
    have z := List.all_eq_true.mp h d hd
    unfold notTN at z
    split at z
    · cases z
    · cases z
    · rename_i a b
      exact ⟨a, b⟩
def sortZ {β : Type} (zs : List (β × PyData)) : List β := (zs.mergeSort (PySem.W.dataLe false Prod.snd)).map Prod.fst
theorem rep_all {G : Glob} {S : Set0} {H : Hp} {vs : List V} {ds : List D} (r : RepL G S H vs ds) : ∀ (es : List PyData), ∀ t ∈ vs.zip (ds.zip es), Rep G S H t.1 t.2.1 := by
  intro es t ht
  obtain ⟨i, hi⟩ := List.getElem?_of_mem ht
  rw [List.getElem?_zip_eq_some] at hi
  obtain ⟨h1, h2⟩ := hi
  rw [List.getElem?_zip_eq_some] at h2
  obtain ⟨d, q1, q2⟩ := r.get h1
  rw [q1] at h2
  rw [← Option.some.inj h2.1]
  exact q2
theorem repL_of : ∀ {G : Glob} {S : Set0} {H : Hp} (T : List (V × D × PyData)), (∀ t ∈ T, Rep G S H t.1 t.2.1) → RepL G S H (T.map (·.1)) (T.map (·.2.1))
  | _, _, _, [], _ => .nil
  | _, _, _, t :: T, h => .cons (h t (.head _)) (repL_of T fun x hx => h x (.tail _ hx))
theorem zip3 : ∀ (vs : List V) (ds : List D) (es : List PyData), vs.length = ds.length → ds.length = es.length → (vs.zip (ds.zip es)).map (fun t => (t.1, t.2.2)) = vs.zip es ∧ (vs.zip (ds.zip es)).map (fun t => t.2) = ds.zip es
  | [], [], [], _, _ => ⟨rfl, rfl⟩
  | v :: vs, d :: ds, e :: es, h1, h2 => by
    obtain ⟨a, b⟩ := zip3 vs ds es (by simpa using h1) (by simpa using h2)
    simp only [List.zip_cons_cons, List.map_cons, a, b]
    exact ⟨trivial, trivial⟩
  | [], _ :: _, _, h, _ => by simp at h
  | _ :: _, [], _, h, _ => by simp at h
  | [], [], _ :: _, _, h => by simp at h
  | _ :: _, _ :: _, [], _, h => by simp at h
theorem sort_rep {G : Glob} {S : Set0} {H : Hp} {vs : List V} {ds : List D} {es : List PyData} (r : RepL G S H vs ds) (hl : ds.length = es.length) : RepL G S H (sortZ (vs.zip es)) (sortZ (ds.zip es)) := by
  obtain ⟨e1, e2⟩ := zip3 vs ds es r.len hl
  have m1 := List.map_mergeSort (r := PySem.W.dataLe false fun t : V × D × PyData => t.2.2) (s := PySem.W.dataLe false (Prod.snd (α := V))) (f := fun t => (t.1, t.2.2)) (l := vs.zip (ds.zip es)) fun a _ b _ => rfl
  have m2 := List.map_mergeSort (r := PySem.W.dataLe false fun t : V × D × PyData => t.2.2) (s := PySem.W.dataLe false (Prod.snd (α := D))) (f := fun t => t.2) (l := vs.zip (ds.zip es)) fun a _ b _ => rfl
  unfold sortZ
  rw [e1] at m1
  rw [e2] at m2
  rw [← m1, ← m2, List.map_map, List.map_map]
  exact repL_of _ fun t ht => rep_all r es t ((List.mergeSort_perm _ _).mem_iff.mp ht)
theorem pys_len : ∀ {ds : List D} {es : List PyData}, D.pys ds = some es → ds.length = es.length
  | [], es, h => by simp [D.pys] at h; subst h; rfl
  | d :: ds, es, h => by
    rw [D.pys] at h
    obtain ⟨x, _, h⟩ := Option.bind_eq_some_iff.mp h
    obtain ⟨xs, h2, rfl⟩ := Option.map_eq_some_iff.mp h
    simp [pys_len h2]
def lowB (es : List PyData) : Bool := es.all fun e => decide (e.depth ≤ 60)
def gSorted (ds : List D) : Option D := match ds with
  | [.lst l] => (D.pys l).bind fun es => if (alikeB es && sortableB es && lowB es && decide (l.length ≤ 100000)) = true then some (.lst (sortZ (l.zip es))) else none
  | _ => none
section
variable {X : Cx}
theorem dpAll_each {pins : List (Addr × Obj)} {σ : L2.St} {H : Hp} {s : Shared} (I : Inv X pins σ H s) : ∀ {xs : List V} {es : List PyData} {us : List Value}, DpAll X.K H xs es → Vals xs us → PySem.W.EachIs (fun v b => RelV b.1 v) us (xs.zip es) ∧ PySem.W.EachIs (fun v b => ∃ as, Reads s.heap v (Prod.snd b) as) us (xs.zip es)
  | [], [], _, .nil, .nil => ⟨.nil, .nil⟩
  | x :: xs, e :: es, _, .cons d t, .cons r rt => by
    obtain ⟨a, b⟩ := dpAll_each I t rt
    exact ⟨.cons r a, .cons (Dp.reads I e x _ d r) b⟩
theorem each_vals : ∀ {us : List Value} {bs : List (V × PyData)}, PySem.W.EachIs (fun v b => RelV b.1 v) us bs → Vals (bs.map Prod.fst) us
  | _, _, .nil => .nil
  | _, _, .cons r t => .cons r (each_vals t)
theorem zip_snd : ∀ {xs : List V} {es : List PyData}, xs.length = es.length → (xs.zip es).map Prod.snd = es
  | [], [], _ => rfl
  | x :: xs, e :: es, h => by simp [zip_snd (xs := xs) (es := es) (by simpa using h)]
  | [], _ :: _, h => by simp at h
  | _ :: _, [], h => by simp at h
theorem dpAll_len {K : PySem.W.Frag} {H : Hp} : ∀ {xs : List V} {es : List PyData}, DpAll K H xs es → xs.length = es.length
  | _, _, .nil => rfl
  | _, _, .cons _ t => congrArg (· + 1) (dpAll_len t)
def rSortedX (K : PySem.W.Frag) : List V → Hp → VK → Prop := fun vs H Q => ∃ (a : Addr) (xs : List V) (es : List PyData), vs = [V.ref a] ∧ SqL K H a xs ∧ DpAll K H xs es ∧ PySem.W.AllAlike es ∧ PySem.W.Sortable es ∧ lowB es = true ∧ xs.length ≤ sizeLine ∧
  ∀ p, H p = none → Q (.ref p) (upd H p (.lst (sortZ (xs.zip es))))
theorem cr_sortedX (hu : X.A.units + 65 < cLine) : CallR X (.builtin "sorted") (rSortedX X.K) := by
  intro pins s σ H vs us Q I r h
  obtain ⟨a, xs, es, rfl, hs, hd, hal, hk, hlow, hz, q⟩ := h
  rw [Vals.ref1 r]
  obtain ⟨its, rv, pl, _⟩ := I.list hs
  obtain ⟨ea, er⟩ := dpAll_each I hd rv
  have hl := dpAll_len hd
  have hzs := zip_snd hl
  refine PySem.W.sorted_data (enc := Prod.snd) pl.isList ea er (by rw [hzs]; exact hal) (by rw [hzs]; exact hk) (by rw [List.length_zip, ← hl, Nat.min_self]; exact hz) (fun b hb => ?_) fun out ho eo => ?_
  · have hm : b.2 ∈ es := by rw [← hzs]; exact List.mem_map_of_mem hb
    have := of_decide_eq_true (List.all_eq_true.mp hlow _ hm)
    omega
  · obtain ⟨c, hc⟩ := PyProof.Rows.sortedAll_at s.heap its out.toArray
    have hn : H (s.heap.objs.size + 1) = none := I.hok.fresh (Nat.le_succ _)
    refine ⟨.ref _, upd H (s.heap.objs.size + 1) (.lst (sortZ (xs.zip es))), I.laid (t' := s.toks) (fun _ _ => PyProof.Rows.sortedAll_old) (Nat.le_succ _) ⟨?_, out, c, each_vals eo, hc⟩, rfl, q _ hn⟩
    unfold sortZ
    rw [List.length_map, (List.mergeSort_perm _ _).length_eq, List.length_zip, ← hl, Nat.min_self]
    exact hz
theorem f1_sorted : FC1 X.gk (rSortedX X.K) gSorted := fun S H vs ds d Q dm rl e k => by
  unfold gSorted at e
  split at e
  · obtain ⟨es, h1, e⟩ := Option.bind_eq_some_iff.mp e
    split at e
    · rename_i hb
      cases e
      simp only [Bool.and_eq_true, decide_eq_true_eq] at hb
      cases rl with
      | cons r r0 =>
        cases r0
        cases r with
        | lst a rd rs =>
          refine ⟨_, _, es, rfl, .inl rd.kit, RepL.dp _ _ _ rs h1, alikeB_of hb.1.1.1, sortableB_of hb.1.1.2, hb.1.2, line5 (by rw [rs.len]; exact hb.2), fun p np => ?_⟩
          refine k p S _ [p] (Gr.heap dm (same_new np)) (.lst upd_same ((Gr.heap dm (same_new np)).repL (sort_rep rs (pys_len h1)))) fun b hb => ?_
          obtain rfl := List.mem_singleton.mp hb
          exact ⟨np, fun z => dm _ z np⟩
    · cases e
  · cases e

/-! ### isinstance -/
def tyD : D → Option String
  | .non => some "NoneType"
  | .bl _ => some "bool"
  | .int _ => some "int"
  | .str _ => some "str"
  | .lst _ => some "list"
  | .tup _ => some "tuple"
  | .dct _ => some "dict"
  | .tpl _ => none
  | .scr _ => none
  | .ins _ _ => none
theorem tyD_rep {G : Glob} {K : PySem.W.Frag} {S : Set0} {H : Hp} {v : V} {d : D} {t : String} (r : Rep G S H v d) (h : tyD d = some t) : TyX K H v (.type t) := by
  cases r with
  | non => cases h; exact .base .non
  | bl b => cases h; exact .base (.bl b)
  | int i => cases h; exact .base (.int i)
  | str i => cases h; exact .base (.str i)
  | lst a rd l => cases h; exact .base (.lst rd.lst)
  | tup a rd l =>
    cases h
    obtain ⟨o, _, e⟩ := rd.tup
    exact .fTuple e
  | dct a rd l =>
    cases h
    rcases rd with ⟨e, _⟩ | ⟨o, _, _, e⟩
    · exact .base (.dK e)
    · exact .fDict e
  | tpl _ _ _ => cases h
  | scr _ => cases h
  | ins _ _ _ _ => cases h
def isAny (ts : List String) (t : String) : Option Bool := match ts with
  | [] => some false
  | T :: ts => (kitB t T).bind fun b => if b = true then some true else isAny ts t
theorem isAny_kit {K : PySem.W.Frag} : ∀ {ts : List String} {t : String} {b : Bool}, isAny ts t = some b → PySem.W.kitAny K (.type t) (ts.map Value.type) = some b
  | [], _, _, h => by cases h; rfl
  | T :: ts, t, b, h => by
    unfold isAny at h
    obtain ⟨c, h1, h⟩ := Option.bind_eq_some_iff.mp h
    cases c with
    | true => cases h; exact kitAny_cons (kit_ty h1) (fun z => nomatch z) fun _ => rfl
    | false => exact kitAny_cons (kit_ty h1) (fun _ => isAny_kit h) fun z => nomatch z
def gIsi (T : String) (d : D) : Option D := (tyD d).bind fun t => (kitB t T).map .bl
def gIsiT (ts : List String) (d : D) : Option D := (tyD d).bind fun t => (isAny ts t).map .bl
/-- names of builtin types -/
structure VTy (X : Cx) (es : List Expr) (ts : List String) : Prop where
  run : ∃ t, PA X es t ∧ ∀ σ H (Q : List V → Hp → Prop), Q (ts.map V.ty) H → t σ H Q
theorem vty_nil : VTy X [] [] := ⟨_, pa_nil, fun σ H Q q => q⟩
theorem vty_cons {x : Str} {p : Pos} {T : String} {es : List Expr} {ts : List String} (hg : Gl X x) (hm : X.mg x = none) (hv : bootBuiltins x = some (.type T)) (h : VTy X es ts) (hn : x ≠ "__name__" := by decide) (hd : (x == ("__debug__" : Str)) = false := by decide)
    (hs : starEach (.Name x p :: es) X.env = (false, eval (.Name x p) X.env) :: starEach es X.env := by rfl) : VTy X (.Name x p :: es) (T :: ts) := by
  obtain ⟨t, ht, q⟩ := h.run
  exact ⟨_, pa_cons (pe_bltn (v := .ty T) hg hm hv rfl hn hd) ht hs, fun σ H Q k => q σ H _ k⟩
variable {e : Expr} {f : Str} {pf pos : Pos}
theorem vp_isi {p : Fr0} {e2 : Expr} {T : String} (h : VP X e p) (ht : VTy X [e2] [T]) (hg : Gl X f) (hm : X.mg f = none) (hv : bootBuiltins f = some (.builtin "isinstance")) (hn : f ≠ "__name__" := by decide) (hdb : (f == ("__debug__" : Str)) = false := by decide)
    (he : starEach [e, e2] X.env = (false, eval e X.env) :: starEach [e2] X.env := by rfl) (hpl : (backTo pos (starEach [e2] X.env)).any (·.1) = false := by rfl) : VP X (.Call (.Name f pf) [e, e2] [] pos) (fun ρ => (p ρ).bind (gIsi T)) := by
  obtain ⟨t, hte, q⟩ := h.run
  obtain ⟨u, hu, q2⟩ := ht.run
  refine ⟨_, pe_callB call_isi hg hm hv (pa_cons hte hu he) hn hdb he hpl, fun S σ H ρ d Q dm cv hp k => ?_⟩
  obtain ⟨a, h1, hp⟩ := Option.bind_eq_some_iff.mp hp
  obtain ⟨ty, h2, hp⟩ := Option.bind_eq_some_iff.mp hp
  obtain ⟨b, h3, rfl⟩ := Option.map_eq_some_iff.mp hp
  refine q S σ H ρ a _ dm cv h1 fun v S1 H1 g1 r1 => q2 σ H1 _ ?_
  exact ⟨v, .ty T, _, _, b, rfl, .ty T, tyD_rep r1 h2, kit_ty h3, k _ S1 H1 g1 (.bl _)⟩
theorem cls_vals : ∀ ts : List String, Paired ClsV (ts.map V.ty) (ts.map Value.type)
  | [] => .nil
  | t :: ts => .cons (.ty t) (cls_vals ts)
theorem vp_isiT {p : Fr0} {es2 : List Expr} {k2 : Nat} {p2 : Pos} {ts : List String} (h : VP X e p) (ht : VTy X es2 ts) (hz : ts.length ≤ 100) (hg : Gl X f) (hm : X.mg f = none) (hv : bootBuiltins f = some (.builtin "isinstance")) (hn : f ≠ "__name__" := by decide) (hdb : (f == ("__debug__" : Str)) = false := by decide)
    (he : starEach [e, .Tuple es2 k2 p2] X.env = (false, eval e X.env) :: starEach [.Tuple es2 k2 p2] X.env := by rfl) (he2 : starEach [.Tuple es2 k2 p2] X.env = (false, eval (.Tuple es2 k2 p2) X.env) :: starEach [] X.env := by rfl) (hpl : (backTo pos (starEach [.Tuple es2 k2 p2] X.env)).any (·.1) = false := by rfl) :
    VP X (.Call (.Name f pf) [e, .Tuple es2 k2 p2] [] pos) (fun ρ => (p ρ).bind (gIsiT ts)) := by
  obtain ⟨t, hte, q⟩ := h.run
  obtain ⟨u, hu, q2⟩ := ht.run
  refine ⟨_, pe_callB call_isiT hg hm hv (pa_cons hte (pa_cons (pe_tup hu) pa_nil he2) he) hn hdb he hpl, fun S σ H ρ d Q dm cv hp k => ?_⟩
  obtain ⟨a, h1, hp⟩ := Option.bind_eq_some_iff.mp hp
  obtain ⟨ty, h2, hp⟩ := Option.bind_eq_some_iff.mp hp
  obtain ⟨b, h3, rfl⟩ := Option.map_eq_some_iff.mp hp
  refine q S σ H ρ a _ dm cv h1 fun v S1 H1 g1 r1 => q2 σ H1 _ ⟨line5 (by rw [List.length_map]; omega), fun tp np => ?_⟩
  have gg := Gr.heap g1.dom (same_new (H := H1) (o := .tup (ts.map V.ty)) np)
  exact ⟨v, tp, _, _, _, b, rfl, upd_same, cls_vals ts, tyD_rep (gg.rep r1) h2, isAny_kit h3, k _ S1 _ (g1.trans gg) (.bl _)⟩

/-! ### repr -/
def okRepr (d : PyData) : Bool := d.showable && !d.hasDict && decide (d.depth ≤ 60) && decide (d.shown.length ≤ 100000)
def gRepr (ds : List D) : Option D := match ds with
  | [.int i] => if i.natAbs.log2 < 1920 then some (.str (toString i)) else none
  | [.lst l] => (D.pys l).bind fun es => if okRepr (.list es) = true then some (.str (PyData.shown (.list es))) else none
  | [.tup l] => (D.pys l).bind fun es => if okRepr (.tuple es) = true then some (.str (PyData.shown (.tuple es))) else none
  | _ => none
def rReprX (K : PySem.W.Frag) : List V → Hp → VK → Prop := fun xs H Q => (∃ i, xs = [.int i] ∧ i.natAbs.log2 < 1920 ∧ Q (.str (toString i)) H) ∨ ∃ a d, xs = [.ref a] ∧ Dp K H (.ref a) d ∧ okRepr d = true ∧ Q (.str d.shown) H
theorem cr_reprX (hg : X.A.guards = some []) (hu : X.A.units + 65 < cLine) : CallR X (.builtin "repr") (rReprX X.K) := by
  intro pins s σ H xs us Q I r h
  rcases h with h | ⟨a, d, rfl, hd, ho, q⟩
  · exact SkE.call_repr_int pins s σ H xs us Q I r h
  · rw [Vals.ref1 r]
    simp only [okRepr, Bool.and_eq_true, decide_eq_true_eq, Bool.not_eq_true'] at ho
    obtain ⟨as, rd⟩ := Dp.reads I d _ _ hd rfl
    refine repr_of_reads' rd ho.1.1.1 (fun z => by rw [ho.1.1.2] at z; cases z) hg (by omega) (fun b o e => e) (fun h' u tk hk => ?_) (line5 ho.2)
    exact ⟨.str d.shown, H, I.kept (t' := tk) hk, ⟨u, rfl⟩, q⟩
theorem p1_repr : PC1 X.gk (rReprX X.K) gRepr := fun S H vs ds d Q dm rl e k => by
  unfold gRepr at e
  split at e
  · split at e
    · cases e
      cases rl with
      | cons r r0 =>
        cases r0
        exact .inl ⟨_, by rw [r.int_inv], by assumption, k _ S H (Gr.refl dm) (.str _)⟩
    · cases e
  · obtain ⟨es, h1, e⟩ := Option.bind_eq_some_iff.mp e
    split at e
    · cases e
      cases rl with
      | cons r r0 =>
        cases r0
        have hd := Rep.dp (K := X.K) _ _ _ r (show D.py (.lst _) = some (.list es) by simp [D.py, h1])
        cases r with
        | lst a rd rs => exact .inr ⟨_, _, rfl, hd, by assumption, k _ S H (Gr.refl dm) (.str _)⟩
    · cases e
  · obtain ⟨es, h1, e⟩ := Option.bind_eq_some_iff.mp e
    split at e
    · cases e
      cases rl with
      | cons r r0 =>
        cases r0
        have hd := Rep.dp (K := X.K) _ _ _ r (show D.py (.tup _) = some (.tuple es) by simp [D.py, h1])
        cases r with
        | tup a rd rs => exact .inr ⟨_, _, rfl, hd, by assumption, k _ S H (Gr.refl dm) (.str _)⟩
    · cases e
  · cases e
end
end Vs

set_option Elab.async false
set_option linter.all false
set_option maxRecDepth 100000
set_option maxHeartbeats 4000000
namespace Vs
open PySem L2
/-! ### what is ours is changed -/
theorem Sl.put_own {t : Sl} {d e : D} (h : t.own? = some d) : (t.put e).own? = some e := by
  cases t <;> first | rfl | cases h
theorem Own.flat1 {G : Glob} {S : Set0} {H : Hp} {a : Addr} {d : D} {fp : List Addr} (o : Own G S H a d fp) : fp = [a] := by
  cases o <;> rfl
section
variable {G : Glob} {F : Set0} {N : Lnt} {S : Set0} {σ : L2.St} {H : Hp} {ρ : Rho} {fp : Nat → List Addr} {i : Nat} {t : Sl} {d : D}
theorem Rd.off {H : Hp} {a b : Addr} {o : HO} {u : HO} (h : b ≠ a) (r : Rd H b u) : Rd (upd H a o) b u := Rd.eq (upd_ne h) r
theorem Sim.mutate (s : Sim G F N S σ H ρ fp) (h : ρ[i]? = some t) (w : t.own? = some d) : ∃ a, σ[i]? = some (some (.ref a)) ∧ Own G S H a d [a] ∧ ¬ S a ∧
    ∀ o d', Own G S (upd H a o) a d' [a] → Nx G F N S H S (upd H a o) σ (ρ.set i (t.put d')) := by
  obtain ⟨a, ha, oa, hn⟩ := s.ow i t d h w
  have e1 := oa.flat1
  have nS : ¬ S a := (hn a (by rw [e1]; simp)).1
  have nF : ¬ F a := (hn a (by rw [e1]; simp)).2
  refine ⟨a, ha, by rw [← e1]; exact oa, nS, fun o d' on => ?_⟩
  have hl : i < ρ.length := (List.getElem?_eq_some_iff.mp h).1
  have keep : ∀ {v : V} {x : D}, Rep G S H v x → Rep G S (upd H a o) v x := fun {v x} r => Rep.mono (fun _ z => z) (fun b u hb r => Rd.off (fun (z : b = a) => nS (z ▸ hb)) r) _ _ r
  have at_i : ∀ {u : Sl}, (ρ.set i (t.put d'))[i]? = some u → u = t.put d' := fun {u} z => by
    rw [List.getElem?_set_self hl] at z
    exact (Option.some.inj z).symm
  have at_j : ∀ {j : Nat} {u : Sl}, j ≠ i → (ρ.set i (t.put d'))[j]? = some u → ρ[j]? = some u := fun {j u} hj z => by
    rw [List.getElem?_set_ne (Ne.symm hj)] at z
    exact z
  have own_t : ∀ {j : Nat} {u : Sl} {x : D}, (ρ.set i (t.put d'))[j]? = some u → u.own? = some x → ∃ u' x', ρ[j]? = some u' ∧ u'.own? = some x' := fun {j u x} z1 z2 => by
    by_cases hj : j = i
    · subst hj; exact ⟨t, d, h, w⟩
    · exact ⟨u, x, at_j hj z1, z2⟩
  refine ⟨fun b z => z, fun b z => upd_ne fun q => z.elim (fun z => nS (q ▸ z)) fun z => nF (q ▸ z), fun b z => ?_, fp, ⟨by rw [List.length_set]; exact s.len, fun j x e => ?_, fun j u x e z => ?_, fun j x e => ?_, fun j k u u' x x' hne e1 w1 e2 w2 => ?_, fun b z => ?_, s.off, fun j x e => ?_⟩⟩
  · by_cases q : b = a
    · subst q; rw [upd_same]; exact nofun
    · rw [upd_ne q]; exact z
  · by_cases hj : j = i
    · subst hj
      have := at_i e
      cases t <;> first | (cases w; done) | (cases this; done)
    · obtain ⟨v, q1, q2⟩ := s.im j x (at_j hj e)
      exact ⟨v, q1, keep q2⟩
  · by_cases hj : j = i
    · subst hj
      have := at_i e
      subst this
      rw [Sl.put_own w] at z
      cases z
      exact ⟨a, ha, by rw [e1]; exact on, hn⟩
    · obtain ⟨b, q1, q2, q3⟩ := s.ow j u x (at_j hj e) z
      refine ⟨b, q1, q2.mono (fun _ z => z) (fun c u hc r => Rd.off (fun (q : c = a) => nS (q ▸ hc)) r) (fun c hc => upd_ne fun q => ?_), q3⟩
      subst q
      exact s.sep j i u t x d hj (at_j hj e) z h w c hc (by rw [e1]; simp)
  · by_cases hj : j = i
    · subst hj
      have := at_i e
      cases t <;> first | (cases w; done) | (cases this; done) | cases this
      exact s.no j _ h
    · exact s.no j x (at_j hj e)
  · obtain ⟨v, y, q1, q2⟩ := own_t e1 w1
    obtain ⟨v', y', q3, q4⟩ := own_t e2 w2
    exact s.sep j k v v' y y' hne q1 q2 q3 q4
  · by_cases q : b = a
    · subst q; rw [upd_same]; exact nofun
    · rw [upd_ne q]; exact s.dom b z
  · by_cases hj : j = i
    · subst hj
      have := at_i e
      cases t <;> first | (cases w; done) | (cases this; done) | cases this
      exact s.lent j _ h
    · exact s.lent j x (at_j hj e)
end
/-! ### methods that change their object -/
def MtO (G : Glob) (r : V → List V → Hp → VK → Prop) (f : D → List D → Option (D × D)) : Prop := ∀ (S : Set0) (H : Hp) (p : Addr) (d d' res : D) (vs : List V) (ds : List D) (Q : VK), Own G S H p d [p] → ¬ S p → RepL G S H vs ds → f d ds = some (d', res) →
  (∀ v o, Own G S (upd H p o) p d' [p] → Rep G S H v res → Q v (upd H p o)) → r (.ref p) vs H Q
/-- the object's own type -/
def dTy : D → String
  | .lst _ => "list"
  | .dct _ => "dict"
  | _ => ""
def slotO (ρ : Rho) (i : Nat) : Option D := (ρ[i]?).bind Sl.own?
def putO (ρ : Rho) (i : Nat) (d : D) : Rho := match ρ[i]? with
  | some t => ρ.set i (t.put d)
  | none => ρ
theorem slotO_some {ρ : Rho} {i : Nat} {d : D} (h : slotO ρ i = some d) : ∃ t, ρ[i]? = some t ∧ t.own? = some d ∧ ∀ e, putO ρ i e = ρ.set i (t.put e) := by
  obtain ⟨t, h1, h2⟩ := Option.bind_eq_some_iff.mp h
  exact ⟨t, h1, h2, fun e => by unfold putO; rw [h1]⟩
def mMut (T : String) (i : Nat) (f : D → List D → Option (D × D)) (ms : M0 (List D)) : M0 D := fun ρ => (slotO ρ i).bind fun d0 => if dTy d0 = T then (bnd ms fun ds ρ => (slotO ρ i).bind fun d => (f d ds).map fun r => (.ok r.2, putO ρ i r.1)) ρ else none
theorem Own.tyW {G : Glob} {K : PySem.W.Frag} {S : Set0} {H : Hp} {a : Addr} {d : D} {T : String} (o : Own G S H a d [a]) (h : dTy d = T) (hT : T ≠ "") : tyW K T (.ref a) H := by
  cases o with
  | lst e _ => exact .inl ⟨h.symm, _, .inl (.inl e)⟩
  | dct e _ => exact .inr (.inr ⟨h.symm, _, .ofD e⟩)
  | ins _ _ _ => exact absurd h.symm hT
section
variable {X : Cx} {E : XK} {e : Expr} {es : List Expr} {apos cpos np : Pos} {T id : String} {x name : Str} {r : V → List V → Hp → VK → Prop} {f : D → List D → Option (D × D)}
theorem go_mut {i : Nat} {t : TA} {ms : M0 (List D)} (hr : MtO X.gk r f) (hT : T ≠ "") (q1 : RunA X E t ms) : RunE X E (tBW X.K T r (tVar i) t) (mMut T i f ms) := by
  intro F N S σ H ρ fp Q q s hm po
  obtain ⟨d0, h0, hm⟩ := Option.bind_eq_some_iff.mp hm
  split at hm
  case isFalse => cases hm
  rename_i hty
  obtain ⟨t0, h1, h2, _⟩ := slotO_some h0
  obtain ⟨a, ha, oa, nS, _⟩ := s.mutate h1 h2
  refine ⟨.ref a, ha, oa.tyW hty hT, ?_⟩
  rcases bnd_some hm with ⟨ds, ρ1, e1, hm⟩ | ⟨x, ρ1, e1, rfl⟩
  · refine q1 F N S σ H ρ fp _ _ s e1 fun vs S1 H1 n1 r1 => ?_
    obtain ⟨fp1, s1⟩ := n1.sim
    obtain ⟨d1, h3, hm⟩ := Option.bind_eq_some_iff.mp hm
    obtain ⟨⟨d', res⟩, h4, rfl⟩ := Option.map_eq_some_iff.mp hm
    obtain ⟨t1, h5, h6, h7⟩ := slotO_some h3
    obtain ⟨a1, ha1, oa1, nS1, mv⟩ := s1.mutate h5 h6
    rw [ha] at ha1
    cases ha1
    refine hr S1 H1 a d1 d' res vs ds Q oa1 nS1 r1 h4 fun v o on rv => ?_
    have n2 := mv o d' on
    rw [← h7] at n2
    exact po v S1 _ (n1.trans n2) (n2.rep rv)
  · exact q1 F N S σ H ρ fp _ _ s e1 po
theorem ve_mut (i : Nat) {ms : M0 (List D)} (pa : PlainAttrs T) (slot : Slot T name id) (hty : typeOf (.builtin id) = pure (.type "method_descriptor")) (hm : MtR X id r) (hr : MtO X.gk r f)
    (hN : X.N[i]? = some x) (hv : Vis X.env.scope x) (ha : VAe X E (e :: es) ms) (hT : T ≠ "" := by decide) (hd : (x == ("__debug__" : Str)) = false := by decide) (hcd : (x == ("__classdict__" : Str)) = false := by decide) (hbase : attributeBase (.Name x np) name X.env (eval (.Name x np) X.env) = eval (.Name x np) X.env := by rfl)
    (hfew : ((backTo cpos (starEach (e :: es) X.env)).all (fun x => !x.1) && (backToKw cpos (keywordEach [] X.env)).all (fun x => x.1.isSome) && decide ((e :: es).length + ([] : List Keyword).length + (if ([] : List Keyword).isEmpty then 0 else 1) < 30)) = true := by rfl)
    (hline : (apos.endLine == cpos.line) = true := by rfl) (hs : starEach (e :: es) X.env = (false, eval e X.env) :: starEach es X.env := by rfl) (hpl : (backTo cpos (starEach es X.env)).any (·.1) = false := by rfl) :
    VE X E (.Call (.Attribute (.Name x np) name apos) (e :: es) [] cpos) (mMut T i f ms) := by
  obtain ⟨t, ht, q1⟩ := ha.run
  exact ⟨_, pe_bw pa slot hty hm (pe_var (pos := np) hN hv hd hcd) ht hbase hfew hline hs hpl, go_mut hr hT q1⟩
def mNone : M0 (List D) := fun ρ => some (.ok [], ρ)
theorem ve_mut0 (i : Nat) (pa : PlainAttrs T) (slot : Slot T name id) (hty : typeOf (.builtin id) = pure (.type "method_descriptor")) (hm : MtR X id r) (hr : MtO X.gk r f)
    (hN : X.N[i]? = some x) (hv : Vis X.env.scope x) (hT : T ≠ "" := by decide) (hd : (x == ("__debug__" : Str)) = false := by decide) (hcd : (x == ("__classdict__" : Str)) = false := by decide) (hbase : attributeBase (.Name x np) name X.env (eval (.Name x np) X.env) = eval (.Name x np) X.env := by rfl)
    (hline : (apos.endLine == cpos.line) = true := by rfl) : VE X E (.Call (.Attribute (.Name x np) name apos) [] [] cpos) (mMut T i f mNone) := by
  refine ⟨_, pe_bw0 pa slot hty hm (pe_var (pos := np) hN hv hd hcd) hbase hline, fun F N S σ H ρ fp Q q s hmm po => ?_⟩
  have q1 : RunA X E tNil mNone := fun F N S σ H ρ fp Q q s hm po => by
    cases hm
    exact po [] S H (Nx.refl s) .nil
  exact go_mut hr hT q1 F N S σ H ρ fp Q q s hmm po
/-! the methods -/
theorem rep_off {G : Glob} {S : Set0} {H : Hp} {p : Addr} {o : HO} {v : V} {d : D} (h : ¬ S p) (r : Rep G S H v d) : Rep G S (upd H p o) v d := Rep.mono (fun _ z => z) (fun b u hb r => Rd.off (fun (z : b = p) => h (z ▸ hb)) r) _ _ r
theorem repL_off {G : Glob} {S : Set0} {H : Hp} {p : Addr} {o : HO} {v : List V} {d : List D} (h : ¬ S p) (r : RepL G S H v d) : RepL G S (upd H p o) v d := RepL.mono (fun _ z => z) (fun b u hb r => Rd.off (fun (z : b = p) => h (z ▸ hb)) r) _ _ r
def fAppend (d : D) (ds : List D) : Option (D × D) := match d, ds with
  | .lst l, [x] => if l.length < 100000 then some (.lst (l ++ [x]), .non) else none
  | _, _ => none
theorem lt5 {n : Nat} (h : n < 100000) : n < sizeLine := Nat.lt_of_lt_of_le h (by decide)
theorem mo_append {G : Glob} : MtO G rAppend fAppend := fun S H p d d' res vs ds Q o nS rl e k => by
  unfold fAppend at e
  split at e
  · split at e
    · cases e
      cases o with
      | lst ho ro =>
        cases rl with
        | cons r r0 =>
          cases r0
          exact ⟨p, _, _, rfl, rfl, ho, lt5 (by rw [ro.len]; assumption), k _ _ (.lst upd_same ((repL_off nS ro).append (.cons (rep_off nS r) .nil))) .non⟩
    · cases e
  · cases e
def fInsert (d : D) (ds : List D) : Option (D × D) := match d, ds with
  | .lst l, [.int i, x] => if l.length < 100000 ∧ 0 ≤ i ∧ i < 2 ^ 63 then some (.lst (l.take i.toNat ++ [x] ++ l.drop i.toNat), .non) else none
  | _, _ => none
def rInsert : V → List V → Hp → VK → Prop := fun x vs H Q => ∃ (l : Addr) (xs : List V) (i : Int) (y : V), x = .ref l ∧ vs = [.int i, y] ∧ H l = some (.lst xs) ∧ xs.length < sizeLine ∧ 0 ≤ i ∧ i < 2 ^ 63 ∧ Q .non (upd H l (.lst (xs.take i.toNat ++ [y] ++ xs.drop i.toNat)))
theorem mo_insert {G : Glob} : MtO G rInsert fInsert := fun S H p d d' res vs ds Q o nS rl e k => by
  unfold fInsert at e
  split at e
  · split at e
    · rename_i hb
      cases e
      cases o with
      | lst ho ro =>
        cases rl with
        | cons r r0 =>
          cases r0 with
          | cons r2 r0 =>
            cases r0
            rw [r.int_inv]
            exact ⟨p, _, _, _, rfl, rfl, ho, lt5 (by rw [ro.len]; exact hb.1), hb.2.1, hb.2.2, k _ _ (.lst upd_same ((((repL_off nS ro).take _).append (.cons (rep_off nS r2) .nil)).append ((repL_off nS ro).drop _))) .non⟩
    · cases e
  · cases e
def fPopAt (d : D) (ds : List D) : Option (D × D) := match d, ds with
  | .lst l, [.int i] => if l.length ≤ 100000 then (ixN l.length i).bind fun k => (l[k]?).map fun x => (.lst (l.eraseIdx k), x) else none
  | _, _ => none
theorem RepL.eraseIdx {G : Glob} {S : Set0} {H : Hp} : ∀ {vs : List V} {ds : List D} (k : Nat), RepL G S H vs ds → RepL G S H (vs.eraseIdx k) (ds.eraseIdx k)
  | _, _, _, .nil => .nil
  | _, _, 0, .cons _ l => l
  | _, _, k + 1, .cons r l => .cons r (RepL.eraseIdx k l)
theorem RepL.at2 {G : Glob} {S : Set0} {H : Hp} {vs : List V} {ds : List D} {k : Nat} {d : D} (rl : RepL G S H vs ds) (h : ds[k]? = some d) : ∃ v, vs[k]? = some v ∧ Rep G S H v d := by
  have hk := (List.getElem?_eq_some_iff.mp h).1
  have hv : vs[k]? = some (vs[k]'(by rw [rl.len]; exact hk)) := List.getElem?_eq_getElem _
  obtain ⟨d', q1, q2⟩ := rl.get hv
  rw [h] at q1
  cases q1
  exact ⟨_, hv, q2⟩
theorem mo_popAt {G : Glob} : MtO G rPopAt fPopAt := fun S H p d d' res vs ds Q o nS rl e k => by
  unfold fPopAt at e
  split at e
  · split at e
    · obtain ⟨j, h1, e⟩ := Option.bind_eq_some_iff.mp e
      obtain ⟨x, h2, e⟩ := Option.map_eq_some_iff.mp e
      cases e
      cases o with
      | lst ho ro =>
        cases rl with
        | cons r r0 =>
          cases r0
          rw [r.int_inv]
          obtain ⟨y, h3, h4⟩ := ro.at2 h2
          rename_i hz _ _
          obtain ⟨q1, q2, q3, q4⟩ := ixN_seq h1
          refine ⟨p, _, _, j, y, rfl, rfl, ho, by omega, by omega, by rw [ro.len]; exact q1, h3, k _ _ (.lst upd_same ((repL_off nS ro).eraseIdx _)) h4⟩
    · cases e
  · cases e
def fPop (d : D) (ds : List D) : Option (D × D) := match d, ds with
  | .lst l, [] => (l[l.length - 1]?).map fun x => (.lst l.dropLast, x)
  | _, _ => none
theorem RepL.dropLast {G : Glob} {S : Set0} {H : Hp} {vs : List V} {ds : List D} (r : RepL G S H vs ds) : RepL G S H vs.dropLast ds.dropLast := by
  rw [List.dropLast_eq_take, List.dropLast_eq_take, r.len]
  exact r.take _
theorem mo_pop {G : Glob} : MtO G rPop fPop := fun S H p d d' res vs ds Q o nS rl e k => by
  unfold fPop at e
  split at e
  · obtain ⟨x, h2, e⟩ := Option.map_eq_some_iff.mp e
    cases e
    cases o with
    | lst ho ro =>
      cases rl
      obtain ⟨y, h3, h4⟩ := ro.at2 h2
      exact ⟨p, _, y, rfl, rfl, ho, by rw [ro.len]; exact h3, k _ _ (.lst upd_same (repL_off nS ro).dropLast) h4⟩
  · cases e
def fClear (d : D) (ds : List D) : Option (D × D) := match d, ds with
  | .lst _, [] => some (.lst [], .non)
  | _, _ => none
theorem mo_clear {G : Glob} : MtO G rClear fClear := fun S H p d d' res vs ds Q o nS rl e k => by
  unfold fClear at e
  split at e
  · cases e
    cases o with
    | lst ho ro =>
      cases rl
      exact ⟨p, _, rfl, rfl, ho, k _ _ (.lst upd_same .nil) .non⟩
  · cases e
def fExtend (d : D) (ds : List D) : Option (D × D) := match d, ds with
  | .lst l, [.lst z] => if l.length + z.length ≤ 100000 then some (.lst (l ++ z), .non) else none
  | _, _ => none
theorem mo_extend {G : Glob} : MtO G rExtend fExtend := fun S H p d d' res vs ds Q o nS rl e k => by
  unfold fExtend at e
  split at e
  · split at e
    · cases e
      cases o with
      | lst ho ro =>
        cases rl with
        | cons r r0 =>
          cases r0
          cases r with
          | lst a rd rz =>
            exact ⟨p, _, _, _, rfl, rfl, ho, rd.lst, line5 (by rw [ro.len, rz.len]; assumption), k _ _ (.lst upd_same ((repL_off nS ro).append (repL_off nS rz))) .non⟩
    · cases e
  · cases e
end
end Vs

set_option Elab.async false
set_option linter.all false
set_option maxRecDepth 100000
set_option maxHeartbeats 4000000
namespace Vs
open PySem L2
/-! ### keys -/
def asK : D → Option Key
  | .int i => some (.inl i)
  | .str s => some (.inr s)
  | _ => none
def D.ofK : Key → D
  | .inl i => .int i
  | .inr s => .str s
theorem asK_rep {G : Glob} {S : Set0} {H : Hp} {v : V} {d : D} {k : Key} (r : Rep G S H v d) (h : asK d = some k) : v = kV k := by
  unfold asK at h
  split at h <;> cases h
  · exact r.int_inv
  · exact r.str_inv
theorem ofK_rep {G : Glob} {S : Set0} {H : Hp} (k : Key) : Rep G S H (kV k) (.ofK k) := by
  cases k with
  | inl i => exact .int i
  | inr s => exact .str s
def putD (kvs : List (Key × D)) (k : Key) (d : D) : List (Key × D) := if (kvs.any fun kv => decide (kv.1 = k)) = true then kvs.map (fun kv => if kv.1 = k then (kv.1, d) else kv) else kvs ++ [(k, d)]
def getD (kvs : List (Key × D)) (k : Key) : Option D := (kvs.find? fun kv => decide (kv.1 = k)).map (·.2)
section
variable {G : Glob} {S : Set0} {H : Hp}
theorem RepK.len : ∀ {vs : List (Key × V)} {ds : List (Key × D)}, RepK G S H vs ds → vs.length = ds.length
  | _, _, .nil => rfl
  | _, _, .cons _ l => congrArg (· + 1) (RepK.len l)
theorem RepK.any {k : Key} : ∀ {vs : List (Key × V)} {ds : List (Key × D)}, RepK G S H vs ds → (vs.any fun kv => decide (kv.1 = k)) = ds.any fun kv => decide (kv.1 = k)
  | _, _, .nil => rfl
  | _, _, .cons _ l => by rw [List.any_cons, List.any_cons, RepK.any l]
theorem RepK.mapSet {k : Key} {v : V} {d : D} (r : Rep G S H v d) : ∀ {vs : List (Key × V)} {ds : List (Key × D)}, RepK G S H vs ds → RepK G S H (vs.map fun kv => if kv.1 = k then (kv.1, v) else kv) (ds.map fun kv => if kv.1 = k then (kv.1, d) else kv)
  | _, _, .nil => .nil
  | _, _, .cons (k := k') r' l => by
    rw [List.map_cons, List.map_cons]
    by_cases h : k' = k
    · simp only [h, if_true]
      exact .cons r (RepK.mapSet r l)
    · simp only [h, if_false]
      exact .cons r' (RepK.mapSet r l)
theorem RepK.snoc {k : Key} {v : V} {d : D} (r : Rep G S H v d) : ∀ {vs : List (Key × V)} {ds : List (Key × D)}, RepK G S H vs ds → RepK G S H (vs ++ [(k, v)]) (ds ++ [(k, d)])
  | _, _, .nil => .cons r .nil
  | _, _, .cons r' l => .cons r' (RepK.snoc r l)
theorem RepK.put {k : Key} {v : V} {d : D} {vs : List (Key × V)} {ds : List (Key × D)} (r : Rep G S H v d) (l : RepK G S H vs ds) : RepK G S H (putK vs k v) (putD ds k d) := by
  unfold putK putD
  rw [l.any]
  split
  · exact l.mapSet r
  · exact l.snoc r
theorem RepK.find {k : Key} : ∀ {vs : List (Key × V)} {ds : List (Key × D)} {d : D}, RepK G S H vs ds → getD ds k = some d → ∃ v, valV vs k = some v ∧ Rep G S H v d
  | _, _, _, .nil, h => by cases h
  | _, _, d, .cons (k := k') (v := v) (d := d') r l, h => by
    unfold getD at h
    unfold valV
    rw [List.find?_cons] at h ⊢
    by_cases e : k' = k
    · simp only [e, decide_true] at h ⊢
      cases h
      exact ⟨v, rfl, r⟩
    · simp only [e, decide_false] at h ⊢
      exact RepK.find l h
theorem RepK.none {k : Key} : ∀ {vs : List (Key × V)} {ds : List (Key × D)}, RepK G S H vs ds → getD ds k = .none → valV vs k = .none
  | _, _, .nil, h => rfl
  | _, _, .cons (k := k') (v := v) (d := d') r l, h => by
    unfold getD at h
    unfold valV
    rw [List.find?_cons] at h ⊢
    by_cases e : k' = k
    · simp only [e, decide_true] at h ⊢
      cases h
    · simp only [e, decide_false] at h ⊢
      exact RepK.none l h
theorem RepL.set {vs : List V} {ds : List D} {v : V} {d : D} (r : Rep G S H v d) : ∀ {vs : List V} {ds : List D} (k : Nat), RepL G S H vs ds → RepL G S H (vs.set k v) (ds.set k d)
  | _, _, _, .nil => .nil
  | _, _, 0, .cons _ l => .cons r l
  | _, _, k + 1, .cons r' l => .cons r' (RepL.set (vs := vs) (ds := ds) r k l)
end
/-! ### x[i] = e -/
def fStore (d i x : D) : Option D := match d with
  | .lst l => match i with
    | .int k => (ixN l.length k).map fun j => .lst (l.set j x)
    | _ => none
  | .dct kvs => (asK i).bind fun k => if kvs.length < 100000 then some (.dct (putD kvs k x)) else none
  | _ => none
def sStore (i : Nat) (mi mx : M0 D) : MS := sVal mx fun x ρ => (slotO ρ i).bind fun _ => sVal mi (fun j ρ => (slotO ρ i).bind fun d => (fStore d j x).map fun d' => (.nx, putO ρ i d')) ρ
section
variable {X : Cx} {E : XK} {e e1 : Expr} {x : Str} {np pos pos' : Pos}
abbrev rSetX : TSet := fun o i v H Q => rSetL o i v H Q ∨ rSetD o i v H Q
theorem set_X (hu : X.A.units + 65 < cLine) : PSet X rSetX := fun pins s σ H o i v ov iv u Q I ro ri rv h => h.elim (set_list pins s σ H o i v ov iv u Q I ro ri rv) (set_dict (by omega) pins s σ H o i v ov iv u Q I ro ri rv)
theorem store_go {S : Set0} {H : Hp} {p : Addr} {d d' jd xd : D} {jv xv : V} {Q : Hp → Prop} (o : Own X.gk S H p d [p]) (nS : ¬ S p) (rj : Rep X.gk S H jv jd) (rx : Rep X.gk S H xv xd) (h : fStore d jd xd = some d') (k : ∀ o', Own X.gk S (upd H p o') p d' [p] → Q (upd H p o')) : rSetX (.ref p) jv xv H Q := by
  unfold fStore at h
  split at h
  · split at h
    · obtain ⟨j, h1, rfl⟩ := Option.map_eq_some_iff.mp h
      cases o with
      | lst ho ro => exact .inl ⟨p, _, _, j, rfl, rj.int_inv, ho, by rw [ro.len]; exact h1, k _ (.lst upd_same (RepL.set (vs := []) (ds := []) (rep_off nS rx) j (repL_off nS ro)))⟩
    · cases h
  · obtain ⟨kk, h1, h⟩ := Option.bind_eq_some_iff.mp h
    split at h
    · cases h
      cases o with
      | dct ho ro =>
        refine .inr ⟨p, _, rfl, .inl ⟨_, kk, ho, asK_rep rj h1, lt5 (by rw [ro.len]; assumption), rfl⟩, k _ (.dct upd_same (RepK.put (rep_off nS rx) ?_))⟩
        exact RepK.mono (fun _ z => z) (fun b u hb r => Rd.off (fun (z : b = p) => nS (z ▸ hb)) r) _ _ ro
    · cases h
  · cases h
theorem vs_store (i : Nat) {mi mx : M0 D} (hu : X.A.units + 65 < cLine) (hN : X.N[i]? = some x) (hv : Vis X.env.scope x) (hx : VE X E e mx) (hi : VE X E e1 mi) (hd : (x == ("__debug__" : Str)) = false := by decide) (hcd : (x == ("__classdict__" : Str)) = false := by decide)
    (hsub : ∀ (v : Value), assign (.Subscript (.Name x np) e1 pos') X.env v = (do let ov ← holding [v] (eval (.Name x np) X.env); let iv ← holding [v, ov] (eval e1 X.env); standAt pos'; holding [v, ov, iv] (setItem ov iv v); release [v, ov, iv] []) := by intro _; rfl)
    (h1 : swapsWithSole [.Subscript (.Name x np) e1 pos'] e pos.line X.env = pure false := by rfl) (h2 : swappedStores [.Subscript (.Name x np) e1 pos'] e X.env = pure none := by rfl) (h3 : (assignEach [.Subscript (.Name x np) e1 pos'] X.env).map (·.2) = [assign (.Subscript (.Name x np) e1 pos') X.env] := by rfl) :
    VS X E (.Assign [.Subscript (.Name x np) e1 pos'] e pos) (sStore i mi mx) := by
  obtain ⟨tx, htx, qx⟩ := hx.run
  obtain ⟨ti, hti, qi⟩ := hi.run
  refine ⟨_, ps_asg htx (pg_sub (pe_var (pos := np) hN hv hd hcd) hti (set_X hu) hsub) h1 h2 h3, fun F N S σ H ρ fp Z r s hm po => ?_⟩
  rcases sVal_some hm with ⟨dx, ρ1, e1, hm⟩ | ⟨y, ρ1, e1, rfl⟩
  · refine qx F N S σ H ρ fp _ _ s e1 fun v S1 H1 n1 r1 => ?_
    obtain ⟨fp1, s1⟩ := n1.sim
    have po := po.step n1
    obtain ⟨d0, h0, hm⟩ := Option.bind_eq_some_iff.mp hm
    obtain ⟨t0, q1, q2, _⟩ := slotO_some h0
    obtain ⟨a, ha, _⟩ := s1.ow i t0 d0 q1 q2
    refine ⟨_, ha, ?_⟩
    rcases sVal_some hm with ⟨di, ρ2, e2, hm⟩ | ⟨y, ρ2, e2, rfl⟩
    · refine qi F N S1 σ H1 ρ1 fp1 _ _ s1 e2 fun jv S2 H2 n2 r2 => ?_
      obtain ⟨fp2, s2⟩ := n2.sim
      obtain ⟨d, h4, hm⟩ := Option.bind_eq_some_iff.mp hm
      obtain ⟨d', h5, rfl⟩ := Option.map_eq_some_iff.mp hm
      obtain ⟨t, q3, q4, q5⟩ := slotO_some h4
      obtain ⟨a2, ha2, oa, nS, mv⟩ := s2.mutate q3 q4
      rw [ha] at ha2
      cases ha2
      refine store_go oa nS r2 (n2.rep r1) h5 fun o' on => ?_
      have n3 := mv o' d' on
      rw [← q5] at n3
      exact po σ S2 _ (n2.trans n3)
    · exact qi F N S1 σ H1 ρ1 fp1 _ _ s1 e2 (po_err po)
  · exact qx F N S σ H ρ fp _ _ s e1 (po_err po)

/-! ### several names at once -/
def sAsg (js : List Nat) (sp : D → Option (List D)) (m : M0 D) : MS := sVal m fun d ρ => (sp d).map fun ds => (.nx, setAll ρ js (ds.map .im))
theorem Nx.setAll {G : Glob} {F : Set0} {N : Lnt} {S S' : Set0} {H H' : Hp} {σ' : L2.St} {ρ' : Rho} {js : List Nat} {vs : List V} {ds : List D} (n : Nx G F N S H S' H' σ' ρ') (r : RepL G S' H' vs ds) : Nx G F N S H S' H' (setAll σ' js (vs.map some)) (setAll ρ' js (ds.map .im)) :=
  ⟨n.le, n.kept, n.grow, let ⟨fp, s⟩ := n.sim; ⟨fp, s.setAll r⟩⟩
theorem vs_asg {tg : Expr} {m : M0 D} {js : List Nat} {sp : D → Option (List D)} (he : VE X E e m) (hg : VG X tg js sp) (h1 : swapsWithSole [tg] e pos.line X.env = pure false := by rfl) (h2 : swappedStores [tg] e X.env = pure none := by rfl) (h3 : (assignEach [tg] X.env).map (·.2) = [assign tg X.env] := by rfl) :
    VS X E (.Assign [tg] e pos) (sAsg js sp m) := by
  obtain ⟨t, ht, q⟩ := he.run
  obtain ⟨u, hu, qg⟩ := hg.run
  refine ⟨_, ps_asg ht hu h1 h2 h3, fun F N S σ H ρ fp Z r s hm po => ?_⟩
  rcases sVal_some hm with ⟨d, ρ1, e1, hm⟩ | ⟨y, ρ1, e1, rfl⟩
  · obtain ⟨ds, h4, rfl⟩ := Option.map_eq_some_iff.mp hm
    exact q F N S σ H ρ fp _ _ s e1 fun v S1 H1 n1 r1 => qg S1 σ H1 v d ds _ r1 h4 fun vs rl _ => po _ S1 H1 (n1.setAll rl)
  · exact q F N S σ H ρ fp _ _ s e1 (po_err po)
def sPar (i j : Nat) (m : M0 (List D)) : MS := fun ρ => match m ρ with
  | some (.ok [a, b], ρ') => some (.nx, (ρ'.set i (.im a)).set j (.im b))
  | some (.error x, ρ') => some (.ex x, ρ')
  | _ => none
theorem vs_par {i j : Nat} {x y : Str} {a b : Expr} {m : M0 (List D)} {px py pt pt2 : Pos} {kt k2 : Nat} (hc : X.calm = true) (hN : X.N.Nodup) (hi : X.N[i]? = some x) (hj : X.N[j]? = some y) (hx : X.env.scope.names.lookup x = some .local) (hy : X.env.scope.names.lookup y = some .local) (ha : VAe X E [a, b] m)
    (hw : swappedStores [.Tuple [.Name x px, .Name y py] kt pt] (.Tuple [a, b] k2 pt2) X.env = pure (some [x, y])) (hij : i ≠ j := by decide) (hsw : swapsWithSole [.Tuple [.Name x px, .Name y py] kt pt] (.Tuple [a, b] k2 pt2) pos.line X.env = pure false := by rfl) :
    VS X E (.Assign [.Tuple [.Name x px, .Name y py] kt pt] (.Tuple [a, b] k2 pt2) pos) (sPar i j m) := by
  obtain ⟨t, ht, q⟩ := ha.run
  refine ⟨_, ps_par hc hN hi hj hij hx hy ht hw hsw, fun F N S σ H ρ fp Z r s hm po => ?_⟩
  unfold sPar at hm
  split at hm
  · rename_i da db ρ1 e1
    cases hm
    refine q F N S σ H ρ fp _ _ s e1 fun vs S1 H1 n1 r1 => ?_
    cases r1 with
    | cons ra rl =>
      cases rl with
      | cons rb rl =>
        cases rl
        exact ⟨_, _, rfl, po _ S1 H1 ((n1.setI i ra).setI j rb)⟩
  · rename_i x ρ1 e1
    cases hm
    exact q F N S σ H ρ fp _ _ s e1 fun C dd S' H' n h1 h2 => po C dd σ S' H' n h1 h2
  · cases hm
/-! ### a text's signs -/
def iS (p : Fr0) : Rho → Option (List D) := fun ρ => (p ρ).bind fun d => match d with
  | .str z => some (z.cps.toList.map fun c => .str ⟨#[c]⟩)
  | _ => none
theorem walks_str {G : Glob} {S : Set0} {H : Hp} (z : Str) : Walks G (Its z) S H (z.cps.toList.map fun c => .str ⟨#[c]⟩) where
  go := fun i S' H' hi le k dm => by
    rw [List.length_map, Array.length_toList] at hi
    refine ⟨hi, fun v H2 y => ?_⟩
    obtain ⟨rfl, c, hc, rfl⟩ := y
    refine ⟨S', .str ⟨#[c]⟩, ?_, Gr.refl dm, .str _⟩
    rw [List.getElem?_map, Array.getElem?_toList, hc] <;> rfl
  stop := fun i H' hi k => by
    rw [List.length_map, Array.length_toList] at hi
    exact hi
theorem vi_str {tg : Expr} {p : Fr0} (h : VP X e p) : VIp X tg e (iS p) := by
  obtain ⟨t, ht, q⟩ := h.run
  refine ⟨_, pi_str ht, fun S σ H ρ xs R dm c hp k => ?_⟩
  obtain ⟨d, e1, e2⟩ := Option.bind_eq_some_iff.mp hp
  split at e2
  · cases e2
    exact q S σ H ρ _ _ dm c e1 fun v S' H' g r => ⟨_, r.str_inv, k _ S' H' g (walks_str _)⟩
  · cases e2
/-- lists and tuples -/
def iSeq (p : Fr0) : Rho → Option (List D) := fun ρ => (p ρ).bind asSeq
theorem pi_either {tg iter : Expr} {w w' : TI} (h : PI X tg iter w) (h' : PI X tg iter w') : PI X tg iter (fun σ H R => w σ H R ∨ w' σ H R) :=
  ⟨fun pins s σ H R I q => q.elim (h.run pins s σ H R I) (h'.run pins s σ H R I)⟩
theorem vi_seq {tg : Expr} {p : Fr0} (h : VP X e p) : VIp X tg e (iSeq p) := by
  obtain ⟨t, ht, q⟩ := h.run
  refine ⟨_, pi_either (pi_list ht) (pi_tup ht), fun S σ H ρ xs R dm c hp k => ?_⟩
  obtain ⟨d, e1, e2⟩ := Option.bind_eq_some_iff.mp hp
  cases d <;> cases e2
  · refine .inl (q S σ H ρ _ _ dm c e1 fun v S' H' g r => ?_)
    cases r with
    | lst a rd l => exact ⟨_, rfl, ⟨_, .inl rd.kit⟩, k _ S' H' g (walks_list a rd l)⟩
  · refine .inr (q S σ H ρ _ _ dm c e1 fun v S' H' g r => ?_)
    cases r with
    | tup a rd l => exact ⟨_, rfl, ⟨_, .inl rd.kit⟩, k _ S' H' g (walks_tup a rd l)⟩
/-! ### an empty dict -/
theorem vf_dnew : VF X (.Dict [] [] pos) (pC (.dct [])) := ⟨_, pe_dnewK, fun S σ H ρ d Q dm cv hp k => by
  cases hp
  intro p np
  refine k p S _ [p] (Gr.heap dm (same_new np)) (.dct upd_same .nil) fun b hb => ?_
  obtain rfl := List.mem_singleton.mp hb
  exact ⟨np, fun z => dm _ z np⟩⟩
/-! ### module names -/
theorem vp_gint {i : Int} {pos : Pos} (hg : Gl X x) (h : ∃ t, X.mg x = some (.int i t)) (hd : (x == ("__debug__" : Str)) = false := by decide) : VP X (.Name x pos) (pC (.int i)) := by
  obtain ⟨t, h⟩ := h
  exact vp_of (pe_glob (v := .int i) hg h ⟨t, rfl⟩ hd) fun _ _ _ => .int i
theorem vp_gstr {i : Str} {pos : Pos} (hg : Gl X x) (h : ∃ t, X.mg x = some (.str i t)) (hd : (x == ("__debug__" : Str)) = false := by decide) : VP X (.Name x pos) (pC (.str i)) := by
  obtain ⟨t, h⟩ := h
  exact vp_of (pe_glob (v := .str i) hg h ⟨t, rfl⟩ hd) fun _ _ _ => .str i
end
end Vs

set_option Elab.async false
set_option linter.all false
set_option maxRecDepth 100000
set_option maxHeartbeats 4000000
namespace Vs
open PySem L2
/-! ### a dict is locked while it is walked -/
def NoF (X : Cx) (d : Addr) : Prop := ∀ o' u', X.H_0 d ≠ some (.frz o' u')
inductive Lk (X : Cx) (S : Set0) (H1 : Hp) : Hp → (Hp → Hp) → Prop
  | no : Lk X S H1 H1 (fun H => H)
  | yes {d : Addr} {od : Obj} {kvs : List (Key × V)} : S d → H1 d = some (.dK kvs) → NoF X d → Lk X S H1 (upd H1 d (.frz od (.dK kvs))) (fun H => upd H d (.dK kvs))
section
variable {X : Cx} {S : Set0} {H1 HL H2 : Hp} {un : Hp → Hp}
theorem Lk.rd (l : Lk X S H1 HL un) {b : Addr} {u : HO} (r : Rd H1 b u) : Rd HL b u := by
  cases l with
  | no => exact r
  | yes _ e _ => exact Rd.lock e r
theorem Lk.dom {S' : Set0} (l : Lk X S H1 HL un) (d : Dom S' H1) : Dom S' HL := by
  cases l with
  | no => exact d
  | @yes c od kvs hs e _ =>
    intro b hb
    by_cases h : b = c
    · subst h; rw [upd_same]; exact nofun
    · rw [upd_ne h]; exact d b hb
theorem Lk.unDom {S' : Set0} (l : Lk X S H1 HL un) (d : Dom S' H2) : Dom S' (un H2) := by
  cases l with
  | no => exact d
  | @yes c od kvs hs e _ =>
    intro b hb
    show upd H2 c (.dK kvs) b ≠ .none
    by_cases h : b = c
    · subst h; rw [upd_same]; exact nofun
    · rw [upd_ne h]; exact d b hb
theorem Lk.none (l : Lk X S H1 HL un) {b : Addr} (h : HL b = none) : H1 b = none := by
  cases l with
  | no => exact h
  | @yes c od kvs hs e _ =>
    by_cases z : b = c
    · subst z; rw [upd_same] at h; cases h
    · rw [upd_ne z] at h; exact h
theorem Lk.same (l : Lk X S H1 HL un) (k : Same HL H2) : Same H1 (un H2) := by
  cases l with
  | no => exact k
  | @yes c od kvs hs e _ =>
    intro b o h
    show upd H2 c (.dK kvs) b = some o
    by_cases z : b = c
    · subst z; rw [upd_same]; rw [e] at h; exact h
    · rw [upd_ne z]; exact k b o (by rw [upd_ne z]; exact h)
theorem Lk.ne (l : Lk X S H1 HL un) {b : Addr} (h : HL b = Option.none) : un H2 b = H2 b := by
  cases l with
  | no => rfl
  | yes hs e _ =>
    refine upd_ne fun z => ?_
    subst z
    rw [upd_same] at h
    cases h
theorem Lk.openR (l : Lk X S H1 HL un) (k : Same HL H2) {b : Addr} {u : HO} (r : Rd H2 b u) : Rd (un H2) b u := by
  cases l with
  | no => exact r
  | yes hs e _ => exact Rd.open (k _ _ upd_same) r
/-- .. opened at the end -/
def tOpen (X : Cx) (t : TE) : TE := fun σ H Q => t σ H fun v H' => Q v H' ∨ ∃ (d : Addr) (od : Obj) (u : HO), H' d = some (.frz od u) ∧ NoF X d ∧ Q v (upd H' d u)
theorem pe_open {e : Expr} {t : TE} (h : PE X e t) : PE X e (tOpen X t) := ⟨fun pins s σ H Q I q => thn (h.run pins s σ H _ I q) fun v s1 ⟨x, H1, I1, r1, q1⟩ => by
  rcases q1 with q1 | ⟨d, od, u, hd, nf, q1⟩
  · exact ⟨x, H1, I1, r1, q1⟩
  · exact ⟨x, _, I1.unlock hd nf, r1, q1⟩⟩
theorem Lk.open (l : Lk X S H1 HL un) (k : Same HL H2) {Q : VK} {v : V} (q : Q v (un H2)) : Q v H2 ∨ ∃ (d : Addr) (od : Obj) (u : HO), H2 d = some (.frz od u) ∧ NoF X d ∧ Q v (upd H2 d u) := by
  cases l with
  | no => exact .inl q
  | yes hs e nf => exact .inr ⟨_, _, _, k _ _ upd_same, nf, q⟩
/-- .. locked when it is at hand -/
def tLk (X : Cx) (t : TE) : TE := fun σ H Q => t σ H fun v H1 => Q v H1 ∨ ∃ (d : Addr) (kvs : List (Key × V)), v = .ref d ∧ H1 d = some (.dK kvs) ∧ ∀ od, NoF X d → Q v (upd H1 d (.frz od (.dK kvs)))
theorem pe_lk {e : Expr} {t : TE} (h : PE X e t) : PE X e (tLk X t) := ⟨fun pins s σ H Q I q => thn (h.run pins s σ H _ I q) fun v s1 ⟨x, H1, I1, r1, q1⟩ => by
  rcases q1 with q1 | ⟨d, kvs, rfl, hd, q1⟩
  · exact ⟨x, H1, I1, r1, q1⟩
  · obtain ⟨od, I2⟩ := I1.lock hd trivial
    exact ⟨.ref d, _, I2, r1, q1 od (I1.nofrz hd trivial)⟩⟩
end
structure VIk (X : Cx) (tg iter : Expr) (p : Rho → Option (List D)) : Prop where
  run : ∃ wi, PI X tg iter wi ∧ ∀ (S : Set0) (σ : L2.St) (H : Hp) (ρ : Rho) (xs : List D) (R : It → Hp → Prop), Dom S H → Cov X.gk S σ H ρ → p ρ = some xs →
    (∀ J S' H' HL un, Gr S H S' H' → Lk X S' H' HL un → Walks X.gk J S' HL xs → R J HL) → wi σ H R
section
variable {X : Cx} {tg iter e : Expr}
theorem VIp.vk {p : Rho → Option (List D)} (h : VIp X tg iter p) : VIk X tg iter p := by
  obtain ⟨wi, hw, q⟩ := h.run
  exact ⟨wi, hw, fun S σ H ρ xs R dm c hp k => q S σ H ρ xs R dm c hp fun J S' H' g w => k J S' H' H' _ g .no w⟩
theorem RepK.at2 {G : Glob} {S : Set0} {H : Hp} {kk : Key} {vv : V} : ∀ {vs : List (Key × V)} {es : List (Key × D)} {j : Nat}, RepK G S H vs es → vs[j]? = some (kk, vv) → ∃ e, es[j]? = some (kk, e) ∧ Rep G S H vv e
  | _, _, _, .nil, h => by simp at h
  | _, _, 0, .cons r _, h => by
    simp at h
    obtain ⟨rfl, rfl⟩ := h
    exact ⟨_, rfl, r⟩
  | _, _, j + 1, .cons _ rl, h => by
    obtain ⟨e, a, b⟩ := RepK.at2 (j := j) rl (by simpa using h)
    exact ⟨e, by simpa using a, b⟩
theorem walks_items {G : Glob} {S : Set0} {H1 : Hp} {d : Addr} {od : Obj} {kvs : List (Key × V)} {ds : List (Key × D)} (hs : S d) (hd : H1 d = some (.frz od (.dK kvs))) (l : RepK G S H1 kvs ds) : Walks G (Iti d od kvs) S H1 (ds.map fun p => .tpl [.ofK p.1, p.2]) where
  go := fun i S' H hi le k dm => by
    rw [List.length_map, ← l.len] at hi
    refine ⟨⟨(k d hs).trans hd, hi⟩, fun v H' y => ?_⟩
    obtain ⟨T, kk, vv, h1, rfl, nT, rfl⟩ := y
    have l' : RepK G S' H kvs ds := RepK.mono le (fun b u hb r => Rd.eq (k b hb) r) _ _ l
    obtain ⟨e, h2, r⟩ := l'.at2 h1
    refine ⟨_, .tpl [.ofK kk, e], by rw [List.getElem?_map, h2] <;> rfl, Gr.add dm nT, .tpl (.inr rfl) (.ofP upd_same) (.cons (ofK_rep kk) (.cons ((Gr.add dm nT).rep r) .nil))⟩
  stop := fun i H hi k => by
    rw [List.length_map, ← l.len] at hi
    exact ⟨(k d hs).trans hd, hi⟩
def iIt (p : Fr0) : Rho → Option (List D) := fun ρ => (p ρ).bind fun d => match d with
  | .dct l => some (l.map fun p => .tpl [.ofK p.1, p.2])
  | _ => none
theorem lk_dict {p : Fr0} {t : TE} {S : Set0} {σ : L2.St} {H : Hp} {ρ : Rho} {ds : List (Key × D)} {Q : VK} (q : ∀ (S : Set0) (σ : L2.St) (H : Hp) (ρ : Rho) (d : D) (Q : VK), Dom S H → Cov X.gk S σ H ρ → p ρ = some d → (∀ v S' H', Gr S H S' H' → Rep X.gk S' H' v d → Q v H') → t σ H Q)
    (dm : Dom S H) (c : Cov X.gk S σ H ρ) (hp : p ρ = some (.dct ds)) (k : ∀ a od kvs S' H' HL un, Gr S H S' H' → Lk X S' H' HL un → S' a → HL a = some (.frz od (.dK kvs)) → RepK X.gk S' HL kvs ds → Q (.ref a) HL) : tLk X t σ H Q := by
  refine q S σ H ρ _ _ dm c hp fun v S' H' g r => ?_
  cases r with
  | dct hs rd rl =>
    rcases rd with ⟨e, _⟩ | ⟨o, kvs', z, e⟩
    · refine .inr ⟨_, _, rfl, e, fun od nf => ?_⟩
      have lk := Lk.yes (od := od) hs e nf
      exact k _ od _ S' H' _ _ g lk hs upd_same (RepK.mono (fun _ h => h) (fun b u _ r => lk.rd r) _ _ rl)
    · cases z
      exact .inl (k _ o _ S' H' H' _ g .no hs e rl)
/-- d.items() -/
theorem vk_items {elts : List Expr} {kk : Nat} {tpos apos cpos : Pos} {p : Fr0} (hpi : ∀ td, PE X e td → PI X (.Tuple elts kk tpos) (.Call (.Attribute e "items" apos) [] [] cpos) (iItems td)) (h : VP X e p) : VIk X (.Tuple elts kk tpos) (.Call (.Attribute e "items" apos) [] [] cpos) (iIt p) := by
  obtain ⟨t, ht, q⟩ := h.run
  refine ⟨_, hpi _ (pe_lk ht), fun S σ H ρ xs R dm c hp k => ?_⟩
  obtain ⟨d, e1, e2⟩ := Option.bind_eq_some_iff.mp hp
  split at e2
  · cases e2
    exact lk_dict q dm c e1 fun a od kvs S' H' HL un g lk hs ha rl => ⟨a, od, kvs, rfl, ha, k _ S' H' HL un g lk (walks_items hs ha rl)⟩
  · cases e2
end
/-! ### what a comprehension has gathered -/
structure Acc (G : Glob) (S1 : Set0) (H1 : Hp) (p : Addr) (S2 : Set0) (H2 : Hp) (vs : List V) (ds : List D) : Prop where
  le : ∀ b, S1 b → S2 b
  nw : ∀ b, S2 b → S1 b ∨ H1 b = none
  nD : ¬ S2 p
  sm : Same H1 H2
  dm : Dom S2 H2
  hD : H2 p = some (.lst vs)
  rl : RepL G S2 H2 vs ds
section
variable {G : Glob} {S1 S2 S3 : Set0} {H1 H2 H3 : Hp} {p : Addr} {vs : List V} {ds : List D}
theorem Acc.new (dm : Dom S1 H1) (np : H1 p = none) : Acc G S1 H1 p S1 (upd H1 p (.lst [])) [] [] :=
  ⟨fun _ h => h, fun _ h => .inl h, fun z => dm p z np, same_new np, dm.same (same_new np), upd_same, .nil⟩
theorem Acc.gr (a : Acc G S1 H1 p S2 H2 vs ds) (g : Gr S2 H2 S3 H3) : Acc G S1 H1 p S3 H3 vs ds where
  le := fun b h => g.le b (a.le b h)
  nw := fun b h => by
    rcases g.new b h with z | z
    · exact a.nw b z
    · exact .inr (a.sm.free z)
  nD := fun z => by
    rcases g.new p z with w | w
    · exact a.nD w
    · rw [a.hD] at w; cases w
  sm := a.sm.trans g.same
  dm := g.dom
  hD := g.same _ _ a.hD
  rl := g.repL a.rl
theorem Acc.push (a : Acc G S1 H1 p S2 H2 vs ds) (np : H1 p = none) {v : V} {d : D} (r : Rep G S2 H2 v d) : Acc G S1 H1 p S2 (upd H2 p (.lst (vs ++ [v]))) (vs ++ [v]) (ds ++ [d]) where
  le := a.le
  nw := a.nw
  nD := a.nD
  sm := fun b u e => by
    rw [upd_ne (ne_of_none e np)]
    exact a.sm _ _ e
  dm := fun b hb => by
    rw [upd_ne fun (z : b = p) => a.nD (z ▸ hb)]
    exact a.dm b hb
  hD := upd_same
  rl := (repL_off a.nD a.rl).append (.cons (rep_off a.nD r) .nil)
theorem Acc.cov (a : Acc G S1 H1 p S2 H2 vs ds) {σ : L2.St} {ρ : Rho} (c : Cov G S1 σ H1 ρ) : Cov G S2 σ H2 ρ := ⟨c.len, fun i d e =>
  let ⟨v, h, r⟩ := c.im i d e
  ⟨v, h, Rep.mono a.le (fun b u _ r => Rd.same a.sm r) _ _ r⟩⟩
theorem Acc.keep (a : Acc G S1 H1 p S2 H2 vs ds) (dm : Dom S1 H1) : ∀ b, S1 b → H2 b = H1 b := fun b hb => same_eq a.sm (dm b hb)
end
/-! ### [elt for .. in .. for .. in ..] -/
def comp2 (js : List Nat) (sp : D → Option (List D)) (own1 : List Nat) (pi1 : Rho → Option (List D)) (js1 : List Nat) (sp1 : D → Option (List D)) (pe : Fr0) (ρ : Rho) : List D → Option (List D)
  | [] => some []
  | x :: xs => (sp x).bind fun ds => (pi1 (setAll ρ js (ds.map .im))).bind fun ys =>
    (comp js1 sp1 pYes pe (drop0 (setAll ρ js (ds.map .im)) own1) ys).bind fun l => (comp2 js sp own1 pi1 js1 sp1 pe ρ xs).bind fun l' => some (l ++ l')
def pComp2 (own own1 : List Nat) (pi : Rho → Option (List D)) (js : List Nat) (sp : D → Option (List D)) (pi1 : Rho → Option (List D)) (js1 : List Nat) (sp1 : D → Option (List D)) (pe : Fr0) : Fr0 := fun ρ =>
  (pi ρ).bind fun xs => (comp2 js sp own1 pi1 js1 sp1 pe (drop0 ρ own) xs).bind fun l => if l.length ≤ 100000 then some (.lst l) else none
section
variable {X : Cx} {elt tg iter tg1 iter1 : Expr} {scope : Scope} {own : List (Str × Nat)} {pos : Pos}
def tvI (G : Glob) (p : Rho → Option (List D)) : TI := fun σ H R => ∃ (S : Set0) (ρ : Rho) (xs : List D), Dom S H ∧ Cov G S σ H ρ ∧ p ρ = some xs ∧ ∀ J S' H', Gr S H S' H' → Walks G J S' H' xs → R J H'
theorem VIp.pi {p : Rho → Option (List D)} (h : VIp X tg iter p) : PI X tg iter (tvI X.gk p) := by
  obtain ⟨wi, hw, q⟩ := h.run
  exact ⟨fun pins s σ H R I ⟨S, ρ, xs, h1, h2, h3, h4⟩ => hw.run pins s σ H R I (q S σ H ρ xs R h1 h2 h3 h4)⟩
theorem vf_lc2 {pi pi1 : Rho → Option (List D)} {pe : Fr0} {js js1 own1 : List Nat} {sp sp1 : D → Option (List D)} (hc : X.calm = true) (hN : X.N.Nodup) (hi : VIk X tg iter pi) (ok : BlkOk X.N X.env.scope scope own) (hj : ∀ j ∈ js, j ∈ own.map (·.2)) (ho : ∀ j ∈ own1, j ∈ own.map (·.2)) (hj1 : ∀ j ∈ js1, j ∈ own1)
    (hg : BlkE X scope fun X => VG X tg js sp) (hi1 : BlkE X scope fun X => VIp X tg1 iter1 pi1) (hg1 : BlkE X scope fun X => VG X tg1 js1 sp1) (he : BlkE X scope fun X => VP X elt pe) (hs : ∀ x, foldedSetIterable iter X.env x = pure x := by intro _; rfl) (hs1 : ∀ env x, foldedSetIterable iter1 env x = pure x := by intro _ _; rfl) :
    VF X (.ListComp elt [⟨tg, iter, [], 0⟩, ⟨tg1, iter1, [], 0⟩] scope pos) (pComp2 (own.map (·.2)) own1 pi js sp pi1 js1 sp1 pe) := by
  obtain ⟨wi, hw, q0⟩ := hi.run
  have h := pe_lc2 (pos := pos) (vs1 := own1) (g := tvG X.gk js sp) (g1 := tvG X.gk js1 sp1) (wi1 := tvI X.gk pi1) (te := tvP X.gk pe) hc hN hw ok ho (fun s H C cl fp => (hg s H C cl fp).pg) (fun _ _ _ _ _ => pts_nil) (fun s H C cl fp => (hi1 s H C cl fp).pi) (fun s H C cl fp => (hg1 s H C cl fp).pg) (fun _ _ _ _ _ => pts_nil) (fun s H C cl fp => (he s H C cl fp).pe) hs hs1
  refine ⟨_, pe_open h, fun S σ H ρ d Q dm cv hp k => ?_⟩
  unfold pComp2 at hp
  obtain ⟨xs, e0, hp⟩ := Option.bind_eq_some_iff.mp hp
  obtain ⟨out, e1, hp⟩ := Option.bind_eq_some_iff.mp hp
  split at hp
  case isFalse => cases hp
  rename_i hsz
  cases hp
  refine q0 S σ H ρ xs _ dm cv e0 fun J S1 H0 H1 un g1 lk wk => ?_
  intro p np
  have dm1 : Dom S1 H1 := lk.dom g1.dom
  have cv1 : Cov X.gk S1 (wipe σ (own.map (·.2))) H1 (drop0 ρ (own.map (·.2))) := by
    refine Cov.wipe _ ⟨(cv.gr g1).len, fun i x e => ?_⟩
    obtain ⟨v, a, b⟩ := (cv.gr g1).im i x e
    exact ⟨v, a, Rep.mono (fun _ z => z) (fun b u _ r => lk.rd r) _ _ b⟩
  refine ⟨fun i m H2 => m = xs.length - i ∧ i ≤ xs.length ∧ ∃ S2 vs ds l, Acc X.gk S1 H1 p S2 H2 vs ds ∧ comp2 js sp own1 pi1 js1 sp1 pe (drop0 ρ (own.map (·.2))) (xs.drop i) = some l ∧ ds ++ l = out, ⟨xs.length, by omega, by omega, S1, [], [], out, .new dm1 np, e1, rfl⟩, ?_⟩
  rintro i m H2 ⟨rfl, hi, S2, vs, ds, l, ac, ec, eo⟩
  by_cases hlt : i < xs.length
  · have hx : xs.drop i = xs[i] :: xs.drop (i + 1) := List.drop_eq_getElem_cons hlt
    rw [hx] at ec
    obtain ⟨go, yl⟩ := wk.go i S2 H2 hlt ac.le (ac.keep dm1) ac.dm
    refine .inr ⟨go, fun H5 => ∃ S2 vs ds l, Acc X.gk S1 H1 p S2 H5 vs ds ∧ comp2 js sp own1 pi1 js1 sp1 pe (drop0 ρ (own.map (·.2))) (xs.drop (i + 1)) = some l ∧ ds ++ l = out, fun H' z => ⟨xs.length - (i + 1), by omega, rfl, hlt, z⟩, fun x H3 y => ?_⟩
    obtain ⟨S3, d, h1, g3, r3⟩ := yl x H3 y
    have hd : xs[i] = d := by rw [List.getElem?_eq_getElem hlt] at h1; exact Option.some.inj h1
    rw [hd] at ec
    have ac3 := ac.gr g3
    unfold comp2 at ec
    obtain ⟨ds', es, ec⟩ := Option.bind_eq_some_iff.mp ec
    obtain ⟨ys, ey, ec⟩ := Option.bind_eq_some_iff.mp ec
    obtain ⟨l1, el1, ec⟩ := Option.bind_eq_some_iff.mp ec
    obtain ⟨l2, el2, ec⟩ := Option.bind_eq_some_iff.mp ec
    cases ec
    refine ⟨S3, d, ds', r3, es, fun ws rw hl => ⟨wipe_setAll hj, ?_⟩⟩
    unfold tYes; dsimp only
    rw [if_pos rfl]
    have cv4 := Cov.setAll (js := js) rw (ac3.cov cv1)
    refine ⟨S3, _, ys, g3.dom, cv4, ey, fun J1 S4 H4 g4 wk1 => ?_⟩
    have ac4 := ac3.gr g4
    have cv5 : Cov X.gk S4 (wipe (setAll (wipe σ (own.map (·.2))) js (ws.map some)) own1) H4 (drop0 (setAll (drop0 ρ (own.map (·.2))) js (ds'.map .im)) own1) := Cov.wipe _ (cv4.gr g4)
    have wq : ∀ w6 : List V, wipe (setAll (wipe (setAll (wipe σ (own.map (·.2))) js (ws.map some)) own1) js1 (w6.map some)) own1 = wipe (setAll (wipe σ (own.map (·.2))) js (ws.map some)) own1 := fun w6 => wipe_setAll hj1
    generalize wipe (setAll (wipe σ (own.map (·.2))) js (ws.map some)) own1 = σ5 at cv5 wq ⊢
    generalize drop0 (setAll (drop0 ρ (own.map (·.2))) js (ds'.map .im)) own1 = ρ5 at cv5 el1
    refine ⟨fun j m H5 => m = ys.length - j ∧ j ≤ ys.length ∧ (∀ b, S4 b → H5 b = H4 b) ∧ ∃ S5 vs ds l, (∀ b, S4 b → S5 b) ∧ Acc X.gk S1 H1 p S5 H5 vs ds ∧ comp js1 sp1 pYes pe ρ5 (ys.drop j) = some l ∧ ds ++ l ++ l2 = out, ⟨ys.length, by omega, by omega, fun _ _ => rfl, S4, vs, ds, l1, fun _ z => z, ac4, el1, by rw [List.append_assoc]; exact eo⟩, ?_⟩
    rintro j m H5 ⟨rfl, hj5, kp5, S5, vs5, ds5, l5, le5, ac5, ec5, eo5⟩
    by_cases hlt5 : j < ys.length
    · have hy : ys.drop j = ys[j] :: ys.drop (j + 1) := List.drop_eq_getElem_cons hlt5
      rw [hy] at ec5
      obtain ⟨go5, yl5⟩ := wk1.go j S5 H5 hlt5 le5 kp5 ac5.dm
      refine .inr ⟨go5, fun H5 => (∀ b, S4 b → H5 b = H4 b) ∧ ∃ S5 vs ds l, (∀ b, S4 b → S5 b) ∧ Acc X.gk S1 H1 p S5 H5 vs ds ∧ comp js1 sp1 pYes pe ρ5 (ys.drop (j + 1)) = some l ∧ ds ++ l ++ l2 = out, fun H' z => ⟨ys.length - (j + 1), by omega, rfl, hlt5, z⟩, fun x H6 y => ?_⟩
      obtain ⟨S6, d6, h6, g6, r6⟩ := yl5 x H6 y
      have hd6 : ys[j] = d6 := by rw [List.getElem?_eq_getElem hlt5] at h6; exact Option.some.inj h6
      rw [hd6] at ec5
      have ac6 := ac5.gr g6
      unfold comp at ec5
      obtain ⟨ds6, es6, ec5⟩ := Option.bind_eq_some_iff.mp ec5
      obtain ⟨b6, eb6, ec5⟩ := Option.bind_eq_some_iff.mp ec5
      cases eb6
      rw [if_pos rfl] at ec5
      obtain ⟨yd, ey6, ec5⟩ := Option.bind_eq_some_iff.mp ec5
      obtain ⟨l6, el6, ec5⟩ := Option.bind_eq_some_iff.mp ec5
      cases ec5
      have kp6 : ∀ b, S4 b → H6 b = H4 b := fun b hb => (same_eq g6.same (ac5.dm b (le5 b hb))).trans (kp5 b hb)
      have le6 : ∀ b, S4 b → S6 b := fun b hb => g6.le b (le5 b hb)
      refine ⟨S6, d6, ds6, r6, es6, fun w6 rw6 hl6 => ⟨?_, ?_⟩⟩
      · exact wq w6
      try dsimp only
      rw [if_pos rfl]
      have cv6 : Cov X.gk S6 σ5 H6 ρ5 := ⟨cv5.len, fun i x e => by
        obtain ⟨v, a, b⟩ := cv5.im i x e
        exact ⟨v, a, Rep.mono le6 (fun b u hb r => Rd.eq (kp6 b hb) r) _ _ b⟩⟩
      refine ⟨S6, _, yd, g6.dom, Cov.setAll (js := js1) rw6 cv6, ey6, fun yv S7 H7 g7 r7 => ?_⟩
      have ac7 := ac6.gr g7
      have hlen : ds5.length < out.length := by rw [← eo5]; simp <;> omega
      refine ⟨vs5, ac7.hD, by rw [ac7.rl.len]; exact Nat.lt_of_lt_of_le hlen (line5 hsz), fun b hb => ?_, S7, _, _, l6, fun b hb => g7.le b (le6 b hb), ac7.push np r7, el6, by rw [List.append_assoc ds5]; exact eo5⟩
      have hb7 : S7 b := g7.le b (le6 b hb)
      rw [upd_ne fun (z : b = p) => ac7.nD (z ▸ hb7)]
      exact (same_eq g7.same (g6.dom b (le6 b hb))).trans (kp6 b hb)
    · have hn : ys.drop j = [] := List.drop_eq_nil_of_le (by omega)
      rw [hn] at ec5
      cases ec5
      rw [List.append_nil] at eo5
      exact .inl ⟨wk1.stop j H5 (by omega) kp5, S5, vs5, ds5, l2, ac5, el2, eo5⟩
  · have hn : xs.drop i = [] := List.drop_eq_nil_of_le (by omega)
    rw [hn] at ec
    cases ec
    rw [List.append_nil] at eo
    subst eo
    refine .inl ⟨wk.stop i H2 (by omega) (ac.keep dm1), lk.open ac.sm (k p S2 (un H2) [p] ⟨fun b hb => ac.le b (g1.le b hb), fun b hb => ?_, g1.same.trans (lk.same ac.sm), fun b hb => ?_⟩ (.lst (by rw [lk.ne np]; exact ac.hD) (RepL.mono (fun _ z => z) (fun b u _ r => lk.openR ac.sm r) _ _ ac.rl)) fun b hb => ?_)⟩
    · rcases ac.nw b hb with z | z
      · exact g1.new b z
      · exact .inr (g1.same.free (lk.none z))
    · exact lk.unDom ac.dm b hb
    · obtain rfl := List.mem_singleton.mp hb
      exact ⟨g1.same.free (lk.none np), ac.nD⟩
end
end Vs

set_option Elab.async false
set_option linter.all false
set_option maxRecDepth 100000
set_option maxHeartbeats 4000000
namespace Vs
open PySem PySem.Spec PyProof.Rows L2
/-! ### the law's end: at the call of the law nothing is tracked but the script -/
theorem ints_rep {G : Glob} {S : Set0} {H : Hp} : ∀ ns : List Int, RepL G S H (ns.map V.int) (ns.map .int)
  | [] => .nil
  | n :: ns => .cons (.int n) (ints_rep ns)
section
variable {P : Program} {w : World} {K : PySem.W.Frag} {mg mb : Str → Option Value} {k : Nat} {fa a : Addr} {fd : FuncData} {x : Str} {sem : Sem0} {s₁ : Shared} {vs : List Value} {ns : List Int}
/-- what the law's call gives -/
abbrev Kept (s₁ : Shared) : Result → Shared → Prop := fun r s' => r = .ok (.ret (.bool true)) ∧ OldK s₁.heap s'.heap ∧ s'.os = s₁.os ∧ AllBare s'.gens
/-- H tells at most the script, and that exactly -/
theorem law_core (H : Hp) (hns : s₁.heap.Ns mainGlobals mg) (KX : K.In s₁.heap) (hb : s₁.heap.Ns builtinsNs mb) (hbb : ∀ x : Str, x ≠ "__name__" → mb x = bootBuiltins x) (hlim : s₁.heap.NoLimit) (hg : s₁.gens = #[]) (hobj : s₁.heap.get? a = some { cls := .type "list", data := .seq vs.toArray }) (hr : Room k callerA)
    (hH : ∀ b u, H b = some u → b = a ∧ ∃ o xs, u = .frz o (.lst xs)) (hK : H a ≠ none → K.lookup a = none) (hok : HOk P w H s₁.heap) (rep : Rep ⟨mg, K⟩ (fun b => H b ≠ none) H (.ref a) (.scr ns))
    (F : ∀ base : Heap, K.In base → base.Ns mainGlobals mg → FnG P w K mg base k fa fd [x] (spV ⟨mg, K⟩ 1 [] sem)) (hbind : ∀ (s : Shared) (u : Value), BindsTo s fd ⟨[u], []⟩ [(x, u)]) (hsem : ∃ out, sem [.scr ns] = some (.ret (.bl true) out)) :
    codeAny (model P w) callerA (.call (.ref fa) ⟨[.ref a], []⟩) (Kept s₁) s₁ := by
  have only : ∀ b, H b ≠ none → b = a := fun b h => by
    cases e : H b with
    | none => exact absurd e h
    | some u => exact (hH b u e).1
  have ground : ∀ {b : Addr} {o : Obj}, s₁.heap.get? b = some o → H b = none → (hidT s₁.heap H).get? b = some o := fun e n => hidT_get e n
  have dicts : ∀ {b : Addr} {o : Obj} {es : Array DictEntry} {ep : Nat}, s₁.heap.get? b = some o → o.data = .dict es ep → H b = none := fun {b o es ep} e d => by
    refine Classical.byContradiction fun hne => ?_
    obtain rfl := only b hne
    rw [hobj] at e
    cases e
    cases d
  have spaces : ∀ {b : Addr} {m : Str → Option Value}, s₁.heap.Ns b m → (hidT s₁.heap H).Ns b m := fun {b m} ⟨o, es, ep, e, d, r⟩ => ⟨o, es, ep, ground e (dicts e d), d, r⟩
  have kin : K.In (hidT s₁.heap H) := fun b o e => ground (KX b o e) (Classical.byContradiction fun hne => by
    obtain rfl := only b hne
    rw [hK hne] at e
    cases e)
  obtain ⟨mc, l1, l2⟩ := hlim
  have e0 : Env0 P w K mg (hidT s₁.heap H) callerA [] s₁ H := ⟨rfl, ⟨kin, spaces hns, ⟨mb, spaces hb, hbb⟩, ⟨mc, spaces l1, l2⟩⟩, fun b o e => of_hidT e, Nat.le_of_eq (hidT_size _ _), trivial, fun b hb => absurd (show b ∈ ([] : List Addr) from hb) (by simp), hok, .of_eq hg⟩
  obtain ⟨out, es⟩ := hsem
  have ar : Args ⟨mg, K⟩ (fun b => H b ≠ none) H [] [.ref a] [.scr ns] (fun _ => []) := by
    refine ⟨rfl, Nat.zero_le _, fun i v d h1 h2 _ => ?_, fun i v d _ _ h => by simp at h, fun i j _ h => by simp at h⟩
    cases i with
    | zero => cases h1; cases h2; exact rep
    | succ i => simp at h1
  refine codeAny_mono ((F _ kin (spaces hns)).run callerA [] s₁ H ⟨[.ref a], []⟩ [.ref a] [.ref a] (fun v H' => v = .bl true) (fun _ _ _ => False) rfl hr e0 rfl (hbind s₁ (.ref a)) (.cons rfl .nil) ⟨rfl, _, _, _, _, ar, fun b h => h, es, fun v S' H' fp' _ rv => rv.bl_inv⟩) fun r s' h => ?_
  cases r with
  | error e =>
    obtain ⟨_, _, _, _, _, _, _, _, _, _, _, _, z⟩ := h
    exact z.elim
  | ok fl =>
    cases fl with
    | ret u =>
      obtain ⟨v, H', os, bare, un, hok', r', q⟩ := h
      obtain rfl : v = .bl true := q
      obtain rfl : u = Value.bool true := r'
      refine ⟨rfl, OldK.of_keep fun b o e => ?_, os, bare⟩
      cases q : H b with
      | none => exact un.keep b o e q (fun z => by cases z) (by simp)
      | some u =>
        obtain ⟨rfl, ob, xs, rfl⟩ := hH b u q
        obtain ⟨e1, _⟩ := hok b _ q
        obtain ⟨e2, _⟩ := hok' b _ (un.frzs b ob _ q)
        rw [e] at e1
        cases e1
        exact e2
    | next => exact False.elim h
    | brk => exact False.elim h
    | cont => exact False.elim h
theorem law_callG (KX : K.In s₁.heap) (hns : s₁.heap.Ns mainGlobals mg) (hb : s₁.heap.Ns builtinsNs mb) (hbb : ∀ x : Str, x ≠ "__name__" → mb x = bootBuiltins x) (hlim : s₁.heap.NoLimit) (hg : s₁.gens = #[]) (hobj : s₁.heap.get? a = some { cls := .type "list", data := .seq vs.toArray }) (hi : IntsAre vs ns) (hl : ns.length ≤ sizeLine) (hr : Room k callerA)
    (F : ∀ base : Heap, K.In base → base.Ns mainGlobals mg → FnG P w K mg base k fa fd [x] (spV ⟨mg, K⟩ 1 [] sem)) (hbind : ∀ (s : Shared) (u : Value), BindsTo s fd ⟨[u], []⟩ [(x, u)]) (hsem : ∃ out, sem [.scr ns] = some (.ret (.bl true) out)) :
    codeAny (model P w) callerA (.call (.ref fa) ⟨[.ref a], []⟩) (Kept s₁) s₁ := by
  have rv := vals_ints hi
  cases hk : K.lookup a with
  | some o =>
    have e := KX a o hk
    rw [hobj] at e
    cases e
    refine law_core (fun _ => none) hns KX hb hbb hlim hg hobj hr (fun b u z => nomatch z) (fun z => absurd rfl z) (fun b u z => nomatch (show (none : Option HO) = some u from z)) (.scr (.inr fun H' => .inr ⟨_, vs.toArray, _, hk, rfl, rfl, rfl, ?_, by simpa using rv⟩)) F hbind hsem
    rw [List.size_toArray, hi.length]
    exact hl
  | none =>
    have at_a : (fun b => if b = a then some (HO.frz { cls := .type "list", data := .seq vs.toArray } (.lst (ns.map V.int))) else none : Hp) a = some (.frz { cls := .type "list", data := .seq vs.toArray } (.lst (ns.map V.int))) := if_pos rfl
    have elsewhere : ∀ {b : Addr} {u : HO}, (fun b => if b = a then some (HO.frz { cls := .type "list", data := .seq vs.toArray } (.lst (ns.map V.int))) else none : Hp) b = some u → b = a ∧ u = .frz { cls := .type "list", data := .seq vs.toArray } (.lst (ns.map V.int)) := fun {b u} z => by
      by_cases h : b = a
      · subst h
        rw [at_a] at z
        exact ⟨rfl, (Option.some.inj z).symm⟩
      · have z := (if_neg h).symm.trans z
        cases z
    refine law_core _ hns KX hb hbb hlim hg hobj hr (fun b u z => ⟨(elsewhere z).1, _, _, (elsewhere z).2⟩) (fun _ => hk) (fun b u z => ?_) (.scr (.inl ⟨by rw [at_a]; exact nofun, _, .inl ⟨at_a, rfl⟩⟩)) F hbind hsem
    obtain ⟨rfl, rfl⟩ := elsewhere z
    exact ⟨hobj, by rw [List.length_map]; exact hl, vs, _, rv, hobj⟩
end
/-- the goal that the head leaves -/
theorem walk_ofG {l : PySem.W.OpenLaw} {n k : Nat} {q : Program} {loose : List Str} {XP : (Str → Option Value) → Heap → Prop} {YP : World → Heap → Prop} {d : DefRec} {x : Str} (hn : l.most = some n) (hn2 : n ≤ sizeLine) (hdf : d.params.defaults = []) (hr : Room k callerA)
    (F : ∀ (w : World) (mg : Str → Option Value) (fa : Addr) (h : Heap), YP w h → h.Ns mainGlobals mg → mg d.name = some (.ref fa) →
      ∃ (K : PySem.W.Frag) (fd : FuncData) (sem : Sem0), K.In h ∧ (∀ (s : Shared) (u : Value), BindsTo s fd ⟨[u], []⟩ [(x, u)]) ∧ (∀ ns : List Int, ns.length ≤ n → ∃ out, sem [.scr ns] = some (.ret (.bl true) out)) ∧
        ∀ base : Heap, K.In base → base.Ns mainGlobals mg → FnG l.prog w K mg base k fa fd [x] (spV ⟨mg, K⟩ 1 [] sem)) :
    PySem.W.WalkO q loose XP YP l.row.toRowW d [] (fun f vs => PySem.call f vs) := by
  refine Att.attach_call hn hdf fun w s₀ s₁ mg mb fa o pm cd doc a vs ns G Y ho hd hcd hmg hobj hints hlen hg => ?_
  obtain ⟨K, fd, sem, KX, hb, hsem, hF⟩ := F w mg fa _ Y G.T.g hmg
  exact law_callG KX G.T.g G.T.b G.T.builtins G.T.nolimit hg hobj hints (Nat.le_trans hlen hn2) hr hF hb (hsem ns hlen)
/-! ### the script's first part: list(script[:60]) -/
section
variable {X : Cx}
def gScr (n : Nat) (d : D) : Option D := match d with
  | .scr ns => some (.lst ((ns.take n).map .int))
  | _ => none
theorem vf_script {e : Expr} {p : Fr0} {n : Nat} {j : Nat} {ps p2 pos : Pos} (he : VP X e p) : VF X (.Subscript e (.Slice none (some (.Constant (.int (n : Int)) j ps)) none p2) pos) (fun ρ => (p ρ).bind (gScr n)) := by
  obtain ⟨t, ht, q⟩ := he.run
  refine ⟨_, pe_slice sl_list ht po_none (po_some pe_int), fun S σ H ρ d Q dm cv hp k => ?_⟩
  obtain ⟨x, h1, hp⟩ := Option.bind_eq_some_iff.mp hp
  unfold gScr at hp
  split at hp
  · rename_i ns
    cases hp
    refine q S σ H ρ _ _ dm cv h1 fun v S1 H1 g1 r1 => ?_
    cases r1 with
    | @scr a0 _ r =>
      have sq : SqL X.K H1 a0 (ns.map V.int) := by
        rcases r with ⟨_, o, r⟩ | r
        · exact .inl (.inr ⟨o, r.is nofun⟩)
        · exact r H1
      have cutE : cutV (ns.map V.int) none (some (n : Int)) = (ns.take n).map V.int := by
        unfold cutV HT.sIx
        simp only [List.drop_zero, Nat.sub_zero]
        rw [if_neg (by omega), ← List.map_take]
        congr 1
        rw [List.length_map]
        show List.take (min ((n : Int).toNat) ns.length) ns = _
        rw [Int.toNat_natCast, ← List.take_take, List.take_length]
      refine ⟨_, rfl, _, _, rfl, sq, fun p np => ?_⟩
      rw [cutE]
      refine k p S1 _ [p] (g1.trans (Gr.heap g1.dom (same_new np))) (.lst upd_same (ints_rep _)) fun b hb => ?_
      obtain rfl := List.mem_singleton.mp hb
      exact ⟨g1.same.free np, fun z => g1.dom _ z np⟩
  · cases hp
end
end Vs

set_option Elab.async false
set_option linter.all false
set_option maxRecDepth 100000
set_option maxHeartbeats 4000000
namespace Vs
open PySem L2
/-! ### a slot's own object is given away -/
section
variable {G : Glob} {F : Set0} {N : Lnt} {S : Set0} {σ : L2.St} {H : Hp} {ρ : Rho} {fp : Nat → List Addr} {i : Nat} {d : D}
theorem Sim.give (s : Sim G F N S σ H ρ fp) (h : ρ[i]? = some (.ow d)) : Nx G F N S H (fun b => S b ∨ b ∈ fp i) H σ (ρ.set i (.im d)) := by
  have hl : i < ρ.length := (List.getElem?_eq_some_iff.mp h).1
  obtain ⟨a, ha, oa, hn⟩ := s.ow i _ d h rfl
  have old : ∀ {j : Nat} {u : Sl}, j ≠ i → (ρ.set i (.im d))[j]? = some u → ρ[j]? = some u := fun {j u} hj z => by
    rw [List.getElem?_set_ne (Ne.symm hj)] at z
    exact z
  have own : ∀ {j : Nat} {u : Sl} {x : D}, (ρ.set i (.im d))[j]? = some u → u.own? = some x → j ≠ i ∧ ρ[j]? = some u := fun {j u x} z w => by
    by_cases hj : j = i
    · subst hj
      rw [List.getElem?_set_self hl] at z
      cases z
      cases w
    · exact ⟨hj, old hj z⟩
  refine ⟨fun b z => .inl z, fun b z => rfl, fun b z => z, fp, ⟨by rw [List.length_set]; exact s.len, fun j x e => ?_, fun j u x e z => ?_, fun j x e => s.no j x (own e rfl).2, fun j k u u' x x' hne e1 w1 e2 w2 => s.sep j k u u' x x' hne (own e1 w1).2 w1 (own e2 w2).2 w2, fun b z => ?_, fun b z => ?_, fun j x e => s.lent j x (own e rfl).2⟩⟩
  · by_cases hj : j = i
    · subst hj
      rw [List.getElem?_set_self hl] at e
      cases e
      exact ⟨_, ha, oa.rep (fun _ z => .inl z) fun b z => .inr z⟩
    · obtain ⟨v, q1, q2⟩ := s.im j x (old hj e)
      exact ⟨v, q1, Rep.mono (fun _ z => .inl z) (fun _ _ _ r => r) _ _ q2⟩
  · obtain ⟨hj, e'⟩ := own e z
    obtain ⟨b, q1, q2, q3⟩ := s.ow j u x e' z
    refine ⟨b, q1, q2.mono (fun _ z => .inl z) (fun _ _ _ r => r) (fun _ _ => rfl), fun c hc => ⟨fun w => ?_, (q3 c hc).2⟩⟩
    rcases w with w | w
    · exact (q3 c hc).1 w
    · exact s.sep j i u _ x d hj e' z h rfl c hc w
  · rcases z with (z | z) | z
    · exact s.dom b (.inl z)
    · exact oa.there b z
    · exact s.dom b (.inr z)
  · rcases z with z | z
    · exact s.off b z
    · exact ⟨(hn b z).2, s.no i d h b z⟩
end
def sGive (i : Nat) (m : MS) : MS := fun ρ => match ρ[i]? with
  | some (.ow d) => m (ρ.set i (.im d))
  | _ => none
section
variable {X : Cx} {E : XK} {sts : List Stmt} {st : Stmt} {m : MS}
theorem vss_give (i : Nat) (h : VSs X E sts m) : VSs X E sts (sGive i m) := by
  obtain ⟨t, ht, q⟩ := h.run
  refine ⟨t, ht, fun F N S σ H ρ fp Z r s hm po => ?_⟩
  unfold sGive at hm
  split at hm
  · rename_i d e
    have n := s.give e
    obtain ⟨fp1, s1⟩ := n.sim
    exact q F N _ σ H _ fp1 Z r s1 hm (po.step n)
  · cases hm
theorem vs_give (i : Nat) (h : VS X E st m) : VS X E st (sGive i m) := by
  obtain ⟨t, ht, q⟩ := h.run
  refine ⟨t, ht, fun F N S σ H ρ fp Z r s hm po => ?_⟩
  unfold sGive at hm
  split at hm
  · rename_i d e
    have n := s.give e
    obtain ⟨fp1, s1⟩ := n.sim
    exact q F N _ σ H _ fp1 Z r s1 hm (po.step n)
  · cases hm
end
end Vs

set_option Elab.async false
set_option linter.all false
set_option maxRecDepth 100000
set_option maxHeartbeats 4000000
namespace Vs
open PySem L2
section
variable {P : Program} {w : World} {K : PySem.W.Frag} {mg : Str → Option Value} {base : Heap} {N : List Str} {qual : Str} {sc : Scope} {f : Addr} {cdv : Value} {A : Around} {outer : List Env} {s : Shared} {H : Hp} {E : XK}
abbrev cxV (P : Program) (w : World) (K : PySem.W.Frag) (mg : Str → Option Value) (base : Heap) (N : List Str) (qual : Str) (sc : Scope) (f : Addr) (cdv : Value) (A : Around) (outer : List Env) (s : Shared) (H : Hp) (E : XK) : Cx := cxOf (L2.CX P w) P w K mg base N qual sc f cdv A outer s H E
theorem takesE : Takes (cxV P w K mg base N qual sc f cdv A outer s H E) (fun cls d _ H => E cls d H) := takes_of rfl rfl rfl rfl
theorem passE : Passes (L2.CX P w) (cxV P w K mg base N qual sc f cdv A outer s H E) E := passes_call takesE fun _ _ _ _ h => h
theorem passO : PassesOwn (model P w) (cxV P w K mg base N qual sc f cdv A outer s H E).A (cxV P w K mg base N qual sc f cdv A outer s H E).env (cxV P w K mg base N qual sc f cdv A outer s H E).xe := passes_of rfl
theorem _root_.L2.FunD.fun {x qual : Str} {st : Stmt} {fd : FuncData} (F : FunD K x qual (defArgs st) (defBody st) (defScope st) [] [] f fd) : Fun K x qual st f fd := by
  obtain ⟨oc, od, dV, kV, doc, pm, an, cdv, ct, osl, e, lk, hcd, hD, _⟩ := F.ex
  rcases hD with ⟨_, rfl⟩ | ⟨z, _⟩
  · exact ⟨⟨oc, od, kV, doc, pm, an, cdv, ct, osl, e, lk, hcd⟩, F.kp⟩
  · exact absurd rfl z
/-- a def that is called -/
structure Cal (P : Program) (w : World) (K : PySem.W.Frag) (mg : Str → Option Value) (base : Heap) (k : Nat) (x : Str) (ps : List Str) (ms : List Bool) (sem : Sem0) : Prop where
  ex : ∃ f fd, FnG P w K mg base k f fd ps (spV ⟨mg, K⟩ ps.length ms sem) ∧ mg x = some (.ref f) ∧ PySem.W.keepIn K (.ref f) = true ∧ Binds K fd ps []
theorem okD {x qual : Str} {st : Stmt} {fd : FuncData} {ps : List Str} {k : Nat} (m : MS) (ms : List Bool) (F : FunD K x qual (defArgs st) (defBody st) (defScope st) [] [] f fd) (S : FnScope N ps (defScope st))
    (hb : ∀ (E : XK) (cdv : Value) (A : Around) (outer : List Env) (s : Shared) (H : Hp), (cxV P w K mg base N qual (defScope st) f cdv A outer s H E).A.guards = some [] → Room k (cxV P w K mg base N qual (defScope st) f cdv A outer s H E).A → VSs (cxV P w K mg base N qual (defScope st) f cdv A outer s H E) E (defBody st) m) :
    FnG P w K mg base (k + 1) f fd ps (spV ⟨mg, K⟩ ps.length ms (runF ms N.length m)) :=
  Fun.okV F.fun S fun X E cdv A outer s H e hg hr => by
    subst e
    exact ⟨m, hb E cdv A outer s H hg hr, fun ds r _ h => h⟩
theorem okC {x qual : Str} {st : Stmt} {fd : FuncData} {ps : List Str} {k : Nat} (m : MS) (ms : List Bool) (F : FunD K x qual (defArgs st) (defBody st) (defScope st) [] [] f fd) (hx : mg x = some (.ref f)) (S : FnScope N ps (defScope st))
    (hbd : ∀ (kV doc pm : Value) (an : Option Addr) (cdv ct : Value) (us : List Value), us.length = ps.length → bindArgs (PySem.W.fnOf x qual (defArgs st) (defBody st) (defScope st) .none kV doc pm an cdv ct) ⟨us, []⟩ = pure (ps.zip us))
    (hb : ∀ (E : XK) (cdv : Value) (A : Around) (outer : List Env) (s : Shared) (H : Hp), (cxV P w K mg base N qual (defScope st) f cdv A outer s H E).A.guards = some [] → Room k (cxV P w K mg base N qual (defScope st) f cdv A outer s H E).A → VSs (cxV P w K mg base N qual (defScope st) f cdv A outer s H E) E (defBody st) m) :
    Cal P w K mg base (k + 1) x ps ms (runF ms N.length m) := ⟨f, fd, okD m ms F S hb, hx, F.kp, F.bindsN hbd⟩
end
section
variable {X : Cx} {E : XK} {x : Str} {k : Nat} {ps : List Str} {ms : List Bool} {sem : Sem0} {p pos : Pos} {e : Expr} {es : List Expr}
theorem vp_cal {pa : Rho → Option (List D)} (C : Cal X.prog X.w X.K X.mg X.base k x ps [] sem) (hr : Room k X.A) (hgd : X.A.guards = some []) (hg : Gl X x) (ha : VA X (e :: es) pa) (hdb : (x == ("__debug__" : Str)) = false := by decide) (he : starEach (e :: es) X.env = (false, eval e X.env) :: starEach es X.env := by rfl)
    (hpl : (backTo pos (starEach es X.env)).any (·.1) = false := by rfl) : VP X (.Call (.Name x p) (e :: es) [] pos) (pCall (fnP ps.length sem) pa) := by
  obtain ⟨f, fd, F, h1, h2, h3⟩ := C.ex
  exact vp_fn F hr hgd hg h1 h2 h3 ha hdb he hpl
theorem vf_cal {pa : Rho → Option (List D)} (C : Cal X.prog X.w X.K X.mg X.base k x ps [] sem) (hr : Room k X.A) (hgd : X.A.guards = some []) (hg : Gl X x) (ha : VA X (e :: es) pa) (hdb : (x == ("__debug__" : Str)) = false := by decide) (he : starEach (e :: es) X.env = (false, eval e X.env) :: starEach es X.env := by rfl)
    (hpl : (backTo pos (starEach es X.env)).any (·.1) = false := by rfl) : VF X (.Call (.Name x p) (e :: es) [] pos) (pCall (fnO ps.length sem) pa) := by
  obtain ⟨f, fd, F, h1, h2, h3⟩ := C.ex
  exact vf_fn F hr hgd hg h1 h2 h3 ha hdb he hpl
theorem ve_cal {is : List (Option Nat)} {ma : M0 (List D)} (C : Cal X.prog X.w X.K X.mg X.base k x ps ms sem) (hr : Room k X.A) (hgd : X.A.guards = some []) (hg : Gl X x) (hx : Passes (L2.CX X.prog X.w) X E) (ha : VAm X E (e :: es) is ma) (h1 : agree ms is = true := by rfl) (h2 : is.Pairwise (fun a b => a = none ∨ a ≠ b) := by decide)
    (hdb : (x == ("__debug__" : Str)) = false := by decide) (he : starEach (e :: es) X.env = (false, eval e X.env) :: starEach es X.env := by rfl) (hpl : (backTo pos (starEach es X.env)).any (·.1) = false := by rfl) : VE X E (.Call (.Name x p) (e :: es) [] pos) (mFn ps.length sem is ma) := by
  obtain ⟨f, fd, F, h3, h4, h5⟩ := C.ex
  exact ve_fn F hr hgd hg h3 h4 h5 hx ha h1 h2 hdb he hpl
theorem vo_cal {is : List (Option Nat)} {ma : M0 (List D)} (C : Cal X.prog X.w X.K X.mg X.base k x ps ms sem) (hr : Room k X.A) (hgd : X.A.guards = some []) (hg : Gl X x) (hx : Passes (L2.CX X.prog X.w) X E) (ha : VAm X E (e :: es) is ma) (h1 : agree ms is = true := by rfl) (h2 : is.Pairwise (fun a b => a = none ∨ a ≠ b) := by decide)
    (hdb : (x == ("__debug__" : Str)) = false := by decide) (he : starEach (e :: es) X.env = (false, eval e X.env) :: starEach es X.env := by rfl) (hpl : (backTo pos (starEach es X.env)).any (·.1) = false := by rfl) : VO X E (.Call (.Name x p) (e :: es) [] pos) (mFnO ps.length sem is ma) := by
  obtain ⟨f, fd, F, h3, h4, h5⟩ := C.ex
  exact vo_fn F hr hgd hg h3 h4 h5 hx ha h1 h2 hdb he hpl
def maLd (i : Nat) (ms : M0 (List D)) : M0 (List D) := fun ρ => match ρ[i]? with
  | some (.ow _) => maLend ms ρ
  | some (.mu _) => maLend ms ρ
  | _ => none
theorem am_ld (i : Nat) {ma : M0 (List D)} {is : List (Option Nat)} (hr : VAm X E es is ma) (hN : X.N[i]? = some x := by rfl) (hv : Vis X.env.scope x := by first | exact Or.inl rfl | exact Or.inr (Or.inl rfl) | exact Or.inr (Or.inr rfl)) (hd : (x == ("__debug__" : Str)) = false := by decide)
    (hcd : (x == ("__classdict__" : Str)) = false := by decide) (hs : starEach (.Name x pos :: es) X.env = (false, eval (.Name x pos) X.env) :: starEach es X.env := by rfl) : VAm X E (.Name x pos :: es) (some i :: is) (maLd i ma) := am_lend i hr hN hv hd hcd hs
theorem p2_is : P2 X.gk (rIsC fun b => b) gIs := p2_isC
theorem p2_isNot : P2 X.gk (rIsC fun b => !b) gIsNot := p2_isC
theorem p2_in : P2 X.gk (rInX X.K false) gIn := p2_inX
theorem p2_notIn : P2 X.gk (rInX X.K true) gNotIn := p2_inX
end
theorem room_u {k : Nat} {A : Around} (h : Room k A) : A.units + 65 < cLine := by
  have := h.un
  omega
end Vs

set_option Elab.async false
set_option linter.all false
set_option maxRecDepth 100000
set_option maxHeartbeats 4000000
namespace K85
open PySem L2 Vs
def top (i : Nat) : Stmt := PySem.Challenge.pw_rankkeys_k85_decided_pairs.main.body.getD i (.Pass ⟨0, 0, 0, 0⟩)
abbrev FnP (K : PySem.W.Frag) (x : Str) (st : Stmt) (f : Addr) (fd : FuncData) : Prop := FunD K x x (defArgs st) (defBody st) (defScope st) [] [] f fd
section
variable {P : Program} {w : World} {K : PySem.W.Frag} {mg : Str → Option Value} {base : Heap} {f : Addr} {fd : FuncData}
abbrev st_is_name : Stmt := top 6
def m_is_name : MS := (sRet (mP (pAnd (fun ρ => ((pVar 0) ρ).bind (gIsi "str")) (pAnd (pChain gLe gLe (pC (.int 1)) (pCall gLen (aCons (pVar 0) aNil)) (pC (.int 8))) (pCall gAll (aCons (pComp [1] (iS (pVar 0)) [1] gOne pYes (p2 gIn (pVar 1) (pC (.str "abcdefghijklmnopqrstuvwxyz")))) aNil))))))
def sem_is_name : Sem0 := runF [] 2 m_is_name
theorem sc_is_name : FnScope ["thing", "sign"] ["thing"] (defScope st_is_name) := ⟨rfl, rfl, rfl, by decide +kernel, rfl, by decide +kernel, by decide +kernel⟩
theorem bd_is_name (kV doc pm : Value) (an : Option Addr) (cdv ct : Value) (us : List Value) (hl : us.length = (["thing"] : List Str).length) : bindArgs (PySem.W.fnOf "is_name" "is_name" (defArgs st_is_name) (defBody st_is_name) (defScope st_is_name) .none kV doc pm an cdv ct) ⟨us, []⟩ = pure ((["thing"] : List Str).zip us) := by
  match us, hl with | [_], _ => kernel_rfl
theorem vs_is_name (f_all : mg "all" = none) (f_isinstance : mg "isinstance" = none) (f_len : mg "len" = none) (f_str : mg "str" = none) (c_MAX_NAME : ∃ t, mg "MAX_NAME" = some (.int 8 t)) (c_LETTERS : ∃ t, mg "LETTERS" = some (.str "abcdefghijklmnopqrstuvwxyz" t)) (E : XK) (cdv : Value) (A : Around) (outer : List Env) (s : Shared) (H : Hp) (hgd : (cxV P w K mg base ["thing", "sign"] "is_name" (defScope st_is_name) f cdv A outer s H E).A.guards = some []) (hr : Room 0 (cxV P w K mg base ["thing", "sign"] "is_name" (defScope st_is_name) f cdv A outer s H E).A) :
    VSs (cxV P w K mg base ["thing", "sign"] "is_name" (defScope st_is_name) f cdv A outer s H E) E (defBody st_is_name) m_is_name := by
  have hu65 := room_u hr
  have hu64 := Nat.lt_of_succ_lt hu65
  unfold m_is_name
  exact (vss_one (vs_ret ((VP.ve ((vp_and ((vp_isi ((vp_var 0)) (vty_cons (by rfl) f_str (by rfl) vty_nil) (by rfl) f_isinstance (by rfl))) (vp_and ((vp_chain op_leX p2_le op_leX p2_le (vp_int) ((vp_callB cr_lenX p1_len (by rfl) f_len (by rfl) (va_cons ((vp_var 0)) va_nil))) ((vp_gint (by rfl) c_MAX_NAME)))) (vp_one ((vp_callB (cr_all rfl) p1_all (by rfl) f_all (by rfl) (va_cons ((VF.vp ((vf_lc (own := [("sign", 1)]) rfl sc_is_name.nd (vi_str ((vp_var 0))) (blkOk_by (by kernel_rfl)) (by decide) (fun _ _ _ _ _ => (vg_name 1 sc_is_name.nd rfl (by first | exact Or.inl rfl | exact Or.inr rfl))) (fun _ _ _ _ _ => (vp_cmp (op_inX (by exact hu65)) p2_in ((vp_var 1)) ((vp_gstr (by rfl) c_LETTERS)) rfl)))))) va_nil)))))))))))
theorem ok_is_name (F : FnP K "is_name" st_is_name f fd) (hx : mg "is_name" = some (.ref f)) (f_all : mg "all" = none) (f_isinstance : mg "isinstance" = none) (f_len : mg "len" = none) (f_str : mg "str" = none) (c_MAX_NAME : ∃ t, mg "MAX_NAME" = some (.int 8 t)) (c_LETTERS : ∃ t, mg "LETTERS" = some (.str "abcdefghijklmnopqrstuvwxyz" t)) : Cal P w K mg base 1 "is_name" ["thing"] [] sem_is_name :=
  okC (N := ["thing", "sign"]) (st := st_is_name) (k := 0) m_is_name [] F hx sc_is_name bd_is_name (vs_is_name f_all f_isinstance f_len f_str c_MAX_NAME c_LETTERS)

abbrev st_are_different_names : Stmt := top 8
def m_are_different_names : MS := (sSeq (sIf (mB (tOr2 (tNot1 (tP (fun ρ => ((pVar 0) ρ).bind (gIsiT ["list", "tuple"])))) (tNot1 (tP (pCall gAll (aCons (pComp [1] (iSeq (pVar 0)) [1] gOne pYes (pCall (fnP 1 sem_is_name) (aCons (pVar 1) aNil))) aNil)))))) (sRet (mP (pC (.bl false)))) sNil)
    (sRet (mP (p2 gEq (fun ρ => ((xComp [1] (iSeq (pVar 0)) [1] gOne (pVar 1)) ρ).map fun l => .int (l.length : Nat)) (pCall gLen (aCons (pVar 0) aNil))))))
def sem_are_different_names : Sem0 := runF [] 2 m_are_different_names
theorem sc_are_different_names : FnScope ["thing", "name"] ["thing"] (defScope st_are_different_names) := ⟨rfl, rfl, rfl, by decide +kernel, rfl, by decide +kernel, by decide +kernel⟩
theorem bd_are_different_names (kV doc pm : Value) (an : Option Addr) (cdv ct : Value) (us : List Value) (hl : us.length = (["thing"] : List Str).length) : bindArgs (PySem.W.fnOf "are_different_names" "are_different_names" (defArgs st_are_different_names) (defBody st_are_different_names) (defScope st_are_different_names) .none kV doc pm an cdv ct) ⟨us, []⟩ = pure ((["thing"] : List Str).zip us) := by
  match us, hl with | [_], _ => kernel_rfl
theorem vs_are_different_names (C_is_name : Cal P w K mg base 1 "is_name" ["thing"] [] sem_is_name) (f_all : mg "all" = none) (f_isinstance : mg "isinstance" = none) (f_len : mg "len" = none) (f_list : mg "list" = none) (f_tuple : mg "tuple" = none) (E : XK) (cdv : Value) (A : Around) (outer : List Env) (s : Shared) (H : Hp) (hgd : (cxV P w K mg base ["thing", "name"] "are_different_names" (defScope st_are_different_names) f cdv A outer s H E).A.guards = some []) (hr : Room 1 (cxV P w K mg base ["thing", "name"] "are_different_names" (defScope st_are_different_names) f cdv A outer s H E).A) :
    VSs (cxV P w K mg base ["thing", "name"] "are_different_names" (defScope st_are_different_names) f cdv A outer s H E) E (defBody st_are_different_names) m_are_different_names := by
  have hu65 := room_u hr
  have hu64 := Nat.lt_of_succ_lt hu65
  unfold m_are_different_names
  exact (vss_cons (vs_if (VT.te ((VW.vt (vw_or (vt_not (vt_val ((vp_isiT ((vp_var 0)) (vty_cons (by rfl) f_list (by rfl) (vty_cons (by rfl) f_tuple (by rfl) vty_nil)) (by decide) (by rfl) f_isinstance (by rfl))))) (vw_or1 (vt_not (vt_val ((vp_callB (cr_all rfl) p1_all (by rfl) f_all (by rfl) (va_cons ((VF.vp ((vf_lc (own := [("name", 1)]) rfl sc_are_different_names.nd (vi_seq ((vp_var 0))) (blkOk_by (by kernel_rfl)) (by decide) (fun _ _ _ _ _ => (vg_name 1 sc_are_different_names.nd rfl (by first | exact Or.inl rfl | exact Or.inr rfl))) (fun _ _ _ _ _ => (vp_cal (x := "is_name") (ps := ["thing"]) (sem := sem_is_name) (k := 1) (by exact C_is_name) (by exact Room.mono (j := 1) hr (by decide)) (by exact hgd) (by rfl) (va_cons ((vp_var 1)) va_nil))))))) va_nil)))))))))) (vss_one (vs_ret ((VP.ve (vp_bl))))) vss_nil)
    (vss_one (vs_ret ((VP.ve ((vp_cmp (op_eqX (by exact hu64)) p2_eq ((vp_lenX (vx_comp (own := [("name", 1)]) rfl sc_are_different_names.nd (vi_seq ((vp_var 0))) (blkOk_by (by kernel_rfl)) (by decide) (fun _ _ _ _ _ => (vg_name 1 sc_are_different_names.nd rfl (by first | exact Or.inl rfl | exact Or.inr rfl))) (fun _ _ _ _ _ => (vp_var 1))) (by rfl) f_len (by rfl))) ((vp_callB cr_lenX p1_len (by rfl) f_len (by rfl) (va_cons ((vp_var 0)) va_nil))) rfl)))))))
theorem ok_are_different_names (F : FnP K "are_different_names" st_are_different_names f fd) (hx : mg "are_different_names" = some (.ref f)) (C_is_name : Cal P w K mg base 1 "is_name" ["thing"] [] sem_is_name) (f_all : mg "all" = none) (f_isinstance : mg "isinstance" = none) (f_len : mg "len" = none) (f_list : mg "list" = none) (f_tuple : mg "tuple" = none) : Cal P w K mg base 2 "are_different_names" ["thing"] [] sem_are_different_names :=
  okC (N := ["thing", "name"]) (st := st_are_different_names) (k := 1) m_are_different_names [] F hx sc_are_different_names bd_are_different_names (vs_are_different_names C_is_name f_all f_isinstance f_len f_list f_tuple)

abbrev st_check_orders : Stmt := top 10
def m_check_orders : MS := (sIf (mB (tNot1 (tP (pCall gAll (aCons (pComp [3] (iSeq (pTup (aCons (pVar 0) (aCons (pVar 1) (aCons (pVar 2) aNil))))) [3] gOne pYes (pCall (fnP 1 sem_are_different_names) (aCons (pVar 3) aNil))) aNil))))) (fun _ => none) sNil)
def sem_check_orders : Sem0 := runF [] 4 m_check_orders
theorem sc_check_orders : FnScope ["base", "one", "two", "some"] ["base", "one", "two"] (defScope st_check_orders) := ⟨rfl, rfl, rfl, by decide +kernel, rfl, by decide +kernel, by decide +kernel⟩
theorem bd_check_orders (kV doc pm : Value) (an : Option Addr) (cdv ct : Value) (us : List Value) (hl : us.length = (["base", "one", "two"] : List Str).length) : bindArgs (PySem.W.fnOf "check_orders" "check_orders" (defArgs st_check_orders) (defBody st_check_orders) (defScope st_check_orders) .none kV doc pm an cdv ct) ⟨us, []⟩ = pure ((["base", "one", "two"] : List Str).zip us) := by
  match us, hl with | [_, _, _], _ => kernel_rfl
theorem vs_check_orders (C_are_different_names : Cal P w K mg base 2 "are_different_names" ["thing"] [] sem_are_different_names) (f_all : mg "all" = none) (E : XK) (cdv : Value) (A : Around) (outer : List Env) (s : Shared) (H : Hp) (hgd : (cxV P w K mg base ["base", "one", "two", "some"] "check_orders" (defScope st_check_orders) f cdv A outer s H E).A.guards = some []) (hr : Room 2 (cxV P w K mg base ["base", "one", "two", "some"] "check_orders" (defScope st_check_orders) f cdv A outer s H E).A) :
    VSs (cxV P w K mg base ["base", "one", "two", "some"] "check_orders" (defScope st_check_orders) f cdv A outer s H E) E (defBody st_check_orders) m_check_orders := by
  have hu65 := room_u hr
  have hu64 := Nat.lt_of_succ_lt hu65
  unfold m_check_orders
  exact (vss_one (vs_if (VT.te ((vt_not (vt_val ((vp_callB (cr_all rfl) p1_all (by rfl) f_all (by rfl) (va_cons ((VF.vp ((vf_lc (own := [("some", 3)]) rfl sc_check_orders.nd (vi_seq ((vp_tup (va_cons ((vp_var 0)) (va_cons ((vp_var 1)) (va_cons ((vp_var 2)) va_nil)))))) (blkOk_by (by kernel_rfl)) (by decide) (fun _ _ _ _ _ => (vg_name 3 sc_check_orders.nd rfl (by first | exact Or.inl rfl | exact Or.inr rfl))) (fun _ _ _ _ _ => (vp_cal (x := "are_different_names") (ps := ["thing"]) (sem := sem_are_different_names) (k := 2) (by exact C_are_different_names) (by exact Room.mono (j := 2) hr (by decide)) (by exact hgd) (by rfl) (va_cons ((vp_var 3)) va_nil))))))) va_nil))))))) (vss_one vs_never) vss_nil))
theorem ok_check_orders (F : FnP K "check_orders" st_check_orders f fd) (hx : mg "check_orders" = some (.ref f)) (C_are_different_names : Cal P w K mg base 2 "are_different_names" ["thing"] [] sem_are_different_names) (f_all : mg "all" = none) : Cal P w K mg base 3 "check_orders" ["base", "one", "two"] [] sem_check_orders :=
  okC (N := ["base", "one", "two", "some"]) (st := st_check_orders) (k := 2) m_check_orders [] F hx sc_check_orders bd_check_orders (vs_check_orders C_are_different_names f_all)

abbrev st_merged_names : Stmt := top 11
def m_merged_names : MS := (sSeq (sSet 3 (mP (pComp [4] (iSeq (pVar 1)) [4] gOne (tOr2 (tP (p2 gIn (pVar 4) (pVar 2))) (tP (p2 gNotIn (pVar 4) (pVar 0)))) (pVar 4))))
    (sRetO (mP (pCall gSorted (aCons (p2 gAdd (pVar 3) (pComp [4] (iSeq (pVar 2)) [4] gOne (tAnd2 (tP (p2 gNotIn (pVar 4) (pVar 1))) (tP (p2 gNotIn (pVar 4) (pVar 0)))) (pVar 4))) aNil)))))
def sem_merged_names : Sem0 := runF [] 5 m_merged_names
theorem sc_merged_names : FnScope ["base", "one", "two", "found", "name"] ["base", "one", "two"] (defScope st_merged_names) := ⟨rfl, rfl, rfl, by decide +kernel, rfl, by decide +kernel, by decide +kernel⟩
theorem bd_merged_names (kV doc pm : Value) (an : Option Addr) (cdv ct : Value) (us : List Value) (hl : us.length = (["base", "one", "two"] : List Str).length) : bindArgs (PySem.W.fnOf "merged_names" "merged_names" (defArgs st_merged_names) (defBody st_merged_names) (defScope st_merged_names) .none kV doc pm an cdv ct) ⟨us, []⟩ = pure ((["base", "one", "two"] : List Str).zip us) := by
  match us, hl with | [_, _, _], _ => kernel_rfl
theorem vs_merged_names (f_sorted : mg "sorted" = none) (E : XK) (cdv : Value) (A : Around) (outer : List Env) (s : Shared) (H : Hp) (hgd : (cxV P w K mg base ["base", "one", "two", "found", "name"] "merged_names" (defScope st_merged_names) f cdv A outer s H E).A.guards = some []) (hr : Room 0 (cxV P w K mg base ["base", "one", "two", "found", "name"] "merged_names" (defScope st_merged_names) f cdv A outer s H E).A) :
    VSs (cxV P w K mg base ["base", "one", "two", "found", "name"] "merged_names" (defScope st_merged_names) f cdv A outer s H E) E (defBody st_merged_names) m_merged_names := by
  have hu65 := room_u hr
  have hu64 := Nat.lt_of_succ_lt hu65
  unfold m_merged_names
  exact (vss_cons (vs_setL (i := 3) (vl_lcIf (own := [("name", 4)]) rfl sc_merged_names.nd (vi_seq ((vp_var 1))) (blkOk_by (by kernel_rfl)) (by decide) (fun _ _ _ _ _ => (vg_name 4 sc_merged_names.nd rfl (by first | exact Or.inl rfl | exact Or.inr rfl))) (fun _ _ _ _ _ => (VW.vt (vw_or (vt_cmp (op_inX (by exact hu65)) p2_in ((vp_var 4)) ((vp_var 2)) rfl) (vw_or1 (vt_cmp (op_notInX (by exact hu65)) p2_notIn ((vp_var 4)) ((vp_var 0)) rfl))))) (fun _ _ _ _ _ => (vp_var 4))) rfl rfl rfl)
    (vss_one (vs_retO ((VF.vo ((vf_callB (cr_sortedX (by exact hu65)) f1_sorted (by rfl) f_sorted (by rfl) (va_cons ((vp_op op_addX p2_add ((vp_var 3)) ((VF.vp ((vf_lcIf (own := [("name", 4)]) rfl sc_merged_names.nd (vi_seq ((vp_var 2))) (blkOk_by (by kernel_rfl)) (by decide) (fun _ _ _ _ _ => (vg_name 4 sc_merged_names.nd rfl (by first | exact Or.inl rfl | exact Or.inr rfl))) (fun _ _ _ _ _ => (VW.vt (vw_and (vt_cmp (op_notInX (by exact hu65)) p2_notIn ((vp_var 4)) ((vp_var 1)) rfl) (vw_and1 (vt_cmp (op_notInX (by exact hu65)) p2_notIn ((vp_var 4)) ((vp_var 0)) rfl))))) (fun _ _ _ _ _ => (vp_var 4)))))))) va_nil))))))))
theorem ok_merged_names (F : FnP K "merged_names" st_merged_names f fd) (hx : mg "merged_names" = some (.ref f)) (f_sorted : mg "sorted" = none) : Cal P w K mg base 1 "merged_names" ["base", "one", "two"] [] sem_merged_names :=
  okC (N := ["base", "one", "two", "found", "name"]) (st := st_merged_names) (k := 0) m_merged_names [] F hx sc_merged_names bd_merged_names (vs_merged_names f_sorted)

abbrev st_comes_before : Stmt := top 12
def m_comes_before : MS := (sSeq (sIf (mB (tOr2 (tP (p2 gNotIn (pVar 1) (pVar 0))) (tP (p2 gNotIn (pVar 2) (pVar 0))))) (sRet (mP (pC .non))) sNil)
    (sRet (mP (p2 gLt (pMt gIndex (pVar 0) (aCons (pVar 1) aNil)) (pMt gIndex (pVar 0) (aCons (pVar 2) aNil))))))
def sem_comes_before : Sem0 := runF [] 3 m_comes_before
theorem sc_comes_before : FnScope ["order", "first", "second"] ["order", "first", "second"] (defScope st_comes_before) := ⟨rfl, rfl, rfl, by decide +kernel, rfl, by decide +kernel, by decide +kernel⟩
theorem bd_comes_before (kV doc pm : Value) (an : Option Addr) (cdv ct : Value) (us : List Value) (hl : us.length = (["order", "first", "second"] : List Str).length) : bindArgs (PySem.W.fnOf "comes_before" "comes_before" (defArgs st_comes_before) (defBody st_comes_before) (defScope st_comes_before) .none kV doc pm an cdv ct) ⟨us, []⟩ = pure ((["order", "first", "second"] : List Str).zip us) := by
  match us, hl with | [_, _, _], _ => kernel_rfl
theorem vs_comes_before (E : XK) (cdv : Value) (A : Around) (outer : List Env) (s : Shared) (H : Hp) (hgd : (cxV P w K mg base ["order", "first", "second"] "comes_before" (defScope st_comes_before) f cdv A outer s H E).A.guards = some []) (hr : Room 0 (cxV P w K mg base ["order", "first", "second"] "comes_before" (defScope st_comes_before) f cdv A outer s H E).A) :
    VSs (cxV P w K mg base ["order", "first", "second"] "comes_before" (defScope st_comes_before) f cdv A outer s H E) E (defBody st_comes_before) m_comes_before := by
  have hu65 := room_u hr
  have hu64 := Nat.lt_of_succ_lt hu65
  unfold m_comes_before
  exact (vss_cons (vs_if (VT.te ((VW.vt (vw_or (vt_cmp (op_notInX (by exact hu65)) p2_notIn ((vp_var 1)) ((vp_var 0)) rfl) (vw_or1 (vt_cmp (op_notInX (by exact hu65)) p2_notIn ((vp_var 2)) ((vp_var 0)) rfl)))))) (vss_one (vs_ret ((VP.ve (vp_non))))) vss_nil)
    (vss_one (vs_ret ((VP.ve ((vp_cmp op_ltX p2_lt ((vp_index ((vp_var 0)) (va_cons ((vp_var 1)) va_nil))) ((vp_index ((vp_var 0)) (va_cons ((vp_var 2)) va_nil))) rfl)))))))
theorem ok_comes_before (F : FnP K "comes_before" st_comes_before f fd) (hx : mg "comes_before" = some (.ref f)) : Cal P w K mg base 1 "comes_before" ["order", "first", "second"] [] sem_comes_before :=
  okC (N := ["order", "first", "second"]) (st := st_comes_before) (k := 0) m_comes_before [] F hx sc_comes_before bd_comes_before (vs_comes_before)

abbrev st_is_decided : Stmt := top 13
def m_is_decided : MS := (sSeq (sPar 5 6 (maCons (mP (pCall (fnP 3 sem_comes_before) (aCons (pVar 1) (aCons (pVar 3) (aCons (pVar 4) aNil))))) (maCons (mP (pCall (fnP 3 sem_comes_before) (aCons (pVar 2) (aCons (pVar 3) (aCons (pVar 4) aNil))))) maNil)))
    (sSeq (sIf (mB (tOr2 (tP (p2 gIs (pVar 5) (pC .non))) (tP (p2 gIs (pVar 6) (pC .non))))) (sRet (mP (pOr (p2 gIs (pVar 5) (pC (.bl true))) (p2 gIs (pVar 6) (pC (.bl true)))))) sNil)
    (sSeq (sIf (mB (tP (p2 gEq (pVar 5) (pVar 6)))) (sRet (mP (pVar 5))) sNil)
    (sRet (mP (p2 gIs (pCall (fnP 3 sem_comes_before) (aCons (pVar 0) (aCons (pVar 3) (aCons (pVar 4) aNil)))) (pC (.bl false))))))))
def sem_is_decided : Sem0 := runF [] 7 m_is_decided
theorem sc_is_decided : FnScope ["base", "one", "two", "first", "second", "left", "right"] ["base", "one", "two", "first", "second"] (defScope st_is_decided) := ⟨rfl, rfl, rfl, by decide +kernel, rfl, by decide +kernel, by decide +kernel⟩
theorem bd_is_decided (kV doc pm : Value) (an : Option Addr) (cdv ct : Value) (us : List Value) (hl : us.length = (["base", "one", "two", "first", "second"] : List Str).length) : bindArgs (PySem.W.fnOf "is_decided" "is_decided" (defArgs st_is_decided) (defBody st_is_decided) (defScope st_is_decided) .none kV doc pm an cdv ct) ⟨us, []⟩ = pure ((["base", "one", "two", "first", "second"] : List Str).zip us) := by
  match us, hl with | [_, _, _, _, _], _ => kernel_rfl
theorem vs_is_decided (C_comes_before : Cal P w K mg base 1 "comes_before" ["order", "first", "second"] [] sem_comes_before) (E : XK) (cdv : Value) (A : Around) (outer : List Env) (s : Shared) (H : Hp) (hgd : (cxV P w K mg base ["base", "one", "two", "first", "second", "left", "right"] "is_decided" (defScope st_is_decided) f cdv A outer s H E).A.guards = some []) (hr : Room 1 (cxV P w K mg base ["base", "one", "two", "first", "second", "left", "right"] "is_decided" (defScope st_is_decided) f cdv A outer s H E).A) :
    VSs (cxV P w K mg base ["base", "one", "two", "first", "second", "left", "right"] "is_decided" (defScope st_is_decided) f cdv A outer s H E) E (defBody st_is_decided) m_is_decided := by
  have hu65 := room_u hr
  have hu64 := Nat.lt_of_succ_lt hu65
  unfold m_is_decided
  exact (vss_cons (vs_par rfl sc_is_decided.nd rfl rfl rfl rfl (ae_cons ((VP.ve ((vp_cal (x := "comes_before") (ps := ["order", "first", "second"]) (sem := sem_comes_before) (k := 1) (by exact C_comes_before) (by exact Room.mono (j := 1) hr (by decide)) (by exact hgd) (by rfl) (va_cons ((vp_var 1)) (va_cons ((vp_var 3)) (va_cons ((vp_var 4)) va_nil))))))) (ae_cons ((VP.ve ((vp_cal (x := "comes_before") (ps := ["order", "first", "second"]) (sem := sem_comes_before) (k := 1) (by exact C_comes_before) (by exact Room.mono (j := 1) hr (by decide)) (by exact hgd) (by rfl) (va_cons ((vp_var 2)) (va_cons ((vp_var 3)) (va_cons ((vp_var 4)) va_nil))))))) ae_nil)) rfl)
    (vss_cons (vs_if (VT.te ((VW.vt (vw_or (vt_cmp op_isX p2_is ((vp_var 5)) (vp_non) rfl) (vw_or1 (vt_cmp op_isX p2_is ((vp_var 6)) (vp_non) rfl)))))) (vss_one (vs_ret ((VP.ve ((vp_or ((vp_cmp op_isX p2_is ((vp_var 5)) (vp_bl) rfl)) (vp_one ((vp_cmp op_isX p2_is ((vp_var 6)) (vp_bl) rfl))))))))) vss_nil)
    (vss_cons (vs_if (VT.te ((vt_cmp (op_eqX (by exact hu64)) p2_eq ((vp_var 5)) ((vp_var 6)) rfl))) (vss_one (vs_ret ((VP.ve ((vp_var 5)))))) vss_nil)
    (vss_one (vs_ret ((VP.ve ((vp_cmp op_isX p2_is ((vp_cal (x := "comes_before") (ps := ["order", "first", "second"]) (sem := sem_comes_before) (k := 1) (by exact C_comes_before) (by exact Room.mono (j := 1) hr (by decide)) (by exact hgd) (by rfl) (va_cons ((vp_var 0)) (va_cons ((vp_var 3)) (va_cons ((vp_var 4)) va_nil))))) (vp_bl) rfl)))))))))
theorem ok_is_decided (F : FnP K "is_decided" st_is_decided f fd) (hx : mg "is_decided" = some (.ref f)) (C_comes_before : Cal P w K mg base 1 "comes_before" ["order", "first", "second"] [] sem_comes_before) : Cal P w K mg base 2 "is_decided" ["base", "one", "two", "first", "second"] [] sem_is_decided :=
  okC (N := ["base", "one", "two", "first", "second", "left", "right"]) (st := st_is_decided) (k := 1) m_is_decided [] F hx sc_is_decided bd_is_decided (vs_is_decided C_comes_before)

abbrev st_earlier_names : Stmt := top 14
def m_earlier_names : MS := (sSeq (sSet 3 (mP (pCall (fnO 3 sem_merged_names) (aCons (pVar 0) (aCons (pVar 1) (aCons (pVar 2) aNil))))))
    (sSeq (sOwn 4 (mP (pC (.dct []))))
    (sSeq (sFor (mP (iSeq (pVar 3))) [5] gOne (sStore 4 (mP (pVar 5)) (mP (pComp [6] (iSeq (pVar 3)) [6] gOne (tAnd2 (tP (p2 gNe (pVar 6) (pVar 5))) (tP (pCall (fnP 5 sem_is_decided) (aCons (pVar 0) (aCons (pVar 1) (aCons (pVar 2) (aCons (pVar 6) (aCons (pVar 5) aNil)))))))) (pVar 6)))))
    (sRetV 4))))
def sem_earlier_names : Sem0 := runF [] 7 m_earlier_names
theorem sc_earlier_names : FnScope ["base", "one", "two", "names", "found", "name", "other"] ["base", "one", "two"] (defScope st_earlier_names) := ⟨rfl, rfl, rfl, by decide +kernel, rfl, by decide +kernel, by decide +kernel⟩
theorem bd_earlier_names (kV doc pm : Value) (an : Option Addr) (cdv ct : Value) (us : List Value) (hl : us.length = (["base", "one", "two"] : List Str).length) : bindArgs (PySem.W.fnOf "earlier_names" "earlier_names" (defArgs st_earlier_names) (defBody st_earlier_names) (defScope st_earlier_names) .none kV doc pm an cdv ct) ⟨us, []⟩ = pure ((["base", "one", "two"] : List Str).zip us) := by
  match us, hl with | [_, _, _], _ => kernel_rfl
theorem vs_earlier_names (C_merged_names : Cal P w K mg base 1 "merged_names" ["base", "one", "two"] [] sem_merged_names) (C_is_decided : Cal P w K mg base 2 "is_decided" ["base", "one", "two", "first", "second"] [] sem_is_decided) (E : XK) (cdv : Value) (A : Around) (outer : List Env) (s : Shared) (H : Hp) (hgd : (cxV P w K mg base ["base", "one", "two", "names", "found", "name", "other"] "earlier_names" (defScope st_earlier_names) f cdv A outer s H E).A.guards = some []) (hr : Room 2 (cxV P w K mg base ["base", "one", "two", "names", "found", "name", "other"] "earlier_names" (defScope st_earlier_names) f cdv A outer s H E).A) :
    VSs (cxV P w K mg base ["base", "one", "two", "names", "found", "name", "other"] "earlier_names" (defScope st_earlier_names) f cdv A outer s H E) E (defBody st_earlier_names) m_earlier_names := by
  have hu65 := room_u hr
  have hu64 := Nat.lt_of_succ_lt hu65
  unfold m_earlier_names
  exact (vss_cons (vs_set (i := 3) sc_earlier_names.nd rfl (by first | exact Or.inl rfl | exact Or.inr rfl) ((VP.ve (VF.vp ((vf_cal (x := "merged_names") (ps := ["base", "one", "two"]) (sem := sem_merged_names) (k := 1) (by exact C_merged_names) (by exact Room.mono (j := 1) hr (by decide)) (by exact hgd) (by rfl) (va_cons ((vp_var 0)) (va_cons ((vp_var 1)) (va_cons ((vp_var 2)) va_nil)))))))))
    (vss_cons (vs_own (i := 4) sc_earlier_names.nd rfl (by first | exact Or.inl rfl | exact Or.inr rfl) ((VF.vo (vf_dnew))))
    (vss_cons (vs_for passO rfl ((VIp.vi (vi_seq ((vp_var 3))))) (vg_name 5 sc_earlier_names.nd rfl (by first | exact Or.inl rfl | exact Or.inr rfl)) (vss_one (vs_store 4 (by exact hu65) rfl (by first | exact Or.inl rfl | exact Or.inr (Or.inl rfl) | exact Or.inr (Or.inr rfl)) ((VP.ve (VF.vp ((vf_lcIf (own := [("other", 6)]) rfl sc_earlier_names.nd (vi_seq ((vp_var 3))) (blkOk_by (by kernel_rfl)) (by decide) (fun _ _ _ _ _ => (vg_name 6 sc_earlier_names.nd rfl (by first | exact Or.inl rfl | exact Or.inr rfl))) (fun _ _ _ _ _ => (VW.vt (vw_and (vt_cmp (op_neX (by exact hu64)) p2_ne ((vp_var 6)) ((vp_var 5)) rfl) (vw_and1 (vt_val ((vp_cal (x := "is_decided") (ps := ["base", "one", "two", "first", "second"]) (sem := sem_is_decided) (k := 2) (by exact C_is_decided) (by exact Room.mono (j := 2) hr (by decide)) (by exact hgd) (by rfl) (va_cons ((vp_var 0)) (va_cons ((vp_var 1)) (va_cons ((vp_var 2)) (va_cons ((vp_var 6)) (va_cons ((vp_var 5)) va_nil)))))))))))) (fun _ _ _ _ _ => (vp_var 6))))))) ((VP.ve ((vp_var 5)))))))
    (vss_one (vs_retV 4)))))
theorem ok_earlier_names (F : FnP K "earlier_names" st_earlier_names f fd) (hx : mg "earlier_names" = some (.ref f)) (C_merged_names : Cal P w K mg base 1 "merged_names" ["base", "one", "two"] [] sem_merged_names) (C_is_decided : Cal P w K mg base 2 "is_decided" ["base", "one", "two", "first", "second"] [] sem_is_decided) : Cal P w K mg base 3 "earlier_names" ["base", "one", "two"] [] sem_earlier_names :=
  okC (N := ["base", "one", "two", "names", "found", "name", "other"]) (st := st_earlier_names) (k := 2) m_earlier_names [] F hx sc_earlier_names bd_earlier_names (vs_earlier_names C_merged_names C_is_decided)

abbrev st_decided : Stmt := top 15
def m_decided : MS := (sSeq (sExpr (mP (pCall (fnP 3 sem_check_orders) (aCons (pVar 0) (aCons (pVar 1) (aCons (pVar 2) aNil))))))
    (sSeq (sSet 3 (mP (pCall (fnO 3 sem_earlier_names) (aCons (pVar 0) (aCons (pVar 1) (aCons (pVar 2) aNil))))))
    (sRetO (mP (pCall gSorted (aCons (pComp2 [4, 5, 6] [6] (iIt (pVar 3)) [4, 5] (gTupD 2 (gsCons gOne (gsCons gOne gsNil))) (iSeq (pVar 5)) [6] gOne (pTup (aCons (pVar 6) (aCons (pVar 4) aNil)))) aNil))))))
def sem_decided : Sem0 := runF [] 7 m_decided
theorem sc_decided : FnScope ["base", "one", "two", "earlier", "name", "some", "other"] ["base", "one", "two"] (defScope st_decided) := ⟨rfl, rfl, rfl, by decide +kernel, rfl, by decide +kernel, by decide +kernel⟩
theorem bd_decided (kV doc pm : Value) (an : Option Addr) (cdv ct : Value) (us : List Value) (hl : us.length = (["base", "one", "two"] : List Str).length) : bindArgs (PySem.W.fnOf "decided" "decided" (defArgs st_decided) (defBody st_decided) (defScope st_decided) .none kV doc pm an cdv ct) ⟨us, []⟩ = pure ((["base", "one", "two"] : List Str).zip us) := by
  match us, hl with | [_, _, _], _ => kernel_rfl
theorem vs_decided (C_check_orders : Cal P w K mg base 3 "check_orders" ["base", "one", "two"] [] sem_check_orders) (C_earlier_names : Cal P w K mg base 3 "earlier_names" ["base", "one", "two"] [] sem_earlier_names) (f_sorted : mg "sorted" = none) (E : XK) (cdv : Value) (A : Around) (outer : List Env) (s : Shared) (H : Hp) (hgd : (cxV P w K mg base ["base", "one", "two", "earlier", "name", "some", "other"] "decided" (defScope st_decided) f cdv A outer s H E).A.guards = some []) (hr : Room 3 (cxV P w K mg base ["base", "one", "two", "earlier", "name", "some", "other"] "decided" (defScope st_decided) f cdv A outer s H E).A) :
    VSs (cxV P w K mg base ["base", "one", "two", "earlier", "name", "some", "other"] "decided" (defScope st_decided) f cdv A outer s H E) E (defBody st_decided) m_decided := by
  have hu65 := room_u hr
  have hu64 := Nat.lt_of_succ_lt hu65
  unfold m_decided
  exact (vss_cons (vs_expr ((VP.ve ((vp_cal (x := "check_orders") (ps := ["base", "one", "two"]) (sem := sem_check_orders) (k := 3) (by exact C_check_orders) (by exact Room.mono (j := 3) hr (by decide)) (by exact hgd) (by rfl) (va_cons ((vp_var 0)) (va_cons ((vp_var 1)) (va_cons ((vp_var 2)) va_nil))))))))
    (vss_cons (vs_set (i := 3) sc_decided.nd rfl (by first | exact Or.inl rfl | exact Or.inr rfl) ((VP.ve (VF.vp ((vf_cal (x := "earlier_names") (ps := ["base", "one", "two"]) (sem := sem_earlier_names) (k := 3) (by exact C_earlier_names) (by exact Room.mono (j := 3) hr (by decide)) (by exact hgd) (by rfl) (va_cons ((vp_var 0)) (va_cons ((vp_var 1)) (va_cons ((vp_var 2)) va_nil)))))))))
    (vss_one (vs_retO ((VF.vo ((vf_callB (cr_sortedX (by exact hu65)) f1_sorted (by rfl) f_sorted (by rfl) (va_cons ((VF.vp ((vf_lc2 (own := [("name", 4), ("some", 5), ("other", 6)]) (own1 := [6]) rfl sc_decided.nd ((vk_items (fun _ h => pi_items h) ((vp_var 3)))) (blkOk_by (by kernel_rfl)) (by decide) (by decide) (by decide) (fun _ _ _ _ _ => (vg_tup rfl (vgs_cons (vg_name 4 sc_decided.nd rfl (by first | exact Or.inl rfl | exact Or.inr rfl)) (vgs_cons (vg_name 5 sc_decided.nd rfl (by first | exact Or.inl rfl | exact Or.inr rfl)) vgs_nil)))) (fun _ _ _ _ _ => vi_seq ((vp_var 5))) (fun _ _ _ _ _ => (vg_name 6 sc_decided.nd rfl (by first | exact Or.inl rfl | exact Or.inr rfl))) (fun _ _ _ _ _ => (vp_tup (va_cons ((vp_var 6)) (va_cons ((vp_var 4)) va_nil)))))))) va_nil)))))))))
theorem ok_decided (F : FnP K "decided" st_decided f fd) (hx : mg "decided" = some (.ref f)) (C_check_orders : Cal P w K mg base 3 "check_orders" ["base", "one", "two"] [] sem_check_orders) (C_earlier_names : Cal P w K mg base 3 "earlier_names" ["base", "one", "two"] [] sem_earlier_names) (f_sorted : mg "sorted" = none) : Cal P w K mg base 4 "decided" ["base", "one", "two"] [] sem_decided :=
  okC (N := ["base", "one", "two", "earlier", "name", "some", "other"]) (st := st_decided) (k := 3) m_decided [] F hx sc_decided bd_decided (vs_decided C_check_orders C_earlier_names f_sorted)

abbrev st_pen : Stmt := top 17
def m_pen : MS := (sRetO (mP (pLst (aCons (pCall gList (aCons (fun ρ => (pVar 0 ρ).bind (gScr 60)) aNil)) (aCons (pC (.int 0)) (aCons (pC (.int 0)) aNil))))))
def sem_pen : Sem0 := runF [] 1 m_pen
theorem sc_pen : FnScope ["_law_script"] ["_law_script"] (defScope st_pen) := ⟨rfl, rfl, rfl, by decide +kernel, rfl, by decide +kernel, by decide +kernel⟩
theorem bd_pen (kV doc pm : Value) (an : Option Addr) (cdv ct : Value) (us : List Value) (hl : us.length = (["_law_script"] : List Str).length) : bindArgs (PySem.W.fnOf "_law_pen" "_law_pen" (defArgs st_pen) (defBody st_pen) (defScope st_pen) .none kV doc pm an cdv ct) ⟨us, []⟩ = pure ((["_law_script"] : List Str).zip us) := by
  match us, hl with | [_], _ => kernel_rfl
theorem vs_pen (f_list : mg "list" = none) (E : XK) (cdv : Value) (A : Around) (outer : List Env) (s : Shared) (H : Hp) (hgd : (cxV P w K mg base ["_law_script"] "_law_pen" (defScope st_pen) f cdv A outer s H E).A.guards = some []) (hr : Room 0 (cxV P w K mg base ["_law_script"] "_law_pen" (defScope st_pen) f cdv A outer s H E).A) :
    VSs (cxV P w K mg base ["_law_script"] "_law_pen" (defScope st_pen) f cdv A outer s H E) E (defBody st_pen) m_pen := by
  have hu65 := room_u hr
  have hu64 := Nat.lt_of_succ_lt hu65
  unfold m_pen
  exact (vss_one (vs_retO ((VF.vo ((vf_lst (va_cons ((VF.vp ((vf_callTy cr_listX f1_list (by rfl) f_list (by rfl) (va_cons ((VF.vp ((vf_script (vp_var 0))))) va_nil))))) (va_cons (vp_int) (va_cons (vp_int) va_nil)))))))))
theorem ok_pen (F : FnP K "_law_pen" st_pen f fd) (hx : mg "_law_pen" = some (.ref f)) (f_list : mg "list" = none) : Cal P w K mg base 1 "_law_pen" ["_law_script"] [] sem_pen :=
  okC (N := ["_law_script"]) (st := st_pen) (k := 0) m_pen [] F hx sc_pen bd_pen (vs_pen f_list)

abbrev st_next : Stmt := top 18
def m_next : MS := (sSeq (sSet 1 (mS (p2 gIx (pVar 0) (pC (.int 1)))))
    (sSeq (sStore 0 (mP (pC (.int 1))) (mP (p2 gAdd (pVar 1) (pC (.int 1)))))
    (sSeq (sSet 2 (mP (p2 gAdd (p2 (gI cMul fun i j => .int (i * j)) (pVar 1) (pC (.int 1033))) (pC (.int 17)))))
    (sSeq (sIf (mB (tP (p2 gNe (p2 gIx (pVar 0) (pC (.int 0))) (pLst aNil)))) (sSet 2 (mS (p2 gIx (p2 gIx (pVar 0) (pC (.int 0))) (p2 (gI cMod fun i j => .int (i % j)) (pVar 1) (pCall gLen (aCons (p2 gIx (pVar 0) (pC (.int 0))) aNil)))))) sNil)
    (sSeq (sIf (mB (tAnd2 (tP (p2 gLt (pVar 1) (pCall gLen (aCons (p2 gIx (pVar 0) (pC (.int 0))) aNil)))) (tP (p2 gGe (pVar 2) (p2 (gI cPow fun i j => .int (i ^ j.toNat)) (pC (.int 10)) (pC (.int 18))))))) (sRet (mP (pVar 2))) sNil)
    (sSeq (sSet 3 (mP (p2 (gI cMod fun i j => .int (i % j)) (p2 gAdd (p2 gAdd (p2 (gI cMod fun i j => .int (i % j)) (pVar 2) (pC (.int 2147483587))) (p2 (gI cMul fun i j => .int (i * j)) (pVar 1) (pC (.int 80021)))) (pC (.int 41))) (pC (.int 2147483587)))))
    (sSeq (sSet 4 (mP (p2 (gI cMod fun i j => .int (i % j)) (p2 gAdd (p2 gAdd (p2 (gI cMul fun i j => .int (i * j)) (pVar 3) (pVar 3)) (p2 (gI cMul fun i j => .int (i * j)) (pVar 1) (pC (.int 40009)))) (pC (.int 19))) (pC (.int 2147483563)))))
    (sSeq (sSet 5 (mP (p2 (gI cMod fun i j => .int (i % j)) (p2 gAdd (p2 gAdd (p2 (gI cMul fun i j => .int (i * j)) (pVar 4) (pVar 4)) (pVar 3)) (p2 (gI cMul fun i j => .int (i * j)) (p2 (gI cMul fun i j => .int (i * j)) (pVar 1) (pVar 1)) (pC (.int 7)))) (pC (.int 2147483549)))))
    (sRet (mP (p2 gAdd (p2 (gI cMul fun i j => .int (i * j)) (p2 gAdd (p2 (gI cMul fun i j => .int (i * j)) (pVar 5) (pC (.int 2147483587))) (pVar 4)) (pC (.int 2147483563))) (pVar 3))))))))))))
def sem_next : Sem0 := runF [true] 6 m_next
theorem sc_next : FnScope ["_law_pen_here", "_law_index", "_law_cell", "_law_low", "_law_mid", "_law_top"] ["_law_pen_here"] (defScope st_next) := ⟨rfl, rfl, rfl, by decide +kernel, rfl, by decide +kernel, by decide +kernel⟩
theorem bd_next (kV doc pm : Value) (an : Option Addr) (cdv ct : Value) (us : List Value) (hl : us.length = (["_law_pen_here"] : List Str).length) : bindArgs (PySem.W.fnOf "_law_next" "_law_next" (defArgs st_next) (defBody st_next) (defScope st_next) .none kV doc pm an cdv ct) ⟨us, []⟩ = pure ((["_law_pen_here"] : List Str).zip us) := by
  match us, hl with | [_], _ => kernel_rfl
theorem vs_next (f_len : mg "len" = none) (E : XK) (cdv : Value) (A : Around) (outer : List Env) (s : Shared) (H : Hp) (hgd : (cxV P w K mg base ["_law_pen_here", "_law_index", "_law_cell", "_law_low", "_law_mid", "_law_top"] "_law_next" (defScope st_next) f cdv A outer s H E).A.guards = some []) (hr : Room 0 (cxV P w K mg base ["_law_pen_here", "_law_index", "_law_cell", "_law_low", "_law_mid", "_law_top"] "_law_next" (defScope st_next) f cdv A outer s H E).A) :
    VSs (cxV P w K mg base ["_law_pen_here", "_law_index", "_law_cell", "_law_low", "_law_mid", "_law_top"] "_law_next" (defScope st_next) f cdv A outer s H E) E (defBody st_next) m_next := by
  have hu65 := room_u hr
  have hu64 := Nat.lt_of_succ_lt hu65
  unfold m_next
  exact (vss_cons (vs_set (i := 1) sc_next.nd rfl (by first | exact Or.inl rfl | exact Or.inr rfl) ((VP.vs ((vp_ix ix_X p2_ix ((vp_var 0)) (vp_int) (fun _ _ => rfl))))))
    (vss_cons (vs_store 0 (by exact hu65) rfl (by first | exact Or.inl rfl | exact Or.inr (Or.inl rfl) | exact Or.inr (Or.inr rfl)) ((VP.ve ((vp_op op_addX p2_add ((vp_var 1)) (vp_int))))) ((VP.ve (vp_int))))
    (vss_cons (vs_set (i := 2) sc_next.nd rfl (by first | exact Or.inl rfl | exact Or.inr rfl) ((VP.ve ((vp_op op_addX p2_add ((vp_op op_mul p2_mul ((vp_var 1)) (vp_int))) (vp_int))))))
    (vss_cons (vs_if (VT.te ((vt_cmp (op_neX (by exact hu64)) p2_ne ((vp_ix ix_X p2_ix ((vp_var 0)) (vp_int) (fun _ _ => rfl))) ((VF.vp ((vf_lst va_nil)))) rfl))) (vss_one (vs_set (i := 2) sc_next.nd rfl (by first | exact Or.inl rfl | exact Or.inr rfl) ((VP.vs ((vp_ix ix_X p2_ix ((vp_ix ix_X p2_ix ((vp_var 0)) (vp_int) (fun _ _ => rfl))) ((vp_op op_mod p2_mod ((vp_var 1)) ((vp_callB cr_lenX p1_len (by rfl) f_len (by rfl) (va_cons ((vp_ix ix_X p2_ix ((vp_var 0)) (vp_int) (fun _ _ => rfl))) va_nil))))) (fun _ _ => rfl))))))) vss_nil)
    (vss_cons (vs_if (VT.te ((VW.vt (vw_and (vt_cmp op_ltX p2_lt ((vp_var 1)) ((vp_callB cr_lenX p1_len (by rfl) f_len (by rfl) (va_cons ((vp_ix ix_X p2_ix ((vp_var 0)) (vp_int) (fun _ _ => rfl))) va_nil))) rfl) (vw_and1 (vt_cmp op_geX p2_ge ((vp_var 2)) ((vp_op op_pow p2_pow (vp_int) (vp_int))) rfl)))))) (vss_one (vs_ret ((VP.ve ((vp_var 2)))))) vss_nil)
    (vss_cons (vs_set (i := 3) sc_next.nd rfl (by first | exact Or.inl rfl | exact Or.inr rfl) ((VP.ve ((vp_op op_mod p2_mod ((vp_op op_addX p2_add ((vp_op op_addX p2_add ((vp_op op_mod p2_mod ((vp_var 2)) (vp_int))) ((vp_op op_mul p2_mul ((vp_var 1)) (vp_int))))) (vp_int))) (vp_int))))))
    (vss_cons (vs_set (i := 4) sc_next.nd rfl (by first | exact Or.inl rfl | exact Or.inr rfl) ((VP.ve ((vp_op op_mod p2_mod ((vp_op op_addX p2_add ((vp_op op_addX p2_add ((vp_op op_mul p2_mul ((vp_var 3)) ((vp_var 3)))) ((vp_op op_mul p2_mul ((vp_var 1)) (vp_int))))) (vp_int))) (vp_int))))))
    (vss_cons (vs_set (i := 5) sc_next.nd rfl (by first | exact Or.inl rfl | exact Or.inr rfl) ((VP.ve ((vp_op op_mod p2_mod ((vp_op op_addX p2_add ((vp_op op_addX p2_add ((vp_op op_mul p2_mul ((vp_var 4)) ((vp_var 4)))) ((vp_var 3)))) ((vp_op op_mul p2_mul ((vp_op op_mul p2_mul ((vp_var 1)) ((vp_var 1)))) (vp_int))))) (vp_int))))))
    (vss_one (vs_ret ((VP.ve ((vp_op op_addX p2_add ((vp_op op_mul p2_mul ((vp_op op_addX p2_add ((vp_op op_mul p2_mul ((vp_var 5)) (vp_int))) ((vp_var 4)))) (vp_int))) ((vp_var 3))))))))))))))))
theorem ok_next (F : FnP K "_law_next" st_next f fd) (hx : mg "_law_next" = some (.ref f)) (f_len : mg "len" = none) : Cal P w K mg base 1 "_law_next" ["_law_pen_here"] [true] sem_next :=
  okC (N := ["_law_pen_here", "_law_index", "_law_cell", "_law_low", "_law_mid", "_law_top"]) (st := st_next) (k := 0) m_next [true] F hx sc_next bd_next (vs_next f_len)

abbrev st_draw : Stmt := top 19
def m_draw : MS := (sSeq (sIf (mB (tP (p2 gLt (p2 gIx (pVar 0) (pC (.int 2))) (pVar 1)))) (sStore 0 (mP (pC (.int 2))) (mFn 1 sem_next [some 0] (maLd 0 maNil))) sNil)
    (sSeq (sSet 2 (mS (p2 (gI cMod fun i j => .int (i % j)) (p2 gIx (pVar 0) (pC (.int 2))) (pVar 1))))
    (sSeq (sStore 0 (mP (pC (.int 2))) (mS (p2 (gI cDiv fun i j => .int (i / j)) (p2 gIx (pVar 0) (pC (.int 2))) (pVar 1))))
    (sRet (mP (pVar 2))))))
def sem_draw : Sem0 := runF [true, false] 3 m_draw
theorem sc_draw : FnScope ["_law_pen_here", "_law_below", "_law_digit"] ["_law_pen_here", "_law_below"] (defScope st_draw) := ⟨rfl, rfl, rfl, by decide +kernel, rfl, by decide +kernel, by decide +kernel⟩
theorem bd_draw (kV doc pm : Value) (an : Option Addr) (cdv ct : Value) (us : List Value) (hl : us.length = (["_law_pen_here", "_law_below"] : List Str).length) : bindArgs (PySem.W.fnOf "_law_draw" "_law_draw" (defArgs st_draw) (defBody st_draw) (defScope st_draw) .none kV doc pm an cdv ct) ⟨us, []⟩ = pure ((["_law_pen_here", "_law_below"] : List Str).zip us) := by
  match us, hl with | [_, _], _ => kernel_rfl
theorem vs_draw (C_next : Cal P w K mg base 1 "_law_next" ["_law_pen_here"] [true] sem_next) (E : XK) (cdv : Value) (A : Around) (outer : List Env) (s : Shared) (H : Hp) (hgd : (cxV P w K mg base ["_law_pen_here", "_law_below", "_law_digit"] "_law_draw" (defScope st_draw) f cdv A outer s H E).A.guards = some []) (hr : Room 1 (cxV P w K mg base ["_law_pen_here", "_law_below", "_law_digit"] "_law_draw" (defScope st_draw) f cdv A outer s H E).A) :
    VSs (cxV P w K mg base ["_law_pen_here", "_law_below", "_law_digit"] "_law_draw" (defScope st_draw) f cdv A outer s H E) E (defBody st_draw) m_draw := by
  have hu65 := room_u hr
  have hu64 := Nat.lt_of_succ_lt hu65
  unfold m_draw
  exact (vss_cons (vs_if (VT.te ((vt_cmp op_ltX p2_lt ((vp_ix ix_X p2_ix ((vp_var 0)) (vp_int) (fun _ _ => rfl))) ((vp_var 1)) rfl))) (vss_one (vs_store 0 (by exact hu65) rfl (by first | exact Or.inl rfl | exact Or.inr (Or.inl rfl) | exact Or.inr (Or.inr rfl)) ((ve_cal (x := "_law_next") (ps := ["_law_pen_here"]) (sem := sem_next) (k := 1) (by exact C_next) (by exact Room.mono (j := 1) hr (by decide)) (by exact hgd) (by rfl) passE (am_ld 0 am_nil))) ((VP.ve (vp_int))))) vss_nil)
    (vss_cons (vs_set (i := 2) sc_draw.nd rfl (by first | exact Or.inl rfl | exact Or.inr rfl) ((VP.vs ((vp_op op_mod p2_mod ((vp_ix ix_X p2_ix ((vp_var 0)) (vp_int) (fun _ _ => rfl))) ((vp_var 1)))))))
    (vss_cons (vs_store 0 (by exact hu65) rfl (by first | exact Or.inl rfl | exact Or.inr (Or.inl rfl) | exact Or.inr (Or.inr rfl)) ((VP.vs ((vp_op op_fdiv p2_div ((vp_ix ix_X p2_ix ((vp_var 0)) (vp_int) (fun _ _ => rfl))) ((vp_var 1)))))) ((VP.ve (vp_int))))
    (vss_one (vs_ret ((VP.ve ((vp_var 2)))))))))
theorem ok_draw (F : FnP K "_law_draw" st_draw f fd) (hx : mg "_law_draw" = some (.ref f)) (C_next : Cal P w K mg base 1 "_law_next" ["_law_pen_here"] [true] sem_next) : Cal P w K mg base 2 "_law_draw" ["_law_pen_here", "_law_below"] [true, false] sem_draw :=
  okC (N := ["_law_pen_here", "_law_below", "_law_digit"]) (st := st_draw) (k := 1) m_draw [true, false] F hx sc_draw bd_draw (vs_draw C_next)

abbrev st_names : Stmt := top 20
def m_names : MS := (sSeq (sOwn 2 (mP (pLst (aCons (pC (.str "a")) (aCons (pC (.str "b")) (aCons (pC (.str "c")) (aCons (pC (.str "d")) (aCons (pC (.str "e")) (aCons (pC (.str "f")) (aCons (pC (.str "g")) (aCons (pC (.str "ab")) (aCons (pC (.str "aa")) (aCons (pC (.str "zz")) (aCons (pC (.str "abcdefgh")) (aCons (pC (.str "m")) aNil)))))))))))))))
    (sRetO (mComp [3] (mP (fun ρ => ((aCons (pVar 1) aNil) ρ).bind rng1)) [3] gOne mYes (mMut "list" 2 fPopAt (maCons (mFn 2 sem_draw [some 0, none] (maLd 0 (maCons (mS (pCall gLen (aCons (pVar 2) aNil))) maNil))) maNil)))))
def sem_names : Sem0 := runF [true, false] 4 m_names
theorem sc_names : FnScope ["_law_pen_here", "_law_tally", "_law_pool", "_law_turn"] ["_law_pen_here", "_law_tally"] (defScope st_names) := ⟨rfl, rfl, rfl, by decide +kernel, rfl, by decide +kernel, by decide +kernel⟩
theorem bd_names (kV doc pm : Value) (an : Option Addr) (cdv ct : Value) (us : List Value) (hl : us.length = (["_law_pen_here", "_law_tally"] : List Str).length) : bindArgs (PySem.W.fnOf "_law_names" "_law_names" (defArgs st_names) (defBody st_names) (defScope st_names) .none kV doc pm an cdv ct) ⟨us, []⟩ = pure ((["_law_pen_here", "_law_tally"] : List Str).zip us) := by
  match us, hl with | [_, _], _ => kernel_rfl
theorem vs_names (C_draw : Cal P w K mg base 2 "_law_draw" ["_law_pen_here", "_law_below"] [true, false] sem_draw) (f_len : mg "len" = none) (f_range : mg "range" = none) (E : XK) (cdv : Value) (A : Around) (outer : List Env) (s : Shared) (H : Hp) (hgd : (cxV P w K mg base ["_law_pen_here", "_law_tally", "_law_pool", "_law_turn"] "_law_names" (defScope st_names) f cdv A outer s H E).A.guards = some []) (hr : Room 2 (cxV P w K mg base ["_law_pen_here", "_law_tally", "_law_pool", "_law_turn"] "_law_names" (defScope st_names) f cdv A outer s H E).A) :
    VSs (cxV P w K mg base ["_law_pen_here", "_law_tally", "_law_pool", "_law_turn"] "_law_names" (defScope st_names) f cdv A outer s H E) E (defBody st_names) m_names := by
  have hu65 := room_u hr
  have hu64 := Nat.lt_of_succ_lt hu65
  unfold m_names
  exact (vss_cons (vs_own (i := 2) sc_names.nd rfl (by first | exact Or.inl rfl | exact Or.inr rfl) ((VF.vo ((vf_lst (va_cons (vp_str) (va_cons (vp_str) (va_cons (vp_str) (va_cons (vp_str) (va_cons (vp_str) (va_cons (vp_str) (va_cons (vp_str) (va_cons (vp_str) (va_cons (vp_str) (va_cons (vp_str) (va_cons (vp_str) (va_cons (vp_str) va_nil)))))))))))))))))
    (vss_one (vs_retO ((vo_lc (own := [("_law_turn", 3)]) rfl sc_names.nd ((VIp.vi (vi_range1 (by rfl) f_range (va_cons ((vp_var 1)) va_nil)))) (blkOk_by (by kernel_rfl)) (by decide) (fun _ _ _ _ _ => (vg_name 3 sc_names.nd rfl (by first | exact Or.inl rfl | exact Or.inr rfl))) (fun _ _ _ _ _ => (ve_mut 2 F.plainAttrs_list F.slot_list_pop F.type_list_pop mt_popAt mo_popAt rfl (by first | exact Or.inl rfl | exact Or.inr (Or.inl rfl) | exact Or.inr (Or.inr rfl)) (ae_cons ((ve_cal (x := "_law_draw") (ps := ["_law_pen_here", "_law_below"]) (sem := sem_draw) (k := 2) (by exact C_draw) (by exact Room.mono (j := 2) hr (by decide)) (by exact hgd) (by rfl) passL (am_ld 0 (am_val ((VP.vs ((vp_callB cr_lenX p1_len (by rfl) f_len (by rfl) (va_cons ((vp_var 2)) va_nil))))) am_nil)))) ae_nil))))))))
theorem ok_names (F : FnP K "_law_names" st_names f fd) (hx : mg "_law_names" = some (.ref f)) (C_draw : Cal P w K mg base 2 "_law_draw" ["_law_pen_here", "_law_below"] [true, false] sem_draw) (f_len : mg "len" = none) (f_range : mg "range" = none) : Cal P w K mg base 3 "_law_names" ["_law_pen_here", "_law_tally"] [true, false] sem_names :=
  okC (N := ["_law_pen_here", "_law_tally", "_law_pool", "_law_turn"]) (st := st_names) (k := 2) m_names [true, false] F hx sc_names bd_names (vs_names C_draw f_len f_range)

abbrev st_moved : Stmt := top 21
def m_moved : MS := (sSeq (sOwn 3 (mComp [4] (mP (iSeq (pVar 1))) [4] gOne (mAsB (m2 gGt (mFn 2 sem_draw [some 0, none] (maLd 0 (maCons (mP (pC (.int 8))) maNil))) (mP (pC (.int 0))))) (mP (pVar 4))))
    (sSeq (sFor (bnd (maCons (mFn 2 sem_draw [some 0, none] (maLd 0 (maCons (mP (pC (.int 4))) maNil))) maNil) fun l => opt (rng1 l)) [5] gOne (sIf (mB (tP (p2 gNe (pVar 3) (pLst aNil)))) (sSeq (sSet 4 (mMut "list" 3 fPopAt (maCons (mFn 2 sem_draw [some 0, none] (maLd 0 (maCons (mS (pCall gLen (aCons (pVar 3) aNil))) maNil))) maNil)))
    (sExpr (mMut "list" 3 fInsert (maCons (mFn 2 sem_draw [some 0, none] (maLd 0 (maCons (mS (p2 gAdd (pCall gLen (aCons (pVar 3) aNil)) (pC (.int 1)))) maNil))) (maCons (mP (pVar 4)) maNil))))) sNil))
    (sSeq (sFor (mP (iSeq (pVar 2))) [4] gOne (sIf (mAsB (m2 gEq (mFn 2 sem_draw [some 0, none] (maLd 0 (maCons (mP (pC (.int 3))) maNil))) (mP (pC (.int 0))))) (sExpr (mMut "list" 3 fInsert (maCons (mFn 2 sem_draw [some 0, none] (maLd 0 (maCons (mS (p2 gAdd (pCall gLen (aCons (pVar 3) aNil)) (pC (.int 1)))) maNil))) (maCons (mP (pVar 4)) maNil)))) sNil))
    (sRetV 3))))
def sem_moved : Sem0 := runF [true, false, false] 6 m_moved
theorem sc_moved : FnScope ["_law_pen_here", "_law_names_here", "_law_fresh", "_law_found", "_law_name", "_law_turn"] ["_law_pen_here", "_law_names_here", "_law_fresh"] (defScope st_moved) := ⟨rfl, rfl, rfl, by decide +kernel, rfl, by decide +kernel, by decide +kernel⟩
theorem bd_moved (kV doc pm : Value) (an : Option Addr) (cdv ct : Value) (us : List Value) (hl : us.length = (["_law_pen_here", "_law_names_here", "_law_fresh"] : List Str).length) : bindArgs (PySem.W.fnOf "_law_moved" "_law_moved" (defArgs st_moved) (defBody st_moved) (defScope st_moved) .none kV doc pm an cdv ct) ⟨us, []⟩ = pure ((["_law_pen_here", "_law_names_here", "_law_fresh"] : List Str).zip us) := by
  match us, hl with | [_, _, _], _ => kernel_rfl
theorem vs_moved (C_draw : Cal P w K mg base 2 "_law_draw" ["_law_pen_here", "_law_below"] [true, false] sem_draw) (f_len : mg "len" = none) (f_range : mg "range" = none) (E : XK) (cdv : Value) (A : Around) (outer : List Env) (s : Shared) (H : Hp) (hgd : (cxV P w K mg base ["_law_pen_here", "_law_names_here", "_law_fresh", "_law_found", "_law_name", "_law_turn"] "_law_moved" (defScope st_moved) f cdv A outer s H E).A.guards = some []) (hr : Room 2 (cxV P w K mg base ["_law_pen_here", "_law_names_here", "_law_fresh", "_law_found", "_law_name", "_law_turn"] "_law_moved" (defScope st_moved) f cdv A outer s H E).A) :
    VSs (cxV P w K mg base ["_law_pen_here", "_law_names_here", "_law_fresh", "_law_found", "_law_name", "_law_turn"] "_law_moved" (defScope st_moved) f cdv A outer s H E) E (defBody st_moved) m_moved := by
  have hu65 := room_u hr
  have hu64 := Nat.lt_of_succ_lt hu65
  unfold m_moved
  exact (vss_cons (vs_ownL (i := 3) (vl_lcMIf (own := [("_law_name", 4)]) rfl sc_moved.nd ((VIp.vi (vi_seq ((vp_var 1))))) (blkOk_by (by kernel_rfl)) (by decide) (fun _ _ _ _ _ => (vg_name 4 sc_moved.nd rfl (by first | exact Or.inl rfl | exact Or.inr rfl))) (fun _ _ _ _ _ => (te_cmp op_gtX p2_gt ((ve_cal (x := "_law_draw") (ps := ["_law_pen_here", "_law_below"]) (sem := sem_draw) (k := 2) (by exact C_draw) (by exact Room.mono (j := 2) hr (by decide)) (by exact hgd) (by rfl) passL (am_ld 0 (am_val ((VP.ve (vp_int))) am_nil)))) ((VP.ve (vp_int))) rfl)) (fun _ _ _ _ _ => (VP.ve ((vp_var 4))))) rfl rfl rfl)
    (vss_cons (vs_for passO rfl (vi_range1E (by rfl) f_range (ae_cons ((ve_cal (x := "_law_draw") (ps := ["_law_pen_here", "_law_below"]) (sem := sem_draw) (k := 2) (by exact C_draw) (by exact Room.mono (j := 2) hr (by decide)) (by exact hgd) (by rfl) passE (am_ld 0 (am_val ((VP.ve (vp_int))) am_nil)))) ae_nil)) (vg_name 5 sc_moved.nd rfl (by first | exact Or.inl rfl | exact Or.inr rfl)) (vss_one (vs_if (VT.te ((vt_cmp (op_neX (by exact hu64)) p2_ne ((vp_var 3)) ((VF.vp ((vf_lst va_nil)))) rfl))) (vss_cons (vs_set (i := 4) sc_moved.nd rfl (by first | exact Or.inl rfl | exact Or.inr rfl) ((ve_mut 3 F.plainAttrs_list F.slot_list_pop F.type_list_pop mt_popAt mo_popAt rfl (by first | exact Or.inl rfl | exact Or.inr (Or.inl rfl) | exact Or.inr (Or.inr rfl)) (ae_cons ((ve_cal (x := "_law_draw") (ps := ["_law_pen_here", "_law_below"]) (sem := sem_draw) (k := 2) (by exact C_draw) (by exact Room.mono (j := 2) hr (by decide)) (by exact hgd) (by rfl) passE (am_ld 0 (am_val ((VP.vs ((vp_callB cr_lenX p1_len (by rfl) f_len (by rfl) (va_cons ((vp_var 3)) va_nil))))) am_nil)))) ae_nil))))
    (vss_one (vs_expr ((ve_mut 3 F.plainAttrs_list F.slot_list_insert F.type_list_insert mt_insert mo_insert rfl (by first | exact Or.inl rfl | exact Or.inr (Or.inl rfl) | exact Or.inr (Or.inr rfl)) (ae_cons ((ve_cal (x := "_law_draw") (ps := ["_law_pen_here", "_law_below"]) (sem := sem_draw) (k := 2) (by exact C_draw) (by exact Room.mono (j := 2) hr (by decide)) (by exact hgd) (by rfl) passE (am_ld 0 (am_val ((VP.vs ((vp_op op_addX p2_add ((vp_callB cr_lenX p1_len (by rfl) f_len (by rfl) (va_cons ((vp_var 3)) va_nil))) (vp_int))))) am_nil)))) (ae_cons ((VP.ve ((vp_var 4)))) ae_nil))))))) vss_nil)))
    (vss_cons (vs_for passO rfl ((VIp.vi (vi_seq ((vp_var 2))))) (vg_name 4 sc_moved.nd rfl (by first | exact Or.inl rfl | exact Or.inr rfl)) (vss_one (vs_if (te_cmp (op_eqX (by exact hu64)) p2_eq ((ve_cal (x := "_law_draw") (ps := ["_law_pen_here", "_law_below"]) (sem := sem_draw) (k := 2) (by exact C_draw) (by exact Room.mono (j := 2) hr (by decide)) (by exact hgd) (by rfl) passE (am_ld 0 (am_val ((VP.ve (vp_int))) am_nil)))) ((VP.ve (vp_int))) rfl) (vss_one (vs_expr ((ve_mut 3 F.plainAttrs_list F.slot_list_insert F.type_list_insert mt_insert mo_insert rfl (by first | exact Or.inl rfl | exact Or.inr (Or.inl rfl) | exact Or.inr (Or.inr rfl)) (ae_cons ((ve_cal (x := "_law_draw") (ps := ["_law_pen_here", "_law_below"]) (sem := sem_draw) (k := 2) (by exact C_draw) (by exact Room.mono (j := 2) hr (by decide)) (by exact hgd) (by rfl) passE (am_ld 0 (am_val ((VP.vs ((vp_op op_addX p2_add ((vp_callB cr_lenX p1_len (by rfl) f_len (by rfl) (va_cons ((vp_var 3)) va_nil))) (vp_int))))) am_nil)))) (ae_cons ((VP.ve ((vp_var 4)))) ae_nil)))))) vss_nil)))
    (vss_one (vs_retV 3)))))
theorem ok_moved (F : FnP K "_law_moved" st_moved f fd) (hx : mg "_law_moved" = some (.ref f)) (C_draw : Cal P w K mg base 2 "_law_draw" ["_law_pen_here", "_law_below"] [true, false] sem_draw) (f_len : mg "len" = none) (f_range : mg "range" = none) : Cal P w K mg base 3 "_law_moved" ["_law_pen_here", "_law_names_here", "_law_fresh"] [true, false, false] sem_moved :=
  okC (N := ["_law_pen_here", "_law_names_here", "_law_fresh", "_law_found", "_law_name", "_law_turn"]) (st := st_moved) (k := 2) m_moved [true, false, false] F hx sc_moved bd_moved (vs_moved C_draw f_len f_range)

abbrev st_three_orders : Stmt := top 22
def m_three_orders : MS := (sSeq (sSet 2 (mFnO 2 sem_names [some 0, none] (maLd 0 (maCons (mFn 2 sem_draw [some 0, none] (maLd 0 (maCons (mP (p2 gAdd (pVar 1) (pC (.int 1)))) maNil))) maNil))))
    (sRet (mTup (maCons (mP (pVar 2)) (maCons (mFnO 3 sem_moved [some 0, none, none] (maLd 0 (maCons (mP (pVar 2)) (maCons (mP (pLst (aCons (pC (.str "new")) (aCons (pC (.str "x")) (aCons (pC (.str "y")) aNil))))) maNil)))) (maCons (mFnO 3 sem_moved [some 0, none, none] (maLd 0 (maCons (mP (pVar 2)) (maCons (mP (pLst (aCons (pC (.str "new")) (aCons (pC (.str "x")) (aCons (pC (.str "z")) aNil))))) maNil)))) maNil))))))
def sem_three_orders : Sem0 := runF [true, false] 3 m_three_orders
theorem sc_three_orders : FnScope ["_law_pen_here", "_law_most", "_law_names_here"] ["_law_pen_here", "_law_most"] (defScope st_three_orders) := ⟨rfl, rfl, rfl, by decide +kernel, rfl, by decide +kernel, by decide +kernel⟩
theorem bd_three_orders (kV doc pm : Value) (an : Option Addr) (cdv ct : Value) (us : List Value) (hl : us.length = (["_law_pen_here", "_law_most"] : List Str).length) : bindArgs (PySem.W.fnOf "_law_three_orders" "_law_three_orders" (defArgs st_three_orders) (defBody st_three_orders) (defScope st_three_orders) .none kV doc pm an cdv ct) ⟨us, []⟩ = pure ((["_law_pen_here", "_law_most"] : List Str).zip us) := by
  match us, hl with | [_, _], _ => kernel_rfl
theorem vs_three_orders (C_names : Cal P w K mg base 3 "_law_names" ["_law_pen_here", "_law_tally"] [true, false] sem_names) (C_draw : Cal P w K mg base 2 "_law_draw" ["_law_pen_here", "_law_below"] [true, false] sem_draw) (C_moved : Cal P w K mg base 3 "_law_moved" ["_law_pen_here", "_law_names_here", "_law_fresh"] [true, false, false] sem_moved) (E : XK) (cdv : Value) (A : Around) (outer : List Env) (s : Shared) (H : Hp) (hgd : (cxV P w K mg base ["_law_pen_here", "_law_most", "_law_names_here"] "_law_three_orders" (defScope st_three_orders) f cdv A outer s H E).A.guards = some []) (hr : Room 3 (cxV P w K mg base ["_law_pen_here", "_law_most", "_law_names_here"] "_law_three_orders" (defScope st_three_orders) f cdv A outer s H E).A) :
    VSs (cxV P w K mg base ["_law_pen_here", "_law_most", "_law_names_here"] "_law_three_orders" (defScope st_three_orders) f cdv A outer s H E) E (defBody st_three_orders) m_three_orders := by
  have hu65 := room_u hr
  have hu64 := Nat.lt_of_succ_lt hu65
  unfold m_three_orders
  exact (vss_cons (vs_set (i := 2) sc_three_orders.nd rfl (by first | exact Or.inl rfl | exact Or.inr rfl) ((VO.ve ((vo_cal (x := "_law_names") (ps := ["_law_pen_here", "_law_tally"]) (sem := sem_names) (k := 3) (by exact C_names) (by exact Room.mono (j := 3) hr (by decide)) (by exact hgd) (by rfl) passE (am_ld 0 (am_val ((ve_cal (x := "_law_draw") (ps := ["_law_pen_here", "_law_below"]) (sem := sem_draw) (k := 2) (by exact C_draw) (by exact Room.mono (j := 2) hr (by decide)) (by exact hgd) (by rfl) passE (am_ld 0 (am_val ((VP.ve ((vp_op op_addX p2_add ((vp_var 1)) (vp_int))))) am_nil)))) am_nil)))))))
    (vss_one (vs_ret ((ve_tup (ae_cons ((VP.ve ((vp_var 2)))) (ae_cons ((VO.ve ((vo_cal (x := "_law_moved") (ps := ["_law_pen_here", "_law_names_here", "_law_fresh"]) (sem := sem_moved) (k := 3) (by exact C_moved) (by exact Room.mono (j := 3) hr (by decide)) (by exact hgd) (by rfl) passE (am_ld 0 (am_val ((VP.ve ((vp_var 2)))) (am_val ((VP.ve (VF.vp ((vf_lst (va_cons (vp_str) (va_cons (vp_str) (va_cons (vp_str) va_nil)))))))) am_nil))))))) (ae_cons ((VO.ve ((vo_cal (x := "_law_moved") (ps := ["_law_pen_here", "_law_names_here", "_law_fresh"]) (sem := sem_moved) (k := 3) (by exact C_moved) (by exact Room.mono (j := 3) hr (by decide)) (by exact hgd) (by rfl) passE (am_ld 0 (am_val ((VP.ve ((vp_var 2)))) (am_val ((VP.ve (VF.vp ((vf_lst (va_cons (vp_str) (va_cons (vp_str) (va_cons (vp_str) va_nil)))))))) am_nil))))))) ae_nil))))))))
theorem ok_three_orders (F : FnP K "_law_three_orders" st_three_orders f fd) (hx : mg "_law_three_orders" = some (.ref f)) (C_names : Cal P w K mg base 3 "_law_names" ["_law_pen_here", "_law_tally"] [true, false] sem_names) (C_draw : Cal P w K mg base 2 "_law_draw" ["_law_pen_here", "_law_below"] [true, false] sem_draw) (C_moved : Cal P w K mg base 3 "_law_moved" ["_law_pen_here", "_law_names_here", "_law_fresh"] [true, false, false] sem_moved) : Cal P w K mg base 4 "_law_three_orders" ["_law_pen_here", "_law_most"] [true, false] sem_three_orders :=
  okC (N := ["_law_pen_here", "_law_most", "_law_names_here"]) (st := st_three_orders) (k := 3) m_three_orders [true, false] F hx sc_three_orders bd_three_orders (vs_three_orders C_names C_draw C_moved)

abbrev st_before : Stmt := top 23
def m_before : MS := (sSeq (sIf (mB (tAnd2 (tP (p2 gIn (pVar 1) (pVar 0))) (tP (p2 gIn (pVar 2) (pVar 0))))) (sRet (mP (p2 gLt (pMt gIndex (pVar 0) (aCons (pVar 1) aNil)) (pMt gIndex (pVar 0) (aCons (pVar 2) aNil))))) sNil)
    (sRet (mP (pC .non))))
def sem_before : Sem0 := runF [] 3 m_before
theorem sc_before : FnScope ["_law_order", "_law_one", "_law_two"] ["_law_order", "_law_one", "_law_two"] (defScope st_before) := ⟨rfl, rfl, rfl, by decide +kernel, rfl, by decide +kernel, by decide +kernel⟩
theorem bd_before (kV doc pm : Value) (an : Option Addr) (cdv ct : Value) (us : List Value) (hl : us.length = (["_law_order", "_law_one", "_law_two"] : List Str).length) : bindArgs (PySem.W.fnOf "_law_before" "_law_before" (defArgs st_before) (defBody st_before) (defScope st_before) .none kV doc pm an cdv ct) ⟨us, []⟩ = pure ((["_law_order", "_law_one", "_law_two"] : List Str).zip us) := by
  match us, hl with | [_, _, _], _ => kernel_rfl
theorem vs_before (E : XK) (cdv : Value) (A : Around) (outer : List Env) (s : Shared) (H : Hp) (hgd : (cxV P w K mg base ["_law_order", "_law_one", "_law_two"] "_law_before" (defScope st_before) f cdv A outer s H E).A.guards = some []) (hr : Room 0 (cxV P w K mg base ["_law_order", "_law_one", "_law_two"] "_law_before" (defScope st_before) f cdv A outer s H E).A) :
    VSs (cxV P w K mg base ["_law_order", "_law_one", "_law_two"] "_law_before" (defScope st_before) f cdv A outer s H E) E (defBody st_before) m_before := by
  have hu65 := room_u hr
  have hu64 := Nat.lt_of_succ_lt hu65
  unfold m_before
  exact (vss_cons (vs_if (VT.te ((VW.vt (vw_and (vt_cmp (op_inX (by exact hu65)) p2_in ((vp_var 1)) ((vp_var 0)) rfl) (vw_and1 (vt_cmp (op_inX (by exact hu65)) p2_in ((vp_var 2)) ((vp_var 0)) rfl)))))) (vss_one (vs_ret ((VP.ve ((vp_cmp op_ltX p2_lt ((vp_index ((vp_var 0)) (va_cons ((vp_var 1)) va_nil))) ((vp_index ((vp_var 0)) (va_cons ((vp_var 2)) va_nil))) rfl)))))) vss_nil)
    (vss_one (vs_ret ((VP.ve (vp_non))))))
theorem ok_before (F : FnP K "_law_before" st_before f fd) (hx : mg "_law_before" = some (.ref f)) : Cal P w K mg base 1 "_law_before" ["_law_order", "_law_one", "_law_two"] [] sem_before :=
  okC (N := ["_law_order", "_law_one", "_law_two"]) (st := st_before) (k := 0) m_before [] F hx sc_before bd_before (vs_before)

abbrev st_pairs : Stmt := top 24
def m_pairs : MS := (sSeq (sOwn 3 (mP (pLst aNil)))
    (sSeq (sFor (mP (iSeq (fun ρ => ((xSet (aCons (p2 gAdd (pVar 1) (pVar 2)) aNil)) ρ).bind fun l => if l.length < 64 then some (.lst ((sortT l).map .str)) else none))) [4] gOne (sIf (mB (tOr2 (tAnd2 (tP (p2 gIn (pVar 4) (pVar 1))) (tP (p2 gIn (pVar 4) (pVar 2)))) (tP (p2 gNotIn (pVar 4) (pVar 0))))) (sExpr (mMut "list" 3 fAppend (maCons (mP (pVar 4)) maNil))) sNil))
    (sSeq (sGive 3 (sOwn 5 (mP (pLst aNil))))
    (sSeq (sFor (mP (iSeq (pVar 3))) [6] gOne (sFor (mP (iSeq (pVar 3))) [7] gOne (sSeq (sSet 8 (mP (pLst (aCons (pCall (fnP 3 sem_before) (aCons (pVar 1) (aCons (pVar 6) (aCons (pVar 7) aNil)))) (aCons (pCall (fnP 3 sem_before) (aCons (pVar 2) (aCons (pVar 6) (aCons (pVar 7) aNil)))) aNil)))))
    (sIf (mB (tAnd2 (tP (p2 gNe (pVar 6) (pVar 7))) (tP (p2 gIn (pC (.bl true)) (pVar 8))))) (sIf (mB (tOr2 (tP (p2 gNotIn (pC (.bl false)) (pVar 8))) (tP (p2 gIs (pCall (fnP 3 sem_before) (aCons (pVar 0) (aCons (pVar 7) (aCons (pVar 6) aNil)))) (pC (.bl true)))))) (sExpr (mMut "list" 5 fAppend (maCons (mP (pTup (aCons (pVar 6) (aCons (pVar 7) aNil)))) maNil))) sNil) sNil))))
    (sGive 5 (sRet (mP (pTup (aCons (pVar 3) (aCons (pVar 5) aNil))))))))))
def sem_pairs : Sem0 := runF [] 9 m_pairs
theorem sc_pairs : FnScope ["_law_start", "_law_left", "_law_right", "_law_names_here", "_law_name", "_law_found", "_law_one", "_law_two", "_law_sides"] ["_law_start", "_law_left", "_law_right"] (defScope st_pairs) := ⟨rfl, rfl, rfl, by decide +kernel, rfl, by decide +kernel, by decide +kernel⟩
theorem bd_pairs (kV doc pm : Value) (an : Option Addr) (cdv ct : Value) (us : List Value) (hl : us.length = (["_law_start", "_law_left", "_law_right"] : List Str).length) : bindArgs (PySem.W.fnOf "_law_pairs" "_law_pairs" (defArgs st_pairs) (defBody st_pairs) (defScope st_pairs) .none kV doc pm an cdv ct) ⟨us, []⟩ = pure ((["_law_start", "_law_left", "_law_right"] : List Str).zip us) := by
  match us, hl with | [_, _, _], _ => kernel_rfl
theorem vs_pairs (C_before : Cal P w K mg base 1 "_law_before" ["_law_order", "_law_one", "_law_two"] [] sem_before) (f_set : mg "set" = none) (f_sorted : mg "sorted" = none) (E : XK) (cdv : Value) (A : Around) (outer : List Env) (s : Shared) (H : Hp) (hgd : (cxV P w K mg base ["_law_start", "_law_left", "_law_right", "_law_names_here", "_law_name", "_law_found", "_law_one", "_law_two", "_law_sides"] "_law_pairs" (defScope st_pairs) f cdv A outer s H E).A.guards = some []) (hr : Room 1 (cxV P w K mg base ["_law_start", "_law_left", "_law_right", "_law_names_here", "_law_name", "_law_found", "_law_one", "_law_two", "_law_sides"] "_law_pairs" (defScope st_pairs) f cdv A outer s H E).A) :
    VSs (cxV P w K mg base ["_law_start", "_law_left", "_law_right", "_law_names_here", "_law_name", "_law_found", "_law_one", "_law_two", "_law_sides"] "_law_pairs" (defScope st_pairs) f cdv A outer s H E) E (defBody st_pairs) m_pairs := by
  have hu65 := room_u hr
  have hu64 := Nat.lt_of_succ_lt hu65
  unfold m_pairs
  exact (vss_cons (vs_own (i := 3) sc_pairs.nd rfl (by first | exact Or.inl rfl | exact Or.inr rfl) ((VF.vo ((vf_lst va_nil)))))
    (vss_cons (vs_for passO rfl ((VIp.vi (vi_seq ((VF.vp ((vf_sortX (vx_set rfl (by rfl) f_set (by rfl) (va_cons ((vp_op op_addX p2_add ((vp_var 1)) ((vp_var 2)))) va_nil)) rfl (by rfl) f_sorted (by rfl)))))))) (vg_name 4 sc_pairs.nd rfl (by first | exact Or.inl rfl | exact Or.inr rfl)) (vss_one (vs_if (VT.te ((VW.vt (vw_or (VW.vt (vw_and (vt_cmp (op_inX (by exact hu65)) p2_in ((vp_var 4)) ((vp_var 1)) rfl) (vw_and1 (vt_cmp (op_inX (by exact hu65)) p2_in ((vp_var 4)) ((vp_var 2)) rfl)))) (vw_or1 (vt_cmp (op_notInX (by exact hu65)) p2_notIn ((vp_var 4)) ((vp_var 0)) rfl)))))) (vss_one (vs_expr ((ve_mut 3 F.plainAttrs_list F.slot_list_append F.type_list_append mt_append mo_append rfl (by first | exact Or.inl rfl | exact Or.inr (Or.inl rfl) | exact Or.inr (Or.inr rfl)) (ae_cons ((VP.ve ((vp_var 4)))) ae_nil))))) vss_nil)))
    (vss_cons (vs_give 3 (vs_own (i := 5) sc_pairs.nd rfl (by first | exact Or.inl rfl | exact Or.inr rfl) ((VF.vo ((vf_lst va_nil))))))
    (vss_cons (vs_for passO rfl ((VIp.vi (vi_seq ((vp_var 3))))) (vg_name 6 sc_pairs.nd rfl (by first | exact Or.inl rfl | exact Or.inr rfl)) (vss_one (vs_for passO rfl ((VIp.vi (vi_seq ((vp_var 3))))) (vg_name 7 sc_pairs.nd rfl (by first | exact Or.inl rfl | exact Or.inr rfl)) (vss_cons (vs_set (i := 8) sc_pairs.nd rfl (by first | exact Or.inl rfl | exact Or.inr rfl) ((VP.ve (VF.vp ((vf_lst (va_cons ((vp_cal (x := "_law_before") (ps := ["_law_order", "_law_one", "_law_two"]) (sem := sem_before) (k := 1) (by exact C_before) (by exact Room.mono (j := 1) hr (by decide)) (by exact hgd) (by rfl) (va_cons ((vp_var 1)) (va_cons ((vp_var 6)) (va_cons ((vp_var 7)) va_nil))))) (va_cons ((vp_cal (x := "_law_before") (ps := ["_law_order", "_law_one", "_law_two"]) (sem := sem_before) (k := 1) (by exact C_before) (by exact Room.mono (j := 1) hr (by decide)) (by exact hgd) (by rfl) (va_cons ((vp_var 2)) (va_cons ((vp_var 6)) (va_cons ((vp_var 7)) va_nil))))) va_nil))))))))
    (vss_one (vs_if (VT.te ((VW.vt (vw_and (vt_cmp (op_neX (by exact hu64)) p2_ne ((vp_var 6)) ((vp_var 7)) rfl) (vw_and1 (vt_cmp (op_inX (by exact hu65)) p2_in (vp_bl) ((vp_var 8)) rfl)))))) (vss_one (vs_if (VT.te ((VW.vt (vw_or (vt_cmp (op_notInX (by exact hu65)) p2_notIn (vp_bl) ((vp_var 8)) rfl) (vw_or1 (vt_cmp op_isX p2_is ((vp_cal (x := "_law_before") (ps := ["_law_order", "_law_one", "_law_two"]) (sem := sem_before) (k := 1) (by exact C_before) (by exact Room.mono (j := 1) hr (by decide)) (by exact hgd) (by rfl) (va_cons ((vp_var 0)) (va_cons ((vp_var 7)) (va_cons ((vp_var 6)) va_nil))))) (vp_bl) rfl)))))) (vss_one (vs_expr ((ve_mut 5 F.plainAttrs_list F.slot_list_append F.type_list_append mt_append mo_append rfl (by first | exact Or.inl rfl | exact Or.inr (Or.inl rfl) | exact Or.inr (Or.inr rfl)) (ae_cons ((VP.ve ((vp_tup (va_cons ((vp_var 6)) (va_cons ((vp_var 7)) va_nil)))))) ae_nil))))) vss_nil)) vss_nil))))))
    (vss_one (vs_give 5 (vs_ret ((VP.ve ((vp_tup (va_cons ((vp_var 3)) (va_cons ((vp_var 5)) va_nil)))))))))))))
theorem ok_pairs (F : FnP K "_law_pairs" st_pairs f fd) (hx : mg "_law_pairs" = some (.ref f)) (C_before : Cal P w K mg base 1 "_law_before" ["_law_order", "_law_one", "_law_two"] [] sem_before) (f_set : mg "set" = none) (f_sorted : mg "sorted" = none) : Cal P w K mg base 2 "_law_pairs" ["_law_start", "_law_left", "_law_right"] [] sem_pairs :=
  okC (N := ["_law_start", "_law_left", "_law_right", "_law_names_here", "_law_name", "_law_found", "_law_one", "_law_two", "_law_sides"]) (st := st_pairs) (k := 1) m_pairs [] F hx sc_pairs bd_pairs (vs_pairs C_before f_set f_sorted)

abbrev st_law : Stmt := top 25
def m_law : MS := (sSeq (sOwn 1 (mP (pCall (fnO 1 sem_pen) (aCons (pVar 0) aNil))))
    (sSeq (sFor (mP (fun ρ => ((aCons (pC (.int 6)) aNil) ρ).bind rng1)) [2] gOne (sSeq (sAsg [3, 4, 5] (gTupD 3 (gsCons gOne (gsCons gOne (gsCons gOne gsNil)))) (mFn 2 sem_three_orders [some 1, none] (maLd 1 (maCons (mP (pC (.int 7))) maNil))))
    (sSeq (sSet 6 (mP (pCall gRepr (aCons (pTup (aCons (pVar 3) (aCons (pVar 4) (aCons (pVar 5) aNil)))) aNil))))
    (sSeq (sSet 7 (mP (pCall gSorted (aCons (p2 gIx (pCall (fnP 3 sem_pairs) (aCons (pVar 3) (aCons (pVar 4) (aCons (pVar 5) aNil)))) (pC (.int 1))) aNil))))
    (sSeq (sFor (mP (fun ρ => ((aCons (pC (.int 2)) aNil) ρ).bind rng1)) [8] gOne (sSeq (sOwn 9 (mP (pCall (fnO 3 sem_decided) (aCons (pVar 3) (aCons (pCall gTuple (aCons (pVar 4) aNil)) (aCons (pVar 5) aNil))))))
    (sSeq (sIf (mB (tP (p2 gNe (pCall gRepr (aCons (pVar 9) aNil)) (pCall gRepr (aCons (pVar 7) aNil))))) (sRet (mP (pC (.bl false)))) sNil)
    (sExpr (mMut "list" 9 fAppend (maCons (mP (pC .non)) maNil))))))
    (sIf (mB (tOr2 (tP (p2 gNe (pCall (fnO 3 sem_decided) (aCons (pCall gTuple (aCons (pVar 3) aNil)) (aCons (pVar 5) (aCons (pVar 4) aNil)))) (pVar 7))) (tP (p2 gNe (pCall gRepr (aCons (pTup (aCons (pVar 3) (aCons (pVar 4) (aCons (pVar 5) aNil)))) aNil)) (pVar 6))))) (sRet (mP (pC (.bl false)))) sNil))))))
    (sRet (mP (pC (.bl true))))))
def sem_law : Sem0 := runF [] 10 m_law
theorem sc_law : FnScope ["_law_script", "_law_pen_here", "_law_turn", "_law_start", "_law_left", "_law_right", "_law_seen", "_law_due", "_law_again", "_law_found"] ["_law_script"] (defScope st_law) := ⟨rfl, rfl, rfl, by decide +kernel, rfl, by decide +kernel, by decide +kernel⟩
theorem bd_law (kV doc pm : Value) (an : Option Addr) (cdv ct : Value) (us : List Value) (hl : us.length = (["_law_script"] : List Str).length) : bindArgs (PySem.W.fnOf "law" "law" (defArgs st_law) (defBody st_law) (defScope st_law) .none kV doc pm an cdv ct) ⟨us, []⟩ = pure ((["_law_script"] : List Str).zip us) := by
  match us, hl with | [_], _ => kernel_rfl
theorem vs_law (C_pen : Cal P w K mg base 1 "_law_pen" ["_law_script"] [] sem_pen) (C_three_orders : Cal P w K mg base 4 "_law_three_orders" ["_law_pen_here", "_law_most"] [true, false] sem_three_orders) (C_pairs : Cal P w K mg base 2 "_law_pairs" ["_law_start", "_law_left", "_law_right"] [] sem_pairs) (C_decided : Cal P w K mg base 4 "decided" ["base", "one", "two"] [] sem_decided) (f_range : mg "range" = none) (f_repr : mg "repr" = none) (f_sorted : mg "sorted" = none) (f_tuple : mg "tuple" = none) (E : XK) (cdv : Value) (A : Around) (outer : List Env) (s : Shared) (H : Hp) (hgd : (cxV P w K mg base ["_law_script", "_law_pen_here", "_law_turn", "_law_start", "_law_left", "_law_right", "_law_seen", "_law_due", "_law_again", "_law_found"] "law" (defScope st_law) f cdv A outer s H E).A.guards = some []) (hr : Room 4 (cxV P w K mg base ["_law_script", "_law_pen_here", "_law_turn", "_law_start", "_law_left", "_law_right", "_law_seen", "_law_due", "_law_again", "_law_found"] "law" (defScope st_law) f cdv A outer s H E).A) :
    VSs (cxV P w K mg base ["_law_script", "_law_pen_here", "_law_turn", "_law_start", "_law_left", "_law_right", "_law_seen", "_law_due", "_law_again", "_law_found"] "law" (defScope st_law) f cdv A outer s H E) E (defBody st_law) m_law := by
  have hu65 := room_u hr
  have hu64 := Nat.lt_of_succ_lt hu65
  unfold m_law
  exact (vss_cons (vs_own (i := 1) sc_law.nd rfl (by first | exact Or.inl rfl | exact Or.inr rfl) ((VF.vo ((vf_cal (x := "_law_pen") (ps := ["_law_script"]) (sem := sem_pen) (k := 1) (by exact C_pen) (by exact Room.mono (j := 1) hr (by decide)) (by exact hgd) (by rfl) (va_cons ((vp_var 0)) va_nil))))))
    (vss_cons (vs_for passO rfl ((VIp.vi (vi_range1 (by rfl) f_range (va_cons (vp_int) va_nil)))) (vg_name 2 sc_law.nd rfl (by first | exact Or.inl rfl | exact Or.inr rfl)) (vss_cons (vs_asg ((ve_cal (x := "_law_three_orders") (ps := ["_law_pen_here", "_law_most"]) (sem := sem_three_orders) (k := 4) (by exact C_three_orders) (by exact Room.mono (j := 4) hr (by decide)) (by exact hgd) (by rfl) passE (am_ld 1 (am_val ((VP.ve (vp_int))) am_nil)))) (vg_tup rfl (vgs_cons (vg_name 3 sc_law.nd rfl (by first | exact Or.inl rfl | exact Or.inr rfl)) (vgs_cons (vg_name 4 sc_law.nd rfl (by first | exact Or.inl rfl | exact Or.inr rfl)) (vgs_cons (vg_name 5 sc_law.nd rfl (by first | exact Or.inl rfl | exact Or.inr rfl)) vgs_nil)))))
    (vss_cons (vs_set (i := 6) sc_law.nd rfl (by first | exact Or.inl rfl | exact Or.inr rfl) ((VP.ve ((vp_callB (cr_reprX (by exact hgd) (by exact hu65)) p1_repr (by rfl) f_repr (by rfl) (va_cons ((vp_tup (va_cons ((vp_var 3)) (va_cons ((vp_var 4)) (va_cons ((vp_var 5)) va_nil))))) va_nil))))))
    (vss_cons (vs_set (i := 7) sc_law.nd rfl (by first | exact Or.inl rfl | exact Or.inr rfl) ((VP.ve (VF.vp ((vf_callB (cr_sortedX (by exact hu65)) f1_sorted (by rfl) f_sorted (by rfl) (va_cons ((vp_ix ix_X p2_ix ((vp_cal (x := "_law_pairs") (ps := ["_law_start", "_law_left", "_law_right"]) (sem := sem_pairs) (k := 2) (by exact C_pairs) (by exact Room.mono (j := 2) hr (by decide)) (by exact hgd) (by rfl) (va_cons ((vp_var 3)) (va_cons ((vp_var 4)) (va_cons ((vp_var 5)) va_nil))))) (vp_int) (fun _ _ => rfl))) va_nil)))))))
    (vss_cons (vs_for passO rfl ((VIp.vi (vi_range1 (by rfl) f_range (va_cons (vp_int) va_nil)))) (vg_name 8 sc_law.nd rfl (by first | exact Or.inl rfl | exact Or.inr rfl)) (vss_cons (vs_own (i := 9) sc_law.nd rfl (by first | exact Or.inl rfl | exact Or.inr rfl) ((VF.vo ((vf_cal (x := "decided") (ps := ["base", "one", "two"]) (sem := sem_decided) (k := 4) (by exact C_decided) (by exact Room.mono (j := 4) hr (by decide)) (by exact hgd) (by rfl) (va_cons ((vp_var 3)) (va_cons ((vp_callTy cr_tupleB p1_tuple (by rfl) f_tuple (by rfl) (va_cons ((vp_var 4)) va_nil))) (va_cons ((vp_var 5)) va_nil))))))))
    (vss_cons (vs_if (VT.te ((vt_cmp (op_neX (by exact hu64)) p2_ne ((vp_callB (cr_reprX (by exact hgd) (by exact hu65)) p1_repr (by rfl) f_repr (by rfl) (va_cons ((vp_var 9)) va_nil))) ((vp_callB (cr_reprX (by exact hgd) (by exact hu65)) p1_repr (by rfl) f_repr (by rfl) (va_cons ((vp_var 7)) va_nil))) rfl))) (vss_one (vs_ret ((VP.ve (vp_bl))))) vss_nil)
    (vss_one (vs_expr ((ve_mut 9 F.plainAttrs_list F.slot_list_append F.type_list_append mt_append mo_append rfl (by first | exact Or.inl rfl | exact Or.inr (Or.inl rfl) | exact Or.inr (Or.inr rfl)) (ae_cons ((VP.ve (vp_non))) ae_nil))))))))
    (vss_one (vs_if (VT.te ((VW.vt (vw_or (vt_cmp (op_neX (by exact hu64)) p2_ne ((VF.vp ((vf_cal (x := "decided") (ps := ["base", "one", "two"]) (sem := sem_decided) (k := 4) (by exact C_decided) (by exact Room.mono (j := 4) hr (by decide)) (by exact hgd) (by rfl) (va_cons ((vp_callTy cr_tupleB p1_tuple (by rfl) f_tuple (by rfl) (va_cons ((vp_var 3)) va_nil))) (va_cons ((vp_var 5)) (va_cons ((vp_var 4)) va_nil))))))) ((vp_var 7)) rfl) (vw_or1 (vt_cmp (op_neX (by exact hu64)) p2_ne ((vp_callB (cr_reprX (by exact hgd) (by exact hu65)) p1_repr (by rfl) f_repr (by rfl) (va_cons ((vp_tup (va_cons ((vp_var 3)) (va_cons ((vp_var 4)) (va_cons ((vp_var 5)) va_nil))))) va_nil))) ((vp_var 6)) rfl)))))) (vss_one (vs_ret ((VP.ve (vp_bl))))) vss_nil)))))))
    (vss_one (vs_ret ((VP.ve (vp_bl)))))))
theorem ok_law (F : FnP K "law" st_law f fd) (hx : mg "law" = some (.ref f)) (C_pen : Cal P w K mg base 1 "_law_pen" ["_law_script"] [] sem_pen) (C_three_orders : Cal P w K mg base 4 "_law_three_orders" ["_law_pen_here", "_law_most"] [true, false] sem_three_orders) (C_pairs : Cal P w K mg base 2 "_law_pairs" ["_law_start", "_law_left", "_law_right"] [] sem_pairs) (C_decided : Cal P w K mg base 4 "decided" ["base", "one", "two"] [] sem_decided) (f_range : mg "range" = none) (f_repr : mg "repr" = none) (f_sorted : mg "sorted" = none) (f_tuple : mg "tuple" = none) : Cal P w K mg base 5 "law" ["_law_script"] [] sem_law :=
  okC (N := ["_law_script", "_law_pen_here", "_law_turn", "_law_start", "_law_left", "_law_right", "_law_seen", "_law_due", "_law_again", "_law_found"]) (st := st_law) (k := 4) m_law [] F hx sc_law bd_law (vs_law C_pen C_three_orders C_pairs C_decided f_range f_repr f_sorted f_tuple)

end
end K85

set_option Elab.async false
set_option linter.all false
set_option maxRecDepth 100000
set_option maxHeartbeats 4000000
namespace K85
open PySem L2 Vs
/-! ### the pen -/
def PenD (cells : List Int) (i u : Int) : D := .lst [.lst (cells.map .int), .int i, .int u]
theorem seq_nx {m m' : MS} {ρ ρ1 : Rho} (h : m ρ = some (.nx, ρ1)) : sSeq m m' ρ = m' ρ1 := by unfold sSeq; rw [h]
theorem seq_out {m m' : MS} {ρ ρ1 : Rho} {r : Flw} (h : m ρ = some (r, ρ1)) (hr : ∀ (z : r = .nx), False) : sSeq m m' ρ = some (r, ρ1) := by
  unfold sSeq
  rw [h]
  cases r with
  | nx => exact (hr rfl).elim
  | _ => rfl
theorem if_t {c : M0 Bool} {a b : MS} {ρ ρ1 : Rho} (h : c ρ = some (.ok true, ρ1)) : sIf c a b ρ = a ρ1 := by unfold sIf; rw [h]
theorem if_f {c : M0 Bool} {a b : MS} {ρ ρ1 : Rho} (h : c ρ = some (.ok false, ρ1)) : sIf c a b ρ = b ρ1 := by unfold sIf; rw [h]
theorem set_ok {i : Nat} {m : M0 D} {ρ ρ1 : Rho} {d : D} (h : m ρ = some (.ok d, ρ1)) : sSet i m ρ = some (.nx, ρ1.set i (.im d)) := by unfold sSet sVal; rw [h]
theorem own_ok {i : Nat} {m : M0 D} {ρ ρ1 : Rho} {d : D} (h : m ρ = some (.ok d, ρ1)) : sOwn i m ρ = some (.nx, ρ1.set i (.ow d)) := by unfold sOwn sVal; rw [h]
theorem ret_ok {m : M0 D} {ρ ρ1 : Rho} {d : D} (h : m ρ = some (.ok d, ρ1)) : sRet m ρ = some (.rt d, ρ1) := by unfold sRet sVal; rw [h]
theorem mP_ok {α : Type} {p : Rho → Option α} {ρ : Rho} {d : α} (h : p ρ = some d) : mP p ρ = some (.ok d, ρ) := by unfold mP; rw [h] <;> rfl
theorem mS_ok {p : Fr0} {ρ : Rho} {d : D} (h : p (frz ρ) = some d) (hs : d.scal = true) : mS p ρ = some (.ok d, ρ) := by unfold mS; rw [h]; simp [hs]
theorem mB_ok {p : Rho → Option Bool} {ρ : Rho} {d : Bool} (h : p (frz ρ) = some d) : mB p ρ = some (.ok d, ρ) := by unfold mB; rw [h] <;> rfl
theorem p2_ok {g : D → D → Option D} {pa pb : Fr0} {ρ : Rho} {x y d : D} (h1 : pa ρ = some x) (h2 : pb ρ = some y) (h3 : g x y = some d) : p2 g pa pb ρ = some d := by unfold p2; rw [h1, h2]; exact h3
theorem pys_int : ∀ l : List Int, D.pys (l.map .int) = some (l.map .int)
  | [] => by simp [D.pys]
  | x :: l => by
    rw [List.map_cons, D.pys, pys_int l]
    simp [D.py]
theorem canLay_int : ∀ l : List Int, PyData.canLayAll0 (l.map .int) = true
  | [] => by simp [PyData.canLayAll0]
  | x :: l => by
    rw [List.map_cons, PyData.canLayAll0, canLay_int l]
    simp [PyData.canLay0]
theorem depth_int : ∀ l : List Int, PyData.depthAll (l.map .int) = 0 := PySem.W.depth_ints
theorem ne_nil (l : List Int) : gNe (.lst (l.map .int)) (.lst []) = some (.bl (!l.isEmpty)) := by
  unfold gNe eqS eqP
  simp only [D.py, pys_int, D.pys, Option.map_some, Option.bind_some, Option.none_or]
  have h1 : SeqAt.shaped (.list (l.map .int)) = true := by
    unfold SeqAt.shaped
    rw [PyData.canLay0, canLay_int, PyData.depth, depth_int]
    decide
  have h2 : SeqAt.shaped (.list []) = true := by decide +kernel
  rw [h1, h2]
  cases l with
  | nil => simp [PyData.eqv, PyData.eqvAll]
  | cons x l => simp [PyData.eqv, PyData.eqvAll]
theorem ix_pen0 (c : List Int) (i u : Int) : gIx (PenD c i u) (.int 0) = some (.lst (c.map .int)) := rfl
theorem ix_pen1 (c : List Int) (i u : Int) : gIx (PenD c i u) (.int 1) = some (.int i) := rfl
theorem ix_pen2 (c : List Int) (i u : Int) : gIx (PenD c i u) (.int 2) = some (.int u) := rfl
theorem add_int (i j : Int) : gAdd (.int i) (.int j) = some (.int (i + j)) := rfl
theorem mul_int {i j : Int} (h : cMul i j = true) : gI cMul (fun i j => .int (i * j)) (.int i) (.int j) = some (.int (i * j)) := by show (if cMul i j = true then _ else _) = _; rw [if_pos h]
theorem mod_int {i j : Int} (h : 0 < j) : gI cMod (fun i j => .int (i % j)) (.int i) (.int j) = some (.int (i % j)) := by show (if cMod i j = true then _ else _) = _; rw [if_pos (by simpa [cMod] using h)]
theorem div_int {i j : Int} (h : 0 < j) (h2 : j < 1073741824) : gI cDiv (fun i j => .int (i / j)) (.int i) (.int j) = some (.int (i / j)) := by show (if cDiv i j = true then _ else _) = _; rw [if_pos (by simp [cDiv]; omega)]
theorem lt_int (i j : Int) : gLt (.int i) (.int j) = some (.bl (decide (i < j))) := rfl
theorem ge_int (i j : Int) : gGe (.int i) (.int j) = some (.bl (decide (j ≤ i))) := rfl
theorem gt_int (i j : Int) : gGt (.int i) (.int j) = some (.bl (decide (j < i))) := rfl
theorem ix_list {l : List D} {i : Int} {d : D} (h0 : 0 ≤ i) (h : l[i.toNat]? = some d) : gIx (.lst l) (.int i) = some d := by
  have hl : i.toNat < l.length := (List.getElem?_eq_some_iff.mp h).1
  show atI l i = _
  unfold atI ixN
  rw [if_pos h0, if_pos (by omega)]
  exact h
theorem tP_ok {p : Fr0} {ρ : Rho} {b : Bool} (h : p ρ = some (.bl b)) : tP p ρ = some b := by unfold tP; rw [h] <;> rfl
theorem len_ok {p : Fr0} {ρ : Rho} {l : List D} (h : p ρ = some (.lst l)) : pCall gLen (aCons p aNil) ρ = some (.int (l.length : Nat)) := by
  unfold pCall aCons aNil
  rw [h] <;> rfl
theorem cMul_l {i j : Int} (h : -2 ^ 64 < i ∧ i < 2 ^ 64) : cMul i j = true := decide_eq_true (.inl h)
theorem cMul_r {i j : Int} (h : -2 ^ 64 < j ∧ j < 2 ^ 64) : cMul i j = true := decide_eq_true (.inr h)
theorem next_spec (cells : List Int) (i u : Int) (h0 : 0 ≤ i) (h1 : i < 2 ^ 60) : ∃ v, 0 ≤ v ∧ sem_next [PenD cells i u] = some (.ret (.int v) [PenD cells (i + 1) u]) := by
  have key : ∃ v ρ', 0 ≤ v ∧ m_next (entryN [true] 6 [PenD cells i u]) = some (.rt (.int v), .mu (PenD cells (i + 1) u) :: ρ') := by
    unfold m_next
    show ∃ v ρ', 0 ≤ v ∧ sSeq _ _ [.mu (PenD cells i u), .un, .un, .un, .un, .un] = _
    rw [seq_nx (set_ok (mS_ok (p2_ok rfl rfl (ix_pen1 cells i u)) rfl))]
    dsimp only [List.set]
    have st : sStore 0 (mP (pC (.int 1))) (mP (p2 gAdd (pVar 1) (pC (.int 1)))) [.mu (PenD cells i u), .im (.int i), .un, .un, .un, .un] = some (.nx, [.mu (PenD cells (i + 1) u), .im (.int i), .un, .un, .un, .un]) := rfl
    rw [seq_nx (ρ1 := [.mu (PenD cells (i + 1) u), .im (.int i), .un, .un, .un, .un]) st]
    rw [seq_nx (set_ok (mP_ok (p2_ok (p2_ok rfl rfl (mul_int (cMul_r (by decide)))) rfl (add_int _ _))))]
    dsimp only [List.set]
    -- the cell
    have cell : ∃ c, sIf (mB (tP (p2 gNe (p2 gIx (pVar 0) (pC (.int 0))) (pLst aNil)))) (sSet 2 (mS (p2 gIx (p2 gIx (pVar 0) (pC (.int 0))) (p2 (gI cMod fun i j => .int (i % j)) (pVar 1) (pCall gLen (aCons (p2 gIx (pVar 0) (pC (.int 0))) aNil)))))) sNil [.mu (PenD cells (i + 1) u), .im (.int i), .im (.int (i * 1033 + 17)), .un, .un, .un] =
        some (.nx, [.mu (PenD cells (i + 1) u), .im (.int i), .im (.int c), .un, .un, .un]) := by
      have test : mB (tP (p2 gNe (p2 gIx (pVar 0) (pC (.int 0))) (pLst aNil))) [.mu (PenD cells (i + 1) u), .im (.int i), .im (.int (i * 1033 + 17)), .un, .un, .un] = some (.ok (!cells.isEmpty), [.mu (PenD cells (i + 1) u), .im (.int i), .im (.int (i * 1033 + 17)), .un, .un, .un]) :=
        mB_ok (tP_ok (p2_ok (p2_ok rfl rfl (ix_pen0 cells (i + 1) u)) rfl (ne_nil cells)))
      cases cells with
      | nil => exact ⟨_, if_f test⟩
      | cons x l =>
        have hp : (0 : Int) < ((x :: l).length : Nat) := by simp only [List.length_cons]; omega
        have hm0 := Int.emod_nonneg i (Int.ne_of_gt hp)
        have hm1 := Int.emod_lt_of_pos i hp
        have hlt : (i % ((x :: l).length : Nat)).toNat < (x :: l).length := by omega
        refine ⟨(x :: l)[(i % ((x :: l).length : Nat)).toNat]'hlt, (if_t test).trans ?_⟩
        refine set_ok (mS_ok (p2_ok (p2_ok rfl rfl (ix_pen0 _ (i + 1) u)) (p2_ok rfl (len_ok (p2_ok rfl rfl (ix_pen0 _ (i + 1) u))) (mod_int (by rw [List.length_map]; exact hp))) (ix_list (by rw [List.length_map]; exact hm0) ?_)) rfl)
        rw [List.length_map, List.getElem?_map, List.getElem?_eq_getElem hlt] <;> rfl
    obtain ⟨c, ec⟩ := cell
    rw [seq_nx ec]
    generalize hρ : ([.mu (PenD cells (i + 1) u), .im (.int i), .im (.int c), .un, .un, .un] : Rho) = ρ
    have big : ∃ b : Bool, mB (tAnd2 (tP (p2 gLt (pVar 1) (pCall gLen (aCons (p2 gIx (pVar 0) (pC (.int 0))) aNil)))) (tP (p2 gGe (pVar 2) (p2 (gI cPow fun i j => .int (i ^ j.toNat)) (pC (.int 10)) (pC (.int 18)))))) ρ = some (.ok b, ρ) ∧ (b = true → 0 ≤ c) := by
      subst hρ
      have t1 : tP (p2 gLt (pVar 1) (pCall gLen (aCons (p2 gIx (pVar 0) (pC (.int 0))) aNil))) (frz [.mu (PenD cells (i + 1) u), .im (.int i), .im (.int c), .un, .un, .un]) = some (decide (i < ((cells.map D.int).length : Nat))) := tP_ok (p2_ok rfl (len_ok (p2_ok rfl rfl (ix_pen0 _ (i + 1) u))) (lt_int _ _))
      have t2 : tP (p2 gGe (pVar 2) (p2 (gI cPow fun i j => .int (i ^ j.toNat)) (pC (.int 10)) (pC (.int 18)))) (frz [.mu (PenD cells (i + 1) u), .im (.int i), .im (.int c), .un, .un, .un]) = some (decide ((10 : Int) ^ 18 ≤ c)) := tP_ok (p2_ok rfl rfl (ge_int _ _))
      refine ⟨decide (i < ((cells.map D.int).length : Nat)) && decide ((10 : Int) ^ 18 ≤ c), mB_ok ?_, fun h => ?_⟩
      · unfold tAnd2
        rw [t1, Option.bind_some]
        by_cases h : i < ((cells.map D.int).length : Nat)
        · rw [decide_eq_true h, if_pos rfl, t2]; rfl
        · rw [decide_eq_false h, if_neg (by decide)]; rfl
      · rw [Bool.and_eq_true] at h
        have := of_decide_eq_true h.2
        omega
    obtain ⟨b, eb, hb⟩ := big
    cases b with
    | true =>
      rw [seq_out ((if_t eb).trans (ret_ok (mP_ok (d := .int c) (by subst hρ; rfl)))) (fun z => by cases z)]
      subst hρ
      exact ⟨c, _, hb rfl, rfl⟩
    | false =>
      rw [seq_nx ((if_f eb).trans rfl)]
      subst hρ
      generalize h2 : ((c % 2147483587 + i * 80021 + 41) % 2147483587 : Int) = low
      have l0 : 0 ≤ low ∧ low < 2147483587 := by omega
      rw [seq_nx (set_ok (mP_ok (d := .int low) (by rw [← h2]; exact p2_ok (p2_ok (p2_ok (p2_ok rfl rfl (mod_int (by decide))) (p2_ok rfl rfl (mul_int (cMul_r (by decide)))) (add_int _ _)) rfl (add_int _ _)) rfl (mod_int (by decide)))))]
      dsimp only [List.set]
      generalize h3 : ((low * low + i * 40009 + 19) % 2147483563 : Int) = mid
      have m0 : 0 ≤ mid ∧ mid < 2147483563 := by omega
      rw [seq_nx (set_ok (mP_ok (d := .int mid) (by rw [← h3]; exact p2_ok (p2_ok (p2_ok (p2_ok rfl rfl (mul_int (cMul_r (by omega)))) (p2_ok rfl rfl (mul_int (cMul_r (by decide)))) (add_int _ _)) rfl (add_int _ _)) rfl (mod_int (by decide)))))]
      dsimp only [List.set]
      generalize h4 : ((mid * mid + low + i * i * 7) % 2147483549 : Int) = top
      have t0 : 0 ≤ top ∧ top < 2147483549 := by omega
      rw [seq_nx (set_ok (mP_ok (d := .int top) (by rw [← h4]; exact p2_ok (p2_ok (p2_ok (p2_ok rfl rfl (mul_int (cMul_r (by omega)))) rfl (add_int _ _)) (p2_ok (p2_ok rfl rfl (mul_int (cMul_r (by omega)))) rfl (mul_int (cMul_r (by decide)))) (add_int _ _)) rfl (mod_int (by decide)))))]
      dsimp only [List.set]
      exact ⟨(top * 2147483587 + mid) * 2147483563 + low, _, by omega, ret_ok (mP_ok (p2_ok (p2_ok (p2_ok (p2_ok rfl rfl (mul_int (cMul_r (by decide)))) rfl (add_int _ _)) rfl (mul_int (cMul_r (by decide)))) rfl (add_int _ _)))⟩
  obtain ⟨v, ρ', hv, e⟩ := key
  refine ⟨v, hv, ?_⟩
  unfold sem_next runF
  rw [e] <;> rfl
/-- a pen that was asked at most n times -/
def PO (n : Int) (p : D) : Prop := ∃ c i u, p = PenD c i u ∧ 0 ≤ i ∧ i ≤ n ∧ 0 ≤ u
theorem PO.mono {n m : Int} {p : D} (h : PO n p) (hn : n ≤ m) : PO m p := by
  obtain ⟨c, i, u, e, h1, h2, h3⟩ := h
  exact ⟨c, i, u, e, h1, by omega, h3⟩
theorem fn_ok {n : Nat} {sem : Sem0} {is : List (Option Nat)} {ma : M0 (List D)} {ρ ρ1 : Rho} {ds full : List D} {d : D} {out : List D} (h1 : ma ρ = some (.ok ds, ρ1)) (h2 : fill is ds ρ1 = some full) (h3 : full.length = n) (h4 : sem full = some (.ret d out)) : mFn n sem is ma ρ = some (.ok d, setOut is out ρ1) := by
  unfold mFn bnd
  rw [h1]
  dsimp only
  rw [h2]
  dsimp only
  rw [if_pos h3, h4]
theorem fnO_ok {n : Nat} {sem : Sem0} {is : List (Option Nat)} {ma : M0 (List D)} {ρ ρ1 : Rho} {ds full : List D} {d : D} {out : List D} (h1 : ma ρ = some (.ok ds, ρ1)) (h2 : fill is ds ρ1 = some full) (h3 : full.length = n) (h4 : sem full = some (.own d out)) : mFnO n sem is ma ρ = some (.ok d, setOut is out ρ1) := by
  unfold mFnO bnd
  rw [h1]
  dsimp only
  rw [h2]
  dsimp only
  rw [if_pos h3, h4]
theorem cons_ok {m : M0 D} {ms : M0 (List D)} {ρ ρ1 ρ2 : Rho} {d : D} {l : List D} (h1 : m ρ = some (.ok d, ρ1)) (h2 : ms ρ1 = some (.ok l, ρ2)) : maCons m ms ρ = some (.ok (d :: l), ρ2) := by
  unfold maCons bnd
  rw [h1]
  dsimp only
  rw [h2]
  rfl
theorem ld_ok {k : Nat} {ms : M0 (List D)} {ρ ρ1 : Rho} {t : Sl} {p : D} {l : List D} (h : ρ[k]? = some t) (w : t.own? = some p) (h2 : ms ρ = some (.ok l, ρ1)) : maLd k ms ρ = some (.ok (.non :: l), ρ1) := by
  have e : maLend ms ρ = some (.ok (.non :: l), ρ1) := by
    unfold maLend bnd
    rw [h2]
    rfl
  unfold maLd
  rw [h]
  cases t <;> first | exact e | cases w
theorem fill_ld {k : Nat} {ρ : Rho} {t : Sl} {p : D} {is : List (Option Nat)} {d : D} {ds l : List D} (h : ρ[k]? = some t) (w : t.own? = some p) (h2 : fill is ds ρ = some l) : fill (some k :: is) (d :: ds) ρ = some (p :: l) := by
  unfold fill
  rw [h]
  cases t <;> first | (cases w; done) | (cases w; rw [h2]; rfl)
theorem setOut_ld {k : Nat} {ρ : Rho} {t : Sl} {is : List (Option Nat)} {o : D} {os : List D} (h : ρ[k]? = some t) : setOut (some k :: is) (o :: os) ρ = setOut is os (ρ.set k (t.put o)) := by
  show setOut is os (match ρ[k]? with
    | some t => ρ.set k (t.put o)
    | none => ρ) = _
  rw [h]
theorem draw_spec {n : Int} {p : D} (b : Int) (hp : PO n p) (hn : n < 2 ^ 59) (b0 : 0 < b) (b1 : b < 1073741824) : ∃ d p', 0 ≤ d ∧ d < b ∧ PO (n + 1) p' ∧ sem_draw [p, .int b] = some (.ret (.int d) [p', .non]) := by
  obtain ⟨c, i, u, rfl, h0, h1, h2⟩ := hp
  have first : ∃ i' v, 0 ≤ i' ∧ i' ≤ n + 1 ∧ 0 ≤ v ∧ sIf (mB (tP (p2 gLt (p2 gIx (pVar 0) (pC (.int 2))) (pVar 1)))) (sStore 0 (mP (pC (.int 2))) (mFn 1 sem_next [some 0] (maLd 0 maNil))) sNil [.mu (PenD c i u), .im (.int b), .un] = some (.nx, [.mu (PenD c i' v), .im (.int b), .un]) := by
    have test : mB (tP (p2 gLt (p2 gIx (pVar 0) (pC (.int 2))) (pVar 1))) [.mu (PenD c i u), .im (.int b), .un] = some (.ok (decide (u < b)), [.mu (PenD c i u), .im (.int b), .un]) := mB_ok (tP_ok (p2_ok (p2_ok rfl rfl (ix_pen2 c i u)) rfl (lt_int _ _)))
    by_cases h : u < b
    · rw [decide_eq_true h] at test
      obtain ⟨v, v0, ev⟩ := next_spec c i u h0 (by omega)
      refine ⟨i + 1, v, by omega, by omega, v0, (if_t test).trans ?_⟩
      have e : mFn 1 sem_next [some 0] (maLd 0 maNil) [.mu (PenD c i u), .im (.int b), .un] = some (.ok (.int v), [.mu (PenD c (i + 1) u), .im (.int b), .un]) := (fn_ok (n := 1) (is := [some 0]) (ld_ok (k := 0) (ms := maNil) rfl rfl rfl) (fill_ld rfl rfl rfl) rfl ev).trans rfl
      unfold sStore sVal
      rw [e]
      rfl
    · rw [decide_eq_false h] at test
      exact ⟨i, u, h0, by omega, h2, (if_f test).trans rfl⟩
  obtain ⟨i', v, q0, q1, q2, e1⟩ := first
  have m1 : gI cMod (fun i j => .int (i % j)) (.int v) (.int b) = some (.int (v % b)) := mod_int b0
  have m2 : gI cDiv (fun i j => .int (i / j)) (.int v) (.int b) = some (.int (v / b)) := div_int b0 b1
  have e : m_draw (entryN [true, false] 3 [PenD c i u, .int b]) = some (.rt (.int (v % b)), [.mu (PenD c i' (v / b)), .im (.int b), .im (.int (v % b))]) := by
    unfold m_draw
    show sSeq _ _ [.mu (PenD c i u), .im (.int b), .un] = _
    rw [seq_nx e1]
    rw [seq_nx (set_ok (mS_ok (p2_ok (p2_ok rfl rfl (ix_pen2 c i' v)) rfl m1) rfl))]
    dsimp only [List.set]
    have st : sStore 0 (mP (pC (.int 2))) (mS (p2 (gI cDiv fun i j => .int (i / j)) (p2 gIx (pVar 0) (pC (.int 2))) (pVar 1))) [.mu (PenD c i' v), .im (.int b), .im (.int (v % b))] = some (.nx, [.mu (PenD c i' (v / b)), .im (.int b), .im (.int (v % b))]) := by
      have e := mS_ok (p := p2 (gI cDiv fun i j => .int (i / j)) (p2 gIx (pVar 0) (pC (.int 2))) (pVar 1)) (ρ := [.mu (PenD c i' v), .im (.int b), .im (.int (v % b))]) (p2_ok (p2_ok rfl rfl (ix_pen2 c i' v)) rfl m2) rfl
      unfold sStore sVal
      rw [e]
      rfl
    rw [seq_nx st]
    exact ret_ok (mP_ok rfl)
  refine ⟨v % b, PenD c i' (v / b), Int.emod_nonneg v (by omega), Int.emod_lt_of_pos v b0, ⟨c, i', v / b, rfl, q0, q1, Int.ediv_nonneg q2 (by omega)⟩, ?_⟩
  unfold sem_draw runF
  rw [e]
  rfl
/-- a draw in a def's state: the pen lies in the slot k -/
theorem call_draw {n : Int} {k : Nat} {ρ : Rho} {t : Sl} {p : D} {b : Int} {m : M0 D} (h : ρ[k]? = some t) (w : t.own? = some p) (hp : PO n p) (hn : n < 2 ^ 59) (b0 : 0 < b) (b1 : b < 1073741824) (hm : m ρ = some (.ok (.int b), ρ)) :
    ∃ d p', 0 ≤ d ∧ d < b ∧ PO (n + 1) p' ∧ mFn 2 sem_draw [some k, none] (maLd k (maCons m maNil)) ρ = some (.ok (.int d), ρ.set k (t.put p')) := by
  obtain ⟨d, p', d0, d1, hp', e⟩ := draw_spec b hp hn b0 b1
  refine ⟨d, p', d0, d1, hp', ?_⟩
  refine (fn_ok (n := 2) (is := [some k, none]) (ld_ok (ms := maCons m maNil) h w (cons_ok hm rfl)) (fill_ld h w rfl) rfl e).trans ?_
  rw [setOut_ld h]
  rfl
end K85

set_option Elab.async false
set_option linter.all false
set_option maxRecDepth 100000
set_option maxHeartbeats 4000000
namespace K85
open PySem L2 Vs
/-! ### names -/
theorem mut_ok {T : String} {i : Nat} {f : D → List D → Option (D × D)} {ms : M0 (List D)} {ρ ρ1 : Rho} {d0 d d' res : D} {ds : List D} (h0 : slotO ρ i = some d0) (hT : dTy d0 = T) (h1 : ms ρ = some (.ok ds, ρ1)) (h2 : slotO ρ1 i = some d) (h3 : f d ds = some (d', res)) : mMut T i f ms ρ = some (.ok res, putO ρ1 i d') := by
  unfold mMut
  rw [h0, Option.bind_some, if_pos hT]
  unfold bnd
  rw [h1]
  dsimp only
  rw [h2, Option.bind_some, h3]
  rfl
theorem erase_map {α β : Type} (f : α → β) : ∀ (l : List α) (k : Nat), (l.map f).eraseIdx k = (l.eraseIdx k).map f
  | [], _ => rfl
  | _ :: _, 0 => rfl
  | x :: l, k + 1 => congrArg (f x :: ·) (erase_map f l k)
theorem popAt_ok {l : List Str} {i : Int} (h0 : 0 ≤ i) (h1 : i < (l.length : Nat)) (hz : l.length ≤ 100000) : ∃ s, l[i.toNat]? = some s ∧ fPopAt (.lst (l.map .str)) [.int i] = some (.lst ((l.eraseIdx i.toNat).map .str), .str s) := by
  have hl : i.toNat < l.length := by omega
  refine ⟨l[i.toNat], List.getElem?_eq_getElem hl, ?_⟩
  show (if (l.map D.str).length ≤ 100000 then _ else _) = _
  rw [if_pos (by rw [List.length_map]; exact hz)]
  unfold ixN
  rw [List.length_map, if_pos h0, if_pos h1, Option.bind_some, List.getElem?_map, List.getElem?_eq_getElem hl]
  simp [erase_map]
abbrev popDraw : M0 D := mMut "list" 2 fPopAt (maCons (mFn 2 sem_draw [some 0, none] (maLd 0 (maCons (mS (pCall gLen (aCons (pVar 2) aNil))) maNil))) maNil)
theorem names_loop (t : Sl) : ∀ (xs : List D) (pool : List Str) (n : Int) (p : D), PO n p → n + xs.length < 2 ^ 59 → xs.length ≤ pool.length → pool.length ≤ 100 →
    ∃ (ks pool' : List Str) (p' : D), (ks ++ pool').Perm pool ∧ ks.length = xs.length ∧ PO (n + xs.length) p' ∧ compM [3] gOne mYes popDraw [3] xs [.mu p, t, .ow (.lst (pool.map .str)), .un] = some (ks.map .str, [.mu p', t, .ow (.lst (pool'.map .str)), .un])
  | [], pool, n, p, hp, _, _, _ => ⟨[], pool, p, .refl _, rfl, by simpa using hp, rfl⟩
  | x :: xs, pool, n, p, hp, hn, hl, hz => by
    simp only [List.length_cons] at hn hl
    obtain ⟨d, p1, d0, d1, hp1, e1⟩ := call_draw (k := 0) (ρ := [.mu p, t, .ow (.lst (pool.map .str)), .im x]) (t := .mu p) (b := ((pool.map D.str).length : Nat)) (m := mS (pCall gLen (aCons (pVar 2) aNil))) rfl rfl hp (by omega) (by rw [List.length_map]; omega) (by rw [List.length_map]; omega) (mS_ok (len_ok rfl) rfl)
    rw [List.length_map] at d1
    obtain ⟨s, hs, e2⟩ := popAt_ok (l := pool) d0 d1 (by omega)
    have e3 : popDraw [.mu p, t, .ow (.lst (pool.map .str)), .im x] = some (.ok (.str s), [.mu p1, t, .ow (.lst ((pool.eraseIdx d.toNat).map .str)), .im x]) :=
      mut_ok (ρ1 := [.mu p1, t, .ow (.lst (pool.map .str)), .im x]) rfl rfl (cons_ok e1 rfl) rfl e2
    have pm := erase_perm pool d.toNat s hs
    have hle : (pool.eraseIdx d.toNat).length + 1 = pool.length := by simpa using pm.length_eq
    obtain ⟨ks, pool', p', pm2, hk, hp', e4⟩ := names_loop t xs (pool.eraseIdx d.toNat) (n + 1) p1 hp1 (by omega) (by omega) (by omega)
    refine ⟨s :: ks, pool', p', (List.Perm.cons s pm2).trans pm, by simp [hk], by rw [List.length_cons]; exact hp'.mono (by omega), ?_⟩
    show (match popDraw [.mu p, t, .ow (.lst (pool.map .str)), .im x] with
      | some (.ok y, ρ2) => (compM [3] gOne mYes popDraw [3] xs (drop0 ρ2 [3])).map (fun (r : List D × Rho) => (y :: r.1, r.2))
      | _ => none) = _
    rw [e3]
    show (compM [3] gOne mYes popDraw [3] xs [.mu p1, t, .ow (.lst ((pool.eraseIdx d.toNat).map .str)), .un]).map _ = _
    rw [e4]
    rfl
def poolS : List Str := ["a", "b", "c", "d", "e", "f", "g", "ab", "aa", "zz", "abcdefgh", "m"]
theorem names_spec {n : Int} {p : D} (t : Int) (hp : PO n p) (hn : n < 2 ^ 58) (t0 : 0 ≤ t) (t1 : t ≤ 10) : ∃ (ks : List Str) (p' : D) (rest : List Str), (ks ++ rest).Perm poolS ∧ (ks.length : Int) = t ∧ PO (n + 10) p' ∧ sem_names [p, .int t] = some (.own (.lst (ks.map .str)) [p', .non]) := by
  obtain ⟨ks, pool', p', pm, hk, hp', e⟩ := names_loop (.im (.int t)) (rl 0 t.toNat) poolS n p hp (by rw [rl_len]; omega) (by rw [rl_len]; show _ ≤ 12; omega) (by decide)
  rw [rl_len] at hk hp'
  refine ⟨ks, p', pool', pm, by omega, hp'.mono (by omega), ?_⟩
  have er : rng1 [.int t] = some (rl 0 t.toNat) := by
    unfold rng1
    simp
    omega
  have e2 : m_names (entryN [true, false] 4 [p, .int t]) = some (.ro (.lst (ks.map .str)), [.mu p', .im (.int t), .ow (.lst (pool'.map .str)), .un]) := by
    unfold m_names
    rw [seq_nx (ρ1 := [.mu p, .im (.int t), .ow (.lst (poolS.map .str)), .un]) rfl]
    unfold sRetO sVal mComp bnd
    have e0 : mP (fun ρ => ((aCons (pVar 1) aNil) ρ).bind rng1) [.mu p, .im (.int t), .ow (.lst (poolS.map .str)), .un] = some (.ok (rl 0 t.toNat), [.mu p, .im (.int t), .ow (.lst (poolS.map .str)), .un]) := mP_ok er
    rw [e0]
    dsimp only
    rw [if_pos (by rw [rl_len]; omega)]
    show (match (compM [3] gOne mYes popDraw [3] (rl 0 t.toNat) [.mu p, .im (.int t), .ow (.lst (poolS.map .str)), .un]).map (fun r => (Except.ok (D.lst r.1), r.2)) with
      | none => none
      | some (.ok d, ρ') => some (Flw.ro d, ρ')
      | some (.error x, ρ') => some (.ex x, ρ')) = _
    rw [e]
    rfl
  unfold sem_names runF
  rw [e2]
  rfl
end K85

set_option Elab.async false
set_option linter.all false
set_option maxRecDepth 100000
set_option maxHeartbeats 4000000
namespace K85
open PySem L2 Vs
/-! ### moved -/
theorem ins_ok {l : List Str} {s : Str} {i : Int} (h0 : 0 ≤ i) (h1 : i ≤ (l.length : Nat)) (hz : l.length < 1000) : fInsert (.lst (l.map .str)) [.int i, .str s] = some (.lst ((l.take i.toNat ++ [s] ++ l.drop i.toNat).map .str), .non) := by
  show (if (l.map D.str).length < 100000 ∧ 0 ≤ i ∧ i < 2 ^ 63 then _ else _) = _
  rw [if_pos ⟨by rw [List.length_map]; omega, h0, by omega⟩]
  simp [List.map_take, List.map_drop]
theorem ins_perm (l : List Str) (s : Str) (k : Nat) : (l.take k ++ [s] ++ l.drop k).Perm (s :: l) := by
  rw [List.append_assoc]
  have := @List.perm_middle Str s (l.take k) (l.drop k)
  rw [List.take_append_drop] at this
  exact this
abbrev insDraw : M0 D := mMut "list" 3 fInsert (maCons (mFn 2 sem_draw [some 0, none] (maLd 0 (maCons (mS (p2 gAdd (pCall gLen (aCons (pVar 3) aNil)) (pC (.int 1)))) maNil))) (maCons (mP (pVar 4)) maNil))
abbrev popDraw3 : M0 D := mMut "list" 3 fPopAt (maCons (mFn 2 sem_draw [some 0, none] (maLd 0 (maCons (mS (pCall gLen (aCons (pVar 3) aNil))) maNil))) maNil)
theorem insDraw_ok (a b u : Sl) {n : Int} {p : D} {l : List Str} {s : Str} (hp : PO n p) (hn : n < 2 ^ 59) (hz : l.length < 100) :
    ∃ (l' : List Str) (p' : D), l'.Perm (s :: l) ∧ PO (n + 1) p' ∧ insDraw [.mu p, a, b, .ow (.lst (l.map .str)), .im (.str s), u] = some (.ok .non, [.mu p', a, b, .ow (.lst (l'.map .str)), .im (.str s), u]) := by
  obtain ⟨d, p1, d0, d1, hp1, e1⟩ := call_draw (k := 0) (ρ := [.mu p, a, b, .ow (.lst (l.map .str)), .im (.str s), u]) (t := .mu p) (b := ((l.map D.str).length : Nat) + 1) (m := mS (p2 gAdd (pCall gLen (aCons (pVar 3) aNil)) (pC (.int 1)))) rfl rfl hp hn (by omega) (by rw [List.length_map]; omega) (mS_ok (p2_ok (len_ok rfl) rfl rfl) rfl)
  rw [List.length_map] at d1
  refine ⟨_, p1, ins_perm l s d.toNat, hp1, ?_⟩
  exact mut_ok (ρ1 := [.mu p1, a, b, .ow (.lst (l.map .str)), .im (.str s), u]) rfl rfl (cons_ok e1 (cons_ok (mP_ok rfl) rfl)) rfl (ins_ok d0 (by omega) (by omega))
theorem popDraw3_ok (a b t u : Sl) {n : Int} {p : D} {l : List Str} (hp : PO n p) (hn : n < 2 ^ 59) (hl : l ≠ []) (hz : l.length < 100) :
    ∃ (s : Str) (l' : List Str) (p' : D), (s :: l').Perm l ∧ PO (n + 1) p' ∧ popDraw3 [.mu p, a, b, .ow (.lst (l.map .str)), t, u] = some (.ok (.str s), [.mu p', a, b, .ow (.lst (l'.map .str)), t, u]) := by
  have hpos := List.length_pos_iff.mpr hl
  obtain ⟨d, p1, d0, d1, hp1, e1⟩ := call_draw (k := 0) (ρ := [.mu p, a, b, .ow (.lst (l.map .str)), t, u]) (t := .mu p) (b := ((l.map D.str).length : Nat)) (m := mS (pCall gLen (aCons (pVar 3) aNil))) rfl rfl hp hn (by rw [List.length_map]; omega) (by rw [List.length_map]; omega) (mS_ok (len_ok rfl) rfl)
  rw [List.length_map] at d1
  obtain ⟨s, hs, e2⟩ := popAt_ok (l := l) d0 d1 (by omega)
  refine ⟨s, l.eraseIdx d.toNat, p1, erase_perm l d.toNat s hs, hp1, ?_⟩
  exact mut_ok (ρ1 := [.mu p1, a, b, .ow (.lst (l.map .str)), t, u]) rfl rfl (cons_ok e1 rfl) rfl e2
abbrev keep8 : M0 Bool := mAsB (m2 gGt (mFn 2 sem_draw [some 0, none] (maLd 0 (maCons (mP (pC (.int 8))) maNil))) (mP (pC (.int 0))))
theorem asB_ok {m : M0 D} {ρ ρ1 : Rho} {b : Bool} (h : m ρ = some (.ok (.bl b), ρ1)) : mAsB m ρ = some (.ok b, ρ1) := by
  unfold mAsB bnd
  rw [h]
  rfl
theorem m2_ok {g : D → D → Option D} {ma mb : M0 D} {ρ ρ1 ρ2 : Rho} {x y d : D} (h1 : ma ρ = some (.ok x, ρ1)) (h2 : mb ρ1 = some (.ok y, ρ2)) (h3 : g x y = some d) : m2 g ma mb ρ = some (.ok d, ρ2) := by
  unfold m2 bnd
  rw [h1]
  dsimp only
  rw [h2]
  dsimp only
  rw [h3]
  rfl
theorem keep8_ok (a b c t u : Sl) {n : Int} {p : D} (hp : PO n p) (hn : n < 2 ^ 59) : ∃ (k : Bool) (p' : D), PO (n + 1) p' ∧ keep8 [.mu p, a, b, c, t, u] = some (.ok k, [.mu p', a, b, c, t, u]) := by
  obtain ⟨d, p1, d0, d1, hp1, e1⟩ := call_draw (k := 0) (ρ := [.mu p, a, b, c, t, u]) (t := .mu p) (b := 8) (m := mP (pC (.int 8))) rfl rfl hp hn (by omega) (by omega) (mP_ok rfl)
  exact ⟨decide (0 < d), p1, hp1, asB_ok (m2_ok e1 (mP_ok rfl) (gt_int d 0))⟩
abbrev eq3 : M0 Bool := mAsB (m2 gEq (mFn 2 sem_draw [some 0, none] (maLd 0 (maCons (mP (pC (.int 3))) maNil))) (mP (pC (.int 0))))
theorem eq_int (i j : Int) : ∃ b, gEq (.int i) (.int j) = some (.bl b) := ⟨_, rfl⟩
theorem eq3_ok (a b c t u : Sl) {n : Int} {p : D} (hp : PO n p) (hn : n < 2 ^ 59) : ∃ (k : Bool) (p' : D), PO (n + 1) p' ∧ eq3 [.mu p, a, b, c, t, u] = some (.ok k, [.mu p', a, b, c, t, u]) := by
  obtain ⟨d, p1, d0, d1, hp1, e1⟩ := call_draw (k := 0) (ρ := [.mu p, a, b, c, t, u]) (t := .mu p) (b := 3) (m := mP (pC (.int 3))) rfl rfl hp hn (by omega) (by omega) (mP_ok rfl)
  obtain ⟨k, hk⟩ := eq_int d 0
  exact ⟨k, p1, hp1, asB_ok (m2_ok e1 (mP_ok rfl) hk)⟩
theorem filter_loop (a b : Sl) : ∀ (xs : List Str) (n : Int) (p : D), PO n p → n + xs.length < 2 ^ 59 →
    ∃ (ys : List Str) (p' : D), ys.Sublist xs ∧ PO (n + xs.length) p' ∧ compM [4] gOne keep8 (mP (pVar 4)) [4] (xs.map .str) [.mu p, a, b, .un, .un, .un] = some (ys.map .str, [.mu p', a, b, .un, .un, .un])
  | [], n, p, hp, _ => ⟨[], p, .slnil, by simpa using hp, rfl⟩
  | x :: xs, n, p, hp, hn => by
    simp only [List.length_cons] at hn
    obtain ⟨k, p1, hp1, e1⟩ := keep8_ok a b .un (.im (.str x)) .un hp (by omega)
    obtain ⟨ys, p2, hy, hp2, e2⟩ := filter_loop a b xs (n + 1) p1 hp1 (by omega)
    cases k with
    | false =>
      refine ⟨ys, p2, hy.cons x, by rw [List.length_cons]; exact hp2.mono (by omega), ?_⟩
      show (match keep8 [.mu p, a, b, .un, .im (.str x), .un] with
        | some (.ok false, ρ1) => compM [4] gOne keep8 (mP (pVar 4)) [4] (xs.map .str) (drop0 ρ1 [4])
        | some (.ok true, ρ1) => match mP (pVar 4) ρ1 with
          | some (.ok y, ρ2) => (compM [4] gOne keep8 (mP (pVar 4)) [4] (xs.map .str) (drop0 ρ2 [4])).map fun (r : List D × Rho) => (y :: r.1, r.2)
          | _ => none
        | _ => none) = _
      rw [e1]
      exact e2
    | true =>
      refine ⟨x :: ys, p2, hy.cons₂ x, by rw [List.length_cons]; exact hp2.mono (by omega), ?_⟩
      show (match keep8 [.mu p, a, b, .un, .im (.str x), .un] with
        | some (.ok false, ρ1) => compM [4] gOne keep8 (mP (pVar 4)) [4] (xs.map .str) (drop0 ρ1 [4])
        | some (.ok true, ρ1) => match mP (pVar 4) ρ1 with
          | some (.ok y, ρ2) => (compM [4] gOne keep8 (mP (pVar 4)) [4] (xs.map .str) (drop0 ρ2 [4])).map fun (r : List D × Rho) => (y :: r.1, r.2)
          | _ => none
        | _ => none) = _
      rw [e1]
      show (compM [4] gOne keep8 (mP (pVar 4)) [4] (xs.map .str) [.mu p1, a, b, .un, .un, .un]).map _ = _
      rw [e2]
      rfl
abbrev swapBody : MS := sIf (mB (tP (p2 gNe (pVar 3) (pLst aNil)))) (sSeq (sSet 4 popDraw3) (sExpr insDraw)) sNil
theorem pys_str : ∀ l : List Str, D.pys (l.map .str) = some (l.map .str)
  | [] => by simp [D.pys]
  | x :: l => by
    rw [List.map_cons, D.pys, pys_str l]
    simp [D.py]
end K85

set_option Elab.async false
set_option linter.all false
set_option maxRecDepth 100000
set_option maxHeartbeats 4000000
namespace K85
open PySem L2 Vs
def allN : List Str := poolS ++ (["new", "x", "y", "z"] : List Str)
abbrev InN (l : List Str) : Prop := ∀ s ∈ l, s ∈ allN
theorem InN.perm {l l' : List Str} (h : InN l) (p : l'.Perm l) : InN l' := fun s hs => h s (p.mem_iff.mp hs)
theorem InN.sub {l l' : List Str} (h : InN l) (p : l'.Sublist l) : InN l' := fun s hs => h s (p.subset hs)
theorem okN : ∀ s ∈ allN, PySem.PyData.strOk s = true := by decide +kernel
theorem canLay_str : ∀ l : List Str, InN l → PyData.canLayAll0 (l.map .str) = true
  | [], _ => by simp [PyData.canLayAll0]
  | x :: l, h => by
    rw [List.map_cons, PyData.canLayAll0, canLay_str l (fun s hs => h s (by simp [hs])), PyData.canLay0, okN x (h x (by simp))]
    rfl
theorem depth_str : ∀ l : List Str, PyData.depthAll (l.map .str) = 0
  | [] => by rw [List.map_nil, PyData.depthAll]
  | x :: l => by
    rw [List.map_cons, PyData.depthAll, depth_str l, PyData.depth]
    rfl
theorem shaped_str (l : List Str) (h : InN l) : SeqAt.shaped (.list (l.map .str)) = true := by
  unfold SeqAt.shaped
  rw [PyData.canLay0, canLay_str l h, PyData.depth, depth_str]
  decide
theorem neS_nil (l : List Str) (h : InN l) : gNe (.lst (l.map .str)) (.lst []) = some (.bl (!l.isEmpty)) := by
  unfold gNe eqS eqP
  simp only [D.py, pys_str, D.pys, Option.map_some, Option.bind_some, Option.none_or]
  have h2 : SeqAt.shaped (.list []) = true := by decide +kernel
  rw [shaped_str l h, h2]
  cases l with
  | nil => simp [PyData.eqv, PyData.eqvAll]
  | cons x l => simp [PyData.eqv, PyData.eqvAll]
theorem expr_ok {m : M0 D} {ρ ρ1 : Rho} {d : D} (h : m ρ = some (.ok d, ρ1)) : sExpr m ρ = some (.nx, ρ1) := by unfold sExpr sVal; rw [h]
theorem swap_ok (a b t u : Sl) {n : Int} {p : D} {l : List Str} (hp : PO n p) (hn : n < 2 ^ 58) (hi : InN l) (hz : l.length < 100) :
    ∃ (l' : List Str) (p' : D) (t' : Sl), l'.Perm l ∧ PO (n + 2) p' ∧ swapBody [.mu p, a, b, .ow (.lst (l.map .str)), t, u] = some (.nx, [.mu p', a, b, .ow (.lst (l'.map .str)), t', u]) := by
  have test : mB (tP (p2 gNe (pVar 3) (pLst aNil))) [.mu p, a, b, .ow (.lst (l.map .str)), t, u] = some (.ok (!l.isEmpty), [.mu p, a, b, .ow (.lst (l.map .str)), t, u]) := mB_ok (tP_ok (p2_ok rfl rfl (neS_nil l hi)))
  by_cases hl : l = []
  · subst hl
    exact ⟨[], p, t, .refl _, hp.mono (by omega), if_f test⟩
  · obtain ⟨s, l1, p1, pm1, hp1, e1⟩ := popDraw3_ok a b t u hp (by omega) hl hz
    have hz1 : l1.length < 100 := by have := pm1.length_eq; simp at this; omega
    obtain ⟨l2, p2', pm2, hp2, e2⟩ := insDraw_ok a b u (s := s) hp1 (by omega) hz1
    refine ⟨l2, p2', .im (.str s), pm2.trans pm1, hp2.mono (by omega), ?_⟩
    have hb : (!l.isEmpty) = true := by cases l <;> first | exact absurd rfl hl | rfl
    rw [hb] at test
    rw [show swapBody _ = _ from if_t test, seq_nx (set_ok e1)]
    exact expr_ok e2
theorem swap_loop (a b : Sl) : ∀ (xs : List D) (n : Int) (p : D) (l : List Str) (t u : Sl), PO n p → n + 2 * xs.length < 2 ^ 58 → InN l → l.length < 100 →
    ∃ (l' : List Str) (p' : D) (t' u' : Sl), l'.Perm l ∧ PO (n + 2 * xs.length) p' ∧ loop [5] gOne swapBody xs [.mu p, a, b, .ow (.lst (l.map .str)), t, u] = some (.nx, [.mu p', a, b, .ow (.lst (l'.map .str)), t', u'])
  | [], n, p, l, t, u, hp, _, _, _ => ⟨l, p, t, u, .refl _, by simpa using hp, rfl⟩
  | x :: xs, n, p, l, t, u, hp, hn, hi, hz => by
    simp only [List.length_cons] at hn
    obtain ⟨l1, p1, t1, pm1, hp1, e1⟩ := swap_ok a b t (.im x) hp (by omega) hi hz
    obtain ⟨l2, p2', t2, u2, pm2, hp2, e2⟩ := swap_loop a b xs (n + 2) p1 l1 t1 (.im x) hp1 (by omega) (hi.perm pm1) (by rw [pm1.length_eq]; exact hz)
    refine ⟨l2, p2', t2, u2, pm2.trans pm1, by rw [List.length_cons]; exact hp2.mono (by omega), ?_⟩
    show (match swapBody [.mu p, a, b, .ow (.lst (l.map .str)), t, .im x] with
      | some (.nx, ρ') => loop [5] gOne swapBody xs ρ'
      | some (.cnt, ρ') => loop [5] gOne swapBody xs ρ'
      | some (.brk, ρ') => some (.nx, ρ')
      | r => r) = _
    rw [e1]
    exact e2
abbrev freshBody : MS := sIf eq3 (sExpr insDraw) sNil
theorem fresh_loop (a b : Sl) : ∀ (xs : List Str) (n : Int) (p : D) (l : List Str) (t u : Sl), PO n p → n + 2 * xs.length < 2 ^ 58 → l.length + xs.length < 100 →
    ∃ (fs l' : List Str) (p' : D) (t' u' : Sl), fs.Sublist xs ∧ l'.Perm (fs ++ l) ∧ PO (n + 2 * xs.length) p' ∧ loop [4] gOne freshBody (xs.map .str) [.mu p, a, b, .ow (.lst (l.map .str)), t, u] = some (.nx, [.mu p', a, b, .ow (.lst (l'.map .str)), t', u'])
  | [], n, p, l, t, u, hp, _, _ => ⟨[], l, p, t, u, .slnil, .refl _, by simpa using hp, rfl⟩
  | x :: xs, n, p, l, t, u, hp, hn, hz => by
    simp only [List.length_cons] at hn hz
    obtain ⟨k, p1, hp1, e1⟩ := eq3_ok a b (.ow (.lst (l.map .str))) (.im (.str x)) u hp (by omega)
    cases k with
    | false =>
      obtain ⟨fs, l2, p2', t2, u2, sb, pm, hp2, e2⟩ := fresh_loop a b xs (n + 1) p1 l (.im (.str x)) u hp1 (by omega) (by omega)
      refine ⟨fs, l2, p2', t2, u2, sb.cons x, pm, by rw [List.length_cons]; exact hp2.mono (by omega), ?_⟩
      show (match freshBody [.mu p, a, b, .ow (.lst (l.map .str)), .im (.str x), u] with
        | some (.nx, ρ') => loop [4] gOne freshBody (xs.map .str) ρ'
        | some (.cnt, ρ') => loop [4] gOne freshBody (xs.map .str) ρ'
        | some (.brk, ρ') => some (.nx, ρ')
        | r => r) = _
      rw [show freshBody _ = _ from if_f e1]
      exact e2
    | true =>
      obtain ⟨l1, p1', pm1, hp1', e1'⟩ := insDraw_ok a b u (s := x) (l := l) hp1 (by omega) (by omega)
      have hl1 : l1.length = l.length + 1 := by have := pm1.length_eq; simpa using this
      obtain ⟨fs, l2, p2', t2, u2, sb, pm, hp2, e2⟩ := fresh_loop a b xs (n + 2) p1' l1 (.im (.str x)) u (hp1'.mono (by omega)) (by omega) (by omega)
      refine ⟨x :: fs, l2, p2', t2, u2, sb.cons₂ x, pm.trans ((List.Perm.append_left fs pm1).trans List.perm_middle), by rw [List.length_cons]; exact hp2.mono (by omega), ?_⟩
      show (match freshBody [.mu p, a, b, .ow (.lst (l.map .str)), .im (.str x), u] with
        | some (.nx, ρ') => loop [4] gOne freshBody (xs.map .str) ρ'
        | some (.cnt, ρ') => loop [4] gOne freshBody (xs.map .str) ρ'
        | some (.brk, ρ') => some (.nx, ρ')
        | r => r) = _
      rw [show freshBody _ = _ from (if_t e1).trans (expr_ok e1')]
      exact e2
theorem moved_spec {n : Int} {p : D} {ks fr : List Str} (hp : PO n p) (hn : n < 2 ^ 57) (hi : InN ks) (hk : ks.length ≤ 12) (hf : fr.length ≤ 3) :
    ∃ (fs ys l' : List Str) (p' : D), fs.Sublist fr ∧ ys.Sublist ks ∧ l'.Perm (fs ++ ys) ∧ PO (n + 30) p' ∧ sem_moved [p, .lst (ks.map .str), .lst (fr.map .str)] = some (.own (.lst (l'.map .str)) [p', .non, .non]) := by
  obtain ⟨ys, p1, sb, hp1, e1⟩ := filter_loop (.im (.lst (ks.map .str))) (.im (.lst (fr.map .str))) ks n p hp (by omega)
  have hy := sb.length_le
  obtain ⟨d, p2', d0, d1, hp2, e2⟩ := call_draw (k := 0) (ρ := [.mu p1, .im (.lst (ks.map .str)), .im (.lst (fr.map .str)), .ow (.lst (ys.map .str)), .un, .un]) (t := .mu p1) (b := 4) (m := mP (pC (.int 4))) rfl rfl hp1 (by omega) (by omega) (by omega) (mP_ok rfl)
  obtain ⟨l1, p3, t3, u3, pm3, hp3, e3⟩ := swap_loop (.im (.lst (ks.map .str))) (.im (.lst (fr.map .str))) (rl 0 d.toNat) (n + ks.length + 1) p2' ys .un .un hp2 (by rw [rl_len]; omega) (hi.sub sb) (by omega)
  rw [rl_len] at hp3
  obtain ⟨fs, l2, p4, t4, u4, sb4, pm4, hp4, e4⟩ := fresh_loop (.im (.lst (ks.map .str))) (.im (.lst (fr.map .str))) fr _ p3 l1 t3 u3 hp3 (by omega) (by rw [pm3.length_eq]; omega)
  refine ⟨fs, ys, l2, p4, sb4, sb, pm4.trans (List.Perm.append_left fs pm3), hp4.mono (by omega), ?_⟩
  have er : rng1 [.int d] = some (rl 0 d.toNat) := by
    unfold rng1
    simp
    omega
  have s1 : mComp [4] (mP (iSeq (pVar 1))) [4] gOne keep8 (mP (pVar 4)) [.mu p, .im (.lst (ks.map .str)), .im (.lst (fr.map .str)), .un, .un, .un] = some (.ok (.lst (ys.map .str)), [.mu p1, .im (.lst (ks.map .str)), .im (.lst (fr.map .str)), .un, .un, .un]) := by
    have e0 : mP (iSeq (pVar 1)) [.mu p, .im (.lst (ks.map .str)), .im (.lst (fr.map .str)), .un, .un, .un] = some (.ok (ks.map D.str), [.mu p, .im (.lst (ks.map .str)), .im (.lst (fr.map .str)), .un, .un, .un]) := mP_ok rfl
    unfold mComp bnd
    rw [e0]
    dsimp only
    rw [if_pos (by rw [List.length_map]; omega)]
    show (compM [4] gOne keep8 (mP (pVar 4)) [4] (ks.map .str) [.mu p, .im (.lst (ks.map .str)), .im (.lst (fr.map .str)), .un, .un, .un]).map _ = _
    rw [e1]
    rfl
  have s2 : sFor (bnd (maCons (mFn 2 sem_draw [some 0, none] (maLd 0 (maCons (mP (pC (.int 4))) maNil))) maNil) fun l => opt (rng1 l)) [5] gOne swapBody [.mu p1, .im (.lst (ks.map .str)), .im (.lst (fr.map .str)), .ow (.lst (ys.map .str)), .un, .un] = some (.nx, [.mu p3, .im (.lst (ks.map .str)), .im (.lst (fr.map .str)), .ow (.lst (l1.map .str)), t3, u3]) := by
    have e0 := cons_ok e2 (ms := maNil) (l := []) rfl
    unfold sFor bnd
    rw [e0]
    dsimp only
    rw [er]
    exact e3
  have key : m_moved (entryN [true, false, false] 6 [p, .lst (ks.map .str), .lst (fr.map .str)]) = some (.ro (.lst (l2.map .str)), [.mu p4, .im (.lst (ks.map .str)), .im (.lst (fr.map .str)), .un, t4, u4]) := by
    unfold m_moved
    show sSeq _ _ [.mu p, .im (.lst (ks.map .str)), .im (.lst (fr.map .str)), .un, .un, .un] = _
    rw [seq_nx (own_ok s1)]
    dsimp only [List.set]
    rw [seq_nx s2]
    have s3 : sFor (mP (iSeq (pVar 2))) [4] gOne freshBody [.mu p3, .im (.lst (ks.map .str)), .im (.lst (fr.map .str)), .ow (.lst (l1.map .str)), t3, u3] = some (.nx, [.mu p4, .im (.lst (ks.map .str)), .im (.lst (fr.map .str)), .ow (.lst (l2.map .str)), t4, u4]) := e4
    rw [seq_nx s3]
    rfl
  unfold sem_moved runF
  rw [key]
  rfl
end K85

set_option Elab.async false
set_option linter.all false
set_option maxRecDepth 100000
set_option maxHeartbeats 4000000
namespace K85
open PySem L2 Vs
structure Ord (l : List Str) : Prop where
  nd : l.Nodup
  inN : InN l
  len : l.length ≤ 11
theorem call_moved {n : Int} {ρ : Rho} {k : Nat} {t : Sl} {p : D} {ks fr : List Str} {m1 m2 : M0 D} (h : ρ[k]? = some t) (w : t.own? = some p) (hp : PO n p) (hn : n < 2 ^ 57) (hi : InN ks) (hk : ks.length ≤ 8) (hf : fr.length ≤ 3) (fi : InN fr) (nd : (fr ++ ks).Nodup)
    (h1 : m1 ρ = some (.ok (.lst (ks.map .str)), ρ)) (h2 : m2 ρ = some (.ok (.lst (fr.map .str)), ρ)) :
    ∃ (l : List Str) (p' : D), Ord l ∧ PO (n + 30) p' ∧ mFnO 3 sem_moved [some k, none, none] (maLd k (maCons m1 (maCons m2 maNil))) ρ = some (.ok (.lst (l.map .str)), ρ.set k (t.put p')) := by
  obtain ⟨fs, ys, l', p', sf, sy, pm, hp', e⟩ := moved_spec hp hn hi (by omega) hf
  have a1 := sf.length_le
  have a2 := sy.length_le
  refine ⟨l', p', ⟨pm.nodup_iff.mpr (nd.sublist (sf.append sy)), fun s hs => ?_, by rw [pm.length_eq, List.length_append]; omega⟩, hp', ?_⟩
  · rcases List.mem_append.mp (pm.mem_iff.mp hs) with z | z
    · exact fi s (sf.subset z)
    · exact hi s (sy.subset z)
  · refine (fnO_ok (n := 3) (is := [some k, none, none]) (ld_ok (ms := maCons m1 (maCons m2 maNil)) h w (cons_ok h1 (cons_ok h2 rfl))) (fill_ld h w rfl) rfl e).trans ?_
    rw [setOut_ld h]
    rfl
def frL : List Str := ["new", "x", "y"]
def frR : List Str := ["new", "x", "z"]
theorem nd_fr {fr ks rest : List Str} (h : (fr ++ poolS).Nodup) (pm : (ks ++ rest).Perm poolS) : (fr ++ ks).Nodup := by
  have h1 : (fr ++ (ks ++ rest)).Nodup := (List.Perm.append_left fr pm).nodup_iff.mpr h
  exact h1.sublist ((List.Sublist.refl fr).append (List.sublist_append_left ks rest))
theorem three_orders_spec {n : Int} {p : D} (hp : PO n p) (hn : n < 2 ^ 56) : ∃ (S L R : List Str) (p' : D), Ord S ∧ Ord L ∧ Ord R ∧ PO (n + 100) p' ∧ sem_three_orders [p, .int 7] = some (.ret (.tup [.lst (S.map .str), .lst (L.map .str), .lst (R.map .str)]) [p', .non]) := by
  obtain ⟨d, p1, d0, d1, hp1, e1⟩ := call_draw (k := 0) (ρ := [.mu p, .im (.int 7), .un]) (t := .mu p) (b := 8) (m := mP (p2 gAdd (pVar 1) (pC (.int 1)))) rfl rfl hp (by omega) (by omega) (by omega) (mP_ok rfl)
  obtain ⟨ks, p2', rest, pm, hk, hp2, e2⟩ := names_spec d hp1 (by omega) d0 (by omega)
  have ik : InN ks := fun s hs => List.mem_append_left _ (pm.mem_iff.mp (List.mem_append_left _ hs))
  have nk : ks.Nodup := (pm.nodup_iff.mpr (by decide +kernel : poolS.Nodup)).sublist (List.sublist_append_left ks rest)
  have c2 : mFnO 2 sem_names [some 0, none] (maLd 0 (maCons (mFn 2 sem_draw [some 0, none] (maLd 0 (maCons (mP (p2 gAdd (pVar 1) (pC (.int 1)))) maNil))) maNil)) [.mu p, .im (.int 7), .un] = some (.ok (.lst (ks.map .str)), [.mu p2', .im (.int 7), .un]) := by
    refine (fnO_ok (n := 2) (is := [some 0, none]) (ρ1 := [.mu p1, .im (.int 7), .un]) (ld_ok (k := 0) rfl rfl (cons_ok e1 rfl)) (fill_ld rfl rfl rfl) rfl e2).trans ?_
    rfl
  obtain ⟨L, p3, oL, hp3, e3⟩ := call_moved (k := 0) (ρ := [.mu p2', .im (.int 7), .im (.lst (ks.map .str))]) (t := .mu p2') (ks := ks) (fr := frL) (m1 := mP (pVar 2)) (m2 := mP (pLst (aCons (pC (.str "new")) (aCons (pC (.str "x")) (aCons (pC (.str "y")) aNil))))) rfl rfl hp2 (by omega) ik (by omega) (by decide) (by decide +kernel) (nd_fr (by decide +kernel) pm) (mP_ok rfl) (mP_ok rfl)
  obtain ⟨R, p4, oR, hp4, e4⟩ := call_moved (k := 0) (ρ := [.mu p3, .im (.int 7), .im (.lst (ks.map .str))]) (t := .mu p3) (ks := ks) (fr := frR) (m1 := mP (pVar 2)) (m2 := mP (pLst (aCons (pC (.str "new")) (aCons (pC (.str "x")) (aCons (pC (.str "z")) aNil))))) rfl rfl hp3 (by omega) ik (by omega) (by decide) (by decide +kernel) (nd_fr (by decide +kernel) pm) (mP_ok rfl) (mP_ok rfl)
  refine ⟨ks, L, R, p4, ⟨nk, ik, by omega⟩, oL, oR, hp4.mono (by omega), ?_⟩
  have key : m_three_orders (entryN [true, false] 3 [p, .int 7]) = some (.rt (.tup [.lst (ks.map .str), .lst (L.map .str), .lst (R.map .str)]), [.mu p4, .im (.int 7), .im (.lst (ks.map .str))]) := by
    unfold m_three_orders
    show sSeq _ _ [.mu p, .im (.int 7), .un] = _
    rw [seq_nx (set_ok c2)]
    dsimp only [List.set]
    refine ret_ok ?_
    have := cons_ok (m := mP (pVar 2)) (ρ := [.mu p2', .im (.int 7), .im (.lst (ks.map .str))]) (mP_ok rfl) (cons_ok e3 (cons_ok e4 (ms := maNil) (l := []) rfl))
    unfold mTup bnd
    unfold bnd at this
    rw [this]
    rfl
  unfold sem_three_orders runF
  rw [key]
  rfl
end K85

set_option Elab.async false
set_option linter.all false
set_option maxRecDepth 100000
set_option maxHeartbeats 4000000
namespace K85
open PySem L2 Vs
/-! ### an order as data -/
def Sq (d : D) (l : List Str) : Prop := d = .lst (l.map .str) ∨ d = .tup (l.map .str)
theorem Sq.l {l : List Str} : Sq (.lst (l.map .str)) l := .inl rfl
theorem Sq.t {l : List Str} : Sq (.tup (l.map .str)) l := .inr rfl
theorem asSeq_sq {d : D} {l : List Str} (h : Sq d l) : asSeq d = some (l.map .str) := by rcases h with rfl | rfl <;> rfl
theorem in_sq {d : D} {l : List Str} (h : Sq d l) (s : Str) : inC (.str s) d = some (decide (s ∈ l)) := by
  have e : inC (.str s) d = inSeq (.str s) d := by rcases h with rfl | rfl <;> rfl
  rw [e]
  unfold inSeq
  rw [asSeq_sq h, Option.bind_some, all_fl_str, any_str]
  rfl
theorem gIn_sq {d : D} {l : List Str} (h : Sq d l) (s : Str) : gIn (.str s) d = some (.bl (decide (s ∈ l))) := by unfold gIn; rw [in_sq h]; rfl
theorem gNotIn_sq {d : D} {l : List Str} (h : Sq d l) (s : Str) : gNotIn (.str s) d = some (.bl (!decide (s ∈ l))) := by unfold gNotIn; rw [in_sq h]; rfl
def fi (l : List Str) (s : Str) : Nat := l.findIdx fun z => decide (z = s)
theorem fi_some {l : List Str} {s : Str} (h : s ∈ l) : l.findIdx? (fun z => decide (z = s)) = some (fi l s) := by
  rw [List.findIdx?_eq_some_iff_findIdx_eq]
  exact ⟨List.findIdx_lt_length_of_exists ⟨s, h, by simp⟩, rfl⟩
theorem findIdx?_map {α β : Type} (f : α → β) (p : β → Bool) : ∀ l : List α, (l.map f).findIdx? p = l.findIdx? (p ∘ f) := fun l => by rw [List.findIdx?_map]
theorem index_sq {d : D} {l : List Str} (h : Sq d l) {s : Str} (hs : s ∈ l) : gIndex d [.str s] = some (.int (fi l s : Nat)) := by
  unfold gIndex
  rcases h with rfl | rfl
  · have e : gIndexL (.lst (l.map .str)) [.str s] = some (.int (fi l s : Nat)) := by
      show (if ((D.str s).fl && (l.map D.str).all D.fl) = true then Option.map (fun (j : Nat) => D.int (j : Nat)) ((l.map D.str).findIdx? fun z => eqF z (.str s)) else none) = _
      rw [all_fl_str, show ((D.str s).fl && true) = true from rfl, if_pos rfl, findIdx?_map]
      have : ((fun z => eqF z (.str s)) ∘ D.str) = fun z => decide (z = s) := by
        funext z
        show (z == s) = _
        by_cases h : z = s <;> simp [h]
      rw [this, fi_some hs]
      rfl
    rw [e]
    rfl
  · have e : gIndexT (.tup (l.map .str)) [.str s] = some (.int (fi l s : Nat)) := by
      show ((asSs (l.map D.str)).bind fun ks => Option.map (fun (j : Nat) => D.int (j : Nat)) (ks.findIdx? fun z => decide (z = s))) = _
      rw [asSs_map, Option.bind_some, fi_some hs]
      rfl
    have e0 : gIndexL (.tup (l.map .str)) [.str s] = none := rfl
    rw [e0, Option.none_or, e]
theorem fi_inj {l : List Str} {a b : Str} (ha : a ∈ l) (h : fi l a = fi l b) : a = b := by
  have h1 := List.findIdx_getElem (p := fun z => decide (z = a)) (xs := l) (w := List.findIdx_lt_length_of_exists ⟨a, ha, by simp⟩)
  have hb : l.findIdx (fun z => decide (z = b)) < l.length := by
    have : fi l a < l.length := List.findIdx_lt_length_of_exists ⟨a, ha, by simp⟩
    rw [h] at this
    exact this
  have h2 := List.findIdx_getElem (p := fun z => decide (z = b)) (xs := l) (w := hb)
  simp only [decide_eq_true_eq] at h1 h2
  have h' : l.findIdx (fun z => decide (z = a)) = l.findIdx (fun z => decide (z = b)) := h
  rw [← h1, ← h2]
  simp only [h']
/-- does a stand ahead of b -/
def bf (o : List Str) (a b : Str) : Option Bool := if a ∈ o ∧ b ∈ o then some (decide (fi o a < fi o b)) else none
def oD : Option Bool → D
  | none => .non
  | some b => .bl b
theorem tAnd2_ok {p q : Rho → Option Bool} {ρ : Rho} {x y : Bool} (h1 : p ρ = some x) (h2 : q ρ = some y) : tAnd2 p q ρ = some (x && y) := by
  unfold tAnd2
  rw [h1, Option.bind_some]
  cases x
  · rfl
  · rw [if_pos rfl, h2]; rfl
theorem tOr2_ok {p q : Rho → Option Bool} {ρ : Rho} {x y : Bool} (h1 : p ρ = some x) (h2 : q ρ = some y) : tOr2 p q ρ = some (x || y) := by
  unfold tOr2
  rw [h1, Option.bind_some]
  cases x
  · rw [if_neg (by decide), h2]; rfl
  · rfl
theorem not1_ok {p : Rho → Option Bool} {ρ : Rho} {x : Bool} (h1 : p ρ = some x) : tNot1 p ρ = some (!x) := by
  unfold tNot1
  rw [h1]
  rfl
theorem mt1_ok {g : D → List D → Option D} {p : Fr0} {q : Fr0} {ρ : Rho} {x y d : D} (h1 : p ρ = some x) (h2 : q ρ = some y) (h3 : g x [y] = some d) : pMt g p (aCons q aNil) ρ = some d := by
  unfold pMt aCons aNil
  rw [h1, Option.bind_some, h2]
  exact h3
theorem fnP_of {n : Nat} {N : Nat} {m : MS} {ds : List D} {d : D} {ρ : Rho} (hl : ds.length = n) (h : m (entryN [] N ds) = some (.rt d, ρ)) : fnP n (runF [] N m) ds = some d := by
  unfold fnP runF
  rw [if_pos hl, h]
  rfl
theorem fnO_of {n : Nat} {N : Nat} {m : MS} {ds : List D} {d : D} {ρ : Rho} (hl : ds.length = n) (h : m (entryN [] N ds) = some (.ro d, ρ)) : fnO n (runF [] N m) ds = some d := by
  unfold fnO runF
  rw [if_pos hl, h]
  rfl
theorem nat_lt (i j : Nat) : gLt (.int (i : Nat)) (.int (j : Nat)) = some (.bl (decide (i < j))) := by
  rw [lt_int]
  simp
theorem before_sq {d : D} {l : List Str} (h : Sq d l) (a b : Str) : fnP 3 sem_before [d, .str a, .str b] = some (oD (bf l a b)) := by
  have t1 : mB (tAnd2 (tP (p2 gIn (pVar 1) (pVar 0))) (tP (p2 gIn (pVar 2) (pVar 0)))) [.im d, .im (.str a), .im (.str b)] = some (.ok (decide (a ∈ l) && decide (b ∈ l)), [.im d, .im (.str a), .im (.str b)]) :=
    mB_ok (tAnd2_ok (tP_ok (p2_ok rfl rfl (gIn_sq h a))) (tP_ok (p2_ok rfl rfl (gIn_sq h b))))
  unfold bf
  by_cases hab : a ∈ l ∧ b ∈ l
  · rw [if_pos hab]
    refine fnP_of (ρ := [.im d, .im (.str a), .im (.str b)]) rfl ?_
    unfold m_before
    show sSeq _ _ [.im d, .im (.str a), .im (.str b)] = _
    rw [decide_eq_true hab.1, decide_eq_true hab.2] at t1
    refine seq_out ((if_t t1).trans (ret_ok (mP_ok (p2_ok (mt1_ok rfl rfl (index_sq h hab.1)) (mt1_ok rfl rfl (index_sq h hab.2)) (nat_lt _ _))))) (fun z => by cases z)
  · rw [if_neg hab]
    refine fnP_of (ρ := [.im d, .im (.str a), .im (.str b)]) rfl ?_
    unfold m_before
    show sSeq _ _ [.im d, .im (.str a), .im (.str b)] = _
    have e : (decide (a ∈ l) && decide (b ∈ l)) = false := by
      rw [← Bool.decide_and]
      exact decide_eq_false hab
    rw [e] at t1
    rw [seq_nx ((if_f t1).trans rfl)]
    rfl
theorem comes_sq {d : D} {l : List Str} (h : Sq d l) (a b : Str) : fnP 3 sem_comes_before [d, .str a, .str b] = some (oD (bf l a b)) := by
  have t1 : mB (tOr2 (tP (p2 gNotIn (pVar 1) (pVar 0))) (tP (p2 gNotIn (pVar 2) (pVar 0)))) [.im d, .im (.str a), .im (.str b)] = some (.ok (!decide (a ∈ l) || !decide (b ∈ l)), [.im d, .im (.str a), .im (.str b)]) :=
    mB_ok (tOr2_ok (tP_ok (p2_ok rfl rfl (gNotIn_sq h a))) (tP_ok (p2_ok rfl rfl (gNotIn_sq h b))))
  unfold bf
  by_cases hab : a ∈ l ∧ b ∈ l
  · rw [if_pos hab]
    refine fnP_of (ρ := [.im d, .im (.str a), .im (.str b)]) rfl ?_
    unfold m_comes_before
    show sSeq _ _ [.im d, .im (.str a), .im (.str b)] = _
    rw [decide_eq_true hab.1, decide_eq_true hab.2] at t1
    rw [seq_nx ((if_f t1).trans rfl)]
    exact ret_ok (mP_ok (p2_ok (mt1_ok rfl rfl (index_sq h hab.1)) (mt1_ok rfl rfl (index_sq h hab.2)) (nat_lt _ _)))
  · rw [if_neg hab]
    refine fnP_of (ρ := [.im d, .im (.str a), .im (.str b)]) rfl ?_
    unfold m_comes_before
    show sSeq _ _ [.im d, .im (.str a), .im (.str b)] = _
    have e : (!decide (a ∈ l) || !decide (b ∈ l)) = true := by
      rw [← Bool.not_and, ← Bool.decide_and, decide_eq_false hab]
      rfl
    rw [e] at t1
    exact seq_out ((if_t t1).trans rfl) (fun z => by cases z)
/-- is a ahead of b once both sides are merged -/
def isd (S L R : List Str) (a b : Str) : Bool := match bf L a b, bf R a b with
  | some x, some y => if x = y then x else bf S a b == some false
  | x, y => x == some true || y == some true
theorem pCall3 {g : List D → Option D} {p q r : Fr0} {ρ : Rho} {x y z d : D} (h1 : p ρ = some x) (h2 : q ρ = some y) (h3 : r ρ = some z) (h : g [x, y, z] = some d) : pCall g (aCons p (aCons q (aCons r aNil))) ρ = some d := by
  unfold pCall aCons aNil
  rw [h1, h2, h3]
  exact h
theorem pOr_ok {p q : Fr0} {ρ : Rho} {x y : Bool} (h1 : p ρ = some (.bl x)) (h2 : q ρ = some (.bl y)) : pOr p q ρ = some (.bl (x || y)) := by
  unfold pOr
  rw [h1]
  cases x
  · exact h2
  · rfl
theorem is_non (x : Option Bool) : gIs (oD x) .non = some (.bl (x == none)) := by cases x <;> rfl
theorem is_bl (x : Option Bool) (b : Bool) : gIs (oD x) (.bl b) = some (.bl (x == some b)) := by
  cases x with
  | none => rfl
  | some c => cases c <;> cases b <;> rfl
theorem isd_sq {dS dL dR : D} {S L R : List Str} (hS : Sq dS S) (hL : Sq dL L) (hR : Sq dR R) (a b : Str) : fnP 5 sem_is_decided [dS, dL, dR, .str a, .str b] = some (.bl (isd S L R a b)) := by
  have e0 : maCons (mP (pCall (fnP 3 sem_comes_before) (aCons (pVar 1) (aCons (pVar 3) (aCons (pVar 4) aNil))))) (maCons (mP (pCall (fnP 3 sem_comes_before) (aCons (pVar 2) (aCons (pVar 3) (aCons (pVar 4) aNil))))) maNil) [.im dS, .im dL, .im dR, .im (.str a), .im (.str b), .un, .un] = some (.ok [oD (bf L a b), oD (bf R a b)], [.im dS, .im dL, .im dR, .im (.str a), .im (.str b), .un, .un]) :=
    cons_ok (mP_ok (pCall3 rfl rfl rfl (comes_sq hL a b))) (cons_ok (mP_ok (pCall3 rfl rfl rfl (comes_sq hR a b))) rfl)
  have e1 : sPar 5 6 (maCons (mP (pCall (fnP 3 sem_comes_before) (aCons (pVar 1) (aCons (pVar 3) (aCons (pVar 4) aNil))))) (maCons (mP (pCall (fnP 3 sem_comes_before) (aCons (pVar 2) (aCons (pVar 3) (aCons (pVar 4) aNil))))) maNil)) [.im dS, .im dL, .im dR, .im (.str a), .im (.str b), .un, .un] = some (.nx, [.im dS, .im dL, .im dR, .im (.str a), .im (.str b), .im (oD (bf L a b)), .im (oD (bf R a b))]) := by
    unfold sPar
    rw [e0]
    rfl
  unfold isd
  generalize bf L a b = x at e1 ⊢
  generalize bf R a b = y at e1 ⊢
  refine fnP_of (ρ := [.im dS, .im dL, .im dR, .im (.str a), .im (.str b), .im (oD x), .im (oD y)]) rfl ?_
  unfold m_is_decided
  show sSeq _ _ [.im dS, .im dL, .im dR, .im (.str a), .im (.str b), .un, .un] = _
  rw [seq_nx e1]
  have t1 : mB (tOr2 (tP (p2 gIs (pVar 5) (pC .non))) (tP (p2 gIs (pVar 6) (pC .non)))) [.im dS, .im dL, .im dR, .im (.str a), .im (.str b), .im (oD x), .im (oD y)] = some (.ok ((x == none) || (y == none)), [.im dS, .im dL, .im dR, .im (.str a), .im (.str b), .im (oD x), .im (oD y)]) :=
    mB_ok (tOr2_ok (tP_ok (p2_ok rfl rfl (is_non x))) (tP_ok (p2_ok rfl rfl (is_non y))))
  have r1 : sRet (mP (pOr (p2 gIs (pVar 5) (pC (.bl true))) (p2 gIs (pVar 6) (pC (.bl true))))) [.im dS, .im dL, .im dR, .im (.str a), .im (.str b), .im (oD x), .im (oD y)] = some (.rt (.bl (x == some true || y == some true)), [.im dS, .im dL, .im dR, .im (.str a), .im (.str b), .im (oD x), .im (oD y)]) :=
    ret_ok (mP_ok (pOr_ok (p2_ok rfl rfl (is_bl x true)) (p2_ok rfl rfl (is_bl y true))))
  cases x with
  | none => exact seq_out ((if_t t1).trans r1) (fun z => by cases z)
  | some x =>
    cases y with
    | none => exact seq_out ((if_t t1).trans (by cases x <;> exact r1)) (fun z => by cases z)
    | some y =>
      rw [seq_nx ((if_f t1).trans rfl)]
      by_cases hxy : x = y
      · subst hxy
        have t2 : mB (tP (p2 gEq (pVar 5) (pVar 6))) [.im dS, .im dL, .im dR, .im (.str a), .im (.str b), .im (oD (some x)), .im (oD (some x))] = some (.ok true, [.im dS, .im dL, .im dR, .im (.str a), .im (.str b), .im (oD (some x)), .im (oD (some x))]) := by cases x <;> rfl
        refine (seq_out ((if_t t2).trans rfl) (fun z => by cases z)).trans ?_
        simp [oD]
      · have t2 : mB (tP (p2 gEq (pVar 5) (pVar 6))) [.im dS, .im dL, .im dR, .im (.str a), .im (.str b), .im (oD (some x)), .im (oD (some y))] = some (.ok false, [.im dS, .im dL, .im dR, .im (.str a), .im (.str b), .im (oD (some x)), .im (oD (some y))]) := by
          cases x <;> cases y <;> first | rfl | exact absurd rfl hxy
        rw [seq_nx ((if_f t2).trans rfl)]
        dsimp only
        rw [if_neg hxy]
        exact ret_ok (mP_ok (p2_ok (pCall3 rfl rfl rfl (comes_sq hS a b)) rfl (is_bl _ false)))
end K85

set_option Elab.async false
set_option linter.all false
set_option maxRecDepth 100000
set_option maxHeartbeats 4000000
namespace K85
open PySem L2 Vs
/-! ### sorted -/
theorem zip_map {α β γ : Type} (f : α → β) (g : α → γ) : ∀ l : List α, (l.map f).zip (l.map g) = l.map fun x => (f x, g x)
  | [] => rfl
  | x :: l => by rw [List.map_cons, List.map_cons, List.zip_cons_cons, zip_map f g l]; rfl
theorem sortZ_map {α : Type} (f : α → D) (g : α → PyData) (le : α → α → Bool) (h : ∀ a b, le a b = PySem.W.dataLe false (Prod.snd : D × PyData → PyData) (f a, g a) (f b, g b)) (l : List α) : sortZ ((l.map f).zip (l.map g)) = (l.mergeSort le).map f := by
  unfold sortZ
  rw [zip_map, ← List.map_mergeSort (r := le) (f := fun x => (f x, g x)) (fun a _ b _ => h a b), List.map_map]
  rfl
theorem leT_data (a b : Str) : leT a b = PySem.W.dataLe false (Prod.snd : D × PyData → PyData) (.str a, .str a) (.str b, .str b) := by
  rw [PySem.W.dataLe_eq]
  show leT a b = !PySem.W.dataLt (.str b) (.str a)
  rw [PySem.W.dataLt_str, PySem.W.not_lt_str]
  rfl
theorem sortZ_str (l : List Str) : sortZ ((l.map D.str).zip (l.map PyData.str)) = (sortT l).map .str := sortZ_map D.str PyData.str leT leT_data l
/-- pairs of names -/
abbrev P2S := Str × Str
def toD (x : P2S) : D := .tup [.str x.1, .str x.2]
def toPy (x : P2S) : PyData := .tuple [.str x.1, .str x.2]
def leP (x y : P2S) : Bool := !(if y.1 = x.1 then (if y.2 = x.2 then false else decide (y.2.cps.toList < x.2.cps.toList)) else decide (y.1.cps.toList < x.1.cps.toList))
theorem leP_data (a b : P2S) : leP a b = PySem.W.dataLe false (Prod.snd : D × PyData → PyData) (toD a, toPy a) (toD b, toPy b) := by
  rw [PySem.W.dataLe_eq]
  show leP a b = !PySem.W.dataLt (.tuple [.str b.1, .str b.2]) (.tuple [.str a.1, .str a.2])
  rw [PySem.W.dataLt_pair (by simp [PySem.W.alike]) (by simp [PySem.W.alike]), PySem.W.dataLt_str, PySem.W.dataLt_str]
  simp only [PyData.eqv, beq_iff_eq]
  rfl
theorem str_lt_irrefl (a : Str) : ¬ a.cps.toList < a.cps.toList := List.lt_irrefl _
theorem leP_eq (a b : P2S) : leP a b = if a.1 = b.1 then leT a.2 b.2 else leT a.1 b.1 := by
  unfold leP leT
  by_cases h1 : a.1 = b.1
  · rw [if_pos h1.symm, if_pos h1]
    by_cases h2 : b.2 = a.2
    · rw [if_pos h2, h2]; simp
    · rw [if_neg h2, PySem.W.not_lt_str]
  · rw [if_neg (fun z => h1 z.symm), if_neg h1, PySem.W.not_lt_str]
theorem leP_total (a b : P2S) : (leP a b || leP b a) = true := by
  rw [leP_eq, leP_eq]
  by_cases h : a.1 = b.1
  · rw [if_pos h, if_pos h.symm]; exact leT_total _ _
  · rw [if_neg h, if_neg (fun z => h z.symm)]; exact leT_total _ _
theorem leP_trans (a b c : P2S) (h1 : leP a b = true) (h2 : leP b c = true) : leP a c = true := by
  rw [leP_eq] at *
  by_cases e1 : a.1 = b.1
  · rw [if_pos e1] at h1
    by_cases e2 : b.1 = c.1
    · rw [if_pos e2] at h2
      rw [if_pos (e1.trans e2)]
      exact leT_trans _ _ _ h1 h2
    · rw [if_neg e2] at h2
      rw [e1, if_neg e2]
      exact h2
  · rw [if_neg e1] at h1
    by_cases e2 : b.1 = c.1
    · rw [← e2, if_neg e1]
      exact h1
    · rw [if_neg e2] at h2
      have h3 := leT_trans _ _ _ h1 h2
      by_cases e3 : a.1 = c.1
      · rw [e3] at h1
        exact absurd (leT_anti _ _ h2 h1) e2
      · rw [if_neg e3]
        exact h3
theorem leP_anti (a b : P2S) (h1 : leP a b = true) (h2 : leP b a = true) : a = b := by
  rw [leP_eq] at *
  by_cases e : a.1 = b.1
  · rw [if_pos e] at h1
    rw [if_pos e.symm] at h2
    exact Prod.ext e (leT_anti _ _ h1 h2)
  · rw [if_neg e] at h1
    rw [if_neg (fun z => e z.symm)] at h2
    exact absurd (leT_anti _ _ h1 h2) e
def sortP (l : List P2S) : List P2S := l.mergeSort leP
theorem sortP_perm {l l' : List P2S} (p : l.Perm l') : sortP l = sortP l' :=
  List.Perm.eq_of_pairwise (fun a b _ _ => leP_anti a b) (List.pairwise_mergeSort leP_trans leP_total l) (List.pairwise_mergeSort leP_trans leP_total l') ((List.mergeSort_perm l leP).trans (p.trans (List.mergeSort_perm l' leP).symm))
theorem sortZ_pair (l : List P2S) : sortZ ((l.map toD).zip (l.map toPy)) = (sortP l).map toD := sortZ_map toD toPy leP leP_data l
theorem pys_pair : ∀ l : List P2S, D.pys (l.map toD) = some (l.map toPy)
  | [] => by simp [D.pys]
  | x :: l => by
    rw [List.map_cons, D.pys, pys_pair l]
    unfold toD toPy
    simp [D.py, D.pys]
theorem gSorted_str (l : List Str) (h : l.length ≤ 1000) : gSorted [.lst (l.map .str)] = some (.lst ((sortT l).map .str)) := by
  unfold gSorted
  show (D.pys (l.map .str)).bind _ = _
  rw [pys_str, Option.bind_some, if_pos ?_, sortZ_str]
  have h1 : alikeB (l.map .str) = true := by
    unfold alikeB
    rw [List.all_eq_true]
    intro d hd
    rw [List.all_eq_true]
    intro d' hd'
    obtain ⟨a, _, rfl⟩ := List.mem_map.mp hd
    obtain ⟨b, _, rfl⟩ := List.mem_map.mp hd'
    simp [PySem.W.alike]
  have h2 : sortableB (l.map .str) = true := by
    unfold sortableB
    rw [Bool.or_eq_true]
    refine .inr (List.all_eq_true.mpr fun d hd => ?_)
    obtain ⟨a, _, rfl⟩ := List.mem_map.mp hd
    rfl
  have h3 : lowB (l.map .str) = true := by
    unfold lowB
    rw [List.all_eq_true]
    intro d hd
    obtain ⟨a, _, rfl⟩ := List.mem_map.mp hd
    rw [PyData.depth]
    decide
  rw [h1, h2, h3, List.length_map]
  simp
  omega
theorem gSorted_pair (l : List P2S) (h : l.length ≤ 1000) : gSorted [.lst (l.map toD)] = some (.lst ((sortP l).map toD)) := by
  unfold gSorted
  show (D.pys (l.map toD)).bind _ = _
  rw [pys_pair, Option.bind_some, if_pos ?_, sortZ_pair]
  have h1 : alikeB (l.map toPy) = true := by
    unfold alikeB
    rw [List.all_eq_true]
    intro d hd
    rw [List.all_eq_true]
    intro d' hd'
    obtain ⟨a, _, rfl⟩ := List.mem_map.mp hd
    obtain ⟨b, _, rfl⟩ := List.mem_map.mp hd'
    simp [toPy, PySem.W.alike, PySem.W.alikeAll]
  have h2 : sortableB (l.map toPy) = true := by
    unfold sortableB
    rw [Bool.or_eq_true]
    refine .inl (List.all_eq_true.mpr fun d hd => ?_)
    obtain ⟨a, _, rfl⟩ := List.mem_map.mp hd
    rfl
  have h3 : lowB (l.map toPy) = true := by
    unfold lowB
    rw [List.all_eq_true]
    intro d hd
    obtain ⟨a, _, rfl⟩ := List.mem_map.mp hd
    simp [toPy, PyData.depth, PyData.depthAll]
  rw [h1, h2, h3, List.length_map]
  simp
  omega
/-! ### comprehensions -/
theorem comp_ok (i : Nat) (pq : Rho → Option Bool) (pe : Fr0) (ρ : Rho) (q : Str → Bool) (f : Str → D) : ∀ l : List Str, (∀ s ∈ l, pq (ρ.set i (.im (.str s))) = some (q s)) → (∀ s ∈ l, pe (ρ.set i (.im (.str s))) = some (f s)) → comp [i] gOne pq pe ρ (l.map .str) = some ((l.filter q).map f)
  | [], _, _ => rfl
  | s :: l, h1, h2 => by
    have ih := comp_ok i pq pe ρ q f l (fun s hs => h1 s (by simp [hs])) (fun s hs => h2 s (by simp [hs]))
    show (pq (ρ.set i (.im (.str s)))).bind (fun b => if b = true then (pe (ρ.set i (.im (.str s)))).bind fun y => (comp [i] gOne pq pe ρ (l.map .str)).bind fun l => some (y :: l) else comp [i] gOne pq pe ρ (l.map .str)) = _
    rw [h1 s (by simp), Option.bind_some, h2 s (by simp), Option.bind_some, ih]
    cases hq : q s
    · rw [List.filter_cons_of_neg (by simp [hq])]; rfl
    · rw [List.filter_cons_of_pos hq]; rfl
theorem pComp_ok {own : List Nat} {i : Nat} {pi : Rho → Option (List D)} {pq : Rho → Option Bool} {pe : Fr0} {ρ : Rho} {l : List Str} (q : Str → Bool) (f : Str → D) (hi : pi ρ = some (l.map .str)) (hl : l.length ≤ 1000)
    (h1 : ∀ s ∈ l, pq ((drop0 ρ own).set i (.im (.str s))) = some (q s)) (h2 : ∀ s ∈ l, pe ((drop0 ρ own).set i (.im (.str s))) = some (f s)) : pComp own pi [i] gOne pq pe ρ = some (.lst ((l.filter q).map f)) := by
  unfold pComp
  rw [hi, Option.bind_some, if_pos (by rw [List.length_map]; omega), comp_ok i pq pe _ q f l h1 h2]
  rfl
theorem iSeq_ok {p : Fr0} {ρ : Rho} {d : D} {l : List Str} (h : p ρ = some d) (hs : Sq d l) : iSeq p ρ = some (l.map .str) := by
  unfold iSeq
  rw [h, Option.bind_some, asSeq_sq hs]
def mrg (S L R : List Str) : List Str := sortT (L.filter (fun s => decide (s ∈ R) || !decide (s ∈ S)) ++ R.filter (fun s => !decide (s ∈ L) && !decide (s ∈ S)))
theorem pCall1 {g : List D → Option D} {p : Fr0} {ρ : Rho} {x d : D} (h1 : p ρ = some x) (h : g [x] = some d) : pCall g (aCons p aNil) ρ = some d := by
  unfold pCall aCons aNil
  rw [h1]
  exact h
theorem add_lst {x y : List D} (h : x.length + y.length ≤ 100000) : gAdd (.lst x) (.lst y) = some (.lst (x ++ y)) := by
  show (if x.length + y.length ≤ 100000 then some (D.lst (x ++ y)) else none).or _ = _
  rw [if_pos h]
  rfl
theorem flen {l : List Str} {q : Str → Bool} : (l.filter q).length ≤ l.length := List.length_filter_le _ _
theorem merged_sq {dS dL dR : D} {S L R : List Str} (hS : Sq dS S) (hL : Sq dL L) (hR : Sq dR R) (l1 : L.length ≤ 11) (l2 : R.length ≤ 11) : fnO 3 sem_merged_names [dS, dL, dR] = some (.lst ((mrg S L R).map .str)) := by
  have c1 : mP (pComp [4] (iSeq (pVar 1)) [4] gOne (tOr2 (tP (p2 gIn (pVar 4) (pVar 2))) (tP (p2 gNotIn (pVar 4) (pVar 0)))) (pVar 4)) [.im dS, .im dL, .im dR, .un, .un] = some (.ok (.lst ((L.filter (fun s => decide (s ∈ R) || !decide (s ∈ S))).map .str)), [.im dS, .im dL, .im dR, .un, .un]) :=
    mP_ok (pComp_ok _ _ (iSeq_ok rfl hL) (by omega) (fun s _ => tOr2_ok (tP_ok (p2_ok rfl rfl (gIn_sq hR s))) (tP_ok (p2_ok rfl rfl (gNotIn_sq hS s)))) (fun s _ => rfl))
  have c2 : pComp [4] (iSeq (pVar 2)) [4] gOne (tAnd2 (tP (p2 gNotIn (pVar 4) (pVar 1))) (tP (p2 gNotIn (pVar 4) (pVar 0)))) (pVar 4) [.im dS, .im dL, .im dR, .im (.lst ((L.filter (fun s => decide (s ∈ R) || !decide (s ∈ S))).map .str)), .un] = some (.lst ((R.filter (fun s => !decide (s ∈ L) && !decide (s ∈ S))).map .str)) :=
    pComp_ok _ _ (iSeq_ok rfl hR) (by omega) (fun s _ => tAnd2_ok (tP_ok (p2_ok rfl rfl (gNotIn_sq hL s))) (tP_ok (p2_ok rfl rfl (gNotIn_sq hS s)))) (fun s _ => rfl)
  have f1 := flen (l := L) (q := fun s => decide (s ∈ R) || !decide (s ∈ S))
  have f2 := flen (l := R) (q := fun s => !decide (s ∈ L) && !decide (s ∈ S))
  refine fnO_of (ρ := [.im dS, .im dL, .im dR, .im (.lst ((L.filter (fun s => decide (s ∈ R) || !decide (s ∈ S))).map .str)), .un]) rfl ?_
  unfold m_merged_names
  show sSeq _ _ [.im dS, .im dL, .im dR, .un, .un] = _
  rw [seq_nx (set_ok c1)]
  dsimp only [List.set]
  have e : mP (pCall gSorted (aCons (p2 gAdd (pVar 3) (pComp [4] (iSeq (pVar 2)) [4] gOne (tAnd2 (tP (p2 gNotIn (pVar 4) (pVar 1))) (tP (p2 gNotIn (pVar 4) (pVar 0)))) (pVar 4))) aNil)) [.im dS, .im dL, .im dR, .im (.lst ((L.filter (fun s => decide (s ∈ R) || !decide (s ∈ S))).map .str)), .un] = some (.ok (.lst ((mrg S L R).map .str)), [.im dS, .im dL, .im dR, .im (.lst ((L.filter (fun s => decide (s ∈ R) || !decide (s ∈ S))).map .str)), .un]) := by
    refine mP_ok (pCall1 (p2_ok rfl c2 (add_lst (by rw [List.length_map, List.length_map]; omega))) ?_)
    rw [← List.map_append]
    exact gSorted_str _ (by rw [List.length_append]; omega)
  unfold sRetO sVal
  rw [e]
end K85

set_option Elab.async false
set_option linter.all false
set_option maxRecDepth 100000
set_option maxHeartbeats 4000000
namespace K85
open PySem L2 Vs
/-! ### earlier names -/
def es (S L R ns : List Str) (n : Str) : List Str := ns.filter fun o => !decide (o = n) && isd S L R o n
def kvE (S L R ns done : List Str) : List (Key × D) := done.map fun n => (.inr n, .lst ((es S L R ns n).map .str))
theorem pCall5 {g : List D → Option D} {p q r u v : Fr0} {ρ : Rho} {x y z a b d : D} (h1 : p ρ = some x) (h2 : q ρ = some y) (h3 : r ρ = some z) (h4 : u ρ = some a) (h5 : v ρ = some b) (h : g [x, y, z, a, b] = some d) : pCall g (aCons p (aCons q (aCons r (aCons u (aCons v aNil))))) ρ = some d := by
  unfold pCall aCons aNil
  rw [h1, h2, h3, h4, h5]
  exact h
theorem ne_str (a b : Str) : gNe (.str a) (.str b) = some (.bl (!decide (a = b))) := rfl
theorem putD_new (S L R ns done : List Str) (n : Str) (d : D) (h : n ∉ done) : putD (kvE S L R ns done) (.inr n) d = kvE S L R ns done ++ [(.inr n, d)] := by
  unfold putD
  rw [if_neg]
  unfold kvE
  rw [List.any_map]
  simp only [List.any_eq_true, not_exists, not_and]
  intro m hm e
  have e' : (Sum.inr m : Key) = .inr n := of_decide_eq_true e
  cases e'
  exact h hm
abbrev eBody : MS := sStore 4 (mP (pVar 5)) (mP (pComp [6] (iSeq (pVar 3)) [6] gOne (tAnd2 (tP (p2 gNe (pVar 6) (pVar 5))) (tP (pCall (fnP 5 sem_is_decided) (aCons (pVar 0) (aCons (pVar 1) (aCons (pVar 2) (aCons (pVar 6) (aCons (pVar 5) aNil)))))))) (pVar 6)))
theorem eBody_ok {dS dL dR : D} {S L R : List Str} (hS : Sq dS S) (hL : Sq dL L) (hR : Sq dR R) (ns done : List Str) (n : Str) (hn : ns.length ≤ 100) (hd : done.length ≤ 100) (h : n ∉ done) :
    eBody [.im dS, .im dL, .im dR, .im (.lst (ns.map .str)), .ow (.dct (kvE S L R ns done)), .im (.str n), .un] = some (.nx, [.im dS, .im dL, .im dR, .im (.lst (ns.map .str)), .ow (.dct (kvE S L R ns (done ++ [n]))), .im (.str n), .un]) := by
  have c : mP (pComp [6] (iSeq (pVar 3)) [6] gOne (tAnd2 (tP (p2 gNe (pVar 6) (pVar 5))) (tP (pCall (fnP 5 sem_is_decided) (aCons (pVar 0) (aCons (pVar 1) (aCons (pVar 2) (aCons (pVar 6) (aCons (pVar 5) aNil)))))))) (pVar 6)) [.im dS, .im dL, .im dR, .im (.lst (ns.map .str)), .ow (.dct (kvE S L R ns done)), .im (.str n), .un] =
      some (.ok (.lst ((es S L R ns n).map .str)), [.im dS, .im dL, .im dR, .im (.lst (ns.map .str)), .ow (.dct (kvE S L R ns done)), .im (.str n), .un]) :=
    mP_ok (pComp_ok (fun o => !decide (o = n) && isd S L R o n) D.str (iSeq_ok rfl Sq.l) (by omega) (fun s _ => tAnd2_ok (tP_ok (p2_ok rfl rfl (ne_str s n))) (tP_ok (pCall5 rfl rfl rfl rfl rfl (isd_sq hS hL hR s n)))) (fun s _ => rfl))
  unfold eBody sStore sVal
  rw [c]
  show (((if (kvE S L R ns done).length < 100000 then some (D.dct (putD (kvE S L R ns done) (.inr n) (.lst ((es S L R ns n).map .str)))) else none)).map fun d' => (Flw.nx, putO [.im dS, .im dL, .im dR, .im (.lst (ns.map .str)), .ow (.dct (kvE S L R ns done)), .im (.str n), .un] 4 d')) = _
  rw [if_pos (by unfold kvE; rw [List.length_map]; omega), putD_new S L R ns done n _ h]
  have : kvE S L R ns (done ++ [n]) = kvE S L R ns done ++ [(.inr n, .lst ((es S L R ns n).map .str))] := by unfold kvE; rw [List.map_append]; rfl
  rw [this]
  rfl
theorem eLoop {dS dL dR : D} {S L R : List Str} (hS : Sq dS S) (hL : Sq dL L) (hR : Sq dR R) (ns : List Str) (hn : ns.length ≤ 100) : ∀ (xs done : List Str) (t : Sl), (done ++ xs).Nodup → (done ++ xs).length ≤ 100 →
    ∃ t', loop [5] gOne eBody (xs.map .str) [.im dS, .im dL, .im dR, .im (.lst (ns.map .str)), .ow (.dct (kvE S L R ns done)), t, .un] = some (.nx, [.im dS, .im dL, .im dR, .im (.lst (ns.map .str)), .ow (.dct (kvE S L R ns (done ++ xs))), t', .un])
  | [], done, t, _, _ => ⟨t, by rw [List.append_nil]; rfl⟩
  | x :: xs, done, t, nd, hl => by
    have e : done ++ x :: xs = (done ++ [x]) ++ xs := by simp
    have hx : x ∉ done := fun z => (List.nodup_append.mp nd).2.2 x z x (by simp) rfl
    have b := eBody_ok hS hL hR ns done x hn (by rw [List.length_append] at hl; omega) hx
    obtain ⟨t', ih⟩ := eLoop hS hL hR ns hn xs (done ++ [x]) (.im (.str x)) (by rw [← e]; exact nd) (by rw [← e]; exact hl)
    refine ⟨t', ?_⟩
    show (match eBody [.im dS, .im dL, .im dR, .im (.lst (ns.map .str)), .ow (.dct (kvE S L R ns done)), .im (.str x), .un] with
      | some (.nx, ρ') => loop [5] gOne eBody (xs.map .str) ρ'
      | some (.cnt, ρ') => loop [5] gOne eBody (xs.map .str) ρ'
      | some (.brk, ρ') => some (.nx, ρ')
      | r => r) = _
    rw [b, e]
    exact ih
theorem earlier_sq {dS dL dR : D} {S L R : List Str} (hS : Sq dS S) (hL : Sq dL L) (hR : Sq dR R) (l1 : L.length ≤ 11) (l2 : R.length ≤ 11) (hm : (mrg S L R).length ≤ 100) (nd : (mrg S L R).Nodup) :
    fnO 3 sem_earlier_names [dS, dL, dR] = some (.dct (kvE S L R (mrg S L R) (mrg S L R))) := by
  have c1 : mP (pCall (fnO 3 sem_merged_names) (aCons (pVar 0) (aCons (pVar 1) (aCons (pVar 2) aNil)))) [.im dS, .im dL, .im dR, .un, .un, .un, .un] = some (.ok (.lst ((mrg S L R).map .str)), [.im dS, .im dL, .im dR, .un, .un, .un, .un]) :=
    mP_ok (pCall3 rfl rfl rfl (merged_sq hS hL hR l1 l2))
  obtain ⟨t', lp⟩ := eLoop hS hL hR (mrg S L R) hm (mrg S L R) [] .un nd hm
  refine fnO_of (ρ := [.im dS, .im dL, .im dR, .im (.lst ((mrg S L R).map .str)), .un, t', .un]) rfl ?_
  unfold m_earlier_names
  show sSeq _ _ [.im dS, .im dL, .im dR, .un, .un, .un, .un] = _
  rw [seq_nx (set_ok c1)]
  dsimp only [List.set]
  rw [seq_nx (own_ok (mP_ok rfl))]
  dsimp only [List.set]
  have f : sFor (mP (iSeq (pVar 3))) [5] gOne eBody [.im dS, .im dL, .im dR, .im (.lst ((mrg S L R).map .str)), .ow (.dct []), .un, .un] = some (.nx, [.im dS, .im dL, .im dR, .im (.lst ((mrg S L R).map .str)), .ow (.dct (kvE S L R (mrg S L R) (mrg S L R))), t', .un]) := lp
  rw [seq_nx f]
  rfl
/-! ### the orders are good -/
theorem name_ok : ∀ s ∈ allN, fnP 1 sem_is_name [.str s] = some (.bl true) := by
  intro s hs
  simp only [allN, poolS, List.cons_append, List.nil_append, List.mem_cons, List.not_mem_nil, or_false] at hs
  rcases hs with rfl | rfl | rfl | rfl | rfl | rfl | rfl | rfl | rfl | rfl | rfl | rfl | rfl | rfl | rfl | rfl <;> kernel_rfl
theorem comp_all (i : Nat) (pe : Fr0) (ρ : Rho) (c : D) : ∀ l : List D, (∀ d ∈ l, pe (ρ.set i (.im d)) = some c) → comp [i] gOne pYes pe ρ l = some (l.map fun _ => c)
  | [], _ => rfl
  | d :: l, h => by
    have ih := comp_all i pe ρ c l fun d hd => h d (by simp [hd])
    show ((pe (ρ.set i (.im d))).bind fun y => (comp [i] gOne pYes pe ρ l).bind fun l => some (y :: l)) = _
    rw [h d (by simp), ih]
    rfl
theorem gAll_true (l : List D) : gAll [.lst (l.map fun _ => .bl true)] = some (.bl true) := by
  have e : (l.map fun _ => D.bl true) = (l.map fun _ => true).map .bl := by rw [List.map_map]; rfl
  show (asBs (l.map fun _ => D.bl true)).map _ = _
  rw [e, asBs_map]
  simp
theorem uniq_go : ∀ (l r : List Str), l.Nodup → (∀ s ∈ l, s ∉ r) → (l.foldl sxAdd r).length = r.length + l.length
  | [], r, _, _ => by simp
  | s :: l, r, nd, h => by
    have e : sxAdd r s = s :: r := by unfold sxAdd; rw [if_neg (h s (by simp))]
    rw [List.foldl_cons, e, uniq_go l (s :: r) (List.nodup_cons.mp nd).2 ?_]
    · simp; omega
    · intro z hz hz2
      rcases List.mem_cons.mp hz2 with rfl | hz2
      · exact (List.nodup_cons.mp nd).1 hz
      · exact h z (by simp [hz]) hz2
theorem uniq_nodup {l : List Str} (h : l.Nodup) : (uniq l).length = l.length := by
  unfold uniq
  rw [uniq_go l [] h (by simp)]
  simp
theorem filt_true (l : List Str) : l.filter (fun _ => true) = l := by simp
theorem isi_sq {d : D} {l : List Str} (h : Sq d l) : gIsiT ["list", "tuple"] d = some (.bl true) := by
  rcases h with rfl | rfl <;> rfl
theorem len_sq {p : Fr0} {ρ : Rho} {d : D} {l : List Str} (h : p ρ = some d) (hs : Sq d l) : pCall gLen (aCons p aNil) ρ = some (.int (l.length : Nat)) := by
  refine pCall1 h ?_
  rcases hs with rfl | rfl
  · show some (D.int ((l.map D.str).length : Nat)) = _
    rw [List.length_map]
  · show some (D.int ((l.map D.str).length : Nat)) = _
    rw [List.length_map]
theorem eq_int2 (i j : Int) : gEq (.int i) (.int j) = some (.bl (decide (i = j))) := rfl
theorem different_sq {d : D} {l : List Str} (h : Sq d l) (o : Ord l) : fnP 1 sem_are_different_names [d] = some (.bl true) := by
  have hl := o.len
  have a1 : pComp [1] (iSeq (pVar 0)) [1] gOne pYes (pCall (fnP 1 sem_is_name) (aCons (pVar 1) aNil)) [.im d, .un] = some (.lst ((l.map D.str).map fun _ => .bl true)) := by
    unfold pComp
    rw [iSeq_ok rfl h, Option.bind_some, if_pos (by rw [List.length_map]; omega), comp_all 1 _ _ (.bl true)]
    · rfl
    · intro e he
      obtain ⟨s, hs, rfl⟩ := List.mem_map.mp he
      exact pCall1 rfl (name_ok s (o.inN s hs))
  have t : mB (tOr2 (tNot1 (tP (fun ρ => ((pVar 0) ρ).bind (gIsiT ["list", "tuple"])))) (tNot1 (tP (pCall gAll (aCons (pComp [1] (iSeq (pVar 0)) [1] gOne pYes (pCall (fnP 1 sem_is_name) (aCons (pVar 1) aNil))) aNil))))) [.im d, .un] = some (.ok false, [.im d, .un]) :=
    mB_ok (tOr2_ok (x := false) (y := false) (not1_ok (x := true) (tP_ok (isi_sq h))) (not1_ok (x := true) (tP_ok (pCall1 a1 (gAll_true _)))))
  have c : xComp [1] (iSeq (pVar 0)) [1] gOne (pVar 1) [.im d, .un] = some (uniq l) := by
    unfold xComp
    rw [iSeq_ok rfl h, Option.bind_some, if_pos (by rw [List.length_map]; omega), comp_ok 1 pYes (pVar 1) _ (fun _ => true) D.str l (fun _ _ => rfl) (fun _ _ => rfl), filt_true, Option.bind_some, asSs_map]
    rfl
  refine fnP_of (ρ := [.im d, .un]) rfl ?_
  unfold m_are_different_names
  show sSeq _ _ [.im d, .un] = _
  rw [seq_nx ((if_f t).trans rfl)]
  refine ret_ok (mP_ok (p2_ok (x := .int ((uniq l).length : Nat)) (by rw [c]; rfl) (len_sq rfl h) ?_))
  rw [uniq_nodup o.nd, eq_int2]
  simp
theorem check_sq {dS dL dR : D} {S L R : List Str} (hS : Sq dS S) (hL : Sq dL L) (hR : Sq dR R) (oS : Ord S) (oL : Ord L) (oR : Ord R) : fnP 3 sem_check_orders [dS, dL, dR] = some .non := by
  have a1 : pComp [3] (iSeq (pTup (aCons (pVar 0) (aCons (pVar 1) (aCons (pVar 2) aNil))))) [3] gOne pYes (pCall (fnP 1 sem_are_different_names) (aCons (pVar 3) aNil)) [.im dS, .im dL, .im dR, .un] = some (.lst ([dS, dL, dR].map fun _ => .bl true)) := by
    unfold pComp
    show (comp [3] gOne pYes (pCall (fnP 1 sem_are_different_names) (aCons (pVar 3) aNil)) [.im dS, .im dL, .im dR, .un] [dS, dL, dR]).map D.lst = _
    rw [comp_all 3 _ _ (.bl true)]
    · rfl
    · intro e he
      rcases List.mem_cons.mp he with rfl | he
      · exact pCall1 rfl (different_sq hS oS)
      rcases List.mem_cons.mp he with rfl | he
      · exact pCall1 rfl (different_sq hL oL)
      rcases List.mem_cons.mp he with rfl | he
      · exact pCall1 rfl (different_sq hR oR)
      cases he
  have t : mB (tNot1 (tP (pCall gAll (aCons (pComp [3] (iSeq (pTup (aCons (pVar 0) (aCons (pVar 1) (aCons (pVar 2) aNil))))) [3] gOne pYes (pCall (fnP 1 sem_are_different_names) (aCons (pVar 3) aNil))) aNil)))) [.im dS, .im dL, .im dR, .un] = some (.ok false, [.im dS, .im dL, .im dR, .un]) :=
    mB_ok (not1_ok (x := true) (tP_ok (pCall1 a1 (gAll_true _))))
  have key : m_check_orders (entryN [] 4 [dS, dL, dR]) = some (.nx, [.im dS, .im dL, .im dR, .un]) := by
    unfold m_check_orders
    show sIf _ _ _ [.im dS, .im dL, .im dR, .un] = _
    exact (if_f t).trans rfl
  unfold fnP sem_check_orders runF
  rw [if_pos (show [dS, dL, dR].length = 3 from rfl), key]
  rfl
/-! ### decided -/
def prs (S L R ns : List Str) : List P2S := ns.flatMap fun n => (es S L R ns n).map fun o => (o, n)
theorem comp2_ok (dS dL dR dE : D) (g : Str → List Str) : ∀ ns : List Str, comp2 [4, 5] (gTupD 2 (gsCons gOne (gsCons gOne gsNil))) [6] (iSeq (pVar 5)) [6] gOne (pTup (aCons (pVar 6) (aCons (pVar 4) aNil))) [.im dS, .im dL, .im dR, .im dE, .un, .un, .un] (ns.map fun n => .tpl [.str n, .lst ((g n).map .str)]) = some ((ns.flatMap fun n => (g n).map fun o => (o, n)).map toD)
  | [] => rfl
  | n :: ns => by
    have ih := comp2_ok dS dL dR dE g ns
    have c := comp_ok 6 pYes (pTup (aCons (pVar 6) (aCons (pVar 4) aNil))) [.im dS, .im dL, .im dR, .im dE, .im (.str n), .im (.lst ((g n).map .str)), .un] (fun _ => true) (fun o => toD (o, n)) (g n) (fun _ _ => rfl) (fun _ _ => rfl)
    show ((comp [6] gOne pYes (pTup (aCons (pVar 6) (aCons (pVar 4) aNil))) [.im dS, .im dL, .im dR, .im dE, .im (.str n), .im (.lst ((g n).map .str)), .un] ((g n).map .str)).bind fun l => (comp2 [4, 5] (gTupD 2 (gsCons gOne (gsCons gOne gsNil))) [6] (iSeq (pVar 5)) [6] gOne (pTup (aCons (pVar 6) (aCons (pVar 4) aNil))) [.im dS, .im dL, .im dR, .im dE, .un, .un, .un] (ns.map fun n => .tpl [.str n, .lst ((g n).map .str)])).bind fun l' => some (l ++ l')) = _
    rw [c, ih, filt_true, List.flatMap_cons, List.map_append, List.map_map]
    rfl
theorem decided_sq {dS dL dR : D} {S L R : List Str} (hS : Sq dS S) (hL : Sq dL L) (hR : Sq dR R) (oS : Ord S) (oL : Ord L) (oR : Ord R) (hm : (mrg S L R).length ≤ 30) (nd : (mrg S L R).Nodup) (hp : (prs S L R (mrg S L R)).length ≤ 1000) :
    fnO 3 sem_decided [dS, dL, dR] = some (.lst ((sortP (prs S L R (mrg S L R))).map toD)) := by
  have c1 : mP (pCall (fnP 3 sem_check_orders) (aCons (pVar 0) (aCons (pVar 1) (aCons (pVar 2) aNil)))) [.im dS, .im dL, .im dR, .un, .un, .un, .un] = some (.ok .non, [.im dS, .im dL, .im dR, .un, .un, .un, .un]) :=
    mP_ok (pCall3 rfl rfl rfl (check_sq hS hL hR oS oL oR))
  have c2 : mP (pCall (fnO 3 sem_earlier_names) (aCons (pVar 0) (aCons (pVar 1) (aCons (pVar 2) aNil)))) [.im dS, .im dL, .im dR, .un, .un, .un, .un] = some (.ok (.dct (kvE S L R (mrg S L R) (mrg S L R))), [.im dS, .im dL, .im dR, .un, .un, .un, .un]) :=
    mP_ok (pCall3 rfl rfl rfl (earlier_sq hS hL hR oL.len oR.len (by omega) nd))
  have c3 : pComp2 [4, 5, 6] [6] (iIt (pVar 3)) [4, 5] (gTupD 2 (gsCons gOne (gsCons gOne gsNil))) (iSeq (pVar 5)) [6] gOne (pTup (aCons (pVar 6) (aCons (pVar 4) aNil))) [.im dS, .im dL, .im dR, .im (.dct (kvE S L R (mrg S L R) (mrg S L R))), .un, .un, .un] = some (.lst ((prs S L R (mrg S L R)).map toD)) := by
    have e0 : iIt (pVar 3) [.im dS, .im dL, .im dR, .im (.dct (kvE S L R (mrg S L R) (mrg S L R))), .un, .un, .un] = some ((mrg S L R).map fun n => .tpl [.str n, .lst ((es S L R (mrg S L R) n).map .str)]) := by
      show some ((kvE S L R (mrg S L R) (mrg S L R)).map fun p => D.tpl [.ofK p.1, p.2]) = _
      unfold kvE
      rw [List.map_map]
      rfl
    unfold pComp2
    rw [e0, Option.bind_some]
    show (comp2 [4, 5] (gTupD 2 (gsCons gOne (gsCons gOne gsNil))) [6] (iSeq (pVar 5)) [6] gOne (pTup (aCons (pVar 6) (aCons (pVar 4) aNil))) [.im dS, .im dL, .im dR, .im (.dct (kvE S L R (mrg S L R) (mrg S L R))), .un, .un, .un] _).bind _ = _
    rw [comp2_ok dS dL dR _ (es S L R (mrg S L R)), Option.bind_some, if_pos (by rw [List.length_map]; exact Nat.le_trans hp (by decide))]
    rfl
  refine fnO_of (ρ := [.im dS, .im dL, .im dR, .im (.dct (kvE S L R (mrg S L R) (mrg S L R))), .un, .un, .un]) rfl ?_
  unfold m_decided
  show sSeq _ _ [.im dS, .im dL, .im dR, .un, .un, .un, .un] = _
  rw [seq_nx (expr_ok c1), seq_nx (set_ok c2)]
  dsimp only [List.set]
  have e := mP_ok (pCall1 c3 (gSorted_pair _ hp))
  unfold sRetO sVal
  rw [e]
end K85

set_option Elab.async false
set_option linter.all false
set_option maxRecDepth 100000
set_option maxHeartbeats 4000000
namespace K85
open PySem L2 Vs
/-! ### the law's own pairs -/
def nq (S L R : List Str) (s : Str) : Bool := decide (s ∈ L) && decide (s ∈ R) || !decide (s ∈ S)
abbrev nBody : MS := sIf (mB (tOr2 (tAnd2 (tP (p2 gIn (pVar 4) (pVar 1))) (tP (p2 gIn (pVar 4) (pVar 2)))) (tP (p2 gNotIn (pVar 4) (pVar 0))))) (sExpr (mMut "list" 3 fAppend (maCons (mP (pVar 4)) maNil))) sNil
theorem append_ok {l : List D} {d : D} (h : l.length < 100000) : fAppend (.lst l) [d] = some (.lst (l ++ [d]), .non) := by
  show (if l.length < 100000 then some (D.lst (l ++ [d]), D.non) else none) = _
  rw [if_pos h]
theorem nLoop {dS dL dR : D} {S L R : List Str} (hS : Sq dS S) (hL : Sq dL L) (hR : Sq dR R) : ∀ (xs acc : List Str) (t : Sl), acc.length + xs.length ≤ 1000 →
    ∃ t', loop [4] gOne nBody (xs.map .str) [.im dS, .im dL, .im dR, .ow (.lst (acc.map .str)), t, .un, .un, .un, .un] = some (.nx, [.im dS, .im dL, .im dR, .ow (.lst ((acc ++ xs.filter (nq S L R)).map .str)), t', .un, .un, .un, .un])
  | [], acc, t, _ => ⟨t, by rw [List.filter_nil, List.append_nil]; rfl⟩
  | x :: xs, acc, t, hl => by
    simp only [List.length_cons] at hl
    have te : mB (tOr2 (tAnd2 (tP (p2 gIn (pVar 4) (pVar 1))) (tP (p2 gIn (pVar 4) (pVar 2)))) (tP (p2 gNotIn (pVar 4) (pVar 0)))) [.im dS, .im dL, .im dR, .ow (.lst (acc.map .str)), .im (.str x), .un, .un, .un, .un] = some (.ok (nq S L R x), [.im dS, .im dL, .im dR, .ow (.lst (acc.map .str)), .im (.str x), .un, .un, .un, .un]) :=
      mB_ok (tOr2_ok (tAnd2_ok (tP_ok (p2_ok rfl rfl (gIn_sq hL x))) (tP_ok (p2_ok rfl rfl (gIn_sq hR x)))) (tP_ok (p2_ok rfl rfl (gNotIn_sq hS x))))
    have b : nBody [.im dS, .im dL, .im dR, .ow (.lst (acc.map .str)), .im (.str x), .un, .un, .un, .un] = some (.nx, [.im dS, .im dL, .im dR, .ow (.lst ((acc ++ (if nq S L R x = true then [x] else [])).map .str)), .im (.str x), .un, .un, .un, .un]) := by
      cases hq : nq S L R x with
      | false =>
        rw [hq] at te
        rw [if_neg (by decide), List.append_nil]
        exact (if_f te).trans rfl
      | true =>
        rw [hq] at te
        rw [if_pos rfl, List.map_append]
        exact (if_t te).trans (expr_ok (mut_ok (ρ1 := [.im dS, .im dL, .im dR, .ow (.lst (acc.map .str)), .im (.str x), .un, .un, .un, .un]) rfl rfl (cons_ok (mP_ok rfl) rfl) rfl (append_ok (by rw [List.length_map]; omega))))
    have hl2 : (acc ++ (if nq S L R x = true then [x] else [])).length + xs.length ≤ 1000 := by
      rw [List.length_append]
      split <;> simp <;> omega
    obtain ⟨t', ih⟩ := nLoop hS hL hR xs _ (.im (.str x)) hl2
    refine ⟨t', ?_⟩
    show (match nBody [.im dS, .im dL, .im dR, .ow (.lst (acc.map .str)), .im (.str x), .un, .un, .un, .un] with
      | some (.nx, ρ') => loop [4] gOne nBody (xs.map .str) ρ'
      | some (.cnt, ρ') => loop [4] gOne nBody (xs.map .str) ρ'
      | some (.brk, ρ') => some (.nx, ρ')
      | r => r) = _
    rw [b]
    refine ih.trans ?_
    rw [List.append_assoc]
    cases hq : nq S L R x with
    | false => rw [List.filter_cons_of_neg (by simp [hq])]; rfl
    | true => rw [List.filter_cons_of_pos hq]; rfl
def cnd (S L R : List Str) (a b : Str) : Bool := (!decide (a = b) && (bf L a b == some true || bf R a b == some true)) && (!(bf L a b == some false || bf R a b == some false) || bf S b a == some true)
theorem in_true (x y : Option Bool) : gIn (.bl true) (.lst [oD x, oD y]) = some (.bl (x == some true || y == some true)) := by
  cases x with
  | none => cases y with
    | none => rfl
    | some y => cases y <;> rfl
  | some x => cases x <;> (cases y with
    | none => rfl
    | some y => cases y <;> rfl)
theorem notin_false (x y : Option Bool) : gNotIn (.bl false) (.lst [oD x, oD y]) = some (.bl (!(x == some false || y == some false))) := by
  cases x with
  | none => cases y with
    | none => rfl
    | some y => cases y <;> rfl
  | some x => cases x <;> (cases y with
    | none => rfl
    | some y => cases y <;> rfl)
theorem lst2_ok {p q : Fr0} {ρ : Rho} {x y : D} (h1 : p ρ = some x) (h2 : q ρ = some y) : pLst (aCons p (aCons q aNil)) ρ = some (.lst [x, y]) := by
  unfold pLst aCons aNil
  rw [h1, h2]
  rfl
abbrev pBody : MS := sSeq (sSet 8 (mP (pLst (aCons (pCall (fnP 3 sem_before) (aCons (pVar 1) (aCons (pVar 6) (aCons (pVar 7) aNil)))) (aCons (pCall (fnP 3 sem_before) (aCons (pVar 2) (aCons (pVar 6) (aCons (pVar 7) aNil)))) aNil)))))
    (sIf (mB (tAnd2 (tP (p2 gNe (pVar 6) (pVar 7))) (tP (p2 gIn (pC (.bl true)) (pVar 8))))) (sIf (mB (tOr2 (tP (p2 gNotIn (pC (.bl false)) (pVar 8))) (tP (p2 gIs (pCall (fnP 3 sem_before) (aCons (pVar 0) (aCons (pVar 7) (aCons (pVar 6) aNil)))) (pC (.bl true)))))) (sExpr (mMut "list" 5 fAppend (maCons (mP (pTup (aCons (pVar 6) (aCons (pVar 7) aNil)))) maNil))) sNil) sNil)
theorem pBody_ok {dS dL dR dN : D} {S L R : List Str} (hS : Sq dS S) (hL : Sq dL L) (hR : Sq dR R) (t4 t8 : Sl) (acc : List P2S) (a b : Str) (hl : acc.length < 10000) :
    ∃ t8', pBody [.im dS, .im dL, .im dR, .im dN, t4, .ow (.lst (acc.map toD)), .im (.str a), .im (.str b), t8] = some (.nx, [.im dS, .im dL, .im dR, .im dN, t4, .ow (.lst ((acc ++ (if cnd S L R a b = true then [(a, b)] else [])).map toD)), .im (.str a), .im (.str b), t8']) := by
  refine ⟨.im (.lst [oD (bf L a b), oD (bf R a b)]), ?_⟩
  have c : mP (pLst (aCons (pCall (fnP 3 sem_before) (aCons (pVar 1) (aCons (pVar 6) (aCons (pVar 7) aNil)))) (aCons (pCall (fnP 3 sem_before) (aCons (pVar 2) (aCons (pVar 6) (aCons (pVar 7) aNil)))) aNil))) [.im dS, .im dL, .im dR, .im dN, t4, .ow (.lst (acc.map toD)), .im (.str a), .im (.str b), t8] = some (.ok (.lst [oD (bf L a b), oD (bf R a b)]), [.im dS, .im dL, .im dR, .im dN, t4, .ow (.lst (acc.map toD)), .im (.str a), .im (.str b), t8]) :=
    mP_ok (lst2_ok (pCall3 rfl rfl rfl (before_sq hL a b)) (pCall3 rfl rfl rfl (before_sq hR a b)))
  unfold pBody
  rw [seq_nx (set_ok c)]
  dsimp only [List.set]
  have t1 : mB (tAnd2 (tP (p2 gNe (pVar 6) (pVar 7))) (tP (p2 gIn (pC (.bl true)) (pVar 8)))) [.im dS, .im dL, .im dR, .im dN, t4, .ow (.lst (acc.map toD)), .im (.str a), .im (.str b), .im (.lst [oD (bf L a b), oD (bf R a b)])] = some (.ok (!decide (a = b) && (bf L a b == some true || bf R a b == some true)), [.im dS, .im dL, .im dR, .im dN, t4, .ow (.lst (acc.map toD)), .im (.str a), .im (.str b), .im (.lst [oD (bf L a b), oD (bf R a b)])]) :=
    mB_ok (tAnd2_ok (tP_ok (p2_ok rfl rfl (ne_str a b))) (tP_ok (p2_ok rfl rfl (in_true _ _))))
  have t2 : mB (tOr2 (tP (p2 gNotIn (pC (.bl false)) (pVar 8))) (tP (p2 gIs (pCall (fnP 3 sem_before) (aCons (pVar 0) (aCons (pVar 7) (aCons (pVar 6) aNil)))) (pC (.bl true))))) [.im dS, .im dL, .im dR, .im dN, t4, .ow (.lst (acc.map toD)), .im (.str a), .im (.str b), .im (.lst [oD (bf L a b), oD (bf R a b)])] = some (.ok (!(bf L a b == some false || bf R a b == some false) || bf S b a == some true), [.im dS, .im dL, .im dR, .im dN, t4, .ow (.lst (acc.map toD)), .im (.str a), .im (.str b), .im (.lst [oD (bf L a b), oD (bf R a b)])]) :=
    mB_ok (tOr2_ok (tP_ok (p2_ok rfl rfl (notin_false _ _))) (tP_ok (p2_ok (pCall3 rfl rfl rfl (before_sq hS b a)) rfl (is_bl _ true))))
  unfold cnd
  generalize (!decide (a = b) && (bf L a b == some true || bf R a b == some true)) = u at t1 ⊢
  generalize (!(bf L a b == some false || bf R a b == some false) || bf S b a == some true) = v at t2 ⊢
  cases u with
  | false =>
    rw [Bool.false_and, if_neg (by decide), List.append_nil]
    exact (if_f t1).trans rfl
  | true =>
    rw [Bool.true_and]
    cases v with
    | false =>
      rw [if_neg (by decide), List.append_nil]
      exact (if_t t1).trans ((if_f t2).trans rfl)
    | true =>
      rw [if_pos rfl, List.map_append]
      exact (if_t t1).trans ((if_t t2).trans (expr_ok (mut_ok (ρ1 := [.im dS, .im dL, .im dR, .im dN, t4, .ow (.lst (acc.map toD)), .im (.str a), .im (.str b), .im (.lst [oD (bf L a b), oD (bf R a b)])]) rfl rfl (cons_ok (mP_ok rfl) rfl) rfl (append_ok (by rw [List.length_map]; omega)))))
theorem iLoop {dS dL dR dN : D} {S L R : List Str} (hS : Sq dS S) (hL : Sq dL L) (hR : Sq dR R) (t4 : Sl) (a : Str) : ∀ (xs : List Str) (acc : List P2S) (t7 t8 : Sl), acc.length + xs.length ≤ 9000 →
    ∃ t7' t8', loop [7] gOne pBody (xs.map .str) [.im dS, .im dL, .im dR, .im dN, t4, .ow (.lst (acc.map toD)), .im (.str a), t7, t8] = some (.nx, [.im dS, .im dL, .im dR, .im dN, t4, .ow (.lst ((acc ++ (xs.filter (cnd S L R a)).map fun b => (a, b)).map toD)), .im (.str a), t7', t8'])
  | [], acc, t7, t8, _ => ⟨t7, t8, by simp only [List.filter_nil, List.map_nil, List.append_nil]; rfl⟩
  | b :: xs, acc, t7, t8, hl => by
    simp only [List.length_cons] at hl
    obtain ⟨t8a, e⟩ := pBody_ok (dN := dN) hS hL hR t4 t8 acc a b (by omega)
    have hl2 : (acc ++ (if cnd S L R a b = true then [(a, b)] else [])).length + xs.length ≤ 9000 := by
      rw [List.length_append]
      split <;> simp <;> omega
    obtain ⟨t7', t8', ih⟩ := iLoop hS hL hR t4 a xs _ (.im (.str b)) t8a hl2
    refine ⟨t7', t8', ?_⟩
    show (match pBody [.im dS, .im dL, .im dR, .im dN, t4, .ow (.lst (acc.map toD)), .im (.str a), .im (.str b), t8] with
      | some (.nx, ρ') => loop [7] gOne pBody (xs.map .str) ρ'
      | some (.cnt, ρ') => loop [7] gOne pBody (xs.map .str) ρ'
      | some (.brk, ρ') => some (.nx, ρ')
      | r => r) = _
    rw [e]
    refine ih.trans ?_
    rw [List.append_assoc]
    cases hq : cnd S L R a b with
    | false => rw [List.filter_cons_of_neg (by simp [hq])]; rfl
    | true => rw [List.filter_cons_of_pos hq]; rfl
abbrev oBody : MS := sFor (mP (iSeq (pVar 3))) [7] gOne pBody
def prl (S L R ns xs : List Str) : List P2S := xs.flatMap fun a => (ns.filter (cnd S L R a)).map fun b => (a, b)
theorem oLoop {dS dL dR : D} {S L R : List Str} (hS : Sq dS S) (hL : Sq dL L) (hR : Sq dR R) (t4 : Sl) (ns : List Str) (hn : ns.length ≤ 30) : ∀ (xs : List Str) (acc : List P2S) (t6 t7 t8 : Sl), acc.length + 30 * xs.length ≤ 8000 →
    ∃ t6' t7' t8', loop [6] gOne oBody (xs.map .str) [.im dS, .im dL, .im dR, .im (.lst (ns.map .str)), t4, .ow (.lst (acc.map toD)), t6, t7, t8] = some (.nx, [.im dS, .im dL, .im dR, .im (.lst (ns.map .str)), t4, .ow (.lst ((acc ++ prl S L R ns xs).map toD)), t6', t7', t8'])
  | [], acc, t6, t7, t8, _ => ⟨t6, t7, t8, by show _ = some (Flw.nx, [_, _, _, _, _, Sl.ow (D.lst ((acc ++ []).map toD)), _, _, _]); rw [List.append_nil]; rfl⟩
  | a :: xs, acc, t6, t7, t8, hl => by
    simp only [List.length_cons] at hl
    have e : ∃ t7' t8', oBody [.im dS, .im dL, .im dR, .im (.lst (ns.map .str)), t4, .ow (.lst (acc.map toD)), .im (.str a), t7, t8] = some (.nx, [.im dS, .im dL, .im dR, .im (.lst (ns.map .str)), t4, .ow (.lst ((acc ++ (ns.filter (cnd S L R a)).map fun b => (a, b)).map toD)), .im (.str a), t7', t8']) :=
      iLoop hS hL hR t4 a ns acc t7 t8 (by omega)
    obtain ⟨t7a, t8a, e⟩ := e
    have hl2 : (acc ++ (ns.filter (cnd S L R a)).map fun b => (a, b)).length + 30 * xs.length ≤ 8000 := by
      have := flen (l := ns) (q := cnd S L R a)
      rw [List.length_append, List.length_map]
      omega
    obtain ⟨t6', t7', t8', ih⟩ := oLoop hS hL hR t4 ns hn xs _ (.im (.str a)) t7a t8a hl2
    refine ⟨t6', t7', t8', ?_⟩
    show (match oBody [.im dS, .im dL, .im dR, .im (.lst (ns.map .str)), t4, .ow (.lst (acc.map toD)), .im (.str a), t7, t8] with
      | some (.nx, ρ') => loop [6] gOne oBody (xs.map .str) ρ'
      | some (.cnt, ρ') => loop [6] gOne oBody (xs.map .str) ρ'
      | some (.brk, ρ') => some (.nx, ρ')
      | r => r) = _
    rw [e]
    refine ih.trans ?_
    rw [List.append_assoc]
    rfl
def lns (S L R : List Str) : List Str := (sortT (uniq (L ++ R))).filter (nq S L R)
theorem pairs_sq {S L R : List Str} (hl : L.length ≤ 11) (hr : R.length ≤ 11) : fnP 3 sem_pairs [.lst (S.map .str), .lst (L.map .str), .lst (R.map .str)] = some (.tup [.lst ((lns S L R).map .str), .lst ((prl S L R (lns S L R) (lns S L R)).map toD)]) := by
  have lu : (uniq (L ++ R)).length ≤ 22 := Nat.le_trans (uniq_len _) (by rw [List.length_append]; omega)
  have ls : (sortT (uniq (L ++ R))).length ≤ 22 := by rw [(sortT_perm _).length_eq]; exact lu
  have ln : (lns S L R).length ≤ 22 := Nat.le_trans flen ls
  obtain ⟨t', e1⟩ := nLoop (S := S) (L := L) (R := R) (dS := .lst (S.map .str)) (dL := .lst (L.map .str)) (dR := .lst (R.map .str)) Sq.l Sq.l Sq.l (sortT (uniq (L ++ R))) [] .un (by simp; omega)
  rw [List.nil_append] at e1
  have ex : iSeq (fun ρ => ((xSet (aCons (p2 gAdd (pVar 1) (pVar 2)) aNil)) ρ).bind fun l => if l.length < 64 then some (.lst ((sortT l).map .str)) else none) [.im (.lst (S.map .str)), .im (.lst (L.map .str)), .im (.lst (R.map .str)), .ow (.lst []), .un, .un, .un, .un, .un] = some ((sortT (uniq (L ++ R))).map .str) := by
    have ea : p2 gAdd (pVar 1) (pVar 2) [.im (.lst (S.map .str)), .im (.lst (L.map .str)), .im (.lst (R.map .str)), .ow (.lst []), .un, .un, .un, .un, .un] = some (.lst ((L ++ R).map .str)) := by
      rw [List.map_append]
      exact p2_ok rfl rfl (add_lst (by rw [List.length_map, List.length_map]; omega))
    have es : xSet (aCons (p2 gAdd (pVar 1) (pVar 2)) aNil) [.im (.lst (S.map .str)), .im (.lst (L.map .str)), .im (.lst (R.map .str)), .ow (.lst []), .un, .un, .un, .un, .un] = some (uniq (L ++ R)) := by
      unfold xSet aCons aNil
      rw [ea]
      show (asSs ((L ++ R).map .str)).bind _ = _
      rw [asSs_map, Option.bind_some, if_pos (by rw [List.length_append]; omega)]
    refine iSeq_ok (d := .lst ((sortT (uniq (L ++ R))).map .str)) ?_ Sq.l
    show (xSet _ _).bind _ = _
    rw [es, Option.bind_some, if_pos (by omega)]
  have f1 : sFor (mP (iSeq (fun ρ => ((xSet (aCons (p2 gAdd (pVar 1) (pVar 2)) aNil)) ρ).bind fun l => if l.length < 64 then some (.lst ((sortT l).map .str)) else none))) [4] gOne nBody [.im (.lst (S.map .str)), .im (.lst (L.map .str)), .im (.lst (R.map .str)), .ow (.lst []), .un, .un, .un, .un, .un] = some (.nx, [.im (.lst (S.map .str)), .im (.lst (L.map .str)), .im (.lst (R.map .str)), .ow (.lst ((lns S L R).map .str)), t', .un, .un, .un, .un]) := by
    unfold sFor
    rw [mP_ok ex]
    exact e1
  obtain ⟨t6, t7, t8, e2⟩ := oLoop (S := S) (L := L) (R := R) (dS := .lst (S.map .str)) (dL := .lst (L.map .str)) (dR := .lst (R.map .str)) Sq.l Sq.l Sq.l t' (lns S L R) (by omega) (lns S L R) [] .un .un .un (by simp; omega)
  rw [List.nil_append] at e2
  refine fnP_of (ρ := [.im (.lst (S.map .str)), .im (.lst (L.map .str)), .im (.lst (R.map .str)), .im (.lst ((lns S L R).map .str)), t', .im (.lst ((prl S L R (lns S L R) (lns S L R)).map toD)), t6, t7, t8]) rfl ?_
  unfold m_pairs
  show sSeq _ _ [.im (.lst (S.map .str)), .im (.lst (L.map .str)), .im (.lst (R.map .str)), .un, .un, .un, .un, .un, .un] = _
  rw [seq_nx (own_ok (mP_ok rfl))]
  dsimp only [List.set]
  rw [seq_nx f1]
  have g1 : sGive 3 (sOwn 5 (mP (pLst aNil))) [.im (.lst (S.map .str)), .im (.lst (L.map .str)), .im (.lst (R.map .str)), .ow (.lst ((lns S L R).map .str)), t', .un, .un, .un, .un] = some (.nx, [.im (.lst (S.map .str)), .im (.lst (L.map .str)), .im (.lst (R.map .str)), .im (.lst ((lns S L R).map .str)), t', .ow (.lst []), .un, .un, .un]) := rfl
  rw [seq_nx g1]
  have f2 : sFor (mP (iSeq (pVar 3))) [6] gOne oBody [.im (.lst (S.map .str)), .im (.lst (L.map .str)), .im (.lst (R.map .str)), .im (.lst ((lns S L R).map .str)), t', .ow (.lst []), .un, .un, .un] = some (.nx, [.im (.lst (S.map .str)), .im (.lst (L.map .str)), .im (.lst (R.map .str)), .im (.lst ((lns S L R).map .str)), t', .ow (.lst ((prl S L R (lns S L R) (lns S L R)).map toD)), t6, t7, t8]) := e2
  rw [seq_nx f2]
  rfl
end K85

set_option Elab.async false
set_option linter.all false
set_option maxRecDepth 100000
set_option maxHeartbeats 4000000
namespace K85
open PySem L2 Vs
/-! ### both say the same -/
theorem mem_sxAdd (l : List Str) (k s : Str) : s ∈ sxAdd l k ↔ s = k ∨ s ∈ l := by
  unfold sxAdd
  split
  · constructor
    · exact .inr
    · rintro (rfl | h)
      · assumption
      · exact h
  · exact List.mem_cons
theorem nd_sxAdd {l : List Str} {k : Str} (h : l.Nodup) : (sxAdd l k).Nodup := by
  unfold sxAdd
  split
  · exact h
  · exact List.nodup_cons.mpr ⟨by assumption, h⟩
theorem uniq_mem_go (s : Str) : ∀ (l r : List Str), s ∈ l.foldl sxAdd r ↔ s ∈ r ∨ s ∈ l
  | [], r => by simp
  | k :: l, r => by
    rw [List.foldl_cons, uniq_mem_go s l (sxAdd r k), mem_sxAdd, List.mem_cons]
    constructor
    · rintro ((h | h) | h)
      · exact .inr (.inl h)
      · exact .inl h
      · exact .inr (.inr h)
    · rintro (h | h | h)
      · exact .inl (.inr h)
      · exact .inl (.inl h)
      · exact .inr h
theorem uniq_nd_go : ∀ (l r : List Str), r.Nodup → (l.foldl sxAdd r).Nodup
  | [], _, h => h
  | k :: l, r, h => uniq_nd_go l _ (nd_sxAdd h)
theorem mem_uniq (l : List Str) (s : Str) : s ∈ uniq l ↔ s ∈ l := by unfold uniq; rw [uniq_mem_go]; simp
theorem nd_uniq (l : List Str) : (uniq l).Nodup := uniq_nd_go l [] .nil
theorem mem_mrg (S L R : List Str) (s : Str) : s ∈ mrg S L R ↔ (s ∈ L ∧ s ∈ R) ∨ ((s ∈ L ∨ s ∈ R) ∧ ¬ s ∈ S) := by
  unfold mrg
  rw [(sortT_perm _).mem_iff, List.mem_append, List.mem_filter, List.mem_filter]
  by_cases h1 : s ∈ L <;> by_cases h2 : s ∈ R <;> by_cases h3 : s ∈ S <;> simp [h1, h2, h3]
theorem mem_lns (S L R : List Str) (s : Str) : s ∈ lns S L R ↔ (s ∈ L ∧ s ∈ R) ∨ ((s ∈ L ∨ s ∈ R) ∧ ¬ s ∈ S) := by
  unfold lns
  rw [List.mem_filter, (sortT_perm _).mem_iff, mem_uniq, List.mem_append]
  unfold nq
  by_cases h1 : s ∈ L <;> by_cases h2 : s ∈ R <;> by_cases h3 : s ∈ S <;> simp [h1, h2, h3]
theorem nd_mrg {S L R : List Str} (hL : L.Nodup) (hR : R.Nodup) : (mrg S L R).Nodup := by
  unfold mrg
  refine (sortT_perm _).nodup_iff.mpr (List.nodup_append.mpr ⟨hL.sublist List.filter_sublist, hR.sublist List.filter_sublist, ?_⟩)
  intro a ha b hb e
  subst e
  have h1 := (List.mem_filter.mp ha).1
  have h2 := (List.mem_filter.mp hb).2
  simp [h1] at h2
theorem nd_lns (S L R : List Str) : (lns S L R).Nodup := ((sortT_perm _).nodup_iff.mpr (nd_uniq _)).sublist List.filter_sublist
theorem pw_lns (S L R : List Str) : (lns S L R).Pairwise (fun a b => leT a b = true) := (sortT_pw _).sublist List.filter_sublist
theorem pw_mrg (S L R : List Str) : (mrg S L R).Pairwise (fun a b => leT a b = true) := sortT_pw _
theorem lns_mrg {S L R : List Str} (hL : L.Nodup) (hR : R.Nodup) : lns S L R = mrg S L R :=
  List.Perm.eq_of_pairwise (fun a b _ _ => leT_anti a b) (pw_lns S L R) (pw_mrg S L R) ((List.perm_ext_iff_of_nodup (nd_lns S L R) (nd_mrg hL hR)).mpr fun s => (mem_lns S L R s).trans (mem_mrg S L R s).symm)
theorem mrg_comm {S L R : List Str} (hL : L.Nodup) (hR : R.Nodup) : mrg S R L = mrg S L R :=
  List.Perm.eq_of_pairwise (fun a b _ _ => leT_anti a b) (pw_mrg S R L) (pw_mrg S L R) ((List.perm_ext_iff_of_nodup (nd_mrg hR hL) (nd_mrg hL hR)).mpr fun s => by
    rw [mem_mrg, mem_mrg]
    constructor <;> rintro (⟨a, b⟩ | ⟨a, b⟩) <;> first | exact .inl ⟨b, a⟩ | exact .inr ⟨a.symm, b⟩)
theorem isd_comm (S L R : List Str) (a b : Str) : isd S R L a b = isd S L R a b := by
  unfold isd
  cases bf L a b with
  | none => cases bf R a b with
    | none => rfl
    | some y => cases y <;> rfl
  | some x => cases bf R a b with
    | none => cases x <;> rfl
    | some y => cases x <;> cases y <;> rfl
theorem prs_comm (S L R ns : List Str) : prs S R L ns = prs S L R ns := by
  unfold prs es
  simp only [isd_comm S L R]
theorem bf_turn {S : List Str} {a b : Str} (h : a ≠ b) : (bf S b a == some true) = (bf S a b == some false) := by
  unfold bf
  by_cases h1 : a ∈ S
  · by_cases h2 : b ∈ S
    · rw [if_pos ⟨h2, h1⟩, if_pos ⟨h1, h2⟩]
      have hne : fi S a ≠ fi S b := fun e => h (fi_inj h1 e)
      by_cases h3 : fi S a < fi S b
      · rw [decide_eq_true h3, decide_eq_false (by omega)]; rfl
      · rw [decide_eq_false h3, decide_eq_true (by omega)]; rfl
    · rw [if_neg (fun z => h2 z.1), if_neg (fun z => h2 z.2)]; rfl
  · rw [if_neg (fun z => h1 z.2), if_neg (fun z => h1 z.1)]; rfl
theorem cnd_isd (S L R : List Str) (a b : Str) : cnd S L R a b = (!decide (a = b) && isd S L R a b) := by
  unfold cnd isd
  by_cases h : a = b
  · rw [decide_eq_true h]; rfl
  · rw [decide_eq_false h, bf_turn h]
    cases bf L a b with
    | none => cases bf R a b with
      | none => rfl
      | some y => cases y <;> cases (bf S a b == some false) <;> rfl
    | some x => cases bf R a b with
      | none => cases x <;> cases (bf S a b == some false) <;> rfl
      | some y => cases x <;> cases y <;> cases (bf S a b == some false) <;> rfl
theorem mem_prs (S L R ns : List Str) (a b : Str) : (a, b) ∈ prs S L R ns ↔ (b ∈ ns ∧ a ∈ ns ∧ (!decide (a = b) && isd S L R a b) = true) := by
  unfold prs es
  rw [List.mem_flatMap]
  constructor
  · rintro ⟨n, hn, h⟩
    obtain ⟨o, ho, e⟩ := List.mem_map.mp h
    cases e
    exact ⟨hn, (List.mem_filter.mp ho).1, (List.mem_filter.mp ho).2⟩
  · rintro ⟨h1, h2, h3⟩
    exact ⟨b, h1, List.mem_map.mpr ⟨a, List.mem_filter.mpr ⟨h2, h3⟩, rfl⟩⟩
theorem mem_prl (S L R ns : List Str) (a b : Str) : (a, b) ∈ prl S L R ns ns ↔ (b ∈ ns ∧ a ∈ ns ∧ (!decide (a = b) && isd S L R a b) = true) := by
  unfold prl
  rw [List.mem_flatMap]
  constructor
  · rintro ⟨n, hn, h⟩
    obtain ⟨o, ho, e⟩ := List.mem_map.mp h
    cases e
    exact ⟨(List.mem_filter.mp ho).1, hn, (cnd_isd S L R a b).symm.trans (List.mem_filter.mp ho).2⟩
  · rintro ⟨h1, h2, h3⟩
    exact ⟨a, h2, List.mem_map.mpr ⟨b, List.mem_filter.mpr ⟨h1, (cnd_isd S L R a b).trans h3⟩, rfl⟩⟩
theorem nd_flat (f : Str → List Str) (g : Str → Str → P2S) (hg : ∀ n o n' o', g n o = g n' o' → n = n' ∧ o = o') {ns : List Str} (nd : ns.Nodup) (hf : ∀ n, (f n).Nodup) : (ns.flatMap fun n => (f n).map (g n)).Nodup := by
  refine List.pairwise_flatMap.mpr ⟨fun n _ => ?_, nd.imp fun {a b} hab x hx y hy e => ?_⟩
  · exact List.pairwise_map.mpr ((hf n).imp fun {o o'} h e => h (hg n o n o' e).2)
  · obtain ⟨o, _, rfl⟩ := List.mem_map.mp hx
    obtain ⟨o', _, rfl⟩ := List.mem_map.mp hy
    exact hab (hg _ _ _ _ e).1
theorem prs_prl (S L R : List Str) {ns : List Str} (nd : ns.Nodup) : (prl S L R ns ns).Perm (prs S L R ns) := by
  refine (List.perm_ext_iff_of_nodup ?_ ?_).mpr fun x => (mem_prl S L R ns x.1 x.2).trans (mem_prs S L R ns x.1 x.2).symm
  · exact nd_flat (fun a => ns.filter (cnd S L R a)) (fun a b => (a, b)) (fun _ _ _ _ e => by cases e; exact ⟨rfl, rfl⟩) nd fun a => nd.sublist List.filter_sublist
  · exact nd_flat (es S L R ns) (fun n o => (o, n)) (fun _ _ _ _ e => by cases e; exact ⟨rfl, rfl⟩) nd fun a => nd.sublist List.filter_sublist
theorem flat_len {α β : Type} (f : α → List β) (k : Nat) (h : ∀ x, (f x).length ≤ k) : ∀ l : List α, (l.flatMap f).length ≤ k * l.length
  | [] => by simp
  | x :: l => by
    have := flat_len f k h l
    have h2 := h x
    rw [List.flatMap_cons, List.length_append, List.length_cons, Nat.mul_succ]
    omega
theorem prs_len (S L R ns : List Str) : (prs S L R ns).length ≤ ns.length * ns.length := flat_len _ _ (fun n => by rw [List.length_map]; exact flen) ns
theorem mrg_len {S L R : List Str} (l1 : L.length ≤ 11) (l2 : R.length ≤ 11) : (mrg S L R).length ≤ 22 := by
  unfold mrg
  have f1 := flen (l := L) (q := fun s => decide (s ∈ R) || !decide (s ∈ S))
  have f2 := flen (l := R) (q := fun s => !decide (s ∈ L) && !decide (s ∈ S))
  rw [(sortT_perm _).length_eq, List.length_append]
  omega
theorem mrg_in {S L R : List Str} (h1 : InN L) (h2 : InN R) : InN (mrg S L R) := fun s hs => by
  rcases (mem_mrg S L R s).mp hs with ⟨h, _⟩ | ⟨h | h, _⟩
  · exact h1 s h
  · exact h1 s h
  · exact h2 s h
abbrev InP (l : List P2S) : Prop := ∀ x ∈ l, x.1 ∈ allN ∧ x.2 ∈ allN
theorem prs_in {S L R ns : List Str} (h : InN ns) : InP (prs S L R ns) := fun x hx => by
  obtain ⟨h1, h2, _⟩ := (mem_prs S L R ns x.1 x.2).mp hx
  exact ⟨h _ h2, h _ h1⟩
/-! ### repr and equality of what is made -/
theorem szN : ∀ s ∈ allN, s.cps.size ≤ 8 := by decide +kernel
theorem shN : ∀ s ∈ allN, (s.cps.toList.all fun c => decide (c < 16 ^ 8)) = true := by decide +kernel
theorem bulk_str : ∀ l : List Str, InN l → PyData.bulkAll (l.map .str) ≤ 9 * l.length
  | [], _ => by simp [PyData.bulkAll]
  | s :: l, h => by
    have := bulk_str l fun s hs => h s (by simp [hs])
    have h2 := szN s (h s (by simp))
    rw [List.map_cons, PyData.bulkAll, PyData.bulk, List.length_cons]
    omega
theorem short_str : ∀ l : List Str, InN l → PyData.leavesShortAll 8 (l.map .str) = true
  | [], _ => by simp [PyData.leavesShortAll]
  | s :: l, h => by
    rw [List.map_cons, PyData.leavesShortAll, PyData.leavesShort, short_str l (fun s hs => h s (by simp [hs])), shN s (h s (by simp))]
    rfl
theorem show_str : ∀ l : List Str, PyData.showableAll (l.map .str) = true
  | [] => by simp [PyData.showableAll]
  | s :: l => by
    rw [List.map_cons, PyData.showableAll, PyData.showable, show_str l]
    rfl
theorem nodict_str : ∀ l : List Str, PyData.hasDictAll (l.map .str) = false
  | [] => by simp [PyData.hasDictAll]
  | s :: l => by
    rw [List.map_cons, PyData.hasDictAll, PyData.hasDict, nodict_str l]
    rfl
theorem bulk_pair : ∀ l : List P2S, InP l → PyData.bulkAll (l.map toPy) ≤ 19 * l.length
  | [], _ => by simp [PyData.bulkAll]
  | x :: l, h => by
    have := bulk_pair l fun s hs => h s (by simp [hs])
    have h2 := szN x.1 (h x (by simp)).1
    have h3 := szN x.2 (h x (by simp)).2
    have e : PyData.bulk (toPy x) = x.1.cps.size + 1 + (x.2.cps.size + 1 + 0) := by simp [toPy, PyData.bulk, PyData.bulkAll]
    rw [List.map_cons, PyData.bulkAll, e, List.length_cons]
    omega
theorem short_pair : ∀ l : List P2S, InP l → PyData.leavesShortAll 8 (l.map toPy) = true
  | [], _ => by simp [PyData.leavesShortAll]
  | x :: l, h => by
    have e : PyData.leavesShort 8 (toPy x) = true := short_str' x (h x (by simp)).1 (h x (by simp)).2
    rw [List.map_cons, PyData.leavesShortAll, short_pair l (fun s hs => h s (by simp [hs])), e]
    rfl
where
  short_str' (x : P2S) (h1 : x.1 ∈ allN) (h2 : x.2 ∈ allN) : PyData.leavesShort 8 (toPy x) = true := by
    show PyData.leavesShort 8 (.tuple ([x.1, x.2].map .str)) = true
    rw [PyData.leavesShort]
    exact short_str [x.1, x.2] (by intro s hs; simp at hs; rcases hs with rfl | rfl <;> assumption)
theorem show_pair : ∀ l : List P2S, PyData.showableAll (l.map toPy) = true
  | [] => by simp [PyData.showableAll]
  | x :: l => by
    rw [List.map_cons, PyData.showableAll, show_pair l]
    simp [toPy, PyData.showable, PyData.showableAll]
theorem nodict_pair : ∀ l : List P2S, PyData.hasDictAll (l.map toPy) = false
  | [] => by simp [PyData.hasDictAll]
  | x :: l => by
    rw [List.map_cons, PyData.hasDictAll, nodict_pair l]
    simp [toPy, PyData.hasDict, PyData.hasDictAll]
theorem depth_pair : ∀ l : List P2S, PyData.depthAll (l.map toPy) ≤ 1
  | [] => by simp [PyData.depthAll]
  | x :: l => by
    have := depth_pair l
    have e : PyData.depth (toPy x) = 1 := by simp [toPy, PyData.depth, PyData.depthAll]
    rw [List.map_cons, PyData.depthAll, e]
    omega
theorem lay_pair : ∀ l : List P2S, InP l → PyData.canLayAll0 (l.map toPy) = true
  | [], _ => by simp [PyData.canLayAll0]
  | x :: l, h => by
    have e : PyData.canLay0 (toPy x) = true := by
      show PyData.canLay0 (.tuple ([x.1, x.2].map .str)) = true
      rw [PyData.canLay0]
      exact canLay_str [x.1, x.2] (by intro s hs; simp at hs; rcases hs with rfl | rfl <;> first | exact (h x (by simp)).1 | exact (h x (by simp)).2)
    rw [List.map_cons, PyData.canLayAll0, e, lay_pair l (fun s hs => h s (by simp [hs]))]
    rfl
theorem repr_pair {l : List P2S} (h : InP l) (hl : l.length ≤ 484) : gRepr [.lst (l.map toD)] = some (.str (PyData.shown (.list (l.map toPy)))) := by
  show (D.pys (l.map toD)).bind (fun es => if okRepr (.list es) = true then some (D.str (PyData.shown (.list es))) else none) = _
  rw [pys_pair, Option.bind_some, if_pos ?_]
  unfold okRepr
  have b := bulk_pair l h
  have sh := PyData.shown_le_bulk 8 (by omega) (.list (l.map toPy)) (by rw [PyData.leavesShort]; exact short_pair l h)
  rw [PyData.bulk] at sh
  have dp := depth_pair l
  rw [PyData.showable, show_pair, PyData.hasDict, nodict_pair, PyData.depth, decide_eq_true (by omega), decide_eq_true (by omega)]
  rfl
theorem repr_seen {S L R : List Str} (hS : Ord S) (hL : Ord L) (hR : Ord R) : ∃ z : Str, gRepr [.tup [.lst (S.map .str), .lst (L.map .str), .lst (R.map .str)]] = some (.str z) := by
  refine ⟨PyData.shown (.tuple [.list (S.map PyData.str), .list (L.map PyData.str), .list (R.map PyData.str)]), ?_⟩
  show (D.pys [.lst (S.map .str), .lst (L.map .str), .lst (R.map .str)]).bind (fun es => if okRepr (.tuple es) = true then some (D.str (PyData.shown (.tuple es))) else none) = _
  have e : D.pys [.lst (S.map .str), .lst (L.map .str), .lst (R.map .str)] = some [.list (S.map PyData.str), .list (L.map PyData.str), .list (R.map PyData.str)] := by
    simp [D.pys, D.py, pys_str]
  rw [e, Option.bind_some, if_pos ?_]
  unfold okRepr
  have b1 := bulk_str S hS.inN
  have b2 := bulk_str L hL.inN
  have b3 := bulk_str R hR.inN
  have l1 := hS.len
  have l2 := hL.len
  have l3 := hR.len
  have sh := PyData.shown_le_bulk 8 (by omega) (.tuple [.list (S.map PyData.str), .list (L.map PyData.str), .list (R.map PyData.str)]) (by simp [PyData.leavesShort, PyData.leavesShortAll, short_str S hS.inN, short_str L hL.inN, short_str R hR.inN])
  have eb : PyData.bulk (.tuple [.list (S.map PyData.str), .list (L.map PyData.str), .list (R.map PyData.str)]) = PyData.bulkAll (S.map PyData.str) + 1 + (PyData.bulkAll (L.map PyData.str) + 1 + (PyData.bulkAll (R.map PyData.str) + 1 + 0)) := by simp [PyData.bulk, PyData.bulkAll]
  rw [eb] at sh
  have a1 : PyData.showable (.tuple [.list (S.map PyData.str), .list (L.map PyData.str), .list (R.map PyData.str)]) = true := by simp [PyData.showable, PyData.showableAll, show_str]
  have a2 : PyData.hasDict (.tuple [.list (S.map PyData.str), .list (L.map PyData.str), .list (R.map PyData.str)]) = false := by simp [PyData.hasDict, PyData.hasDictAll, nodict_str]
  have a3 : PyData.depth (.tuple [.list (S.map PyData.str), .list (L.map PyData.str), .list (R.map PyData.str)]) ≤ 60 := by simp [PyData.depth, PyData.depthAll, depth_str]
  rw [a1, a2, decide_eq_true a3, decide_eq_true (by omega)]
  rfl
theorem ne_pair {l : List P2S} (h : InP l) : gNe (.lst (l.map toD)) (.lst (l.map toD)) = some (.bl false) := by
  unfold gNe eqS eqP
  simp only [D.py, pys_pair, Option.map_some, Option.bind_some, Option.none_or]
  have c : PyData.canLay0 (.list (l.map toPy)) = true := by rw [PyData.canLay0]; exact lay_pair l h
  have s : SeqAt.shaped (.list (l.map toPy)) = true := by
    unfold SeqAt.shaped
    have := depth_pair l
    rw [c, PyData.depth, decide_eq_true (by omega)]
    rfl
  rw [s]
  have e : PyData.eqv (.list (l.map toPy)) (.list (l.map toPy)) = true := SeqAt.eqv_refl _ c
  simp [e]
end K85

set_option Elab.async false
set_option linter.all false
set_option maxRecDepth 100000
set_option maxHeartbeats 4000000
namespace K85
open PySem L2 Vs
/-! ### the law -/
theorem tup_ok {d : D} {l : List Str} {p : Fr0} {ρ : Rho} (h : p ρ = some d) (hs : Sq d l) : pCall gTuple (aCons p aNil) ρ = some (.tup (l.map .str)) := by
  refine pCall1 h ?_
  show (asSeq d).map D.tup = _
  rw [asSeq_sq hs]
  rfl
theorem ne_same (z : Str) : gNe (.str z) (.str z) = some (.bl false) := by
  rw [ne_str]
  simp
abbrev lBody : MS := (sSeq (sOwn 9 (mP (pCall (fnO 3 sem_decided) (aCons (pVar 3) (aCons (pCall gTuple (aCons (pVar 4) aNil)) (aCons (pVar 5) aNil))))))
    (sSeq (sIf (mB (tP (p2 gNe (pCall gRepr (aCons (pVar 9) aNil)) (pCall gRepr (aCons (pVar 7) aNil))))) (sRet (mP (pC (.bl false)))) sNil)
    (sExpr (mMut "list" 9 fAppend (maCons (mP (pC .non)) maNil)))))
abbrev eTest : MS := sIf (mB (tOr2 (tP (p2 gNe (pCall (fnO 3 sem_decided) (aCons (pCall gTuple (aCons (pVar 3) aNil)) (aCons (pVar 5) (aCons (pVar 4) aNil)))) (pVar 7))) (tP (p2 gNe (pCall gRepr (aCons (pTup (aCons (pVar 3) (aCons (pVar 4) (aCons (pVar 5) aNil)))) aNil)) (pVar 6))))) (sRet (mP (pC (.bl false)))) sNil
abbrev tBody : MS := (sSeq (sAsg [3, 4, 5] (gTupD 3 (gsCons gOne (gsCons gOne (gsCons gOne gsNil)))) (mFn 2 sem_three_orders [some 1, none] (maLd 1 (maCons (mP (pC (.int 7))) maNil))))
    (sSeq (sSet 6 (mP (pCall gRepr (aCons (pTup (aCons (pVar 3) (aCons (pVar 4) (aCons (pVar 5) aNil)))) aNil))))
    (sSeq (sSet 7 (mP (pCall gSorted (aCons (p2 gIx (pCall (fnP 3 sem_pairs) (aCons (pVar 3) (aCons (pVar 4) (aCons (pVar 5) aNil)))) (pC (.int 1))) aNil))))
    (sSeq (sFor (mP (fun ρ => ((aCons (pC (.int 2)) aNil) ρ).bind rng1)) [8] gOne lBody)
    eTest))))
abbrev due (S L R : List Str) : List P2S := sortP (prs S L R (mrg S L R))
section
variable {S L R : List Str}
theorem due_in (oL : Ord L) (oR : Ord R) : InP (due S L R) := fun x hx => prs_in (mrg_in oL.inN oR.inN) x ((List.mergeSort_perm _ leP).mem_iff.mp hx)
theorem due_len (oL : Ord L) (oR : Ord R) : (prs S L R (mrg S L R)).length ≤ 484 := by
  have a := mrg_len (S := S) oL.len oR.len
  exact Nat.le_trans (prs_len S L R _) (Nat.le_trans (Nat.mul_le_mul a a) (by decide))
theorem due_len2 (oL : Ord L) (oR : Ord R) : (due S L R).length ≤ 484 := by
  unfold due sortP
  rw [(List.mergeSort_perm _ leP).length_eq]
  exact due_len oL oR
theorem dec_ok {dS dL dR : D} (hS : Sq dS S) (hL : Sq dL L) (hR : Sq dR R) (oS : Ord S) (oL : Ord L) (oR : Ord R) : fnO 3 sem_decided [dS, dL, dR] = some (.lst ((due S L R).map toD)) :=
  decided_sq hS hL hR oS oL oR (by have := mrg_len (S := S) oL.len oR.len; omega) (nd_mrg oL.nd oR.nd) (by have := due_len (S := S) oL oR; omega)
theorem dec_turn {dS dL dR : D} (hS : Sq dS S) (hL : Sq dL L) (hR : Sq dR R) (oS : Ord S) (oL : Ord L) (oR : Ord R) : fnO 3 sem_decided [dS, dR, dL] = some (.lst ((due S L R).map toD)) := by
  rw [dec_ok hS hR hL oS oR oL]
  unfold due
  rw [mrg_comm oL.nd oR.nd, prs_comm]
theorem lBody_ok (oS : Ord S) (oL : Ord L) (oR : Ord R) (t0 t1 t2 t6 t8 t9 : Sl) : ∃ t9', lBody [t0, t1, t2, .im (.lst (S.map .str)), .im (.lst (L.map .str)), .im (.lst (R.map .str)), t6, .im (.lst ((due S L R).map toD)), t8, t9] = some (.nx, [t0, t1, t2, .im (.lst (S.map .str)), .im (.lst (L.map .str)), .im (.lst (R.map .str)), t6, .im (.lst ((due S L R).map toD)), t8, t9']) := by
  refine ⟨.ow (.lst ((due S L R).map toD ++ [.non])), ?_⟩
  have c : mP (pCall (fnO 3 sem_decided) (aCons (pVar 3) (aCons (pCall gTuple (aCons (pVar 4) aNil)) (aCons (pVar 5) aNil)))) [t0, t1, t2, .im (.lst (S.map .str)), .im (.lst (L.map .str)), .im (.lst (R.map .str)), t6, .im (.lst ((due S L R).map toD)), t8, t9] = some (.ok (.lst ((due S L R).map toD)), [t0, t1, t2, .im (.lst (S.map .str)), .im (.lst (L.map .str)), .im (.lst (R.map .str)), t6, .im (.lst ((due S L R).map toD)), t8, t9]) :=
    mP_ok (pCall3 rfl (tup_ok rfl Sq.l) rfl (dec_ok Sq.l Sq.t Sq.l oS oL oR))
  unfold lBody
  rw [seq_nx (own_ok c)]
  dsimp only [List.set]
  have r := repr_pair (due_in (S := S) oL oR) (due_len2 oL oR)
  have t : mB (tP (p2 gNe (pCall gRepr (aCons (pVar 9) aNil)) (pCall gRepr (aCons (pVar 7) aNil)))) [t0, t1, t2, .im (.lst (S.map .str)), .im (.lst (L.map .str)), .im (.lst (R.map .str)), t6, .im (.lst ((due S L R).map toD)), t8, .ow (.lst ((due S L R).map toD))] = some (.ok false, [t0, t1, t2, .im (.lst (S.map .str)), .im (.lst (L.map .str)), .im (.lst (R.map .str)), t6, .im (.lst ((due S L R).map toD)), t8, .ow (.lst ((due S L R).map toD))]) :=
    mB_ok (tP_ok (p2_ok (pCall1 rfl r) (pCall1 rfl r) (ne_same _)))
  rw [seq_nx ((if_f t).trans rfl)]
  have hl := due_len2 (S := S) oL oR
  exact expr_ok (mut_ok (ρ1 := [t0, t1, t2, .im (.lst (S.map .str)), .im (.lst (L.map .str)), .im (.lst (R.map .str)), t6, .im (.lst ((due S L R).map toD)), t8, .ow (.lst ((due S L R).map toD))]) rfl rfl (cons_ok (mP_ok rfl) rfl) rfl (append_ok (by rw [List.length_map]; omega)))
theorem lLoop (oS : Ord S) (oL : Ord L) (oR : Ord R) (t0 t1 t2 t6 : Sl) : ∀ (xs : List D) (t8 t9 : Sl), ∃ t8' t9', loop [8] gOne lBody xs [t0, t1, t2, .im (.lst (S.map .str)), .im (.lst (L.map .str)), .im (.lst (R.map .str)), t6, .im (.lst ((due S L R).map toD)), t8, t9] = some (.nx, [t0, t1, t2, .im (.lst (S.map .str)), .im (.lst (L.map .str)), .im (.lst (R.map .str)), t6, .im (.lst ((due S L R).map toD)), t8', t9'])
  | [], t8, t9 => ⟨t8, t9, rfl⟩
  | x :: xs, t8, t9 => by
    obtain ⟨t9a, e⟩ := lBody_ok oS oL oR t0 t1 t2 t6 (.im x) t9
    obtain ⟨t8', t9', ih⟩ := lLoop oS oL oR t0 t1 t2 t6 xs (.im x) t9a
    refine ⟨t8', t9', ?_⟩
    show (match lBody [t0, t1, t2, .im (.lst (S.map .str)), .im (.lst (L.map .str)), .im (.lst (R.map .str)), t6, .im (.lst ((due S L R).map toD)), .im x, t9] with
      | some (.nx, ρ') => loop [8] gOne lBody xs ρ'
      | some (.cnt, ρ') => loop [8] gOne lBody xs ρ'
      | some (.brk, ρ') => some (.nx, ρ')
      | r => r) = _
    rw [e]
    exact ih
end
theorem tBody_ok {n : Int} {p : D} (hp : PO n p) (hn : n < 2 ^ 55) (t0 t2 t3 t4 t5 t6 t7 t8 t9 : Sl) : ∃ p' t3' t4' t5' t6' t7' t8' t9', PO (n + 100) p' ∧ tBody [t0, .ow p, t2, t3, t4, t5, t6, t7, t8, t9] = some (.nx, [t0, .ow p', t2, t3', t4', t5', t6', t7', t8', t9']) := by
  obtain ⟨S, L, R, p', oS, oL, oR, hp', e⟩ := three_orders_spec hp (by omega)
  obtain ⟨z, hz⟩ := repr_seen oS oL oR
  have c : mFn 2 sem_three_orders [some 1, none] (maLd 1 (maCons (mP (pC (.int 7))) maNil)) [t0, .ow p, t2, t3, t4, t5, t6, t7, t8, t9] = some (.ok (.tup [.lst (S.map .str), .lst (L.map .str), .lst (R.map .str)]), [t0, .ow p', t2, t3, t4, t5, t6, t7, t8, t9]) :=
    (fn_ok (n := 2) (is := [some 1, none]) (ld_ok (k := 1) (ms := maCons (mP (pC (.int 7))) maNil) rfl rfl (cons_ok (mP_ok rfl) rfl)) (fill_ld rfl rfl rfl) rfl e).trans rfl
  have s1 : sAsg [3, 4, 5] (gTupD 3 (gsCons gOne (gsCons gOne (gsCons gOne gsNil)))) (mFn 2 sem_three_orders [some 1, none] (maLd 1 (maCons (mP (pC (.int 7))) maNil))) [t0, .ow p, t2, t3, t4, t5, t6, t7, t8, t9] = some (.nx, [t0, .ow p', t2, .im (.lst (S.map .str)), .im (.lst (L.map .str)), .im (.lst (R.map .str)), t6, t7, t8, t9]) := by
    unfold sAsg sVal
    rw [c]
    rfl
  have s2 : mP (pCall gRepr (aCons (pTup (aCons (pVar 3) (aCons (pVar 4) (aCons (pVar 5) aNil)))) aNil)) [t0, .ow p', t2, .im (.lst (S.map .str)), .im (.lst (L.map .str)), .im (.lst (R.map .str)), t6, t7, t8, t9] = some (.ok (.str z), [t0, .ow p', t2, .im (.lst (S.map .str)), .im (.lst (L.map .str)), .im (.lst (R.map .str)), t6, t7, t8, t9]) :=
    mP_ok (pCall1 rfl hz)
  have s3 : mP (pCall gSorted (aCons (p2 gIx (pCall (fnP 3 sem_pairs) (aCons (pVar 3) (aCons (pVar 4) (aCons (pVar 5) aNil)))) (pC (.int 1))) aNil)) [t0, .ow p', t2, .im (.lst (S.map .str)), .im (.lst (L.map .str)), .im (.lst (R.map .str)), .im (.str z), t7, t8, t9] = some (.ok (.lst ((due S L R).map toD)), [t0, .ow p', t2, .im (.lst (S.map .str)), .im (.lst (L.map .str)), .im (.lst (R.map .str)), .im (.str z), t7, t8, t9]) := by
    have ep : due S L R = sortP (prl S L R (lns S L R) (lns S L R)) := by
      unfold due
      rw [lns_mrg oL.nd oR.nd]
      exact (sortP_perm (prs_prl S L R (nd_mrg oL.nd oR.nd))).symm
    have hl : (prl S L R (lns S L R) (lns S L R)).length ≤ 1000 := by
      rw [lns_mrg oL.nd oR.nd, (prs_prl S L R (nd_mrg oL.nd oR.nd)).length_eq]
      exact Nat.le_trans (due_len oL oR) (by decide)
    rw [ep]
    exact mP_ok (pCall1 (p2_ok (pCall3 rfl rfl rfl (pairs_sq oL.len oR.len)) rfl rfl) (gSorted_pair _ hl))
  obtain ⟨t8', t9', lp⟩ := lLoop oS oL oR t0 (.ow p') t2 (.im (.str z)) (rl 0 2) t8 t9
  refine ⟨p', .im (.lst (S.map .str)), .im (.lst (L.map .str)), .im (.lst (R.map .str)), .im (.str z), .im (.lst ((due S L R).map toD)), t8', t9', hp', ?_⟩
  unfold tBody
  rw [seq_nx s1, seq_nx (set_ok s2)]
  dsimp only [List.set]
  rw [seq_nx (set_ok s3)]
  dsimp only [List.set]
  have f : sFor (mP (fun ρ => ((aCons (pC (.int 2)) aNil) ρ).bind rng1)) [8] gOne lBody [t0, .ow p', t2, .im (.lst (S.map .str)), .im (.lst (L.map .str)), .im (.lst (R.map .str)), .im (.str z), .im (.lst ((due S L R).map toD)), t8, t9] = some (.nx, [t0, .ow p', t2, .im (.lst (S.map .str)), .im (.lst (L.map .str)), .im (.lst (R.map .str)), .im (.str z), .im (.lst ((due S L R).map toD)), t8', t9']) := lp
  rw [seq_nx f]
  have u : mB (tOr2 (tP (p2 gNe (pCall (fnO 3 sem_decided) (aCons (pCall gTuple (aCons (pVar 3) aNil)) (aCons (pVar 5) (aCons (pVar 4) aNil)))) (pVar 7))) (tP (p2 gNe (pCall gRepr (aCons (pTup (aCons (pVar 3) (aCons (pVar 4) (aCons (pVar 5) aNil)))) aNil)) (pVar 6)))) [t0, .ow p', t2, .im (.lst (S.map .str)), .im (.lst (L.map .str)), .im (.lst (R.map .str)), .im (.str z), .im (.lst ((due S L R).map toD)), t8', t9'] = some (.ok false, [t0, .ow p', t2, .im (.lst (S.map .str)), .im (.lst (L.map .str)), .im (.lst (R.map .str)), .im (.str z), .im (.lst ((due S L R).map toD)), t8', t9']) :=
    mB_ok (tOr2_ok (x := false) (y := false) (tP_ok (p2_ok (pCall3 (tup_ok rfl Sq.l) rfl rfl (dec_turn Sq.t Sq.l Sq.l oS oL oR)) rfl (ne_pair (due_in oL oR)))) (tP_ok (p2_ok (pCall1 rfl hz) rfl (ne_same z))))
  exact (if_f u).trans rfl
theorem tLoop (t0 : Sl) : ∀ (xs : List D) (n : Int) (p : D) (t2 t3 t4 t5 t6 t7 t8 t9 : Sl), PO n p → n + 100 * xs.length < 2 ^ 55 → ∃ ρ', loop [2] gOne tBody xs [t0, .ow p, t2, t3, t4, t5, t6, t7, t8, t9] = some (.nx, ρ')
  | [], n, p, t2, t3, t4, t5, t6, t7, t8, t9, _, _ => ⟨_, rfl⟩
  | x :: xs, n, p, t2, t3, t4, t5, t6, t7, t8, t9, hp, hn => by
    simp only [List.length_cons] at hn
    obtain ⟨p', a3, a4, a5, a6, a7, a8, a9, hp', e⟩ := tBody_ok hp (by omega) t0 (.im x) t3 t4 t5 t6 t7 t8 t9
    obtain ⟨ρ', ih⟩ := tLoop t0 xs (n + 100) p' (.im x) a3 a4 a5 a6 a7 a8 a9 hp' (by omega)
    refine ⟨ρ', ?_⟩
    show (match tBody [t0, .ow p, .im x, t3, t4, t5, t6, t7, t8, t9] with
      | some (.nx, ρ') => loop [2] gOne tBody xs ρ'
      | some (.cnt, ρ') => loop [2] gOne tBody xs ρ'
      | some (.brk, ρ') => some (.nx, ρ')
      | r => r) = _
    rw [e]
    exact ih
theorem law_true (ns : List Int) (h : ns.length ≤ 63) : ∃ out, sem_law [.scr ns] = some (.ret (.bl true) out) := by
  obtain ⟨ρ', lp⟩ := tLoop (.im (.scr ns)) (rl 0 6) 0 (PenD (ns.take 60) 0 0) .un .un .un .un .un .un .un .un ⟨ns.take 60, 0, 0, rfl, by omega, by omega, by omega⟩ (by rw [rl_len]; decide)
  refine ⟨[], ?_⟩
  have e0 : mP (pCall (fnO 1 sem_pen) (aCons (pVar 0) aNil)) [.im (.scr ns), .un, .un, .un, .un, .un, .un, .un, .un, .un] = some (.ok (PenD (ns.take 60) 0 0), [.im (.scr ns), .un, .un, .un, .un, .un, .un, .un, .un, .un]) := mP_ok rfl
  have f : sFor (mP (fun ρ => ((aCons (pC (.int 6)) aNil) ρ).bind rng1)) [2] gOne tBody [.im (.scr ns), .ow (PenD (ns.take 60) 0 0), .un, .un, .un, .un, .un, .un, .un, .un] = some (.nx, ρ') := lp
  have key : m_law (entryN [] 10 [.scr ns]) = some (.rt (.bl true), ρ') := by
    unfold m_law
    show sSeq _ _ [.im (.scr ns), .un, .un, .un, .un, .un, .un, .un, .un, .un] = _
    rw [seq_nx (own_ok e0)]
    dsimp only [List.set]
    rw [seq_nx f]
    rfl
  unfold sem_law runF
  rw [key]
  rfl
end K85

set_option Elab.async false
set_option linter.all false
set_option maxRecDepth 100000
set_option maxHeartbeats 0
namespace K85
open PySem PySem.Spec PyProof.Rows L2 Vs
/-! ### the head -/
def d_is_name : He.DefD := ⟨("is_name", none), "is_name", "is_name", defArgs st_is_name, defBody st_is_name, defScope st_is_name, [], []⟩
def d_are_different_names : He.DefD := ⟨("are_different_names", none), "are_different_names", "are_different_names", defArgs st_are_different_names, defBody st_are_different_names, defScope st_are_different_names, [], []⟩
def d_check_orders : He.DefD := ⟨("check_orders", none), "check_orders", "check_orders", defArgs st_check_orders, defBody st_check_orders, defScope st_check_orders, [], []⟩
def d_merged_names : He.DefD := ⟨("merged_names", none), "merged_names", "merged_names", defArgs st_merged_names, defBody st_merged_names, defScope st_merged_names, [], []⟩
def d_comes_before : He.DefD := ⟨("comes_before", none), "comes_before", "comes_before", defArgs st_comes_before, defBody st_comes_before, defScope st_comes_before, [], []⟩
def d_is_decided : He.DefD := ⟨("is_decided", none), "is_decided", "is_decided", defArgs st_is_decided, defBody st_is_decided, defScope st_is_decided, [], []⟩
def d_earlier_names : He.DefD := ⟨("earlier_names", none), "earlier_names", "earlier_names", defArgs st_earlier_names, defBody st_earlier_names, defScope st_earlier_names, [], []⟩
def d_decided : He.DefD := ⟨("decided", none), "decided", "decided", defArgs st_decided, defBody st_decided, defScope st_decided, [], []⟩
def d_pen : He.DefD := ⟨("_law_pen", none), "_law_pen", "_law_pen", defArgs st_pen, defBody st_pen, defScope st_pen, [], []⟩
def d_next : He.DefD := ⟨("_law_next", none), "_law_next", "_law_next", defArgs st_next, defBody st_next, defScope st_next, [], []⟩
def d_draw : He.DefD := ⟨("_law_draw", none), "_law_draw", "_law_draw", defArgs st_draw, defBody st_draw, defScope st_draw, [], []⟩
def d_names : He.DefD := ⟨("_law_names", none), "_law_names", "_law_names", defArgs st_names, defBody st_names, defScope st_names, [], []⟩
def d_moved : He.DefD := ⟨("_law_moved", none), "_law_moved", "_law_moved", defArgs st_moved, defBody st_moved, defScope st_moved, [], []⟩
def d_three_orders : He.DefD := ⟨("_law_three_orders", none), "_law_three_orders", "_law_three_orders", defArgs st_three_orders, defBody st_three_orders, defScope st_three_orders, [], []⟩
def d_before : He.DefD := ⟨("_law_before", none), "_law_before", "_law_before", defArgs st_before, defBody st_before, defScope st_before, [], []⟩
def d_pairs : He.DefD := ⟨("_law_pairs", none), "_law_pairs", "_law_pairs", defArgs st_pairs, defBody st_pairs, defScope st_pairs, [], []⟩
def d_law : He.DefD := ⟨("law", none), "law", "law", defArgs st_law, defBody st_law, defScope st_law, [], []⟩
def fn : List He.DefD := [d_is_name, d_are_different_names, d_check_orders, d_merged_names, d_comes_before, d_is_decided, d_earlier_names, d_decided, d_pen, d_next, d_draw, d_names, d_moved, d_three_orders, d_before, d_pairs, d_law]
def fa : List He.Fa := [.glo "is_name", .glo "are_different_names", .glo "check_orders", .glo "merged_names", .glo "comes_before", .glo "is_decided", .glo "earlier_names", .glo "decided", .glo "_law_pen", .glo "_law_next", .glo "_law_draw", .glo "_law_names", .glo "_law_moved", .glo "_law_three_orders", .glo "_law_before", .glo "_law_pairs", .glo "law", .free "all", .free "isinstance", .free "len", .free "list", .free "range", .free "repr", .free "set", .free "sorted", .free "str", .free "tuple", .int "MAX_NAME" 8, .str "LETTERS" "abcdefghijklmnopqrstuvwxyz"]
def loose : List PySem.Str := ["RankError", "InvalidOrder", "LETTERS", "MAX_NAME", "is_name", "are_different_names", "check_orders", "merged_names", "comes_before", "is_decided", "earlier_names", "decided", "_law_pen", "_law_next", "_law_draw", "_law_names", "_law_moved", "_law_three_orders", "_law_before", "_law_pairs"]
abbrev R : PySem.W.OpenRow := PySem.W.OpenLaw.row PySem.Challenge.rw_rankkeys_k85_decided_pairs
abbrev hk : PySem.W.Hook := He.hookD 4 fa fn
def ob (s : PySem.W.SharedT) : He.AlD := He.obsDG 4 fa fn (HandSHeadRun.getT s)
theorem ob_eq (s : PySem.W.SharedT) : ob s = hk.obs s.abs := He.obsDG_eq (HandSHeadRun.getT_eq s)
theorem run (w : World) : HandSHeadRun.RunEq R (PySem.W.view R.prog [25]) hk ob 4000 loose w := by
  intro os
  kernel_rfl
theorem facts {P : Program} {w : World} {K : PySem.W.Frag} {h : Heap} {mg : Str → Option Value} {f : Addr} (X : K.In h) (G : h.Ns mainGlobals mg) (hfa : mg ("law" : Str) = some (.ref f)) (c : He.SaysD fa fn K) :
    ∃ fd : FuncData, (∀ (s : Shared) (v : Value), BindsTo s fd ⟨[v], []⟩ [("_law_script", v)]) ∧ ∀ base : Heap, K.In base → base.Ns mainGlobals mg → FnG P w K mg base 5 f fd ["_law_script"] (spV ⟨mg, K⟩ 1 [] sem_law) := by
  obtain ⟨fd_is_name, F_is_name⟩ := c.def_ 0 (d := d_is_name) rfl
  obtain ⟨fd_are_different_names, F_are_different_names⟩ := c.def_ 1 (d := d_are_different_names) rfl
  obtain ⟨fd_check_orders, F_check_orders⟩ := c.def_ 2 (d := d_check_orders) rfl
  obtain ⟨fd_merged_names, F_merged_names⟩ := c.def_ 3 (d := d_merged_names) rfl
  obtain ⟨fd_comes_before, F_comes_before⟩ := c.def_ 4 (d := d_comes_before) rfl
  obtain ⟨fd_is_decided, F_is_decided⟩ := c.def_ 5 (d := d_is_decided) rfl
  obtain ⟨fd_earlier_names, F_earlier_names⟩ := c.def_ 6 (d := d_earlier_names) rfl
  obtain ⟨fd_decided, F_decided⟩ := c.def_ 7 (d := d_decided) rfl
  obtain ⟨fd_pen, F_pen⟩ := c.def_ 8 (d := d_pen) rfl
  obtain ⟨fd_next, F_next⟩ := c.def_ 9 (d := d_next) rfl
  obtain ⟨fd_draw, F_draw⟩ := c.def_ 10 (d := d_draw) rfl
  obtain ⟨fd_names, F_names⟩ := c.def_ 11 (d := d_names) rfl
  obtain ⟨fd_moved, F_moved⟩ := c.def_ 12 (d := d_moved) rfl
  obtain ⟨fd_three_orders, F_three_orders⟩ := c.def_ 13 (d := d_three_orders) rfl
  obtain ⟨fd_before, F_before⟩ := c.def_ 14 (d := d_before) rfl
  obtain ⟨fd_pairs, F_pairs⟩ := c.def_ 15 (d := d_pairs) rfl
  obtain ⟨fd_law, F_law⟩ := c.def_ 16 (d := d_law) rfl
  have g_is_name := He.glo_ok X G (c.fact 0 (f := .glo "is_name") rfl)
  have g_are_different_names := He.glo_ok X G (c.fact 1 (f := .glo "are_different_names") rfl)
  have g_check_orders := He.glo_ok X G (c.fact 2 (f := .glo "check_orders") rfl)
  have g_merged_names := He.glo_ok X G (c.fact 3 (f := .glo "merged_names") rfl)
  have g_comes_before := He.glo_ok X G (c.fact 4 (f := .glo "comes_before") rfl)
  have g_is_decided := He.glo_ok X G (c.fact 5 (f := .glo "is_decided") rfl)
  have g_earlier_names := He.glo_ok X G (c.fact 6 (f := .glo "earlier_names") rfl)
  have g_decided := He.glo_ok X G (c.fact 7 (f := .glo "decided") rfl)
  have g_pen := He.glo_ok X G (c.fact 8 (f := .glo "_law_pen") rfl)
  have g_next := He.glo_ok X G (c.fact 9 (f := .glo "_law_next") rfl)
  have g_draw := He.glo_ok X G (c.fact 10 (f := .glo "_law_draw") rfl)
  have g_names := He.glo_ok X G (c.fact 11 (f := .glo "_law_names") rfl)
  have g_moved := He.glo_ok X G (c.fact 12 (f := .glo "_law_moved") rfl)
  have g_three_orders := He.glo_ok X G (c.fact 13 (f := .glo "_law_three_orders") rfl)
  have g_before := He.glo_ok X G (c.fact 14 (f := .glo "_law_before") rfl)
  have g_pairs := He.glo_ok X G (c.fact 15 (f := .glo "_law_pairs") rfl)
  have g_law := He.glo_ok X G (c.fact 16 (f := .glo "law") rfl)
  have f_all := He.free_ok X G (c.fact 17 (f := .free "all") rfl)
  have f_isinstance := He.free_ok X G (c.fact 18 (f := .free "isinstance") rfl)
  have f_len := He.free_ok X G (c.fact 19 (f := .free "len") rfl)
  have f_list := He.free_ok X G (c.fact 20 (f := .free "list") rfl)
  have f_range := He.free_ok X G (c.fact 21 (f := .free "range") rfl)
  have f_repr := He.free_ok X G (c.fact 22 (f := .free "repr") rfl)
  have f_set := He.free_ok X G (c.fact 23 (f := .free "set") rfl)
  have f_sorted := He.free_ok X G (c.fact 24 (f := .free "sorted") rfl)
  have f_str := He.free_ok X G (c.fact 25 (f := .free "str") rfl)
  have f_tuple := He.free_ok X G (c.fact 26 (f := .free "tuple") rfl)
  have c_MAX_NAME := He.int_ok X G (c.fact 27 (f := .int "MAX_NAME" 8) rfl)
  have c_LETTERS := He.str_ok X G (c.fact 28 (f := .str "LETTERS" "abcdefghijklmnopqrstuvwxyz") rfl)
  have e := hfa.symm.trans g_law
  cases e
  refine ⟨fd_law, fun s v => FunD.bindsA (ps := ["_law_script"]) F_law (bd_law) s [v] rfl, fun base _ _ => ?_⟩
  have C_is_name := ok_is_name (P := P) (w := w) (base := base) F_is_name g_is_name f_all f_isinstance f_len f_str c_MAX_NAME c_LETTERS
  have C_are_different_names := ok_are_different_names (P := P) (w := w) (base := base) F_are_different_names g_are_different_names C_is_name f_all f_isinstance f_len f_list f_tuple
  have C_check_orders := ok_check_orders (P := P) (w := w) (base := base) F_check_orders g_check_orders C_are_different_names f_all
  have C_merged_names := ok_merged_names (P := P) (w := w) (base := base) F_merged_names g_merged_names f_sorted
  have C_comes_before := ok_comes_before (P := P) (w := w) (base := base) F_comes_before g_comes_before
  have C_is_decided := ok_is_decided (P := P) (w := w) (base := base) F_is_decided g_is_decided C_comes_before
  have C_earlier_names := ok_earlier_names (P := P) (w := w) (base := base) F_earlier_names g_earlier_names C_merged_names C_is_decided
  have C_decided := ok_decided (P := P) (w := w) (base := base) F_decided g_decided C_check_orders C_earlier_names f_sorted
  have C_pen := ok_pen (P := P) (w := w) (base := base) F_pen g_pen f_list
  have C_next := ok_next (P := P) (w := w) (base := base) F_next g_next f_len
  have C_draw := ok_draw (P := P) (w := w) (base := base) F_draw g_draw C_next
  have C_names := ok_names (P := P) (w := w) (base := base) F_names g_names C_draw f_len f_range
  have C_moved := ok_moved (P := P) (w := w) (base := base) F_moved g_moved C_draw f_len f_range
  have C_three_orders := ok_three_orders (P := P) (w := w) (base := base) F_three_orders g_three_orders C_names C_draw C_moved
  have C_before := ok_before (P := P) (w := w) (base := base) F_before g_before
  have C_pairs := ok_pairs (P := P) (w := w) (base := base) F_pairs g_pairs C_before f_set f_sorted
  exact okD (N := ["_law_script", "_law_pen_here", "_law_turn", "_law_start", "_law_left", "_law_right", "_law_seen", "_law_due", "_law_again", "_law_found"]) (st := st_law) (k := 4) m_law [] F_law sc_law (vs_law C_pen C_three_orders C_pairs C_decided f_range f_repr f_sorted f_tuple)
end K85
open PySem PySem.W PySem.Calls PyProof.Rows
theorem PySem.Challenge.cw_rankkeys_k85_decided_pairs_holds : PySem.Challenge.rw_rankkeys_k85_decided_pairs.Holds := by
  w_on; o_law
  refine HandSHeadRun.head_any (r := OpenLaw.row PySem.Challenge.rw_rankkeys_k85_decided_pairs) (q := view (OpenLaw.row PySem.Challenge.rw_rankkeys_k85_decided_pairs).prog [25]) (H := K85.hk) (ob := K85.ob) (M := 4000) (loose := K85.loose) (d := HandSHeadRun.topDef (OpenLaw.row PySem.Challenge.rw_rankkeys_k85_decided_pairs).prog 25) (kwd := []) K85.ob_eq
    (by kernel_rfl) (fun s => by kernel_rfl) K85.run (by kernel_rfl) (by kernel_rfl) (by kernel_rfl) (by rfl) (by first | assumption | decide +kernel) (by decide +kernel) ⟨rfl, rfl, rfl, rfl, rfl, by decide +kernel⟩ ?hw ?hc
  case hw => w_witness2
  case hc =>
    refine Vs.walk_ofG (l := PySem.Challenge.rw_rankkeys_k85_decided_pairs) (n := 63) (k := 5) (x := "_law_script") rfl (by decide) (by kernel_rfl) ⟨rfl, by decide, by decide⟩ ?F
    intro w mg fa h Y G hmg0
    obtain ⟨K, KX, c⟩ := Y
    have hmg : mg ("law" : PySem.Str) = some (.ref fa) := by
      have e : (HandSHeadRun.topDef (OpenLaw.row PySem.Challenge.rw_rankkeys_k85_decided_pairs).prog 25).name = ("law" : PySem.Str) := by kernel_rfl
      rw [← e]
      exact hmg0
    obtain ⟨fd, hb, hF⟩ := K85.facts (P := (PySem.Challenge.rw_rankkeys_k85_decided_pairs).prog) (w := w) KX G hmg c
    exact ⟨K, fd, K85.sem_law, KX, hb, fun ns hl => K85.law_true ns hl, hF⟩
