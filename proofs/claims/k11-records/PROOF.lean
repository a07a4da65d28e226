import PyProof.Rows.All
import Wide.All
import OpenK.AllK
import Wide.FinOn
import HandS.ForMost
import HandS.ForExc
import HandS.Wide
import HandS.WideMore
import HandS.TupAny
import HandS.IsInst
import HandS.More
import HandS.Deep
import HandS.Zip
import HandS.EndBits
import HandS.TryOnly
import HandS.ExcOwn
import HandS.ExcIs
import PySem.Challenge.RW_lorewhole_k11_records
set_option Elab.async false
set_option linter.all false
set_option maxRecDepth 100000
/-! DLCore: trees of data over the abstract heap. -/
namespace DL
open PySem L2 PySem.Spec PyProof.Rows

inductive Kd where
  | tup | lst (o : Bool) | dic (o : Bool) (ks : List L2.Key) | obj (c : Str) (fs : List Str)
inductive D where
  | at (v : V)
  | nd (k : Kd) (ds : List D)
instance : Inhabited D := ⟨.at .non⟩
abbrev D.int (i : Int) : D := .at (.int i)
abbrev D.str (x : Str) : D := .at (.str x)
abbrev D.bl (b : Bool) : D := .at (.bl b)
abbrev D.non : D := .at .non
abbrev D.tup (ds : List D) : D := .nd .tup ds
abbrev D.lst (ds : List D) : D := .nd (.lst false) ds
abbrev D.own (ds : List D) : D := .nd (.lst true) ds
def Kd.ow : Kd → Bool
  | .tup => false
  | .lst o => o
  | .dic o _ => o
  | .obj _ _ => true
def Kd.isTup : Kd → Bool
  | .tup => true
  | _ => false

def Sub (G H : Hp) : Prop := ∀ a o, G a = some o → H a = some o
theorem Sub.refl (G : Hp) : Sub G G := fun _ _ h => h
theorem Sub.trans {G H I : Hp} (a : Sub G H) (b : Sub H I) : Sub G I := fun c o h => b c o (a c o h)
theorem Sub.rd {G H : Hp} (s : Sub G H) {a : Addr} {u : HO} (h : Rd G a u) : Rd H a u := by
  rcases h with h | ⟨o, h⟩
  · exact .inl (s _ _ h)
  · exact .inr ⟨o, s _ _ h⟩
theorem Sub.sl {K : PySem.W.Frag} {G H : Hp} (s : Sub G H) {a : Addr} {xs : List V} (h : SqL K G a xs) : SqL K H a xs := by
  rcases h with h | h
  · exact .inl (s.rd h)
  · exact .inr h
theorem Sub.st {K : PySem.W.Frag} {G H : Hp} (s : Sub G H) {a : Addr} {xs : List V} (h : SqT K G a xs) : SqT K H a xs := by
  rcases h with h | h
  · exact .inl (s.rd h)
  · exact .inr h

section
variable (K : PySem.W.Frag) (cl : Str → Option Addr)
/-- what stands at a node of a kind -/
def Cont (G H : Hp) (a : Addr) (vs : List V) : Kd → Prop
  | .tup => SqT K G a vs
  | .lst false => SqL K G a vs
  | .lst true => H a = some (.lst vs)
  | .dic false ks => vs.length = ks.length ∧ ks.Nodup ∧ Rd G a (.dK (ks.zip vs))
  | .dic true ks => vs.length = ks.length ∧ ks.Nodup ∧ H a = some (.dK (ks.zip vs))
  | .obj c fs => vs.length = fs.length ∧ ∃ C dx, cl c = some C ∧ H a = some (.ins C dx (fs.zip vs))
mutual
def R (G H : Hp) : D → V → List Addr → Prop
  | .at v, w, fp => w = v ∧ fp = []
  | .nd k ds, w, fp => ∃ a vs fs, w = .ref a ∧ Cont K cl G H a vs k ∧ Rs G H ds vs fs ∧
      (if k.ow then fp = a :: fs else fp = fs ∧ (k.isTup = true ∨ fs = []))
def Rs (G H : Hp) : List D → List V → List Addr → Prop
  | [], vs, fp => vs = [] ∧ fp = []
  | d :: ds, vs, fp => ∃ v us f g, vs = v :: us ∧ fp = f ++ g ∧ R G H d v f ∧ Rs G H ds us g
end
end
section
variable {K : PySem.W.Frag} {cl : Str → Option Addr} {G H G' H' : Hp}
theorem Cont.mono {a : Addr} {vs : List V} {k : Kd} (s : Sub G G') (h : k.ow = true → H' a = H a) (c : Cont K cl G H a vs k) : Cont K cl G' H' a vs k := by
  match k, c, h with
  | .tup, c, _ => exact s.st c
  | .lst false, c, _ => exact s.sl c
  | .lst true, c, h => exact (h rfl).trans c
  | .dic false ks, c, _ => exact ⟨c.1, c.2.1, s.rd c.2.2⟩
  | .dic true ks, c, h => exact ⟨c.1, c.2.1, (h rfl).trans c.2.2⟩
  | .obj c0 fs, c, h =>
    obtain ⟨l, C, dx, e1, e2⟩ := c
    exact ⟨l, C, dx, e1, (h rfl).trans e2⟩
mutual
theorem R.mono (s : Sub G G') : ∀ {d : D} {v : V} {fp : List Addr}, (∀ a ∈ fp, H' a = H a) → R K cl G H d v fp → R K cl G' H' d v fp
  | .at v, w, fp, _, r => by
    unfold R at r ⊢
    exact r
  | .nd k ds, w, fp, h, r => by
    unfold R at r ⊢
    obtain ⟨a, vs, fs, e, c, rs, q⟩ := r
    by_cases ho : k.ow = true
    · rw [if_pos ho] at q
      refine ⟨a, vs, fs, e, c.mono s (fun _ => h a (by rw [q]; exact List.mem_cons_self)), Rs.mono s (fun b hb => h b (by rw [q]; exact List.mem_cons_of_mem _ hb)) rs, ?_⟩
      rw [if_pos ho]
      exact q
    · rw [if_neg ho] at q
      refine ⟨a, vs, fs, e, c.mono s (fun z => absurd z ho), Rs.mono s (fun b hb => h b (by rw [q.1]; exact hb)) rs, ?_⟩
      rw [if_neg ho]
      exact q
theorem Rs.mono (s : Sub G G') : ∀ {ds : List D} {vs : List V} {fp : List Addr}, (∀ a ∈ fp, H' a = H a) → Rs K cl G H ds vs fp → Rs K cl G' H' ds vs fp
  | [], vs, fp, _, r => by
    unfold Rs at r ⊢
    exact r
  | d :: ds, vs, fp, h, r => by
    unfold Rs at r ⊢
    obtain ⟨v, us, f, g, e1, e2, r1, r2⟩ := r
    exact ⟨v, us, f, g, e1, e2, R.mono s (fun a ha => h a (by rw [e2]; exact List.mem_append_left _ ha)) r1, Rs.mono s (fun a ha => h a (by rw [e2]; exact List.mem_append_right _ ha)) r2⟩
end
end

/-! ### no owned nodes; freezing -/
mutual
def nOw : D → Bool
  | .at _ => true
  | .nd k ds => !k.ow && nOws ds
def nOws : List D → Bool
  | [] => true
  | d :: ds => nOw d && nOws ds
end
def Kd.frz : Kd → Kd
  | .tup => .tup
  | .lst _ => .lst false
  | .dic _ ks => .dic false ks
  | .obj c fs => .obj c fs
def Kd.fok : Kd → Bool
  | .obj _ _ => false
  | _ => true
mutual
def frz : D → D
  | .at v => .at v
  | .nd k ds => .nd k.frz (frzs ds)
def frzs : List D → List D
  | [] => []
  | d :: ds => frz d :: frzs ds
end
mutual
def fok : D → Bool
  | .at _ => true
  | .nd k ds => k.fok && foks ds
def foks : List D → Bool
  | [] => true
  | d :: ds => fok d && foks ds
end
theorem frzs_map : ∀ ds : List D, frzs ds = ds.map frz
  | [] => rfl
  | d :: ds => by unfold frzs; rw [frzs_map ds]; rfl
theorem nOws_all : ∀ ds : List D, nOws ds = ds.all nOw
  | [] => rfl
  | d :: ds => by unfold nOws; rw [nOws_all ds]; rfl
theorem foks_all : ∀ ds : List D, foks ds = ds.all fok
  | [] => rfl
  | d :: ds => by unfold foks; rw [foks_all ds]; rfl
mutual
theorem frz_of : ∀ {d : D}, nOw d = true → frz d = d
  | .at v, _ => by unfold frz; rfl
  | .nd k ds, h => by
    unfold nOw at h
    rw [Bool.and_eq_true] at h
    unfold frz
    rw [frzs_of h.2]
    cases k with
    | tup => rfl
    | lst o => cases o with
      | false => rfl
      | true => exact absurd h.1 (by decide)
    | dic o ks => cases o with
      | false => rfl
      | true => exact absurd h.1 (by simp [Kd.ow])
    | obj c fs => rfl
theorem frzs_of : ∀ {ds : List D}, nOws ds = true → frzs ds = ds
  | [], _ => rfl
  | d :: ds, h => by
    unfold nOws at h
    rw [Bool.and_eq_true] at h
    unfold frzs
    rw [frz_of h.1, frzs_of h.2]
end
mutual
theorem fok_of : ∀ {d : D}, nOw d = true → fok d = true
  | .at v, _ => by unfold fok; rfl
  | .nd k ds, h => by
    unfold nOw at h
    rw [Bool.and_eq_true] at h
    unfold fok
    rw [foks_of h.2]
    cases k with
    | obj c fs => exact absurd h.1 (by simp [Kd.ow])
    | _ => rfl
theorem foks_of : ∀ {ds : List D}, nOws ds = true → foks ds = true
  | [], _ => by unfold foks; rfl
  | d :: ds, h => by
    unfold nOws at h
    rw [Bool.and_eq_true] at h
    unfold foks
    rw [fok_of h.1, foks_of h.2]
    rfl
end
mutual
theorem nOw_frz : ∀ {d : D}, fok d = true → nOw (frz d) = true
  | .at v, _ => by unfold frz; unfold nOw; rfl
  | .nd k ds, h => by
    unfold fok at h
    rw [Bool.and_eq_true] at h
    unfold frz nOw
    rw [nOws_frzs h.2]
    cases k with
    | obj c fs => exact absurd h.1 (by simp [Kd.fok])
    | _ => rfl
theorem nOws_frzs : ∀ {ds : List D}, foks ds = true → nOws (frzs ds) = true
  | [], _ => by unfold frzs nOws; rfl
  | d :: ds, h => by
    unfold foks at h
    rw [Bool.and_eq_true] at h
    unfold frzs nOws
    rw [nOw_frz h.1, nOws_frzs h.2]
    rfl
end
section
variable {K : PySem.W.Frag} {cl : Str → Option Addr} {G H G' H' : Hp}
mutual
theorem R.fp_nil : ∀ {d : D} {v : V} {fp : List Addr}, nOw d = true → R K cl G H d v fp → fp = []
  | .at v, w, fp, _, r => by
    unfold R at r
    exact r.2
  | .nd k ds, w, fp, h, r => by
    unfold R at r
    unfold nOw at h
    rw [Bool.and_eq_true] at h
    obtain ⟨a, vs, fs, e, c, rs, q⟩ := r
    have e0 := Rs.fp_nil h.2 rs
    have ho : ¬ k.ow = true := by have := h.1; simpa using this
    rw [if_neg ho] at q
    rw [q.1, e0]
theorem Rs.fp_nil : ∀ {ds : List D} {vs : List V} {fp : List Addr}, nOws ds = true → Rs K cl G H ds vs fp → fp = []
  | [], vs, fp, _, r => by
    unfold Rs at r
    exact r.2
  | d :: ds, vs, fp, h, r => by
    unfold Rs at r
    unfold nOws at h
    rw [Bool.and_eq_true] at h
    obtain ⟨v, us, f, g, e1, e2, r1, r2⟩ := r
    rw [e2, R.fp_nil h.1 r1, Rs.fp_nil h.2 r2]
    rfl
end
/-- the frozen part with what now stands at the addresses m -/
def frzH (G H : Hp) (m : List Addr) : Hp := fun a => if a ∈ m then H a else G a
theorem frzH_sub (s : Sub G H) (m : List Addr) : Sub G (frzH G H m) := fun a o e => by
  unfold frzH
  split
  · exact s a o e
  · exact e
theorem frzH_in (s : Sub G H) (m : List Addr) : Sub (frzH G H m) H := fun a o e => by
  unfold frzH at e
  split at e
  · exact e
  · exact s a o e
theorem Cont.frz (s : Sub G H) {m : List Addr} {a : Addr} {vs : List V} {k : Kd} (h : k.fok = true) (hm : k.ow = true → a ∈ m) (c : Cont K cl G H a vs k) : Cont K cl (frzH G H m) H a vs k.frz := by
  have g : k.ow = true → frzH G H m a = H a := fun ho => by unfold frzH; rw [if_pos (hm ho)]
  cases k with
  | tup => exact (frzH_sub s m).st c
  | lst o => cases o with
    | false => exact (frzH_sub s m).sl c
    | true => exact .inl (.inl ((g rfl).trans c))
  | dic o ks => cases o with
    | false => exact ⟨c.1, c.2.1, (frzH_sub s m).rd c.2.2⟩
    | true => exact ⟨c.1, c.2.1, .inl ((g rfl).trans c.2.2)⟩
  | obj _ _ => exact absurd h (by simp [Kd.fok])
mutual
theorem R.frz (s : Sub G H) {m : List Addr} : ∀ {d : D} {v : V} {fp : List Addr}, fok d = true → (∀ a ∈ fp, a ∈ m) → R K cl G H d v fp → R K cl (frzH G H m) H (frz d) v []
  | .at v, w, fp, _, _, r => by
    unfold R at r
    unfold DL.frz R
    exact ⟨r.1, rfl⟩
  | .nd k ds, w, fp, h, hm, r => by
    unfold R at r
    unfold fok at h
    rw [Bool.and_eq_true] at h
    obtain ⟨a, vs, fs, e, c, rs, q⟩ := r
    unfold DL.frz R
    have hsub : ∀ b ∈ fs, b ∈ m := fun b hb => hm b (by
      by_cases ho : k.ow = true
      · rw [if_pos ho] at q; rw [q]; exact List.mem_cons_of_mem _ hb
      · rw [if_neg ho] at q; rw [q.1]; exact hb)
    have rs' := Rs.frz s (m := m) h.2 hsub rs
    have c' : Cont K cl (frzH G H m) H a vs k.frz := Cont.frz s h.1 (fun ho => by
      rw [if_pos ho] at q
      exact hm a (by rw [q]; exact List.mem_cons_self)) c
    refine ⟨a, vs, [], e, c', rs', ?_⟩
    have hno : ¬ k.frz.ow = true := by
      cases k with
      | obj _ _ => exact absurd h.1 (by simp [Kd.fok])
      | _ => simp [Kd.frz, Kd.ow]
    rw [if_neg hno]
    exact ⟨rfl, .inr rfl⟩
theorem Rs.frz (s : Sub G H) {m : List Addr} : ∀ {ds : List D} {vs : List V} {fp : List Addr}, foks ds = true → (∀ a ∈ fp, a ∈ m) → Rs K cl G H ds vs fp → Rs K cl (frzH G H m) H (frzs ds) vs []
  | [], vs, fp, _, _, r => by
    unfold Rs at r
    unfold frzs Rs
    exact ⟨r.1, rfl⟩
  | d :: ds, vs, fp, h, hm, r => by
    unfold Rs at r
    unfold foks at h
    rw [Bool.and_eq_true] at h
    obtain ⟨v, us, f, g, e1, e2, r1, r2⟩ := r
    unfold frzs Rs
    exact ⟨v, us, [], [], e1, rfl, R.frz s h.1 (fun a ha => hm a (by rw [e2]; exact List.mem_append_left _ ha)) r1, Rs.frz s h.2 (fun a ha => hm a (by rw [e2]; exact List.mem_append_right _ ha)) r2⟩
end

/-! ### lists of trees -/
theorem Rs.nil : Rs K cl G H [] [] [] := by unfold Rs; exact ⟨rfl, rfl⟩
theorem Rs.cons {d : D} {v : V} {f : List Addr} {ds : List D} {vs : List V} {g : List Addr} (a : R K cl G H d v f) (b : Rs K cl G H ds vs g) : Rs K cl G H (d :: ds) (v :: vs) (f ++ g) := by
  unfold Rs
  exact ⟨v, vs, f, g, rfl, rfl, a, b⟩
theorem Rs.inv {d : D} {ds : List D} {vs : List V} {fp : List Addr} (r : Rs K cl G H (d :: ds) vs fp) : ∃ v us f g, vs = v :: us ∧ fp = f ++ g ∧ R K cl G H d v f ∧ Rs K cl G H ds us g := by
  unfold Rs at r
  exact r
theorem Rs.length : ∀ {ds : List D} {vs : List V} {fp : List Addr}, Rs K cl G H ds vs fp → vs.length = ds.length
  | [], _, _, r => by unfold Rs at r; rw [r.1]; rfl
  | d :: ds, _, _, r => by
    obtain ⟨v, us, f, g, rfl, _, _, r2⟩ := r.inv
    rw [List.length_cons, List.length_cons, r2.length]
theorem Rs.append : ∀ {ds : List D} {vs : List V} {f : List Addr} {es : List D} {us : List V} {g : List Addr}, Rs K cl G H ds vs f → Rs K cl G H es us g → Rs K cl G H (ds ++ es) (vs ++ us) (f ++ g)
  | [], _, _, _, _, _, r, q => by unfold Rs at r; rw [r.1, r.2]; exact q
  | d :: ds, _, _, _, _, _, r, q => by
    obtain ⟨v, us, f, g, rfl, rfl, r1, r2⟩ := r.inv
    rw [List.append_assoc]
    exact Rs.cons r1 (r2.append q)
theorem Rs.at : ∀ {ds : List D} {vs : List V} {fp : List Addr} {i : Nat} {d : D}, Rs K cl G H ds vs fp → ds[i]? = some d → ∃ v f pre post, vs[i]? = some v ∧ fp = pre ++ (f ++ post) ∧ R K cl G H d v f ∧
    ∀ (G' H' : Hp) (d' : D) (v' : V) (f' : List Addr), Sub G G' → (∀ a ∈ pre ++ post, H' a = H a) → R K cl G' H' d' v' f' → Rs K cl G' H' (ds.set i d') (vs.set i v') (pre ++ (f' ++ post))
  | [], _, _, _, _, _, e => by simp at e
  | d :: ds, _, _, 0, d0, r, e => by
    obtain ⟨v, us, f, g, rfl, rfl, r1, r2⟩ := r.inv
    simp only [List.getElem?_cons_zero, Option.some.injEq] at e
    subst e
    refine ⟨v, f, [], g, rfl, rfl, r1, fun G' H' d' v' f' s h r' => ?_⟩
    show Rs K cl G' H' (d' :: ds) (v' :: us) (f' ++ g)
    exact Rs.cons r' (r2.mono s h)
  | d :: ds, _, _, i + 1, d0, r, e => by
    obtain ⟨v, us, f, g, rfl, rfl, r1, r2⟩ := r.inv
    obtain ⟨w, f1, pre, post, e1, e2, r3, k⟩ := r2.at (i := i) (d := d0) (by simpa using e)
    refine ⟨w, f1, f ++ pre, post, by simpa using e1, by rw [e2, List.append_assoc], r3, fun G' H' d' v' f' s h r' => ?_⟩
    rw [List.append_assoc]
    exact Rs.cons (r1.mono s fun a ha => h a (List.mem_append_left _ (List.mem_append_left _ ha))) (k G' H' d' v' f' s (fun a ha => h a (by
      rcases List.mem_append.mp ha with z | z
      · exact List.mem_append_left _ (List.mem_append_right _ z)
      · exact List.mem_append_right _ z)) r')
theorem Rs.take : ∀ {ds : List D} {vs : List V}, (n : Nat) → Rs K cl G H ds vs [] → Rs K cl G H (ds.take n) (vs.take n) []
  | _, _, 0, _ => by simp only [List.take_zero]; exact Rs.nil
  | [], _, n + 1, r => by unfold Rs at r; rw [r.1]; exact Rs.nil
  | d :: ds, _, n + 1, r => by
    obtain ⟨v, us, f, g, rfl, e, r1, r2⟩ := r.inv
    have e' := List.append_eq_nil_iff.mp e.symm
    rw [e'.1] at r1
    rw [e'.2] at r2
    exact Rs.cons r1 (r2.take n)
theorem Rs.drop : ∀ {ds : List D} {vs : List V}, (n : Nat) → Rs K cl G H ds vs [] → Rs K cl G H (ds.drop n) (vs.drop n) []
  | _, _, 0, r => r
  | [], _, n + 1, r => by unfold Rs at r; rw [r.1]; exact Rs.nil
  | d :: ds, _, n + 1, r => by
    obtain ⟨v, us, f, g, rfl, e, r1, r2⟩ := r.inv
    have e' := List.append_eq_nil_iff.mp e.symm
    rw [e'.2] at r2
    exact r2.drop n

/-! ### the frame: slots -/
/-- the slots: what each holds -/
def Es (K : PySem.W.Frag) (cl : Str → Option Addr) (G H : Hp) : List (Option D) → List (Option V) → List Addr → Prop
  | [], σ, l => σ = [] ∧ l = []
  | none :: ρ, σ, l => ∃ s τ, σ = s :: τ ∧ Es K cl G H ρ τ l
  | some d :: ρ, σ, l => ∃ v τ f g, σ = some v :: τ ∧ l = f ++ g ∧ R K cl G H d v f ∧ Es K cl G H ρ τ g
theorem Es.length : ∀ {ρ : List (Option D)} {σ : List (Option V)} {l : List Addr}, Es K cl G H ρ σ l → σ.length = ρ.length
  | [], _, _, e => by unfold Es at e; rw [e.1]; rfl
  | none :: ρ, _, _, e => by
    unfold Es at e
    obtain ⟨s, τ, rfl, e⟩ := e
    rw [List.length_cons, List.length_cons, e.length]
  | some d :: ρ, _, _, e => by
    unfold Es at e
    obtain ⟨v, τ, f, g, rfl, _, _, e⟩ := e
    rw [List.length_cons, List.length_cons, e.length]
theorem Es.mono (s : Sub G G') : ∀ {ρ : List (Option D)} {σ : List (Option V)} {l : List Addr}, (∀ a ∈ l, H' a = H a) → Es K cl G H ρ σ l → Es K cl G' H' ρ σ l
  | [], _, _, _, e => by unfold Es at e ⊢; exact e
  | none :: ρ, _, _, h, e => by
    unfold Es at e ⊢
    obtain ⟨x, τ, e1, e⟩ := e
    exact ⟨x, τ, e1, e.mono s h⟩
  | some d :: ρ, _, _, h, e => by
    unfold Es at e ⊢
    obtain ⟨v, τ, f, g, e1, e2, r, e⟩ := e
    exact ⟨v, τ, f, g, e1, e2, r.mono s (fun a ha => h a (by rw [e2]; exact List.mem_append_left _ ha)), e.mono s (fun a ha => h a (by rw [e2]; exact List.mem_append_right _ ha))⟩
/-- slot i: what it holds; with another thing in it -/
theorem Es.at : ∀ {ρ : List (Option D)} {σ : List (Option V)} {l : List Addr} {i : Nat} {d : D}, Es K cl G H ρ σ l → ρ[i]? = some (some d) → ∃ v f pre post, σ[i]? = some (some v) ∧ l = pre ++ (f ++ post) ∧ R K cl G H d v f ∧
    (∀ (G' H' : Hp) (d' : D) (v' : V) (f' : List Addr), Sub G G' → (∀ a ∈ pre ++ post, H' a = H a) → R K cl G' H' d' v' f' → Es K cl G' H' (ρ.set i (some d')) (σ.set i (some v')) (pre ++ (f' ++ post))) ∧
    ∀ (G' H' : Hp) (x : Option V), Sub G G' → (∀ a ∈ pre ++ post, H' a = H a) → Es K cl G' H' (ρ.set i none) (σ.set i x) (pre ++ post)
  | [], _, _, _, _, _, e => by simp at e
  | none :: ρ, _, _, 0, _, _, e => by simp at e
  | some d :: ρ, _, _, 0, d0, r, e => by
    unfold Es at r
    obtain ⟨v, τ, f, g, rfl, rfl, r1, r2⟩ := r
    simp only [List.getElem?_cons_zero, Option.some.injEq] at e
    subst e
    refine ⟨v, f, [], g, rfl, rfl, r1, fun G' H' d' v' f' s h r' => ?_, fun G' H' x s h => ?_⟩
    · show Es K cl G' H' (some d' :: ρ) (some v' :: τ) (f' ++ g)
      unfold Es
      exact ⟨v', τ, f', g, rfl, rfl, r', r2.mono s h⟩
    · show Es K cl G' H' (none :: ρ) (x :: τ) g
      unfold Es
      exact ⟨x, τ, rfl, r2.mono s h⟩
  | none :: ρ, _, _, i + 1, d0, r, e => by
    unfold Es at r
    obtain ⟨x, τ, rfl, r2⟩ := r
    obtain ⟨w, f1, pre, post, e1, e2, r3, k1, k2⟩ := r2.at (i := i) (d := d0) (by simpa using e)
    refine ⟨w, f1, pre, post, by simpa using e1, e2, r3, fun G' H' d' v' f' s h r' => ?_, fun G' H' y s h => ?_⟩
    · show Es K cl G' H' (none :: ρ.set i (some d')) (x :: τ.set i (some v')) _
      unfold Es
      exact ⟨x, _, rfl, k1 G' H' d' v' f' s h r'⟩
    · show Es K cl G' H' (none :: ρ.set i none) (x :: τ.set i y) _
      unfold Es
      exact ⟨x, _, rfl, k2 G' H' y s h⟩
  | some d :: ρ, _, _, i + 1, d0, r, e => by
    unfold Es at r
    obtain ⟨v, τ, f, g, rfl, rfl, r1, r2⟩ := r
    obtain ⟨w, f1, pre, post, e1, e2, r3, k1, k2⟩ := r2.at (i := i) (d := d0) (by simpa using e)
    refine ⟨w, f1, f ++ pre, post, by simpa using e1, by rw [e2, List.append_assoc], r3, fun G' H' d' v' f' s h r' => ?_, fun G' H' y s h => ?_⟩
    · show Es K cl G' H' (some d :: ρ.set i (some d')) (some v :: τ.set i (some v')) _
      unfold Es
      exact ⟨v, _, f, _, rfl, List.append_assoc .., r1.mono s (fun a ha => h a (List.mem_append_left _ (List.mem_append_left _ ha))), k1 G' H' d' v' f' s (fun a ha => h a (by
        rcases List.mem_append.mp ha with z | z
        · exact List.mem_append_left _ (List.mem_append_right _ z)
        · exact List.mem_append_right _ z)) r'⟩
    · show Es K cl G' H' (some d :: ρ.set i none) (some v :: τ.set i y) _
      unfold Es
      exact ⟨v, _, f, _, rfl, List.append_assoc .., r1.mono s (fun a ha => h a (List.mem_append_left _ (List.mem_append_left _ ha))), k2 G' H' y s (fun a ha => h a (by
        rcases List.mem_append.mp ha with z | z
        · exact List.mem_append_left _ (List.mem_append_right _ z)
        · exact List.mem_append_right _ z))⟩
/-- a slot without a tree gets one -/
theorem Es.fill : ∀ {ρ : List (Option D)} {σ : List (Option V)} {l : List Addr} {i : Nat}, Es K cl G H ρ σ l → ρ[i]? = some none → ∃ pre post, l = pre ++ post ∧
    ∀ (G' H' : Hp) (d' : D) (v' : V) (f' : List Addr), Sub G G' → (∀ a ∈ pre ++ post, H' a = H a) → R K cl G' H' d' v' f' → Es K cl G' H' (ρ.set i (some d')) (σ.set i (some v')) (pre ++ (f' ++ post))
  | [], _, _, _, _, e => by simp at e
  | some d :: ρ, _, _, 0, _, e => by simp at e
  | none :: ρ, _, _, 0, r, e => by
    unfold Es at r
    obtain ⟨x, τ, rfl, r2⟩ := r
    refine ⟨[], _, rfl, fun G' H' d' v' f' s h r' => ?_⟩
    show Es K cl G' H' (some d' :: ρ) (some v' :: τ) _
    unfold Es
    exact ⟨v', τ, f', _, rfl, rfl, r', r2.mono s h⟩
  | none :: ρ, _, _, i + 1, r, e => by
    unfold Es at r
    obtain ⟨x, τ, rfl, r2⟩ := r
    obtain ⟨pre, post, e1, k⟩ := r2.fill (i := i) (by simpa using e)
    refine ⟨pre, post, e1, fun G' H' d' v' f' s h r' => ?_⟩
    show Es K cl G' H' (none :: ρ.set i (some d')) (x :: τ.set i (some v')) _
    unfold Es
    exact ⟨x, _, rfl, k G' H' d' v' f' s h r'⟩
  | some d :: ρ, _, _, i + 1, r, e => by
    unfold Es at r
    obtain ⟨v, τ, f, g, rfl, rfl, r1, r2⟩ := r
    obtain ⟨pre, post, e1, k⟩ := r2.fill (i := i) (by simpa using e)
    refine ⟨f ++ pre, post, by rw [e1, List.append_assoc], fun G' H' d' v' f' s h r' => ?_⟩
    show Es K cl G' H' (some d :: ρ.set i (some d')) (some v :: τ.set i (some v')) _
    unfold Es
    exact ⟨v, _, f, _, rfl, List.append_assoc .., r1.mono s (fun a ha => h a (List.mem_append_left _ (List.mem_append_left _ ha))), k G' H' d' v' f' s (fun a ha => h a (by
      rcases List.mem_append.mp ha with z | z
      · exact List.mem_append_left _ (List.mem_append_right _ z)
      · exact List.mem_append_right _ z)) r'⟩
end

/-! ### footprints -/
structure Ok (G H : Hp) (l : List Addr) : Prop where
  nd : l.Nodup
  sub : Sub G H
  out : ∀ a ∈ l, G a = none
  on : ∀ a ∈ l, H a ≠ none
structure Ev (G H : Hp) (l : List Addr) (G' H' : Hp) (l' : List Addr) : Prop where
  sub : Sub G G'
  keep : ∀ a o, H a = some o → a ∉ l → H' a = some o
  news : ∀ a ∈ l', a ∈ l ∨ H a = none
  gn : ∀ a, G a = none → H a ≠ none → a ∉ l → G' a = none
  there : ∀ a, H a ≠ none → H' a ≠ none
section
variable {G H G1 H1 G2 H2 : Hp} {l l1 l2 m : List Addr}
theorem Ev.refl (G H : Hp) (l : List Addr) : Ev G H l G H l := ⟨Sub.refl _, fun _ _ h _ => h, fun _ h => .inl h, fun _ h _ _ => h, fun _ h => h⟩
theorem Ev.trans (x : Ev G H l G1 H1 l1) (y : Ev G1 H1 l1 G2 H2 l2) : Ev G H l G2 H2 l2 := by
  have hn : ∀ a, H a ≠ none → a ∉ l → a ∉ l1 := fun a h1 h2 h3 => (x.news a h3).elim h2 h1
  refine ⟨x.sub.trans y.sub, fun a o e n => y.keep a o (x.keep a o e n) (hn a (by rw [e]; exact fun z => nomatch z) n), fun a h => ?_, fun a g h n => y.gn a (x.gn a g h n) (x.there a h) (hn a h n), fun a h => y.there a (x.there a h)⟩
  rcases y.news a h with h1 | h1
  · exact x.news a h1
  · refine .inr ?_
    cases e : H a with
    | none => rfl
    | some o => exact absurd h1 (x.there a (by rw [e]; exact fun z => nomatch z))
theorem Ok.split (o : Ok G H (m ++ l)) : Ok G H m ∧ Ok G H l ∧ ∀ a ∈ m, a ∉ l := by
  have nd := List.nodup_append.mp o.nd
  exact ⟨⟨nd.1, o.sub, fun a h => o.out a (List.mem_append_left _ h), fun a h => o.on a (List.mem_append_left _ h)⟩, ⟨nd.2.1, o.sub, fun a h => o.out a (List.mem_append_right _ h), fun a h => o.on a (List.mem_append_right _ h)⟩,
    fun a h1 h2 => nd.2.2 a h1 a h2 rfl⟩
theorem Ok.join (a : Ok G H m) (b : Ok G H l) (d : ∀ a ∈ m, a ∉ l) : Ok G H (m ++ l) :=
  ⟨List.nodup_append.mpr ⟨a.nd, b.nd, fun x hx y hy e => d x hx (e ▸ hy)⟩, a.sub, fun x h => (List.mem_append.mp h).elim (a.out x) (b.out x), fun x h => (List.mem_append.mp h).elim (a.on x) (b.on x)⟩
theorem Ok.perm (o : Ok G H l) (h : l.Perm m) : Ok G H m := ⟨h.nodup_iff.mp o.nd, o.sub, fun a q => o.out a (h.mem_iff.mpr q), fun a q => o.on a (h.mem_iff.mpr q)⟩
theorem Ok.sublist (o : Ok G H l) (h : m.Sublist l) : Ok G H m := ⟨o.nd.sublist h, o.sub, fun a q => o.out a (h.subset q), fun a q => o.on a (h.subset q)⟩
/-- the frame m stands through a step of l -/
theorem Ok.frame (o : Ok G H (m ++ l)) (x : Ev G H l G1 H1 l1) (o1 : Ok G1 H1 l1) : Ok G1 H1 (m ++ l1) ∧ (∀ a ∈ m, H1 a = H a) := by
  obtain ⟨om, ol, d⟩ := o.split
  have k : ∀ a ∈ m, H1 a = H a := fun a h => by
    cases e : H a with
    | none => exact absurd e (om.on a h)
    | some u => exact x.keep a u e (d a h)
  refine ⟨Ok.join ⟨om.nd, o1.sub, fun a h => x.gn a (om.out a h) (om.on a h) (d a h), fun a h => by rw [k a h]; exact om.on a h⟩ o1 fun a h h1 => ?_, k⟩
  rcases x.news a h1 with z | z
  · exact d a h z
  · exact om.on a h z
/-- a step of a part is a step of the whole -/
theorem Ev.frame (x : Ev G H l G1 H1 l1) (o : Ok G H (m ++ l)) : Ev G H (m ++ l) G1 H1 (m ++ l1) :=
  ⟨x.sub, fun a u e n => x.keep a u e fun h => n (List.mem_append_right _ h), fun a h => (List.mem_append.mp h).elim (fun z => .inl (List.mem_append_left _ z)) fun z => (x.news a z).imp (List.mem_append_right _) id,
    fun a g h n => x.gn a g h fun z => n (List.mem_append_right _ z), x.there⟩
theorem Ev.less (x : Ev G H l G1 H1 l1) (h : ∀ a ∈ l2, a ∈ l1) : Ev G H l G1 H1 l2 := ⟨x.sub, x.keep, fun a q => x.news a (h a q), x.gn, x.there⟩
theorem Ev.more (x : Ev G H l G1 H1 l1) (h : ∀ a ∈ l, a ∈ l2) : Ev G H l2 G1 H1 l1 := ⟨x.sub, fun a o e n => x.keep a o e fun z => n (h a z), fun a q => (x.news a q).imp (h a) id, fun a g e n => x.gn a g e fun z => n (h a z), x.there⟩
end
end DL

set_option maxRecDepth 100000
/-! DLJ: readings over trees: views (tQ), values (tV), tests (tT). -/
namespace DL
open PySem L2 PySem.Spec PyProof.Rows

abbrev En := List (Option D)
structure Exn where
  cls : Str
  fs : List (Str × D)
inductive Rr (α : Type) where
  | v (a : α) (ρ : En)
  | x (e : Exn) (ρ : En)
abbrev VF := En → Option (Rr D)
abbrev BF := En → Option (Rr Bool)
abbrev LF := En → Option (Rr (List D))
abbrev QF := En → Option D
abbrev XPost := Exn → En → Hp → Hp → List Addr → L2.St → Prop

structure Evq (G H G' H' : Hp) : Prop where
  sub : Sub G G'
  same : Sub H H'
  inn : Sub G' H'
  gn : ∀ a, G a = none → H a ≠ none → G' a = none
structure Fresh (H G' H' : Hp) (f : List Addr) : Prop where
  nd : f.Nodup
  new : ∀ a ∈ f, H a = none
  out : ∀ a ∈ f, G' a = none
  on : ∀ a ∈ f, H' a ≠ none
theorem Fresh.nil {H G' H' : Hp} : Fresh H G' H' [] := ⟨List.nodup_nil, fun _ h => (by simp at h), fun _ h => (by simp at h), fun _ h => (by simp at h)⟩
theorem Evq.refl {G H : Hp} (s : Sub G H) : Evq G H G H := ⟨Sub.refl _, Sub.refl _, s, fun _ h _ => h⟩
theorem ne_none_of {H : Hp} {a : Addr} {o : HO} (h : H a = some o) : H a ≠ none := by rw [h]; exact fun z => nomatch z
section
variable {G H G1 H1 G2 H2 : Hp} {l l1 l2 m f g : List Addr}
theorem Evq.there (x : Evq G H G1 H1) : ∀ a, H a ≠ none → H1 a ≠ none := fun a h => by
  cases e : H a with
  | none => exact absurd e h
  | some o => exact ne_none_of (x.same a o e)
theorem Evq.trans (x : Evq G H G1 H1) (y : Evq G1 H1 G2 H2) : Evq G H G2 H2 := ⟨x.sub.trans y.sub, x.same.trans y.same, y.inn, fun a g h => y.gn a (x.gn a g h) (x.there a h)⟩
theorem Evq.at (x : Evq G H G1 H1) (o : Ok G H l) : ∀ a ∈ l, H1 a = H a := fun a h => by
  cases e : H a with
  | none => exact absurd e (o.on a h)
  | some u => exact x.same a u e
theorem Evq.ok (x : Evq G H G1 H1) (o : Ok G H l) : Ok G1 H1 l := ⟨o.nd, x.inn, fun a h => x.gn a (o.out a h) (o.on a h), fun a h => x.there a (o.on a h)⟩
theorem Evq.ev (x : Evq G H G1 H1) : Ev G H l G1 H1 l := ⟨x.sub, fun a o e _ => x.same a o e, fun a h => .inl h, fun a g h _ => x.gn a g h, x.there⟩
/-- new addresses join -/
theorem Evq.evf (x : Evq G H G1 H1) (n : Fresh H G1 H1 f) : Ev G H l G1 H1 (f ++ l) :=
  ⟨x.sub, fun a o e _ => x.same a o e, fun a h => (List.mem_append.mp h).elim (fun z => .inr (n.new a z)) .inl, fun a g h _ => x.gn a g h, x.there⟩
theorem Evq.okf (x : Evq G H G1 H1) (n : Fresh H G1 H1 f) (o : Ok G H l) : Ok G1 H1 (f ++ l) :=
  Ok.join ⟨n.nd, x.inn, n.out, n.on⟩ (x.ok o) fun a h1 h2 => o.on a h2 (n.new a h1)
end

section
variable {K : PySem.W.Frag} {cl : Str → Option Addr} {G H G' H' G1 H1 : Hp}
theorem R.evq (x : Evq G H G1 H1) {d : D} {v : V} {f : List Addr} (h : ∀ a ∈ f, H a ≠ none) (r : R K cl G H d v f) : R K cl G1 H1 d v f :=
  r.mono x.sub fun a ha => by
    cases e : H a with
    | none => exact absurd e (h a ha)
    | some u => exact x.same a u e
theorem Rs.evq (x : Evq G H G1 H1) {d : List D} {v : List V} {f : List Addr} (h : ∀ a ∈ f, H a ≠ none) (r : Rs K cl G H d v f) : Rs K cl G1 H1 d v f :=
  r.mono x.sub fun a ha => by
    cases e : H a with
    | none => exact absurd e (h a ha)
    | some u => exact x.same a u e
theorem Es.evq (x : Evq G H G1 H1) {ρ : En} {σ : L2.St} {l : List Addr} (o : Ok G H l) (e : Es K cl G H ρ σ l) : Es K cl G1 H1 ρ σ l := e.mono x.sub (x.at o)
/-- the addresses of a tree are on -/
theorem Cont.on {a : Addr} {vs : List V} {k : Kd} (h : k.ow = true) (c : Cont K cl G H a vs k) : H a ≠ none := by
  cases k with
  | tup => exact absurd h (by decide)
  | lst o => cases o with
    | false => exact absurd h (by decide)
    | true => exact ne_none_of c
  | dic o ks => cases o with
    | false => exact absurd h (by simp [Kd.ow])
    | true => exact ne_none_of c.2.2
  | obj _ _ => obtain ⟨_, _, _, _, e⟩ := c; exact ne_none_of e
mutual
theorem R.on : ∀ {d : D} {v : V} {f : List Addr}, R K cl G H d v f → ∀ a ∈ f, H a ≠ none
  | .at v, w, f, r, a, ha => by
    unfold R at r
    rw [r.2] at ha
    simp at ha
  | .nd k ds, w, f, r, a, ha => by
    unfold R at r
    obtain ⟨b, vs, fs, e, c, rs, q⟩ := r
    by_cases ho : k.ow = true
    · rw [if_pos ho] at q
      rw [q] at ha
      rcases List.mem_cons.mp ha with z | z
      · rw [z]; exact c.on ho
      · exact Rs.on rs a z
    · rw [if_neg ho] at q
      rw [q.1] at ha
      exact Rs.on rs a ha
theorem Rs.on : ∀ {ds : List D} {vs : List V} {f : List Addr}, Rs K cl G H ds vs f → ∀ a ∈ f, H a ≠ none
  | [], vs, f, r, a, ha => by
    unfold Rs at r
    rw [r.2] at ha
    simp at ha
  | d :: ds, vs, f, r, a, ha => by
    unfold Rs at r
    obtain ⟨v, us, f1, g, e1, e2, r1, r2⟩ := r
    rw [e2] at ha
    rcases List.mem_append.mp ha with z | z
    · exact R.on r1 a z
    · exact Rs.on r2 a z
end
end

theorem _root_.L2.PE.imp {X : Cx} {e : Expr} {t t' : TE} (h : PE X e t) (k : ∀ σ H Q, t' σ H Q → t σ H Q) : PE X e t' := ⟨fun pins s σ H Q I q => h.run pins s σ H Q I (k σ H Q q)⟩
theorem _root_.L2.PT.imp {X : Cx} {e : Expr} {t t' : TT} (h : PT X e t) (k : ∀ σ H Q, t' σ H Q → t σ H Q) : PT X e t' := ⟨fun pins s σ H Q I q => h.run pins s σ H Q I (k σ H Q q)⟩
theorem _root_.L2.PA.imp {X : Cx} {e : List Expr} {t t' : TA} (h : PA X e t) (k : ∀ σ H Q, t' σ H Q → t σ H Q) : PA X e t' := ⟨fun pos pins s σ H Q I q => h.run pos pins s σ H Q I (k σ H Q q)⟩
theorem _root_.L2.PS.imp {X : Cx} {e : Stmt} {t t' : TS} (h : PS X e t) (k : ∀ D σ H, t' D σ H → t D σ H) : PS X e t' := ⟨fun pins s σ H D I q => h.run pins s σ H D I (k D σ H q)⟩
theorem _root_.L2.PSs.imp {X : Cx} {e : List Stmt} {t t' : TS} (h : PSs X e t) (k : ∀ D σ H, t' D σ H → t D σ H) : PSs X e t' := ⟨fun pins s σ H D I q => h.run pins s σ H D I (k D σ H q)⟩

/-! ### the readings -/
section
variable (K : PySem.W.Frag) (cl : Str → Option Addr) (XP : XPost)
def tQ (q : QF) : TE := fun σ H Q => ∃ G ρ l d, Ok G H l ∧ Es K cl G H ρ σ l ∧ q ρ = some d ∧ ∀ v G' H' f, Evq G H G' H' → R K cl G' H' d v f → Q v H'
def VPost (G H : Hp) (l : List Addr) (σ : L2.St) : Rr D → VK → Prop
  | .v d ρ', Q => ∀ v G' H' fv l', Ev G H l G' H' (fv ++ l') → Ok G' H' (fv ++ l') → R K cl G' H' d v fv → Es K cl G' H' ρ' σ l' → Q v H'
  | .x e ρ', _ => ∀ G' H' l', Ev G H l G' H' l' → Ok G' H' l' → Es K cl G' H' ρ' σ l' → XP e ρ' G' H' l' σ
def tV (f : VF) : TE := fun σ H Q => ∃ G ρ l r, Ok G H l ∧ Es K cl G H ρ σ l ∧ f ρ = some r ∧ VPost K cl XP G H l σ r Q
def TPost (G H : Hp) (l : List Addr) (σ : L2.St) : Rr Bool → (Bool → Hp → Prop) → Prop
  | .v b ρ', Q => ∀ G' H' l', Ev G H l G' H' l' → Ok G' H' l' → Es K cl G' H' ρ' σ l' → Q b H'
  | .x e ρ', _ => ∀ G' H' l', Ev G H l G' H' l' → Ok G' H' l' → Es K cl G' H' ρ' σ l' → XP e ρ' G' H' l' σ
def tT (f : BF) : TT := fun σ H Q => ∃ G ρ l r, Ok G H l ∧ Es K cl G H ρ σ l ∧ f ρ = some r ∧ TPost K cl XP G H l σ r Q
def APost (G H : Hp) (l : List Addr) (σ : L2.St) : Rr (List D) → (List V → Hp → Prop) → Prop
  | .v ds ρ', Q => ∀ vs G' H' fv l', Ev G H l G' H' (fv ++ l') → Ok G' H' (fv ++ l') → Rs K cl G' H' ds vs fv → Es K cl G' H' ρ' σ l' → Q vs H'
  | .x e ρ', _ => ∀ G' H' l', Ev G H l G' H' l' → Ok G' H' l' → Es K cl G' H' ρ' σ l' → XP e ρ' G' H' l' σ
def tA (f : LF) : TA := fun σ H Q => ∃ G ρ l r, Ok G H l ∧ Es K cl G H ρ σ l ∧ f ρ = some r ∧ APost K cl XP G H l σ r Q
end
section
variable (X : Cx) (cl : Str → Option Addr) (XP : XPost)
abbrev QE (e : Expr) (q : QF) : Prop := PE X e (tQ X.K cl q)
abbrev VE (e : Expr) (f : VF) : Prop := PE X e (tV X.K cl XP f)
abbrev BE (e : Expr) (f : BF) : Prop := PT X e (tT X.K cl XP f)
abbrev LE' (es : List Expr) (f : LF) : Prop := PA X es (tA X.K cl XP f)
end

/-! ### the plain side: combinators -/
def rb {α β : Type} (f : En → Option (Rr α)) (g : α → En → Option (Rr β)) : En → Option (Rr β) := fun ρ =>
  match f ρ with
  | none => none
  | some (.x e ρ') => some (.x e ρ')
  | some (.v a ρ') => g a ρ'
def rp {α : Type} (o : Option α) : En → Option (Rr α) := fun ρ =>
  match o with
  | none => none
  | some a => some (.v a ρ)
def q1 (k : D → Option D) (a : QF) : QF := fun ρ => (a ρ).bind k
def q2 (k : D → D → Option D) (a b : QF) : QF := fun ρ => (a ρ).bind fun x => (b ρ).bind fun y => k x y
def v1 (k : D → Option D) (a : VF) : VF := rb a fun x => rp (k x)
def v2 (k : D → D → Option D) (a b : VF) : VF := rb a fun x => rb b fun y => rp (k x y)
/-- a view, copied: nothing in it is owned -/
def cp (q : QF) : VF := fun ρ => (q ρ).bind fun d => if nOw d = true then some (.v d ρ) else none
/-- what a view makes anew -/
def mk (q : QF) : VF := fun ρ => (q ρ).map fun d => .v d ρ

section
variable {K : PySem.W.Frag} {cl : Str → Option Addr} {XP : XPost} {G H G1 H1 : Hp} {l l1 : List Addr} {σ : L2.St}
theorem VPost.step {r : Rr D} {Q : VK} (p : VPost K cl XP G H l σ r Q) (x : Ev G H l G1 H1 l1) : VPost K cl XP G1 H1 l1 σ r Q := by
  cases r with
  | v d ρ => exact fun v G' H' fv l' e o r es => p v G' H' fv l' (x.trans e) o r es
  | x e ρ => exact fun G' H' l' e o es => p G' H' l' (x.trans e) o es
theorem APost.step {r : Rr (List D)} {Q : List V → Hp → Prop} (p : APost K cl XP G H l σ r Q) (x : Ev G H l G1 H1 l1) : APost K cl XP G1 H1 l1 σ r Q := by
  cases r with
  | v d ρ => exact fun v G' H' fv l' e o r es => p v G' H' fv l' (x.trans e) o r es
  | x e ρ => exact fun G' H' l' e o es => p G' H' l' (x.trans e) o es
theorem TPost.step {r : Rr Bool} {Q : Bool → Hp → Prop} (p : TPost K cl XP G H l σ r Q) (x : Ev G H l G1 H1 l1) : TPost K cl XP G1 H1 l1 σ r Q := by
  cases r with
  | v d ρ => exact fun G' H' l' e o es => p G' H' l' (x.trans e) o es
  | x e ρ => exact fun G' H' l' e o es => p G' H' l' (x.trans e) o es
/-- one value, then the rest -/
theorem tV.bind {α : Type} {f : VF} {g : D → En → Option (Rr α)} {ρ : En} {r : Rr α} {Q : VK} (ok : Ok G H l) (es : Es K cl G H ρ σ l) (e : rb f g ρ = some r)
    (px : ∀ ee ρ', r = .x ee ρ' → ∀ G' H' l', Ev G H l G' H' l' → Ok G' H' l' → Es K cl G' H' ρ' σ l' → XP ee ρ' G' H' l' σ)
    (k : ∀ d ρ', g d ρ' = some r → ∀ v G' H' fv l', Ev G H l G' H' (fv ++ l') → Ok G' H' (fv ++ l') → R K cl G' H' d v fv → Es K cl G' H' ρ' σ l' → Q v H') : tV K cl XP f σ H Q := by
  unfold rb at e
  cases h : f ρ with
  | none => rw [h] at e; cases e
  | some y =>
    rw [h] at e
    cases y with
    | x ee ρ' =>
      cases e
      exact ⟨G, ρ, l, .x ee ρ', ok, es, h, px ee ρ' rfl⟩
    | v d ρ' => exact ⟨G, ρ, l, .v d ρ', ok, es, h, fun v G' H' fv l' ev o rr ee => k d ρ' e v G' H' fv l' ev o rr ee⟩
theorem tQ.use {q : QF} {ρ : En} {d : D} {Q : VK} (ok : Ok G H l) (es : Es K cl G H ρ σ l) (e : q ρ = some d)
    (k : ∀ v G' H' f, Evq G H G' H' → R K cl G' H' d v f → Q v H') : tQ K cl q σ H Q := ⟨G, ρ, l, d, ok, es, e, k⟩
end

/-! ### making and viewing operations -/
section
variable (K : PySem.W.Frag) (cl : Str → Option Addr)
/-- r makes the value k a b anew -/
def Mk2 (r : R2) (k : D → D → Option D) : Prop := ∀ {G H : Hp} {a b d : D} {v w : V} {f g : List Addr} {Q : VK}, Sub G H → R K cl G H a v f → R K cl G H b w g → k a b = some d →
  (∀ u G' H' fu, Evq G H G' H' → Fresh H G' H' fu → R K cl G' H' d u fu → Q u H') → r v w H Q
def Mk1 (r : V → Hp → VK → Prop) (k : D → Option D) : Prop := ∀ {G H : Hp} {a d : D} {v : V} {f : List Addr} {Q : VK}, Sub G H → R K cl G H a v f → k a = some d →
  (∀ u G' H' fu, Evq G H G' H' → Fresh H G' H' fu → R K cl G' H' d u fu → Q u H') → r v H Q
/-- r hands back a part of a -/
def Vw2 (r : R2) (k : D → D → Option D) : Prop := ∀ {G H : Hp} {a b d : D} {v w : V} {f g : List Addr} {Q : VK}, Sub G H → R K cl G H a v f → R K cl G H b w g → k a b = some d →
  (∀ u fu, fu.Sublist f → R K cl G H d u fu → Q u H) → r v w H Q
/-- r of a list of values -/
def MkA (r : List V → Hp → VK → Prop) (k : List D → Option D) : Prop := ∀ {G H : Hp} {as : List D} {d : D} {vs : List V} {f : List Addr} {Q : VK}, Sub G H → Rs K cl G H as vs f → k as = some d →
  (∀ u G' H' fu, Evq G H G' H' → Fresh H G' H' fu → R K cl G' H' d u fu → Q u H') → r vs H Q
end
section
variable {X : Cx} {cl : Str → Option Addr} {XP : XPost} {a b c : Expr} {pos : Pos}
theorem rp_some {α : Type} {o : Option α} {ρ : En} {r : Rr α} (h : rp o ρ = some r) : ∃ a, o = some a ∧ r = .v a ρ := by
  unfold rp at h
  cases o with
  | none => cases h
  | some a => cases h; exact ⟨a, rfl, rfl⟩
/-- a two-place operation on values -/
theorem tV2 {K : PySem.W.Frag} {r : R2} {k : D → D → Option D} {fa fb : VF} (m : Mk2 K cl r k) {σ : L2.St} {H : Hp} {Q : VK} (h : tV K cl XP (v2 k fa fb) σ H Q) : tOp r (tV K cl XP fa) (tV K cl XP fb) σ H Q := by
  obtain ⟨G, ρ, l, rr, ok, es, e, p⟩ := h
  refine tV.bind ok es e (fun ee ρ' z => by subst z; exact p) fun da ρ1 e1 v G1 H1 f1 l1 ev1 ok1 ra es1 => ?_
  have ol := ok1.split.2.1
  have p1 := p.step (ev1.less (l2 := l1) fun a h => List.mem_append_right _ h)
  refine tV.bind ol es1 e1 (fun ee ρ' z => by subst z; exact p1) fun db ρ2 e2 w G2 H2 f2 l2 ev2 ok2 rb es2 => ?_
  obtain ⟨d, e3, rfl⟩ := rp_some e2
  obtain ⟨okF, kp⟩ := ok1.frame ev2 ok2
  refine m ok2.sub (ra.mono ev2.sub kp) rb e3 fun u G3 H3 fu q n rd => ?_
  have o2 := ok2.split.2.1
  exact p1 u G3 H3 fu l2 ((ev2.less (l2 := l2) fun a h => List.mem_append_right _ h).trans (q.evf n)) (q.okf n o2) rd (es2.evq q o2)
theorem tV1 {K : PySem.W.Frag} {r : V → Hp → VK → Prop} {k : D → Option D} {fa : VF} (m : Mk1 K cl r k) {σ : L2.St} {H : Hp} {Q : VK} (h : tV K cl XP (v1 k fa) σ H Q) : tUn r (tV K cl XP fa) σ H Q := by
  obtain ⟨G, ρ, l, rr, ok, es, e, p⟩ := h
  refine tV.bind ok es e (fun ee ρ' z => by subst z; exact p) fun da ρ1 e1 v G1 H1 f1 l1 ev1 ok1 ra es1 => ?_
  obtain ⟨d, e3, rfl⟩ := rp_some e1
  refine m ok1.sub ra e3 fun u G3 H3 fu q n rd => ?_
  have o1 := ok1.split.2.1
  exact p u G3 H3 fu l1 ((ev1.less (l2 := l1) fun a h => List.mem_append_right _ h).trans (q.evf n)) (q.okf n o1) rd (es1.evq q o1)
theorem tQ2 {K : PySem.W.Frag} {r : R2} {k : D → D → Option D} {qa qb : QF} (m : Mk2 K cl r k) {σ : L2.St} {H : Hp} {Q : VK} (h : tQ K cl (q2 k qa qb) σ H Q) : tOp r (tQ K cl qa) (tQ K cl qb) σ H Q := by
  obtain ⟨G, ρ, l, d, ok, es, e, p⟩ := h
  unfold q2 at e
  obtain ⟨x, e1, e⟩ := Option.bind_eq_some_iff.mp e
  obtain ⟨y, e2, e3⟩ := Option.bind_eq_some_iff.mp e
  refine tQ.use ok es e1 fun v G1 H1 f ev1 rx => ?_
  refine tQ.use (ev1.ok ok) (es.evq ev1 ok) e2 fun w G2 H2 g ev2 ry => ?_
  exact m ev2.inn (rx.evq ev2 rx.on) ry e3 fun u G3 H3 fu q n rd => p u G3 H3 fu ((ev1.trans ev2).trans q) rd
theorem tQ1 {K : PySem.W.Frag} {r : V → Hp → VK → Prop} {k : D → Option D} {qa : QF} (m : Mk1 K cl r k) {σ : L2.St} {H : Hp} {Q : VK} (h : tQ K cl (q1 k qa) σ H Q) : tUn r (tQ K cl qa) σ H Q := by
  obtain ⟨G, ρ, l, d, ok, es, e, p⟩ := h
  unfold q1 at e
  obtain ⟨x, e1, e⟩ := Option.bind_eq_some_iff.mp e
  refine tQ.use ok es e1 fun v G1 H1 f ev1 rx => ?_
  exact m ev1.inn rx e fun u G3 H3 fu q n rd => p u G3 H3 fu (ev1.trans q) rd
/-- from views, a value made anew -/
theorem tQV2 {K : PySem.W.Frag} {r : R2} {k : D → D → Option D} {qa qb : QF} (m : Mk2 K cl r k) {σ : L2.St} {H : Hp} {Q : VK} (h : tV K cl XP (mk (q2 k qa qb)) σ H Q) : tOp r (tQ K cl qa) (tQ K cl qb) σ H Q := by
  obtain ⟨G, ρ, l, rr, ok, es, e, p⟩ := h
  unfold mk q2 at e
  obtain ⟨d, em, rfl⟩ := Option.map_eq_some_iff.mp e
  obtain ⟨x, e1, en⟩ := Option.bind_eq_some_iff.mp em
  obtain ⟨y, e2, e3⟩ := Option.bind_eq_some_iff.mp en
  refine tQ.use ok es e1 fun v G1 H1 f ev1 rx => ?_
  refine tQ.use (ev1.ok ok) (es.evq ev1 ok) e2 fun w G2 H2 g ev2 ry => ?_
  have ev := ev1.trans ev2
  exact m ev2.inn (rx.evq ev2 rx.on) ry e3 fun u G3 H3 fu q n rd => p u G3 H3 fu l (ev.ev.trans (q.evf n)) (q.okf n (ev.ok ok)) rd (es.evq (ev.trans q) ok)
theorem tQV1 {K : PySem.W.Frag} {r : V → Hp → VK → Prop} {k : D → Option D} {qa : QF} (m : Mk1 K cl r k) {σ : L2.St} {H : Hp} {Q : VK} (h : tV K cl XP (mk (q1 k qa)) σ H Q) : tUn r (tQ K cl qa) σ H Q := by
  obtain ⟨G, ρ, l, rr, ok, es, e, p⟩ := h
  unfold mk q1 at e
  obtain ⟨d, em, rfl⟩ := Option.map_eq_some_iff.mp e
  obtain ⟨x, e1, e2⟩ := Option.bind_eq_some_iff.mp em
  refine tQ.use ok es e1 fun v G1 H1 f ev1 rx => ?_
  exact m ev1.inn rx e2 fun u G3 H3 fu q n rd => p u G3 H3 fu l (ev1.ev.trans (q.evf n)) (q.okf n (ev1.ok ok)) rd (es.evq (ev1.trans q) ok)
theorem tQw {K : PySem.W.Frag} {r : R2} {k : D → D → Option D} {qa qb : QF} (m : Vw2 K cl r k) {σ : L2.St} {H : Hp} {Q : VK} (h : tQ K cl (q2 k qa qb) σ H Q) : tOp r (tQ K cl qa) (tQ K cl qb) σ H Q := by
  obtain ⟨G, ρ, l, d, ok, es, e, p⟩ := h
  unfold q2 at e
  obtain ⟨x, e1, e⟩ := Option.bind_eq_some_iff.mp e
  obtain ⟨y, e2, e3⟩ := Option.bind_eq_some_iff.mp e
  refine tQ.use ok es e1 fun v G1 H1 f ev1 rx => ?_
  refine tQ.use (ev1.ok ok) (es.evq ev1 ok) e2 fun w G2 H2 g ev2 ry => ?_
  exact m ev2.inn (rx.evq ev2 rx.on) ry e3 fun u fu _ rd => p u G2 H2 fu (ev1.trans ev2) rd
theorem tVw {K : PySem.W.Frag} {r : R2} {k : D → D → Option D} {fa fb : VF} (m : Vw2 K cl r k) {σ : L2.St} {H : Hp} {Q : VK} (h : tV K cl XP (v2 k fa fb) σ H Q) : tOp r (tV K cl XP fa) (tV K cl XP fb) σ H Q := by
  obtain ⟨G, ρ, l, rr, ok, es, e, p⟩ := h
  refine tV.bind ok es e (fun ee ρ' z => by subst z; exact p) fun da ρ1 e1 v G1 H1 f1 l1 ev1 ok1 ra es1 => ?_
  have ol := ok1.split.2.1
  have p1 := p.step ev1
  refine tV.bind ol es1 e1 (fun ee ρ' z => by subst z; exact p.step (ev1.less (l2 := l1) fun a h => List.mem_append_right _ h)) fun db ρ2 e2 w G2 H2 f2 l2 ev2 ok2 rb es2 => ?_
  obtain ⟨d, e3, rfl⟩ := rp_some e2
  obtain ⟨okF, kp⟩ := ok1.frame ev2 ok2
  refine m ok2.sub (ra.mono ev2.sub kp) rb e3 fun u fu sl rd => ?_
  have sub : (fu ++ l2).Sublist (f1 ++ (f2 ++ l2)) := sl.append (List.sublist_append_right _ _)
  exact p1 u G2 H2 fu l2 ((ev2.frame ok1).less fun a h => sub.subset h) (okF.sublist sub) rd es2

theorem v_cp {e : Expr} {q : QF} (h : QE X cl e q) : VE X cl XP e (cp q) := h.imp fun σ H Q hh => by
  obtain ⟨G, ρ, l, rr, ok, es, e, p⟩ := hh
  unfold cp at e
  obtain ⟨d, e1, e⟩ := Option.bind_eq_some_iff.mp e
  split at e
  · rename_i hn
    cases e
    refine tQ.use ok es e1 fun v G1 H1 f ev rd => ?_
    have e0 := rd.fp_nil hn
    subst e0
    exact p v G1 H1 [] l ev.ev (ev.ok ok) rd (es.evq ev ok)
  · cases e
theorem q_op {op : Operator} {r : R2} {k : D → D → Option D} {qa qb : QF} (ho : OpR X (binaryOp op) r) (m : Mk2 X.K cl r k) (ha : QE X cl a qa) (hb : QE X cl b qb) : QE X cl (.BinOp a op b pos) (q2 k qa qb) := (pe_op ho ha hb).imp fun _ _ _ => tQ2 m
theorem v_op {op : Operator} {r : R2} {k : D → D → Option D} {qa qb : VF} (ho : OpR X (binaryOp op) r) (m : Mk2 X.K cl r k) (ha : VE X cl XP a qa) (hb : VE X cl XP b qb) : VE X cl XP (.BinOp a op b pos) (v2 k qa qb) := (pe_op ho ha hb).imp fun _ _ _ => tV2 m
theorem m_op {op : Operator} {r : R2} {k : D → D → Option D} {qa qb : QF} (ho : OpR X (binaryOp op) r) (m : Mk2 X.K cl r k) (ha : QE X cl a qa) (hb : QE X cl b qb) : VE X cl XP (.BinOp a op b pos) (mk (q2 k qa qb)) := (pe_op ho ha hb).imp fun _ _ _ => tQV2 m
theorem q_un {op : UnaryOp} {r : V → Hp → VK → Prop} {k : D → Option D} {qa : QF} (ho : UnR X (unaryOp op) r) (m : Mk1 X.K cl r k) (ha : QE X cl a qa) : QE X cl (.UnaryOp op a pos) (q1 k qa) := (pe_un ho ha).imp fun _ _ _ => tQ1 m
theorem v_un {op : UnaryOp} {r : V → Hp → VK → Prop} {k : D → Option D} {qa : VF} (ho : UnR X (unaryOp op) r) (m : Mk1 X.K cl r k) (ha : VE X cl XP a qa) : VE X cl XP (.UnaryOp op a pos) (v1 k qa) := (pe_un ho ha).imp fun _ _ _ => tV1 m
theorem q_cmp {op : CmpOp} {r : R2} {k : D → D → Option D} {qa qb : QF} (ho : OpR X (compareOp op) r) (m : Mk2 X.K cl r k) (ha : QE X cl a qa) (hb : QE X cl b qb) (hm : behindInMarks op b = false) : QE X cl (.Compare a [op] [b] pos) (q2 k qa qb) := (pe_cmpR ho ha hb hm).imp fun _ _ _ => tQ2 m
theorem v_cmp {op : CmpOp} {r : R2} {k : D → D → Option D} {qa qb : VF} (ho : OpR X (compareOp op) r) (m : Mk2 X.K cl r k) (ha : VE X cl XP a qa) (hb : VE X cl XP b qb) (hm : behindInMarks op b = false) : VE X cl XP (.Compare a [op] [b] pos) (v2 k qa qb) := (pe_cmpR ho ha hb hm).imp fun _ _ _ => tV2 m
theorem q_ix {r : R2} {k : D → D → Option D} {qa qb : QF} (hr : IxR X r) (m : Vw2 X.K cl r k) (ha : QE X cl a qa) (hb : QE X cl b qb) (hs : PlainIx b) : QE X cl (.Subscript a b pos) (q2 k qa qb) := (pe_ix hr ha hb hs).imp fun _ _ _ => tQw m
theorem v_ix {r : R2} {k : D → D → Option D} {qa qb : VF} (hr : IxR X r) (m : Vw2 X.K cl r k) (ha : VE X cl XP a qa) (hb : VE X cl XP b qb) (hs : PlainIx b) : VE X cl XP (.Subscript a b pos) (v2 k qa qb) := (pe_ix hr ha hb hs).imp fun _ _ _ => tVw m

/-! ### tests -/
/-- the bool that a tree is -/
def asB : D → Option Bool
  | .at (.bl b) => some b
  | _ => none
def qB (q : QF) : BF := fun ρ => ((q ρ).bind asB).map fun b => .v b ρ
def vB (f : VF) : BF := rb f fun d => rp (asB d)
theorem asB_some {d : D} {b : Bool} (h : asB d = some b) : d = .at (.bl b) := by
  match d, h with
  | .at (.bl c), h => cases h; rfl
theorem R.at_inv {K : PySem.W.Frag} {G H : Hp} {v w : V} {f : List Addr} (r : R K cl G H (.at v) w f) : w = v ∧ f = [] := by
  unfold R at r
  exact r
theorem R.at {K : PySem.W.Frag} {G H : Hp} (v : V) : R K cl G H (.at v) v [] := by
  unfold R
  exact ⟨rfl, rfl⟩
theorem tQB {K : PySem.W.Frag} {q : QF} {σ : L2.St} {H : Hp} {Q : Bool → Hp → Prop} (h : tT K cl XP (qB q) σ H Q) : tQ K cl q σ H fun x H' => ∃ k, x = .bl k ∧ Q k H' := by
  obtain ⟨G, ρ, l, rr, ok, es, e, p⟩ := h
  unfold qB at e
  obtain ⟨b, em, rfl⟩ := Option.map_eq_some_iff.mp e
  obtain ⟨d, e1, e2⟩ := Option.bind_eq_some_iff.mp em
  refine tQ.use ok es e1 fun v G1 H1 f ev rd => ?_
  rw [asB_some e2] at rd
  exact ⟨b, rd.at_inv.1, p G1 H1 l ev.ev (ev.ok ok) (es.evq ev ok)⟩
theorem tVB {K : PySem.W.Frag} {q : VF} {σ : L2.St} {H : Hp} {Q : Bool → Hp → Prop} (h : tT K cl XP (vB q) σ H Q) : tV K cl XP q σ H fun x H' => ∃ k, x = .bl k ∧ Q k H' := by
  obtain ⟨G, ρ, l, rr, ok, es, e, p⟩ := h
  refine tV.bind ok es e (fun ee ρ' z => by subst z; exact p) fun d ρ1 e1 v G1 H1 f1 l1 ev1 ok1 rd es1 => ?_
  obtain ⟨b, e3, rfl⟩ := rp_some e1
  rw [asB_some e3] at rd
  exact ⟨b, rd.at_inv.1, p G1 H1 l1 (ev1.less fun a h => List.mem_append_right _ h) ok1.split.2.1 es1⟩
theorem b_q {e : Expr} {q : QF} (h : QE X cl e q) (he : ∀ whole, isTrue e X.env whole = (do let v ← whole; standAt e.pos; holding [v] (truthy v)) := by intro _; rfl) : BE X cl XP e (qB q) := (pt_val h he).imp fun _ _ _ => tQB
theorem b_v {e : Expr} {q : VF} (h : VE X cl XP e q) (he : ∀ whole, isTrue e X.env whole = (do let v ← whole; standAt e.pos; holding [v] (truthy v)) := by intro _; rfl) : BE X cl XP e (vB q) := (pt_val h he).imp fun _ _ _ => tVB
theorem b_qcmp {op : CmpOp} {r : R2} {k : D → D → Option D} {qa qb : QF} (ho : OpR X (compareOp op) r) (m : Mk2 X.K cl r k) (ha : QE X cl a qa) (hb : QE X cl b qb) (hm : behindInMarks op b = false) : BE X cl XP (.Compare a [op] [b] pos) (qB (q2 k qa qb)) :=
  (pt_cmpR ho ha hb hm).imp fun σ H Q h => tQ2 (Q := fun x H' => ∃ k, x = .bl k ∧ Q k H') m (tQB h)
theorem b_vcmp {op : CmpOp} {r : R2} {k : D → D → Option D} {qa qb : VF} (ho : OpR X (compareOp op) r) (m : Mk2 X.K cl r k) (ha : VE X cl XP a qa) (hb : VE X cl XP b qb) (hm : behindInMarks op b = false) : BE X cl XP (.Compare a [op] [b] pos) (vB (v2 k qa qb)) :=
  (pt_cmpR ho ha hb hm).imp fun σ H Q h => tV2 (Q := fun x H' => ∃ k, x = .bl k ∧ Q k H') m (tVB h)
end
end DL

set_option maxRecDepth 100000
/-! DLS: names, arguments, statements, targets, loops, calls over trees. -/
namespace DL
open PySem L2 PySem.Spec PyProof.Rows

/-- the slots outside w keep their values -/
def Kp (w : List Nat) (σ τ : L2.St) : Prop := τ.length = σ.length ∧ ∀ j, j ∉ w → τ[j]? = σ[j]?
theorem Kp.refl (w : List Nat) (σ : L2.St) : Kp w σ σ := ⟨rfl, fun _ _ => rfl⟩
theorem Kp.trans {w : List Nat} {σ τ υ : L2.St} (a : Kp w σ τ) (b : Kp w τ υ) : Kp w σ υ := ⟨b.1.trans a.1, fun j h => (b.2 j h).trans (a.2 j h)⟩
theorem Kp.set {w : List Nat} {σ : L2.St} {i : Nat} (h : i ∈ w) (x : Option V) : Kp w σ (σ.set i x) := ⟨by simp, fun j hj => by rw [List.getElem?_set_ne (fun e => hj (by rw [← e]; exact h))]⟩

inductive Out where
  | nx (ρ : En) | rt (d : D) (ρ : En) | bk (ρ : En) | ct (ρ : En) | ex (e : Exn) (ρ : En)
abbrev SF := En → Option Out
abbrev GF := D → En → Option En

section
variable (K : PySem.W.Frag) (cl : Str → Option Addr) (XP : XPost) (w : List Nat)
def SPost (G H : Hp) (l : List Addr) (σ : L2.St) : Out → Ends → Prop
  | .nx ρ', D => ∀ σ' G' H' l', Kp w σ σ' → Ev G H l G' H' l' → Ok G' H' l' → Es K cl G' H' ρ' σ' l' → D.nx σ' H'
  | .rt d ρ', D => ∀ v σ' G' H' fv l', Kp w σ σ' → Ev G H l G' H' (fv ++ l') → Ok G' H' (fv ++ l') → R K cl G' H' d v fv → Es K cl G' H' ρ' σ' l' → D.rt v H'
  | .bk ρ', D => ∀ σ' G' H' l', Kp w σ σ' → Ev G H l G' H' l' → Ok G' H' l' → Es K cl G' H' ρ' σ' l' → D.bk σ' H'
  | .ct ρ', D => ∀ σ' G' H' l', Kp w σ σ' → Ev G H l G' H' l' → Ok G' H' l' → Es K cl G' H' ρ' σ' l' → D.ct σ' H'
  | .ex e ρ', _ => ∀ σ' G' H' l', Kp w σ σ' → Ev G H l G' H' l' → Ok G' H' l' → Es K cl G' H' ρ' σ' l' → XP e ρ' G' H' l' σ'
def tS (f : SF) : TS := fun D σ H => ∃ G ρ l r, Ok G H l ∧ Es K cl G H ρ σ l ∧ f ρ = some r ∧ SPost K cl XP w G H l σ r D
def tG (t : GF) : TG := fun v σ H Q => ∃ G d f ρ l ρ', Ok G H (f ++ l) ∧ R K cl G H d v f ∧ Es K cl G H ρ σ l ∧ t d ρ = some ρ' ∧
  ∀ σ' G' H' l', Kp w σ σ' → Ev G H (f ++ l) G' H' l' → Ok G' H' l' → Es K cl G' H' ρ' σ' l' → Q σ' H'
/-- J walks the items ds -/
def ItD (J : It) (G : Hp) (ds : List D) : Prop := ∀ G1 H1, Sub G G1 → Sub G1 H1 → (∀ i, i < ds.length → J.go i H1) ∧ (∀ i, ds.length ≤ i → J.stop i H1) ∧
  ∀ i x H2 d, ds[i]? = some d → J.yld i H1 x H2 → ∃ G2, Evq G1 H1 G2 H2 ∧ R K cl G2 H2 d x []
def IPost (G H : Hp) (l : List Addr) (σ : L2.St) : Rr (List D) → (It → Hp → Prop) → Prop
  | .v ds ρ', R => ∀ J G' H' l', Ev G H l G' H' l' → Ok G' H' l' → Es K cl G' H' ρ' σ l' → ItD K cl J G' ds → R J H'
  | .x e ρ', _ => ∀ G' H' l', Ev G H l G' H' l' → Ok G' H' l' → Es K cl G' H' ρ' σ l' → XP e ρ' G' H' l' σ
def tI (f : LF) : TI := fun σ H R => ∃ G ρ l r, Ok G H l ∧ Es K cl G H ρ σ l ∧ f ρ = some r ∧ IPost K cl XP G H l σ r R
end
section
variable (X : Cx) (cl : Str → Option Addr) (XP : XPost) (w : List Nat)
abbrev SE (s : Stmt) (f : SF) : Prop := PS X s (tS X.K cl XP w f)
abbrev BL (s : List Stmt) (f : SF) : Prop := PSs X s (tS X.K cl XP w f)
abbrev GE (e : Expr) (t : GF) : Prop := PG X e (tG X.K cl w t)
abbrev IE (tg e : Expr) (f : LF) : Prop := PI X tg e (tI X.K cl XP f)
end
theorem _root_.L2.PI.imp {X : Cx} {tg e : Expr} {t t' : TI} (h : PI X tg e t) (k : ∀ σ H Q, t' σ H Q → t σ H Q) : PI X tg e t' := ⟨fun pins s σ H Q I q => h.run pins s σ H Q I (k σ H Q q)⟩
theorem _root_.L2.PG.imp {X : Cx} {e : Expr} {t t' : TG} (h : PG X e t) (k : ∀ v σ H Q, t' v σ H Q → t v σ H Q) : PG X e t' := ⟨fun pins s σ H v u Q I r q => h.run pins s σ H v u Q I r (k v σ H Q q)⟩

section
variable {K : PySem.W.Frag} {cl : Str → Option Addr} {XP : XPost} {w : List Nat} {G H G1 H1 : Hp} {l l1 : List Addr} {σ τ : L2.St}
theorem SPost.step {r : Out} {D : Ends} (p : SPost K cl XP w G H l σ r D) (k : Kp w σ τ) (x : Ev G H l G1 H1 l1) : SPost K cl XP w G1 H1 l1 τ r D := by
  cases r with
  | nx ρ => exact fun σ' G' H' l' q e o es => p σ' G' H' l' (k.trans q) (x.trans e) o es
  | rt d ρ => exact fun v σ' G' H' fv l' q e o r es => p v σ' G' H' fv l' (k.trans q) (x.trans e) o r es
  | bk ρ => exact fun σ' G' H' l' q e o es => p σ' G' H' l' (k.trans q) (x.trans e) o es
  | ct ρ => exact fun σ' G' H' l' q e o es => p σ' G' H' l' (k.trans q) (x.trans e) o es
  | ex e ρ => exact fun σ' G' H' l' q e o es => p σ' G' H' l' (k.trans q) (x.trans e) o es
theorem SPost.ends {r : Out} {D D' : Ends} (p : SPost K cl XP w G H l σ r D) (h1 : ∀ σ H, D.nx σ H → D'.nx σ H) (h2 : ∀ v H, D.rt v H → D'.rt v H) (h3 : ∀ σ H, D.bk σ H → D'.bk σ H) (h4 : ∀ σ H, D.ct σ H → D'.ct σ H) : SPost K cl XP w G H l σ r D' := by
  cases r with
  | nx ρ => exact fun σ' G' H' l' q e o es => h1 _ _ (p σ' G' H' l' q e o es)
  | rt d ρ => exact fun v σ' G' H' fv l' q e o r es => h2 _ _ (p v σ' G' H' fv l' q e o r es)
  | bk ρ => exact fun σ' G' H' l' q e o es => h3 _ _ (p σ' G' H' l' q e o es)
  | ct ρ => exact fun σ' G' H' l' q e o es => h4 _ _ (p σ' G' H' l' q e o es)
  | ex e ρ => exact p

/-! ### slots -/
def look (ρ : En) (i : Nat) : Option D := (ρ[i]?).join
theorem look_some {ρ : En} {i : Nat} {d : D} (h : look ρ i = some d) : ρ[i]? = some (some d) := by
  unfold look at h
  exact Option.join_eq_some_iff.mp h
/-- slot i gets a tree; what was there goes -/
theorem Es.put {ρ : En} {i : Nat} (es : Es K cl G H ρ σ l) (hi : i < ρ.length) : ∃ l0, l0.Sublist l ∧ ∀ (G' H' : Hp) (d' : D) (v' : V) (f' : List Addr), Sub G G' → (∀ a ∈ l0, H' a = H a) → R K cl G' H' d' v' f' →
    ∃ l2, l2.Perm (f' ++ l0) ∧ Es K cl G' H' (ρ.set i (some d')) (σ.set i (some v')) l2 := by
  have pm : ∀ (pre f post : List Addr), (pre ++ (f ++ post)).Perm (f ++ (pre ++ post)) := fun pre f post => by
    rw [← List.append_assoc, ← List.append_assoc]
    exact List.Perm.append_right _ List.perm_append_comm
  cases e : ρ[i]? with
  | none => exact absurd (List.getElem?_eq_none_iff.mp e) (by omega)
  | some x =>
    cases x with
    | none =>
      obtain ⟨pre, post, rfl, k⟩ := es.fill e
      exact ⟨pre ++ post, List.Sublist.refl _, fun G' H' d' v' f' s h r => ⟨_, pm _ _ _, k G' H' d' v' f' s h r⟩⟩
    | some d =>
      obtain ⟨v, f, pre, post, e1, rfl, r, k, _⟩ := es.at e
      exact ⟨pre ++ post, (List.Sublist.refl pre).append (List.sublist_append_right f post), fun G' H' d' v' f' s h r => ⟨_, pm _ _ _, k G' H' d' v' f' s h r⟩⟩
/-- slot i's tree is taken out -/
theorem Es.take {ρ : En} {i : Nat} {d : D} (es : Es K cl G H ρ σ l) (e : look ρ i = some d) : ∃ v f l0, σ[i]? = some (some v) ∧ l.Perm (f ++ l0) ∧ R K cl G H d v f ∧ Es K cl G H (ρ.set i none) σ l0 := by
  obtain ⟨v, f, pre, post, e1, rfl, r, _, k⟩ := es.at (look_some e)
  refine ⟨v, f, pre ++ post, e1, ?_, r, ?_⟩
  · rw [← List.append_assoc, ← List.append_assoc]
    exact List.Perm.append_right _ List.perm_append_comm
  · have := k G H (some v) (Sub.refl _) (fun _ _ => rfl)
    have e2 : σ.set i (some v) = σ := by
      apply List.ext_getElem?
      intro j
      by_cases hj : i = j
      · subst hj
        rw [e1]
        obtain ⟨hl, _⟩ := List.getElem?_eq_some_iff.mp e1
        rw [List.getElem?_set_self hl]
      · rw [List.getElem?_set_ne hj]
    rw [e2] at this
    exact this
/-- .. and put back -/
theorem Es.back {ρ : En} {i : Nat} {d : D} {v : V} {f : List Addr} (es : Es K cl G H ρ σ l) (e : ρ[i]? = some none) (ev : σ[i]? = some (some v)) (r : R K cl G H d v f) : ∃ l2, l2.Perm (f ++ l) ∧ Es K cl G H (ρ.set i (some d)) σ l2 := by
  obtain ⟨pre, post, rfl, k⟩ := es.fill e
  have e2 : σ.set i (some v) = σ := by
    apply List.ext_getElem?
    intro j
    by_cases hj : i = j
    · subst hj
      rw [ev]
      obtain ⟨hl, _⟩ := List.getElem?_eq_some_iff.mp ev
      rw [List.getElem?_set_self hl]
    · rw [List.getElem?_set_ne hj]
  have q := k G H d v f (Sub.refl _) (fun _ _ => rfl) r
  rw [e2] at q
  refine ⟨_, ?_, q⟩
  rw [← List.append_assoc, ← List.append_assoc]
  exact List.Perm.append_right _ List.perm_append_comm
theorem Ev.perm {G' H' : Hp} {l' m : List Addr} (x : Ev G H l G' H' l') (h : l'.Perm m) : Ev G H l G' H' m := x.less fun a q => h.mem_iff.mpr q
theorem Ev.permL {G' H' : Hp} {l' m : List Addr} (x : Ev G H l G' H' l') (h : l.Perm m) : Ev G H m G' H' l' := x.more fun a q => h.mem_iff.mp q
end

/-! ### names, constants -/
def qVar (i : Nat) : QF := fun ρ => look ρ i
def qC (v : V) : QF := fun _ => some (.at v)
/-- a name whose tree is frozen and shared -/
def vShare (i : Nat) : VF := fun ρ => (look ρ i).bind fun d => if fok d = true then some (.v (frz d) (ρ.set i (some (frz d)))) else none
/-- a name whose tree moves out -/
def vMove (i : Nat) : VF := fun ρ => (look ρ i).bind fun d => some (.v d (ρ.set i none))
section
variable {X : Cx} {cl : Str → Option Addr} {XP : XPost} {w : List Nat}
theorem q_nm {e : Expr} {i : Nat} (h : PE X e (tVar i)) : QE X cl e (qVar i) := h.imp fun σ H Q hh => by
  obtain ⟨G, ρ, l, d, ok, es, e, p⟩ := hh
  obtain ⟨v, f, pre, post, e1, e2, r, _, _⟩ := es.at (look_some e)
  exact ⟨v, e1, p v G H f (Evq.refl ok.sub) r⟩
theorem q_c {e : Expr} {v : V} (h : PE X e (tC v)) : QE X cl e (qC v) := h.imp fun σ H Q hh => by
  obtain ⟨G, ρ, l, d, ok, es, e, p⟩ := hh
  cases e
  exact p v G H [] (Evq.refl ok.sub) (R.at v)
theorem v_share {e : Expr} {i : Nat} (h : PE X e (tVar i)) : VE X cl XP e (vShare i) := h.imp fun σ H Q hh => by
  obtain ⟨G, ρ, l, rr, ok, es, e, p⟩ := hh
  unfold vShare at e
  obtain ⟨d, e1, e⟩ := Option.bind_eq_some_iff.mp e
  split at e
  · rename_i hf
    cases e
    obtain ⟨v, f, pre, post, e2, rfl, r, k, _⟩ := es.at (look_some e1)
    refine ⟨v, e2, ?_⟩
    have r1 := R.frz (m := f) ok.sub hf (fun _ h => h) r
    have sub := frzH_sub ok.sub f
    have es1 := k (frzH G H f) H (frz d) v [] sub (fun _ _ => rfl) r1
    have nd := ok.nd
    have out : ∀ a, a ∉ f → frzH G H f a = G a := fun a h => by unfold frzH; rw [if_neg h]
    have dis : ∀ a ∈ pre ++ post, a ∉ f := fun a h1 h2 => by
      have pm : (pre ++ (f ++ post)).Perm (f ++ (pre ++ post)) := by
        rw [← List.append_assoc, ← List.append_assoc]
        exact List.Perm.append_right _ List.perm_append_comm
      exact (List.nodup_append.mp (pm.nodup_iff.mp nd)).2.2 a h2 a h1 rfl
    have mem : ∀ a ∈ pre ++ post, a ∈ pre ++ (f ++ post) := fun a h => by
      rcases List.mem_append.mp h with z | z
      · exact List.mem_append_left _ z
      · exact List.mem_append_right _ (List.mem_append_right _ z)
    have sl : (pre ++ post).Sublist (pre ++ (f ++ post)) := (List.Sublist.refl pre).append (List.sublist_append_right f post)
    have e3 : σ.set i (some v) = σ := by
      apply List.ext_getElem?
      intro j
      by_cases hj : i = j
      · subst hj
        rw [e2]
        obtain ⟨hl, _⟩ := List.getElem?_eq_some_iff.mp e2
        rw [List.getElem?_set_self hl]
      · rw [List.getElem?_set_ne hj]
    rw [e3] at es1
    refine p v (frzH G H f) H [] (pre ++ post) ⟨sub, fun _ _ h _ => h, fun a h => .inl (mem a h), fun a g h n => ?_, fun _ h => h⟩ ⟨nd.sublist sl, frzH_in ok.sub f, fun a h => ?_, fun a h => ok.on a (mem a h)⟩ r1 es1
    · rw [out a fun z => n (List.mem_append_right _ (List.mem_append_left _ z))]; exact g
    · rw [out a (dis a h)]; exact ok.out a (mem a h)
  · cases e
theorem v_move {e : Expr} {i : Nat} (h : PE X e (tVar i)) : VE X cl XP e (vMove i) := h.imp fun σ H Q hh => by
  obtain ⟨G, ρ, l, rr, ok, es, e, p⟩ := hh
  unfold vMove at e
  obtain ⟨d, e1, e⟩ := Option.bind_eq_some_iff.mp e
  cases e
  obtain ⟨v, f, l0, e2, pm, r, es1⟩ := es.take e1
  exact ⟨v, e2, p v G H f l0 ((Ev.refl G H l).perm pm) (ok.perm pm) r es1⟩

/-! ### argument lists -/
def aNil : LF := fun ρ => some (.v [] ρ)
def aCons (f : VF) (g : LF) : LF := rb f fun d => rb g fun ds => fun ρ => some (.v (d :: ds) ρ)
theorem a_nil : LE' X cl XP [] aNil := pa_nil.imp fun σ H Q hh => by
  obtain ⟨G, ρ, l, rr, ok, es, e, p⟩ := hh
  cases e
  exact p [] G H [] l (Ev.refl G H l) ok Rs.nil es
theorem a_cons {e : Expr} {es : List Expr} {f : VF} {g : LF} (ha : VE X cl XP e f) (hr : LE' X cl XP es g) (hs : starEach (e :: es) X.env = (false, eval e X.env) :: starEach es X.env := by rfl) : LE' X cl XP (e :: es) (aCons f g) := (pa_cons ha hr hs).imp fun σ H Q hh => by
  obtain ⟨G, ρ, l, rr, ok, es, e, p⟩ := hh
  refine tV.bind ok es e (fun ee ρ' z => by subst z; exact p) fun da ρ1 e1 v G1 H1 f1 l1 ev1 ok1 ra es1 => ?_
  have ol := ok1.split.2.1
  have p1 := p.step (ev1.less (l2 := l1) fun a h => List.mem_append_right _ h)
  unfold rb at e1
  cases h : g ρ1 with
  | none => rw [h] at e1; cases e1
  | some y =>
    rw [h] at e1
    cases y with
    | x ee ρ' =>
      cases e1
      exact ⟨G1, ρ1, l1, .x ee ρ', ol, es1, h, p1⟩
    | v ds ρ' =>
      cases e1
      refine ⟨G1, ρ1, l1, .v ds ρ', ol, es1, h, fun vs G2 H2 fv l2 ev2 ok2 rs es2 => ?_⟩
      obtain ⟨okF, kp⟩ := ok1.frame ev2 ok2
      have ev := (ev2.frame ok1)
      refine p (v :: vs) G2 H2 (f1 ++ fv) l2 (ev1.trans (by rw [List.append_assoc]; exact ev)) (by rw [List.append_assoc]; exact okF) (Rs.cons (ra.mono ev2.sub kp) rs) es2
/-- new tuples and lists -/
def vTup (g : LF) : VF := rb g fun ds => fun ρ => if ds.length ≤ sizeLine then some (.v (.tup ds) ρ) else none
def vLst (g : LF) : VF := rb g fun ds => fun ρ => if ds.length ≤ sizeLine then some (.v (.own ds) ρ) else none
theorem tA.bind {α : Type} {K : PySem.W.Frag} {G H : Hp} {l : List Addr} {σ : L2.St} {f : LF} {g : List D → En → Option (Rr α)} {ρ : En} {r : Rr α} {Q : List V → Hp → Prop} (ok : Ok G H l) (es : Es K cl G H ρ σ l) (e : rb f g ρ = some r)
    (px : ∀ ee ρ', r = .x ee ρ' → ∀ G' H' l', Ev G H l G' H' l' → Ok G' H' l' → Es K cl G' H' ρ' σ l' → XP ee ρ' G' H' l' σ)
    (k : ∀ d ρ', g d ρ' = some r → ∀ v G' H' fv l', Ev G H l G' H' (fv ++ l') → Ok G' H' (fv ++ l') → Rs K cl G' H' d v fv → Es K cl G' H' ρ' σ l' → Q v H') : tA K cl XP f σ H Q := by
  unfold rb at e
  cases h : f ρ with
  | none => rw [h] at e; cases e
  | some y =>
    rw [h] at e
    cases y with
    | x ee ρ' =>
      cases e
      exact ⟨G, ρ, l, .x ee ρ', ok, es, h, px ee ρ' rfl⟩
    | v d ρ' => exact ⟨G, ρ, l, .v d ρ', ok, es, h, fun v G' H' fv l' ev o rr ee => k d ρ' e v G' H' fv l' ev o rr ee⟩
/-- a new object at p, tracked, not frozen -/
theorem newOwn {G H : Hp} {l f : List Addr} (ok : Ok G H (f ++ l)) {p : Addr} (hp : H p = none) (o : HO) : Ev G H (f ++ l) G (upd H p o) ((p :: f) ++ l) ∧ Ok G (upd H p o) ((p :: f) ++ l) ∧ ∀ a, H a ≠ none → upd H p o a = H a := by
  have ne : ∀ a, H a ≠ none → a ≠ p := fun a h z => h (z ▸ hp)
  have k : ∀ a, H a ≠ none → upd H p o a = H a := fun a h => upd_ne (ne a h)
  have gp : G p = none := by
    cases e : G p with
    | none => rfl
    | some x => have := ok.sub p x e; rw [hp] at this; cases this
  refine ⟨⟨Sub.refl _, fun a x e _ => (k a (ne_none_of e)).trans e, fun a h => ?_, fun a g _ _ => g, fun a h => by rw [k a h]; exact h⟩, ⟨?_, fun a x e => (k a (ne_none_of (ok.sub a x e))).trans (ok.sub a x e), fun a h => ?_, fun a h => ?_⟩, k⟩
  · rcases List.mem_cons.mp h with z | z
    · exact .inr (z ▸ hp)
    · exact .inl z
  · show (p :: (f ++ l)).Nodup
    exact List.nodup_cons.mpr ⟨fun h => ok.on p h hp, ok.nd⟩
  · rcases List.mem_cons.mp h with z | z
    · exact z ▸ gp
    · exact ok.out a z
  · rcases List.mem_cons.mp h with z | z
    · rw [z, upd_same]; exact fun q => nomatch q
    · rw [k a (ok.on a z)]; exact ok.on a z
/-- a new object at p, frozen -/
theorem newFrz {G H : Hp} {l : List Addr} (ok : Ok G H l) {p : Addr} (hp : H p = none) (o : HO) : Ev G H l (upd G p o) (upd H p o) l ∧ Ok (upd G p o) (upd H p o) l ∧ (∀ a, H a ≠ none → upd H p o a = H a) ∧ Sub G (upd G p o) := by
  have ne : ∀ a, H a ≠ none → a ≠ p := fun a h z => h (z ▸ hp)
  have k : ∀ a, H a ≠ none → upd H p o a = H a := fun a h => upd_ne (ne a h)
  have sub : Sub G (upd G p o) := fun a x e => by rw [upd_ne (ne a (ne_none_of (ok.sub a x e)))]; exact e
  refine ⟨⟨sub, fun a x e _ => (k a (ne_none_of e)).trans e, fun a h => .inl h, fun a g h _ => by rw [upd_ne (ne a h)]; exact g, fun a h => by rw [k a h]; exact h⟩, ⟨ok.nd, fun a x e => ?_, fun a h => by rw [upd_ne (ne a (ok.on a h))]; exact ok.out a h, fun a h => by rw [k a (ok.on a h)]; exact ok.on a h⟩, k, sub⟩
  by_cases h : a = p
  · subst h
    rw [upd_same] at e ⊢
    exact e
  · rw [upd_ne h] at e ⊢
    exact ok.sub a x e
theorem R.ndT {K : PySem.W.Frag} {G H : Hp} {a : Addr} {vs : List V} {ds : List D} {f : List Addr} (h : SqT K G a vs) (r : Rs K cl G H ds vs f) : R K cl G H (.tup ds) (.ref a) f := by
  unfold R
  exact ⟨a, vs, f, rfl, h, r, by rw [if_neg (by decide)]; exact ⟨rfl, .inl rfl⟩⟩
theorem R.ndO {K : PySem.W.Frag} {G H : Hp} {a : Addr} {vs : List V} {ds : List D} {f : List Addr} (h : H a = some (.lst vs)) (r : Rs K cl G H ds vs f) : R K cl G H (.own ds) (.ref a) (a :: f) := by
  unfold R
  exact ⟨a, vs, f, rfl, h, r, by rw [if_pos (show (Kd.lst true).ow = true from rfl)]⟩
theorem R.ndL {K : PySem.W.Frag} {G H : Hp} {a : Addr} {vs : List V} {ds : List D} (h : SqL K G a vs) (r : Rs K cl G H ds vs []) : R K cl G H (.lst ds) (.ref a) [] := by
  unfold R
  exact ⟨a, vs, [], rfl, h, r, by rw [if_neg (by decide)]; exact ⟨rfl, .inr rfl⟩⟩
theorem v_tup {es : List Expr} {x1} {pos : Pos} {g : LF} (h : LE' X cl XP es g) : VE X cl XP (.Tuple es x1 pos) (vTup g) := (pe_tup h).imp fun σ H Q hh => by
  obtain ⟨G, ρ, l, rr, ok, es, e, p⟩ := hh
  refine tA.bind ok es e (fun ee ρ' z => by subst z; exact p) fun ds ρ1 e1 vs G1 H1 f1 l1 ev1 ok1 rs es1 => ?_
  split at e1
  · rename_i hl
    cases e1
    refine ⟨by rw [rs.length]; exact hl, fun q hq => ?_⟩
    obtain ⟨ev2, ok2, k, sub⟩ := newFrz ok1 hq (.tup vs)
    refine p (.ref q) _ _ f1 l1 (ev1.trans ev2) ok2 (R.ndT (.inl (.inl upd_same)) (rs.mono sub fun a h => k a (rs.on a h))) (es1.mono sub fun a h => k a (ok1.on a (List.mem_append_right _ h)))
  · cases e1
theorem v_lst {es : List Expr} {pos : Pos} {g : LF} (h : LE' X cl XP es g) : VE X cl XP (.List es pos) (vLst g) := (pe_lst h).imp fun σ H Q hh => by
  obtain ⟨G, ρ, l, rr, ok, es, e, p⟩ := hh
  refine tA.bind ok es e (fun ee ρ' z => by subst z; exact p) fun ds ρ1 e1 vs G1 H1 f1 l1 ev1 ok1 rs es1 => ?_
  split at e1
  · rename_i hl
    cases e1
    refine ⟨by rw [rs.length]; exact hl, fun q hq => ?_⟩
    obtain ⟨ev2, ok2, k⟩ := newOwn ok1 hq (.lst vs)
    exact p (.ref q) _ _ (q :: f1) l1 (ev1.trans ev2) ok2 (R.ndO upd_same (rs.mono (Sub.refl _) fun a h => k a (rs.on a h))) (es1.mono (Sub.refl _) fun a h => k a (ok1.on a (List.mem_append_right _ h)))
  · cases e1

/-! ### targets -/
def gSet (i : Nat) : GF := fun d ρ => if i < ρ.length then some (ρ.set i (some d)) else none
theorem g_nm {e : Expr} {i : Nat} (h : PG X e (gName i)) (hw : i ∈ w := by decide) : GE X cl w e (gSet i) := h.imp fun v σ H Q hh => by
  obtain ⟨G, d, f, ρ, l, ρ', ok, r, es, e, p⟩ := hh
  unfold gSet at e
  split at e
  · rename_i hi
    cases e
    obtain ⟨l0, sl, k⟩ := es.put hi
    obtain ⟨l2, pm, es2⟩ := k G H d v f (Sub.refl _) (fun _ _ => rfl) r
    have o2 : Ok G H (f ++ l0) := ok.sublist ((List.Sublist.refl f).append sl)
    exact p _ G H l2 (Kp.set hw _) ((Ev.refl G H (f ++ l)).less fun a h => by
      rcases List.mem_append.mp (pm.mem_iff.mp h) with z | z
      · exact List.mem_append_left _ z
      · exact List.mem_append_right _ (sl.subset z)) (o2.perm pm.symm) es2
  · cases e
/-- several targets -/
abbrev GFs := List D → En → Option En
def gNil' : GFs := fun ds ρ => match ds with
  | [] => some ρ
  | _ => none
def gCons' (t : GF) (u : GFs) : GFs := fun ds ρ => match ds with
  | [] => none
  | d :: ds => (t d ρ).bind fun ρ' => u ds ρ'
def tGs (K : PySem.W.Frag) (cl : Str → Option Addr) (w : List Nat) (t : GFs) : TGs := fun vs σ H Q => ∃ G ds f ρ l ρ', Ok G H (f ++ l) ∧ Rs K cl G H ds vs f ∧ Es K cl G H ρ σ l ∧ t ds ρ = some ρ' ∧
  ∀ σ' G' H' l', Kp w σ σ' → Ev G H (f ++ l) G' H' l' → Ok G' H' l' → Es K cl G' H' ρ' σ' l' → Q σ' H'
theorem gs_nil : PGs X [] (tGs X.K cl w gNil') := ⟨fun pins s σ H vs us Q I r hh => pgs_nil.run pins s σ H vs us Q I r (by
  obtain ⟨G, ds, f, ρ, l, ρ', ok, rs, es, e, p⟩ := hh
  cases ds with
  | nil =>
    cases e
    unfold Rs at rs
    exact ⟨rs.1, p σ G H l (Kp.refl _ _) ((Ev.refl G H _).less fun a h => List.mem_append_right _ h) ok.split.2.1 es⟩
  | cons d ds => cases e)⟩
theorem gs_cons {e : Expr} {es : List Expr} {t : GF} {u : GFs} (h1 : GE X cl w e t) (h2 : PGs X es (tGs X.K cl w u))
    (hs : (assignEach (e :: es) X.env).map (·.2) = assign e X.env :: (assignEach es X.env).map (·.2) := by rfl) : PGs X (e :: es) (tGs X.K cl w (gCons' t u)) := ⟨fun pins s σ H vs us Q I r hh => (pgs_cons h1 h2 hs).run pins s σ H vs us Q I r (by
  obtain ⟨G, ds, f, ρ, l, ρ', ok, rs, es, e, p⟩ := hh
  cases ds with
  | nil => cases e
  | cons d ds =>
    obtain ⟨ρ1, e1, e2⟩ := Option.bind_eq_some_iff.mp e
    obtain ⟨v, vs', f1, f2, rfl, rfl, r1, r2⟩ := rs.inv
    refine ⟨v, vs', rfl, ?_⟩
    have pm : (f1 ++ f2 ++ l).Perm (f2 ++ (f1 ++ l)) := by
      rw [← List.append_assoc]
      exact List.Perm.append_right _ List.perm_append_comm
    have ok1 : Ok G H (f2 ++ (f1 ++ l)) := ok.perm pm
    refine ⟨G, d, f1, ρ, l, ρ1, ok1.split.2.1, r1, es, e1, fun σ1 G1 H1 l1 k1 ev1 o1 es1 => ?_⟩
    obtain ⟨okF, kp⟩ := ok1.frame ev1 o1
    exact ⟨G1, ds, f2, ρ1, l1, ρ', okF, r2.mono ev1.sub kp, es1, e2, fun σ2 G2 H2 l2 k2 ev2 o2 es2 => p σ2 G2 H2 l2 (k1.trans k2) (((ev1.frame ok1).permL pm.symm).trans ev2) o2 es2⟩)⟩
def gTup' (t : GFs) : GF := fun d ρ => match d with
  | .nd .tup ds => t ds ρ
  | _ => none
theorem R.tup_inv {K : PySem.W.Frag} {G H : Hp} {v : V} {ds : List D} {f : List Addr} (r : R K cl G H (.nd .tup ds) v f) : ∃ a vs, v = .ref a ∧ SqT K G a vs ∧ Rs K cl G H ds vs f := by
  unfold R at r
  obtain ⟨a, vs, fs, e, c, rs, q⟩ := r
  rw [if_neg (by decide)] at q
  rw [q.1]
  exact ⟨a, vs, e, c, rs⟩
theorem g_tup {es : List Expr} {k : Nat} {t : GFs} {n : Nat} {pos : Pos} (hc : X.calm = true) (h : PGs X es (tGs X.K cl w t)) (hlen : ∀ ds ρ ρ', t ds ρ = some ρ' → ds.length = n)
    (hn : (assignEach es X.env).length = n := by rfl) (hst : (assignEach es X.env).findIdx? (·.1) = none := by rfl) : GE X cl w (.Tuple es k pos) (gTup' t) := (pg_tup hc h hn hst).imp fun v σ H Q hh => by
  obtain ⟨G, d, f, ρ, l, ρ', ok, r, es, e, p⟩ := hh
  match d, e, r with
  | .nd .tup ds, e, r =>
    obtain ⟨a, vs, rfl, hq, rs⟩ := r.tup_inv
    exact ⟨a, vs, rfl, ok.sub.st hq, rs.length.trans (hlen ds ρ ρ' e), G, ds, f, ρ, l, ρ', ok, rs, es, e, p⟩
theorem len_nil {ds : List D} {ρ ρ' : En} (h : gNil' ds ρ = some ρ') : ds.length = 0 := by
  cases ds with
  | nil => rfl
  | cons _ _ => cases h
theorem len_cons {t : GF} {u : GFs} {n : Nat} (hu : ∀ ds ρ ρ', u ds ρ = some ρ' → ds.length = n) : ∀ ds ρ ρ', gCons' t u ds ρ = some ρ' → ds.length = n + 1 := fun ds ρ ρ' h => by
  cases ds with
  | nil => cases h
  | cons d ds =>
    obtain ⟨ρ1, _, e⟩ := Option.bind_eq_some_iff.mp h
    rw [List.length_cons, hu ds ρ1 ρ' e]

/-! ### statements -/
def ov (f : VF) (g : D → En → Option Out) : SF := fun ρ => match f ρ with
  | none => none
  | some (.x e ρ') => some (.ex e ρ')
  | some (.v d ρ') => g d ρ'
def sAsg (f : VF) (t : GF) : SF := ov f fun d ρ => (t d ρ).map .nx
def sRet (f : VF) : SF := ov f fun d ρ => some (.rt d ρ)
def sRetN : SF := fun ρ => some (.rt .non ρ)
def sDrop (f : VF) : SF := ov f fun _ ρ => some (.nx ρ)
def sPass : SF := fun ρ => some (.nx ρ)
def sBk : SF := fun ρ => some (.bk ρ)
def sCt : SF := fun ρ => some (.ct ρ)
def sSeq (f g : SF) : SF := fun ρ => match f ρ with
  | some (.nx ρ') => g ρ'
  | r => r
def sIf (c : BF) (f g : SF) : SF := fun ρ => match c ρ with
  | none => none
  | some (.x e ρ') => some (.ex e ρ')
  | some (.v b ρ') => if b = true then f ρ' else g ρ'
theorem tV.ov {f : VF} {g : D → En → Option Out} {D : Ends} {Q : VK} {K : PySem.W.Frag} {G H : Hp} {l : List Addr} {σ : L2.St} {ρ : En} {r : Out} (ok : Ok G H l) (es : Es K cl G H ρ σ l) (e : DL.ov f g ρ = some r) (p : SPost K cl XP w G H l σ r D)
    (k : ∀ d ρ', g d ρ' = some r → ∀ v G' H' fv l', Ev G H l G' H' (fv ++ l') → Ok G' H' (fv ++ l') → R K cl G' H' d v fv → Es K cl G' H' ρ' σ l' → Q v H') : tV K cl XP f σ H Q := by
  unfold DL.ov at e
  cases h : f ρ with
  | none => rw [h] at e; cases e
  | some y =>
    rw [h] at e
    cases y with
    | x ee ρ' =>
      cases e
      exact ⟨G, ρ, l, .x ee ρ', ok, es, h, fun G' H' l' ev o es' => p σ G' H' l' (Kp.refl _ _) ev o es'⟩
    | v d ρ' => exact ⟨G, ρ, l, .v d ρ', ok, es, h, fun v G' H' fv l' ev o rr ee => k d ρ' e v G' H' fv l' ev o rr ee⟩
theorem s_asg' {st : Stmt} {te : TE} {g : TG} {f : VF} {t : GF} (h : PS X st (tAsg te g)) (he : ∀ σ H Q, tV X.K cl XP f σ H Q → te σ H Q) (hg : ∀ v σ H Q, tG X.K cl w t v σ H Q → g v σ H Q) : SE X cl XP w st (sAsg f t) := h.imp fun D σ H hh => he σ H _ (by
  obtain ⟨G, ρ, l, rr, ok, es, e, p⟩ := hh
  refine tV.ov ok es e p fun d ρ1 e1 v G1 H1 f1 l1 ev1 ok1 rd es1 => hg v σ H1 _ ?_
  obtain ⟨ρ2, e2, rfl⟩ := Option.map_eq_some_iff.mp e1
  exact ⟨G1, d, f1, ρ1, l1, ρ2, ok1, rd, es1, e2, fun σ2 G2 H2 l2 k ev2 ok2 es2 => p σ2 G2 H2 l2 k (ev1.trans ev2) ok2 es2⟩)
/-- x = e -/
theorem s_set {pos pos' : Pos} {i : Nat} {x : Str} {e : Expr} {f : VF} (he : VE X cl XP e f) (hN : X.N.Nodup) (hi : X.N[i]? = some x) (hx : L2.Loc X.env.scope x) (hw : i ∈ w := by decide) (hs : swapsWith e (some (.Name x pos')) pos.line X.env = pure false := by rfl)
    (hf : X.fn x = true ∨ X.env.scope.names.lookup x = some .local := by first | exact .inl rfl | exact .inr rfl | assumption) : SE X cl XP w (.Assign [.Name x pos'] e pos) (sAsg f (gSet i)) :=
  s_asg' (ps_set hN hi hx he hs hf) (fun _ _ _ h => h) fun v σ H Q h => by
    obtain ⟨G, d, f, ρ, l, ρ', ok, r, es, e, p⟩ := h
    unfold gSet at e
    split at e
    · rename_i hil
      cases e
      obtain ⟨l0, sl, k⟩ := es.put hil
      obtain ⟨l2, pm, es2⟩ := k G H d v f (Sub.refl _) (fun _ _ => rfl) r
      have o2 : Ok G H (f ++ l0) := ok.sublist ((List.Sublist.refl f).append sl)
      exact p _ G H l2 (Kp.set hw _) ((Ev.refl G H (f ++ l)).less fun a h => by
        rcases List.mem_append.mp (pm.mem_iff.mp h) with z | z
        · exact List.mem_append_left _ z
        · exact List.mem_append_right _ (sl.subset z)) (o2.perm pm.symm) es2
    · cases e
/-- target = e -/
theorem s_asg {tg e : Expr} {f : VF} {t : GF} {pos : Pos} (he : VE X cl XP e f) (hg : GE X cl w tg t) (hs : swapsWithSole [tg] e pos.line X.env = pure false := by rfl) (hw : swappedStores [tg] e X.env = pure none := by rfl)
    (h1 : (assignEach [tg] X.env).map (·.2) = [assign tg X.env] := by rfl) : SE X cl XP w (.Assign [tg] e pos) (sAsg f t) := s_asg' (ps_asg he hg hs hw h1) (fun _ _ _ h => h) fun _ _ _ _ h => h
theorem s_expr {e : Expr} {f : VF} {pos : Pos} (he : VE X cl XP e f) (hs : swapsWith e none pos.line X.env = pure false := by rfl) : SE X cl XP w (.Expr e pos) (sDrop f) := (ps_expr he hs).imp fun D σ H hh => by
  obtain ⟨G, ρ, l, rr, ok, es, e, p⟩ := hh
  refine tV.ov ok es e p fun d ρ1 e1 v G1 H1 f1 l1 ev1 ok1 rd es1 => ?_
  cases e1
  exact p σ G1 H1 l1 (Kp.refl _ _) (ev1.less fun a h => List.mem_append_right _ h) ok1.split.2.1 es1
theorem s_ret {e : Expr} {f : VF} {pos : Pos} (he : VE X cl XP e f) : SE X cl XP w (.Return (some e) pos) (sRet f) := (ps_ret he).imp fun D σ H hh => by
  obtain ⟨G, ρ, l, rr, ok, es, e, p⟩ := hh
  refine tV.ov ok es e p fun d ρ1 e1 v G1 H1 f1 l1 ev1 ok1 rd es1 => ?_
  cases e1
  exact p v σ G1 H1 f1 l1 (Kp.refl _ _) ev1 ok1 rd es1
theorem s_pass {pos : Pos} : SE X cl XP w (.Pass pos) sPass := ps_pass.imp fun D σ H hh => by
  obtain ⟨G, ρ, l, rr, ok, es, e, p⟩ := hh
  cases e
  exact p σ G H l (Kp.refl _ _) (Ev.refl _ _ _) ok es
theorem s_bk {pos : Pos} : SE X cl XP w (.Break pos) sBk := ps_break.imp fun D σ H hh => by
  obtain ⟨G, ρ, l, rr, ok, es, e, p⟩ := hh
  cases e
  exact p σ G H l (Kp.refl _ _) (Ev.refl _ _ _) ok es
theorem s_ct {pos : Pos} : SE X cl XP w (.Continue pos) sCt := ps_continue.imp fun D σ H hh => by
  obtain ⟨G, ρ, l, rr, ok, es, e, p⟩ := hh
  cases e
  exact p σ G H l (Kp.refl _ _) (Ev.refl _ _ _) ok es
theorem s_if {c : Expr} {b o : List Stmt} {fc : BF} {f g : SF} {pos : Pos} (hc : BE X cl XP c fc) (hb : BL X cl XP w b f) (ho : BL X cl XP w o g) : SE X cl XP w (.If c b o pos) (sIf fc f g) := (ps_if hc hb ho).imp fun D σ H hh => by
  obtain ⟨G, ρ, l, rr, ok, es, e, p⟩ := hh
  unfold sIf at e
  cases h : fc ρ with
  | none => rw [h] at e; cases e
  | some y =>
    rw [h] at e
    cases y with
    | x ee ρ' =>
      cases e
      exact ⟨G, ρ, l, .x ee ρ', ok, es, h, fun G' H' l' ev o es' => p σ G' H' l' (Kp.refl _ _) ev o es'⟩
    | v b ρ' =>
      refine ⟨G, ρ, l, .v b ρ', ok, es, h, fun G1 H1 l1 ev1 ok1 es1 => ?_⟩
      cases b with
      | true => exact iteT ⟨G1, ρ', l1, rr, ok1, es1, e, p.step (Kp.refl _ _) ev1⟩
      | false => exact iteF ⟨G1, ρ', l1, rr, ok1, es1, e, p.step (Kp.refl _ _) ev1⟩
theorem l_nil : BL X cl XP w [] sPass := pss_nil.imp fun D σ H hh => by
  obtain ⟨G, ρ, l, rr, ok, es, e, p⟩ := hh
  cases e
  exact p σ G H l (Kp.refl _ _) (Ev.refl _ _ _) ok es
theorem l_one {s : Stmt} {f : SF} (h : SE X cl XP w s f) : BL X cl XP w [s] f := pss_one h
theorem l_cons {s : Stmt} {ss : List Stmt} {f g : SF} (h : SE X cl XP w s f) (hs : BL X cl XP w ss g) : BL X cl XP w (s :: ss) (sSeq f g) := (pss_cons h hs).imp fun D σ H hh => by
  obtain ⟨G, ρ, l, rr, ok, es, e, p⟩ := hh
  unfold sSeq at e
  cases h : f ρ with
  | none => rw [h] at e; cases e
  | some y =>
    rw [h] at e
    cases y with
    | nx ρ' => exact ⟨G, ρ, l, .nx ρ', ok, es, h, fun σ1 G1 H1 l1 k ev1 ok1 es1 => ⟨G1, ρ', l1, rr, ok1, es1, e, p.step k ev1⟩⟩
    | rt d ρ' => cases e; exact ⟨G, ρ, l, _, ok, es, h, p⟩
    | bk ρ' => cases e; exact ⟨G, ρ, l, _, ok, es, h, p⟩
    | ct ρ' => cases e; exact ⟨G, ρ, l, _, ok, es, h, p⟩
    | ex ee ρ' => cases e; exact ⟨G, ρ, l, _, ok, es, h, p⟩
end
end DL

set_option maxRecDepth 100000
/-! DLF: loops, defs, calls over trees. -/
namespace DL
open PySem L2 PySem.Spec PyProof.Rows

/-! ### for -/
def forD (t : GF) (body : SF) : List D → SF
  | [], ρ => some (.nx ρ)
  | d :: ds, ρ => match t d ρ with
    | none => none
    | some ρ1 => match body ρ1 with
      | none => none
      | some (.nx ρ2) => forD t body ds ρ2
      | some (.ct ρ2) => forD t body ds ρ2
      | some (.bk ρ2) => some (.nx ρ2)
      | some (.rt d ρ2) => some (.rt d ρ2)
      | some (.ex e ρ2) => some (.ex e ρ2)
def sFor (it : LF) (t : GF) (body : SF) : SF := fun ρ => match it ρ with
  | none => none
  | some (.x e ρ') => some (.ex e ρ')
  | some (.v ds ρ') => forD t body ds ρ'
section
variable {X : Cx} {cl : Str → Option Addr} {XP : XPost} {w : List Nat}
theorem s_for {tg iter : Expr} {body : List Stmt} {it : LF} {t : GF} {fb : SF} {pos : Pos} (hp : PassesOwn (model X.prog X.w) X.A X.env X.xe) (hc : X.calm = true) (hi : IE X cl XP tg iter it) (hg : GE X cl w tg t) (hb : BL X cl XP w body fb)
    (hf : ∀ (x : Value), foldedSetIterable iter X.env x = pure x := by intro _; rfl) : SE X cl XP w (.For tg iter body [] pos) (sFor it t fb) := (ps_for hp hc hi hg hb hf).imp fun D σ H hh => by
  obtain ⟨G, ρ, l, rr, ok, es, e, p⟩ := hh
  unfold sFor at e
  cases h : it ρ with
  | none => rw [h] at e; cases e
  | some y =>
    rw [h] at e
    cases y with
    | x ee ρ' =>
      cases e
      exact ⟨G, ρ, l, .x ee ρ', ok, es, h, fun G' H' l' ev o es' => p σ G' H' l' (Kp.refl _ _) ev o es'⟩
    | v ds ρ' =>
      refine ⟨G, ρ, l, .v ds ρ', ok, es, h, fun J G1 H1 l1 ev1 ok1 es1 itd => ?_⟩
      refine ⟨fun i m τ Hc => m = ds.length - i ∧ ∃ Gc ρc lc, Kp w σ τ ∧ Ev G1 H1 l1 Gc Hc lc ∧ Ok Gc Hc lc ∧ Es X.K cl Gc Hc ρc τ lc ∧ forD t fb (ds.drop i) ρc = some rr,
        ⟨_, rfl, G1, ρ', l1, Kp.refl _ _, Ev.refl _ _ _, ok1, es1, e⟩, fun i m τ Hc hw => ?_⟩
      obtain ⟨hm, Gc, ρc, lc, kp, ev, okc, esc, ec⟩ := hw
      obtain ⟨go, stop, yld⟩ := itd Gc Hc ev.sub okc.sub
      by_cases hi' : i < ds.length
      · refine .inr ⟨go i hi', fun σ' H' => ds.length - (i + 1) = ds.length - (i + 1) ∧ ∃ Gc ρc lc, Kp w σ σ' ∧ Ev G1 H1 l1 Gc H' lc ∧ Ok Gc H' lc ∧ Es X.K cl Gc H' ρc σ' lc ∧ forD t fb (ds.drop (i + 1)) ρc = some rr,
          fun σ' H' hq => ⟨ds.length - (i + 1), by omega, hq⟩, fun x H2 hy => ?_⟩
        have hd : ds[i]? = some ds[i] := List.getElem?_eq_getElem hi'
        obtain ⟨G2, q, rd⟩ := yld i x H2 _ hd hy
        rw [List.drop_eq_getElem_cons hi'] at ec
        unfold forD at ec
        cases ht : t ds[i] ρc with
        | none => rw [ht] at ec; cases ec
        | some ρ1 =>
          rw [ht] at ec
          refine ⟨G2, ds[i], [], ρc, lc, ρ1, q.ok okc, rd, esc.evq q okc, ht, fun σ3 G3 H3 l3 k3 ev3 ok3 es3 => ?_⟩
          have evT : Ev G1 H1 l1 G3 H3 l3 := (ev.trans q.ev).trans ev3
          cases hbd : fb ρ1 with
          | none => simp only [hbd] at ec; cases ec
          | some out =>
            refine ⟨G3, ρ1, l3, out, ok3, es3, hbd, ?_⟩
            cases out with
            | nx ρ2 =>
              simp only [hbd] at ec
              exact fun σ4 G4 H4 l4 k4 ev4 ok4 es4 => ⟨rfl, G4, ρ2, l4, (kp.trans k3).trans k4, evT.trans ev4, ok4, es4, ec⟩
            | ct ρ2 =>
              simp only [hbd] at ec
              exact fun σ4 G4 H4 l4 k4 ev4 ok4 es4 => ⟨rfl, G4, ρ2, l4, (kp.trans k3).trans k4, evT.trans ev4, ok4, es4, ec⟩
            | bk ρ2 =>
              simp only [hbd] at ec
              cases ec
              exact fun σ4 G4 H4 l4 k4 ev4 ok4 es4 => p σ4 G4 H4 l4 ((kp.trans k3).trans k4) (ev1.trans (evT.trans ev4)) ok4 es4
            | rt d ρ2 =>
              simp only [hbd] at ec
              cases ec
              exact fun v σ4 G4 H4 fv l4 k4 ev4 ok4 rd4 es4 => p v σ4 G4 H4 fv l4 ((kp.trans k3).trans k4) (ev1.trans (evT.trans ev4)) ok4 rd4 es4
            | ex ee ρ2 =>
              simp only [hbd] at ec
              cases ec
              exact fun σ4 G4 H4 l4 k4 ev4 ok4 es4 => p σ4 G4 H4 l4 ((kp.trans k3).trans k4) (ev1.trans (evT.trans ev4)) ok4 es4
      · refine .inl ⟨stop i (by omega), ?_⟩
        rw [List.drop_eq_nil_of_le (by omega)] at ec
        unfold forD at ec
        cases ec
        exact p τ Gc Hc lc kp (ev1.trans ev) okc esc
end

/-! ### while -/
def whileD (c : BF) (body : SF) : Nat → SF
  | 0, _ => none
  | n + 1, ρ => match c ρ with
    | none => none
    | some (.x e ρ') => some (.ex e ρ')
    | some (.v b ρ') => if b = true then (match body ρ' with
      | none => none
      | some (.nx ρ2) => whileD c body n ρ2
      | some (.ct ρ2) => whileD c body n ρ2
      | some (.bk ρ2) => some (.nx ρ2)
      | some (.rt d ρ2) => some (.rt d ρ2)
      | some (.ex e ρ2) => some (.ex e ρ2)) else some (.nx ρ')
open Classical in
/-- a while loop: what it comes to with enough turns -/
noncomputable def sWhile (c : BF) (body : SF) : SF := fun ρ => if h : ∃ n r, whileD c body n ρ = some r then some h.choose_spec.choose else none
section
theorem whileD_succ {c : BF} {body : SF} : ∀ {n : Nat} {ρ : En} {r : Out}, whileD c body n ρ = some r → whileD c body (n + 1) ρ = some r
  | 0, ρ, r, h => by cases h
  | n + 1, ρ, r, h => by
    unfold whileD at h ⊢
    split at h
    · cases h
    · exact h
    · split at h
      · rename_i hb
        rw [if_pos hb]
        split at h <;> first | exact h | exact whileD_succ h
      · rename_i hb
        rw [if_neg hb]
        exact h
theorem whileD_le {c : BF} {body : SF} {n m : Nat} {ρ : En} {r : Out} (h : whileD c body n ρ = some r) (k : n ≤ m) : whileD c body m ρ = some r := by
  obtain ⟨j, rfl⟩ : ∃ j, m = n + j := ⟨m - n, by omega⟩
  clear k
  induction j with
  | zero => exact h
  | succ j ih => exact whileD_succ ih
theorem sWhile_of {c : BF} {body : SF} {n : Nat} {ρ : En} {r : Out} (h : whileD c body n ρ = some r) : sWhile c body ρ = some r := by
  unfold sWhile
  have q : ∃ n r, whileD c body n ρ = some r := ⟨n, r, h⟩
  rw [dif_pos q]
  have e := q.choose_spec.choose_spec
  have a := whileD_le e (Nat.le_max_left q.choose n)
  have b := whileD_le h (Nat.le_max_right q.choose n)
  rw [a] at b
  exact b
theorem of_sWhile {c : BF} {body : SF} {ρ : En} {r : Out} (h : sWhile c body ρ = some r) : ∃ n, whileD c body n ρ = some r := by
  unfold sWhile at h
  split at h
  · rename_i q
    cases h
    exact ⟨_, q.choose_spec.choose_spec⟩
  · cases h
/-- one turn -/
theorem sWhile_turn {c : BF} {body : SF} {ρ ρ1 ρ2 : En} {r : Out} (hc : c ρ = some (.v true ρ1)) (hb : body ρ1 = some (.nx ρ2)) (h : sWhile c body ρ2 = some r) : sWhile c body ρ = some r := by
  obtain ⟨n, e⟩ := of_sWhile h
  refine sWhile_of (n := n + 1) ?_
  unfold whileD
  simp only [hc, hb, if_pos]
  exact e
theorem sWhile_end {c : BF} {body : SF} {ρ ρ1 : En} (hc : c ρ = some (.v false ρ1)) : sWhile c body ρ = some (.nx ρ1) := by
  refine sWhile_of (n := 1) ?_
  unfold whileD
  simp only [hc]
  rfl
end
section
variable {X : Cx} {cl : Str → Option Addr} {XP : XPost} {w : List Nat}
theorem s_while {c : Expr} {body : List Stmt} {fc : BF} {fb : SF} {pos : Pos} (hp : PassesOwn (model X.prog X.w) X.A X.env X.xe) (hc : BE X cl XP c fc) (hb : BL X cl XP w body fb) : SE X cl XP w (.While c body [] pos) (sWhile fc fb) := (ps_while hp hc hb).imp fun D σ H hh => by
  obtain ⟨G, ρ, l, rr, ok, es, e, p⟩ := hh
  obtain ⟨n, en⟩ := of_sWhile e
  refine ⟨fun m τ Hc => ∃ Gc ρc lc, Kp w σ τ ∧ Ev G H l Gc Hc lc ∧ Ok Gc Hc lc ∧ Es X.K cl Gc Hc ρc τ lc ∧ whileD fc fb m ρc = some rr, ⟨n, G, ρ, l, Kp.refl _ _, Ev.refl _ _ _, ok, es, en⟩, fun m τ Hc hw => ?_⟩
  obtain ⟨Gc, ρc, lc, kp, ev, okc, esc, ec⟩ := hw
  cases m with
  | zero => cases ec
  | succ m =>
    unfold whileD at ec
    cases h : fc ρc with
    | none => rw [h] at ec; cases ec
    | some y =>
      rw [h] at ec
      cases y with
      | x ee ρ' =>
        cases ec
        exact ⟨Gc, ρc, lc, .x ee ρ', okc, esc, h, fun G' H' l' ev' o es' => p τ G' H' l' kp (ev.trans ev') o es'⟩
      | v b ρ' =>
        refine ⟨Gc, ρc, lc, .v b ρ', okc, esc, h, fun G1 H1 l1 ev1 ok1 es1 => ?_⟩
        have evT := ev.trans ev1
        cases b with
        | false =>
          dsimp only at ec
          rw [if_neg Bool.false_ne_true] at ec
          cases ec
          exact iteF (p τ G1 H1 l1 kp evT ok1 es1)
        | true =>
          dsimp only at ec
          rw [if_pos rfl] at ec
          refine iteT ⟨fun σ' H' => ∃ Gc ρc lc, Kp w σ σ' ∧ Ev G H l Gc H' lc ∧ Ok Gc H' lc ∧ Es X.K cl Gc H' ρc σ' lc ∧ whileD fc fb m ρc = some rr, fun σ' H' hq => ⟨m, by omega, hq⟩, ?_⟩
          cases hbd : fb ρ' with
          | none => simp only [hbd] at ec; cases ec
          | some out =>
            refine ⟨G1, ρ', l1, out, ok1, es1, hbd, ?_⟩
            cases out with
            | nx ρ2 =>
              simp only [hbd] at ec
              exact fun σ4 G4 H4 l4 k4 ev4 ok4 es4 => ⟨G4, ρ2, l4, kp.trans k4, evT.trans ev4, ok4, es4, ec⟩
            | ct ρ2 =>
              simp only [hbd] at ec
              exact fun σ4 G4 H4 l4 k4 ev4 ok4 es4 => ⟨G4, ρ2, l4, kp.trans k4, evT.trans ev4, ok4, es4, ec⟩
            | bk ρ2 =>
              simp only [hbd] at ec
              cases ec
              exact fun σ4 G4 H4 l4 k4 ev4 ok4 es4 => p σ4 G4 H4 l4 (kp.trans k4) (evT.trans ev4) ok4 es4
            | rt d ρ2 =>
              simp only [hbd] at ec
              cases ec
              exact fun v σ4 G4 H4 fv l4 k4 ev4 ok4 rd4 es4 => p v σ4 G4 H4 fv l4 (kp.trans k4) (evT.trans ev4) ok4 rd4 es4
            | ex ee ρ2 =>
              simp only [hbd] at ec
              cases ec
              exact fun σ4 G4 H4 l4 k4 ev4 ok4 es4 => p σ4 G4 H4 l4 (kp.trans k4) (evT.trans ev4) ok4 es4
end

/-! ### defs -/
inductive Ret where
  | v (d : D) (as : List D) | x (e : Exn) (as : List D)
abbrev DF := List D → Option Ret
section
variable (K : PySem.W.Frag) (cl : Str → Option Addr)
/-- an exception: its class, its own attributes -/
def XR (e : Exn) (c : Value) (od : Option Addr) (G H : Hp) : Prop := ∃ C, cl e.cls = some C ∧ c = .ref C ∧ (e.fs = [] ∨ ∃ dx vs, od = some dx ∧ H dx = some (.xd ((e.fs.map (·.1)).zip vs)) ∧ Rs K cl G H (e.fs.map (·.2)) vs [])
def RPost (G H : Hp) (fp : List Addr) (vs : List V) : Ret → VK → XK → Prop
  | .v d as, Q, _ => ∀ v G' H' fv fp', Ev G H fp G' H' (fv ++ fp') → Ok G' H' (fv ++ fp') → R K cl G' H' d v fv → Rs K cl G' H' as vs fp' → Q v H'
  | .x e as, _, E => ∀ c od G' H' fp', Ev G H fp G' H' fp' → Ok G' H' fp' → Rs K cl G' H' as vs fp' → XR K cl e c od G' H' → E c od H'
/-- the promise of a def that computes F -/
def spD (n : Nat) (F : DF) : Sp := fun vs H Q E => ∃ G ds fp r, Ok G H fp ∧ Rs K cl G H ds vs fp ∧ ds.length = n ∧ F ds = some r ∧ RPost K cl G H fp vs r Q E
end
/-- the parameters' trees at a def's end: those outside w as they stand, those in w as they came -/
def finD (w : List Nat) : Nat → List D → En → Option (List D)
  | _, [], _ => some []
  | _, _ :: _, [] => none
  | j, d :: ds, s :: ρ => (finD w (j + 1) ds ρ).bind fun r => if j ∈ w then (if nOw d = true then some (d :: r) else none) else s.map fun d' => d' :: r
def fnD (w : List Nat) (nn : Nat) (body : SF) : DF := fun ds => match body (ds.map some ++ List.replicate (nn - ds.length) none) with
  | some (.rt d ρ) => (finD w 0 ds ρ).map fun as => .v d as
  | some (.nx ρ) => (finD w 0 ds ρ).map fun as => .v .non as
  | some (.ex e ρ) => (finD w 0 ds ρ).map fun as => .x e as
  | _ => none
section
variable {K : PySem.W.Frag} {cl : Str → Option Addr} {G H G1 H1 : Hp}
theorem Es.nones : ∀ (n : Nat), Es K cl G H (List.replicate n none) (List.replicate n none) []
  | 0 => by unfold Es; exact ⟨rfl, rfl⟩
  | n + 1 => by
    show Es K cl G H (none :: List.replicate n none) (none :: List.replicate n none) []
    unfold Es
    exact ⟨none, _, rfl, Es.nones n⟩
theorem Es.start : ∀ {ds : List D} {vs : List V} {fp : List Addr} (n : Nat), Rs K cl G H ds vs fp → Es K cl G H (ds.map some ++ List.replicate n none) (vs.map some ++ List.replicate n none) fp
  | [], _, _, n, r => by
    unfold Rs at r
    rw [r.1, r.2]
    exact Es.nones n
  | d :: ds, _, _, n, r => by
    obtain ⟨v, us, f, g, rfl, rfl, r1, r2⟩ := r.inv
    show Es K cl G H (some d :: (ds.map some ++ _)) (some v :: (us.map some ++ _)) _
    unfold Es
    exact ⟨v, _, f, g, rfl, rfl, r1, Es.start n r2⟩
theorem finD_ok {w : List Nat} (s : Sub G G1) : ∀ {ds : List D} {vs : List V} {fp : List Addr} {j : Nat} {ρ : En} {τ : L2.St} {l : List Addr} {as : List D}, finD w j ds ρ = some as → Rs K cl G H ds vs fp → Es K cl G1 H1 ρ τ l →
    (∀ (i : Nat) (v : V), vs[i]? = some v → j + i ∉ w → τ[i]? = some (some v)) → ∃ fp', fp'.Sublist l ∧ Rs K cl G1 H1 as vs fp'
  | [], _, _, j, ρ, τ, l, as, e, r, es, k => by
    unfold Rs at r
    cases ρ <;> (unfold finD at e; cases e; rw [r.1]; exact ⟨[], List.nil_sublist _, Rs.nil⟩)
  | d :: ds, _, _, j, [], τ, l, as, e, r, es, k => by
    unfold finD at e
    cases e
  | d :: ds, _, _, j, x :: ρ, τ, l, as, e, r, es, k => by
    obtain ⟨v, us, f, g, rfl, rfl, r1, r2⟩ := r.inv
    unfold finD at e
    obtain ⟨as', e1, e2⟩ := Option.bind_eq_some_iff.mp e
    have tail : ∃ y τ' g' l', τ = y :: τ' ∧ l = g' ++ l' ∧ Es K cl G1 H1 ρ τ' l' ∧ (∀ d', x = some d' → ∃ v', y = some v' ∧ R K cl G1 H1 d' v' g') := by
      cases x with
      | none =>
        unfold Es at es
        obtain ⟨y, τ', e3, es'⟩ := es
        exact ⟨y, τ', [], l, e3, rfl, es', fun d' z => nomatch z⟩
      | some d' =>
        unfold Es at es
        obtain ⟨v', τ', f', g', e3, e4, r', es'⟩ := es
        exact ⟨some v', τ', f', g', e3, e4, es', fun d'' z => by cases z; exact ⟨v', rfl, r'⟩⟩
    obtain ⟨y, τ', g', l', rfl, rfl, es', kx⟩ := tail
    obtain ⟨fp1, sl, rs1⟩ := finD_ok s e1 r2 es' fun i v' hv hn => by
      have := k (i + 1) v' (by simpa using hv) (by rw [show j + (i + 1) = j + 1 + i by omega]; exact hn)
      simpa using this
    split at e2
    · split at e2
      · rename_i hn
        cases e2
        have e0 := r1.fp_nil hn
        subst e0
        refine ⟨[] ++ fp1, ?_, Rs.cons (r1.mono s fun a h => (by simp at h)) rs1⟩
        exact sl.trans (List.sublist_append_right _ _)
      · cases e2
    · rename_i hj
      obtain ⟨d', e3, rfl⟩ := Option.map_eq_some_iff.mp e2
      obtain ⟨v', e4, r'⟩ := kx d' e3
      have := k 0 v rfl (by simpa using hj)
      simp only [List.getElem?_cons_zero, Option.some.injEq] at this
      rw [e4] at this
      cases this
      exact ⟨g' ++ fp1, (List.Sublist.refl g').append sl, Rs.cons r' rs1⟩
end
section
variable {P : Program} {w0 : World} {K : PySem.W.Frag} {mg : Str → Option Value} {base : Heap} {cl : Str → Option Addr}
/-- THE RULE for a def -/
theorem fn_ok {x qual : Str} {st : Stmt} {f : Addr} {fd : FuncData} {N ps : List Str} {k : Nat} {w : List Nat} {body : SF} (F : Fun K x qual st f fd) (S : FnScope N ps (defScope st))
    (hbody : ∀ (cdv : Value) (A : Around) (outer : List Env) (s : Shared) (H : Hp) (E : XK), Room k (A.deeper (envOfC qual (defScope st) s.heap.objs.size f cdv)) →
      PSs (cxOf (L2.CX P w0) P w0 K mg base N qual (defScope st) f cdv A outer s H E) (defBody st) (tS K cl (fun e _ G' H' _ _ => ∀ c od, XR K cl e c od G' H' → E c od H') w body)) :
    FnOk P w0 K mg base (L2.CX P w0) (k + 1) f fd ps (spD K cl ps.length (fnD w N.length body)) := by
  refine F.okX S (fun vs H Q E h => ?_) fun cdv A outer s H vs Q E hr h => ?_
  · obtain ⟨G, ds, fp, r, ok, rs, hl, _⟩ := h
    rw [rs.length, hl]
  · obtain ⟨G, ds, fp, r, ok, rs, hl, e, p⟩ := h
    refine ⟨_, hbody cdv A outer s H E hr, ?_⟩
    unfold fnD at e
    have hvl : vs.length = ds.length := rs.length
    have es0 : Es K cl G H (ds.map some ++ List.replicate (N.length - ds.length) none) (L2.start N vs) fp := by
      unfold L2.start
      rw [hvl]
      exact Es.start _ rs
    have kk : ∀ {σ' : L2.St}, Kp w (L2.start N vs) σ' → ∀ (i : Nat) (v : V), vs[i]? = some v → 0 + i ∉ w → σ'[i]? = some (some v) := fun {σ'} kp i v hv hn => by
      rw [kp.2 i (by simpa using hn)]
      unfold L2.start
      obtain ⟨hi, _⟩ := List.getElem?_eq_some_iff.mp hv
      rw [List.getElem?_append_left (by simpa using hi), List.getElem?_map, hv]
      rfl
    cases hb : body (ds.map some ++ List.replicate (N.length - ds.length) none) with
    | none => rw [hb] at e; cases e
    | some out =>
      refine ⟨G, _, fp, out, ok, es0, hb, ?_⟩
      cases out with
      | bk ρ => simp only [hb] at e; cases e
      | ct ρ => simp only [hb] at e; cases e
      | nx ρ =>
        simp only [hb] at e
        obtain ⟨as, e1, rfl⟩ := Option.map_eq_some_iff.mp e
        intro σ' G' H' l' kp ev ok' es'
        obtain ⟨fp', sl, rs'⟩ := finD_ok ev.sub e1 rs es' (kk kp)
        exact p .non G' H' [] fp' (ev.less fun a h => sl.subset h) (ok'.sublist sl) (R.at _) rs'
      | rt d ρ =>
        simp only [hb] at e
        obtain ⟨as, e1, rfl⟩ := Option.map_eq_some_iff.mp e
        intro v σ' G' H' fv l' kp ev ok' rd es'
        obtain ⟨fp', sl, rs'⟩ := finD_ok ev.sub e1 rs es' (kk kp)
        have sl2 : (fv ++ fp').Sublist (fv ++ l') := (List.Sublist.refl fv).append sl
        exact p v G' H' fv fp' (ev.less fun a h => sl2.subset h) (ok'.sublist sl2) rd rs'
      | ex ee ρ =>
        simp only [hb] at e
        obtain ⟨as, e1, rfl⟩ := Option.map_eq_some_iff.mp e
        intro σ' G' H' l' kp ev ok' es'
        obtain ⟨fp', sl, rs'⟩ := finD_ok ev.sub e1 rs es' (kk kp)
        exact fun c od xr => p c od G' H' fp' (ev.less fun a h => sl.subset h) (ok'.sublist sl) rs' xr
end

/-! ### calls -/
/-- what may be raised, as W takes it -/
structure XL (X : Cx) (cl : Str → Option Addr) (XP : XPost) (W : WX) : Prop where
  tk : Takes X W
  lk : ∀ e ρ G H l σ c od, XP e ρ G H l σ → XR X.K cl e c od G H → W c od σ H
section
variable (K : PySem.W.Frag) (cl : Str → Option Addr) (XP : XPost)
/-- an argument list; ios: which of them (by place) stands in which slot, its tree taken out -/
def CPost (ios : List (Nat × Nat)) (G H : Hp) (l : List Addr) (σ : L2.St) : Rr (List D) → (List V → Hp → Prop) → Prop
  | .v ds ρ', Q => ∀ vs G' H' fv l', Ev G H l G' H' (fv ++ l') → Ok G' H' (fv ++ l') → Rs K cl G' H' ds vs fv → Es K cl G' H' ρ' σ l' → (∀ p ∈ ios, ∃ v, vs[p.1]? = some v ∧ σ[p.2]? = some (some v)) → Q vs H'
  | .x e ρ', _ => ∀ G' H' l', Ev G H l G' H' l' → Ok G' H' l' → Es K cl G' H' ρ' σ l' → XP e ρ' G' H' l' σ
def tC' (ios : List (Nat × Nat)) (f : LF) : TA := fun σ H Q => ∃ G ρ l r, Ok G H l ∧ Es K cl G H ρ σ l ∧ f ρ = some r ∧ CPost K cl XP ios G H l σ r Q
end
abbrev CE' (X : Cx) (cl : Str → Option Addr) (XP : XPost) (ios : List (Nat × Nat)) (es : List Expr) (f : LF) : Prop := PA X es (tC' X.K cl XP ios f)
def shift (ios : List (Nat × Nat)) : List (Nat × Nat) := ios.map fun p => (p.1 + 1, p.2)
/-- an argument that stands in slot i, its tree taken out behind the rest -/
def aIo (i : Nat) (g : LF) : LF := fun ρ => (look ρ i).bind fun _ => match g ρ with
  | none => none
  | some (.x e ρ') => some (.x e ρ')
  | some (.v ds ρ') => (look ρ' i).map fun d => .v (d :: ds) (ρ'.set i none)
section
variable {X : Cx} {cl : Str → Option Addr} {XP : XPost}
theorem CPost.step {K : PySem.W.Frag} {ios : List (Nat × Nat)} {G H G1 H1 : Hp} {l l1 : List Addr} {σ : L2.St} {r : Rr (List D)} {Q : List V → Hp → Prop} (p : CPost K cl XP ios G H l σ r Q) (x : Ev G H l G1 H1 l1) : CPost K cl XP ios G1 H1 l1 σ r Q := by
  cases r with
  | v d ρ => exact fun v G' H' fv l' e o r es => p v G' H' fv l' (x.trans e) o r es
  | x e ρ => exact fun G' H' l' e o es => p G' H' l' (x.trans e) o es
theorem c_nil : CE' X cl XP [] [] aNil := pa_nil.imp fun σ H Q hh => by
  obtain ⟨G, ρ, l, rr, ok, es, e, p⟩ := hh
  cases e
  exact p [] G H [] l (Ev.refl G H l) ok Rs.nil es (fun _ h => (by simp at h))
theorem c_val {ios : List (Nat × Nat)} {e : Expr} {es : List Expr} {f : VF} {g : LF} (ha : VE X cl XP e f) (hr : CE' X cl XP ios es g) (hs : starEach (e :: es) X.env = (false, eval e X.env) :: starEach es X.env := by rfl) : CE' X cl XP (shift ios) (e :: es) (aCons f g) := (pa_cons ha hr hs).imp fun σ H Q hh => by
  obtain ⟨G, ρ, l, rr, ok, es, e, p⟩ := hh
  refine tV.bind ok es e (fun ee ρ' z => by subst z; exact p) fun da ρ1 e1 v G1 H1 f1 l1 ev1 ok1 ra es1 => ?_
  have ol := ok1.split.2.1
  have p1 := p.step (ev1.less (l2 := l1) fun a h => List.mem_append_right _ h)
  unfold rb at e1
  cases h : g ρ1 with
  | none => rw [h] at e1; cases e1
  | some y =>
    rw [h] at e1
    cases y with
    | x ee ρ' =>
      cases e1
      exact ⟨G1, ρ1, l1, .x ee ρ', ol, es1, h, p1⟩
    | v ds ρ' =>
      cases e1
      refine ⟨G1, ρ1, l1, .v ds ρ', ol, es1, h, fun vs G2 H2 fv l2 ev2 ok2 rs es2 hio => ?_⟩
      obtain ⟨okF, kp⟩ := ok1.frame ev2 ok2
      have ev := (ev2.frame ok1)
      refine p (v :: vs) G2 H2 (f1 ++ fv) l2 (ev1.trans (by rw [List.append_assoc]; exact ev)) (by rw [List.append_assoc]; exact okF) (Rs.cons (ra.mono ev2.sub kp) rs) es2 fun q hq => ?_
      obtain ⟨q', hq', rfl⟩ := List.mem_map.mp hq
      obtain ⟨u, h1, h2⟩ := hio q' hq'
      exact ⟨u, by simpa using h1, h2⟩
theorem c_io {ios : List (Nat × Nat)} {e : Expr} {es : List Expr} {i : Nat} {g : LF} (ha : PE X e (tVar i)) (hr : CE' X cl XP ios es g) (hs : starEach (e :: es) X.env = (false, eval e X.env) :: starEach es X.env := by rfl) : CE' X cl XP ((0, i) :: shift ios) (e :: es) (aIo i g) := (pa_cons ha hr hs).imp fun σ H Q hh => by
  obtain ⟨G, ρ, l, rr, ok, es, e, p⟩ := hh
  unfold aIo at e
  obtain ⟨d0, e0, e⟩ := Option.bind_eq_some_iff.mp e
  obtain ⟨v, f0, pre, post, ev, _, _, _, _⟩ := es.at (look_some e0)
  refine ⟨v, ev, ?_⟩
  cases h : g ρ with
  | none => rw [h] at e; cases e
  | some y =>
    rw [h] at e
    cases y with
    | x ee ρ' =>
      cases e
      exact ⟨G, ρ, l, .x ee ρ', ok, es, h, p⟩
    | v ds ρ' =>
      obtain ⟨d, e1, rfl⟩ := Option.map_eq_some_iff.mp e
      refine ⟨G, ρ, l, .v ds ρ', ok, es, h, fun vs G2 H2 fv l2 ev2 ok2 rs es2 hio => ?_⟩
      obtain ⟨v', f, l0, e2, pm, r, es3⟩ := es2.take e1
      rw [ev] at e2
      cases e2
      have pm2 : (fv ++ l2).Perm (f ++ fv ++ l0) := by
        refine (List.Perm.append_left fv pm).trans ?_
        rw [← List.append_assoc]
        exact List.Perm.append_right _ List.perm_append_comm
      refine p (v :: vs) G2 H2 (f ++ fv) l0 (ev2.perm pm2) (ok2.perm pm2) (Rs.cons r rs) es3 fun q hq => ?_
      rcases List.mem_cons.mp hq with z | z
      · subst z
        exact ⟨v, rfl, ev⟩
      · obtain ⟨q', hq', rfl⟩ := List.mem_map.mp z
        obtain ⟨u, h1, h2⟩ := hio q' hq'
        exact ⟨u, by simpa using h1, h2⟩
end
/-- the trees of the slots are put back -/
def hole (ρ : En) (i : Nat) : Bool := match ρ[i]? with
  | some none => true
  | _ => false
theorem hole_some {ρ : En} {i : Nat} (h : hole ρ i = true) : ρ[i]? = some none := by
  unfold hole at h
  split at h
  · assumption
  · cases h
def putB : List (Nat × Nat) → En → En → Option En
  | [], _, ρ => some ρ
  | (k, i) :: r, pool, ρ => (look pool k).bind fun d => if hole ρ i = true then putB r (pool.set k none) (ρ.set i (some d)) else none
section
variable {K : PySem.W.Frag} {cl : Str → Option Addr} {G H : Hp}
theorem putB_ok : ∀ {ios : List (Nat × Nat)} {pool ρ ρ' : En} {π σ : L2.St} {lp l : List Addr}, putB ios pool ρ = some ρ' → Es K cl G H pool π lp → Es K cl G H ρ σ l → (∀ p ∈ ios, ∃ v, π[p.1]? = some (some v) ∧ σ[p.2]? = some (some v)) →
    ∃ l2 rest, (rest ++ l2).Perm (lp ++ l) ∧ Es K cl G H ρ' σ l2
  | [], _, _, _, _, _, lp, l, e, _, es, _ => by
    cases e
    exact ⟨l, lp, List.Perm.refl _, es⟩
  | (k, i) :: r, pool, ρ, ρ', π, σ, lp, l, e, ep, es, h => by
    unfold putB at e
    obtain ⟨d, e1, e2⟩ := Option.bind_eq_some_iff.mp e
    split at e2
    · rename_i hi
      obtain ⟨v, f, l0, e3, pm, rd, ep'⟩ := ep.take e1
      obtain ⟨v', h1, h2⟩ := h (k, i) List.mem_cons_self
      rw [e3] at h1
      cases h1
      obtain ⟨l3, pm3, es3⟩ := es.back (hole_some hi) h2 rd
      obtain ⟨l2, rest, pm4, es4⟩ := putB_ok e2 ep' es3 fun p hp => h p (List.mem_cons_of_mem _ hp)
      refine ⟨l2, rest, pm4.trans ?_, es4⟩
      refine (List.Perm.append_left l0 pm3).trans ?_
      refine List.Perm.trans ?_ (List.Perm.append_right l pm.symm)
      rw [← List.append_assoc]
      exact List.Perm.append_right _ List.perm_append_comm
    · cases e2
end
def vCall (F : DF) (ios : List (Nat × Nat)) (args : LF) : VF := rb args fun ds ρ => match F ds with
  | none => none
  | some (.v d as) => (putB ios (as.map some) ρ).map fun ρ' => .v d ρ'
  | some (.x e as) => (putB ios (as.map some) ρ).map fun ρ' => .x e ρ'
section
variable {X : Cx} {cl : Str → Option Addr} {XP : XPost} {W : WX}
theorem tC.bind {α : Type} {K : PySem.W.Frag} {ios : List (Nat × Nat)} {G H : Hp} {l : List Addr} {σ : L2.St} {f : LF} {g : List D → En → Option (Rr α)} {ρ : En} {r : Rr α} {Q : List V → Hp → Prop} (ok : Ok G H l) (es : Es K cl G H ρ σ l) (e : rb f g ρ = some r)
    (px : ∀ ee ρ', r = .x ee ρ' → ∀ G' H' l', Ev G H l G' H' l' → Ok G' H' l' → Es K cl G' H' ρ' σ l' → XP ee ρ' G' H' l' σ)
    (k : ∀ d ρ', g d ρ' = some r → ∀ v G' H' fv l', Ev G H l G' H' (fv ++ l') → Ok G' H' (fv ++ l') → Rs K cl G' H' d v fv → Es K cl G' H' ρ' σ l' → (∀ p ∈ ios, ∃ u, v[p.1]? = some u ∧ σ[p.2]? = some (some u)) → Q v H') : tC' K cl XP ios f σ H Q := by
  unfold rb at e
  cases h : f ρ with
  | none => rw [h] at e; cases e
  | some y =>
    rw [h] at e
    cases y with
    | x ee ρ' =>
      cases e
      exact ⟨G, ρ, l, .x ee ρ', ok, es, h, px ee ρ' rfl⟩
    | v d ρ' => exact ⟨G, ρ, l, .v d ρ', ok, es, h, fun v G' H' fv l' ev o rr ee => k d ρ' e v G' H' fv l' ev o rr ee⟩
/-- what a def's promise asks, from its arguments -/
theorem call_go {F : DF} {ios : List (Nat × Nat)} {n : Nat} {args : LF} {σ : L2.St} {H : Hp} {Q : VK} (x : XL X cl XP W) (hn : ∀ ds r, F ds = some r → ds.length = n) (h : tV X.K cl XP (vCall F ios args) σ H Q) : tC' X.K cl XP ios args σ H fun vs H1 => spD X.K cl n F vs H1 Q (WE W σ) := by
  obtain ⟨G, ρ, l, rr, ok, es, e, p⟩ := h
  refine tC.bind ok es e (fun ee ρ' z => by subst z; exact p) fun ds ρ1 e1 vs G1 H1 fp l1 ev1 ok1 rs es1 hio => ?_
  cases hF : F ds with
  | none => simp only [hF] at e1; cases e1
  | some r =>
    refine ⟨G1, ds, fp, r, ok1.split.1, rs, hn ds r hF, hF, ?_⟩
    have pm0 : (fp ++ l1).Perm (l1 ++ fp) := List.perm_append_comm
    have okp := ok1.perm pm0
    have hio' : ∀ p ∈ ios, ∃ u, (vs.map some)[p.1]? = some (some u) ∧ σ[p.2]? = some (some u) := fun q hq => by
      obtain ⟨u, h1, h2⟩ := hio q hq
      exact ⟨u, by rw [List.getElem?_map, h1]; rfl, h2⟩
    cases r with
    | v d as =>
      simp only [hF] at e1
      obtain ⟨ρ2, e2, rfl⟩ := Option.map_eq_some_iff.mp e1
      intro v G2 H2 fv fp' ev2 ok2 rd rs2
      obtain ⟨okF, kp⟩ := okp.frame ev2 ok2
      have pool := Es.start 0 rs2
      simp only [List.replicate_zero, List.append_nil] at pool
      obtain ⟨l2, rest, pm, es2⟩ := putB_ok e2 pool (es1.mono ev2.sub kp) hio'
      have pmA : (l1 ++ (fv ++ fp')).Perm (rest ++ (fv ++ l2)) := by
        have a : (l1 ++ (fv ++ fp')).Perm (fv ++ (fp' ++ l1)) := by
          rw [← List.append_assoc fv]
          exact List.perm_append_comm
        refine a.trans ((List.Perm.append_left fv pm.symm).trans ?_)
        rw [← List.append_assoc, ← List.append_assoc]
        exact List.Perm.append_right _ List.perm_append_comm
      have okA := okF.perm pmA
      have evA : Ev G1 H1 (l1 ++ fp) G2 H2 (fv ++ l2) := ((ev2.frame okp).perm pmA).less fun a h => List.mem_append_right _ h
      exact p v G2 H2 fv l2 ((ev1.perm pm0).trans evA) okA.split.2.1 rd es2
    | x ee as =>
      simp only [hF] at e1
      obtain ⟨ρ2, e2, rfl⟩ := Option.map_eq_some_iff.mp e1
      intro c od G2 H2 fp' ev2 ok2 rs2 xr
      obtain ⟨okF, kp⟩ := okp.frame ev2 ok2
      have pool := Es.start 0 rs2
      simp only [List.replicate_zero, List.append_nil] at pool
      obtain ⟨l2, rest, pm, es2⟩ := putB_ok e2 pool (es1.mono ev2.sub kp) hio'
      have pmA : (l1 ++ fp').Perm (rest ++ l2) := List.perm_append_comm.trans pm.symm
      have okA := okF.perm pmA
      have evA : Ev G1 H1 (l1 ++ fp) G2 H2 l2 := ((ev2.frame okp).perm pmA).less fun a h => List.mem_append_right _ h
      exact x.lk ee ρ2 G2 H2 l2 σ c od (p G2 H2 l2 ((ev1.perm pm0).trans evA) okA.split.2.1 es2) xr
theorem v_call {F : DF} {ios : List (Nat × Nat)} {k : Nat} {f : Addr} {fd : FuncData} {ps : List Str} {x : Str} {p pos : Pos} {e : Expr} {es : List Expr} {args : LF} (xl : XL X cl XP W) (Fk : FnOk X.prog X.w X.K X.mg X.base (L2.CX X.prog X.w) k f fd ps (spD X.K cl ps.length F)) (hr : Room k X.A) (hg : Gl X x) (hm : X.mg x = some (.ref f)) (hk : PySem.W.keepIn X.K (.ref f) = true) (hb : Binds X.K fd ps [])
    (ha : CE' X cl XP ios (e :: es) args) (hn : ∀ ds r, F ds = some r → ds.length = ps.length) (hdb : (x == ("__debug__" : Str)) = false := by decide) (he : starEach (e :: es) X.env = (false, eval e X.env) :: starEach es X.env := by rfl) (hpl : (backTo pos (starEach es X.env)).any (·.1) = false := by rfl) :
    VE X cl XP (.Call (.Name x p) (e :: es) [] pos) (vCall F ios args) := (pe_callS Fk hr hg hm hk hb (fun σ => passAt xl.tk σ) ha hdb he hpl).imp fun σ H Q hh => call_go xl hn hh
end
end DL

set_option maxRecDepth 100000
/-! DLO: operations over trees. -/
namespace DL
open PySem L2 PySem.Spec PyProof.Rows

section
variable {K : PySem.W.Frag} {cl : Str → Option Addr} {G H : Hp}
theorem R.lst_rd (s : Sub G H) {o : Bool} {ds : List D} {v : V} {f : List Addr} (r : R K cl G H (.nd (.lst o) ds) v f) : ∃ a vs fs, v = .ref a ∧ SqL K H a vs ∧ Rs K cl G H ds vs fs ∧ fs.Sublist f := by
  unfold R at r
  obtain ⟨a, vs, fs, e, c, rs, q⟩ := r
  cases o with
  | false =>
    rw [if_neg (by decide)] at q
    exact ⟨a, vs, fs, e, s.sl c, rs, by rw [q.1]; exact List.Sublist.refl _⟩
  | true =>
    rw [if_pos (show (Kd.lst true).ow = true from rfl)] at q
    exact ⟨a, vs, fs, e, .inl (.inl c), rs, by rw [q]; exact List.sublist_cons_self _ _⟩
theorem R.tup_rd (s : Sub G H) {ds : List D} {v : V} {f : List Addr} (r : R K cl G H (.nd .tup ds) v f) : ∃ a vs fs, v = .ref a ∧ SqT K H a vs ∧ Rs K cl G H ds vs fs ∧ fs.Sublist f := by
  obtain ⟨a, vs, e, c, rs⟩ := r.tup_inv
  exact ⟨a, vs, f, e, s.st c, rs, List.Sublist.refl _⟩
theorem Rs.atI {ds : List D} {vs : List V} {fs : List Addr} {i : Int} {d : D} (r : Rs K cl G H ds vs fs) (e : L2.atI ds i = some d) : ∃ v f, L2.atI vs i = some v ∧ f.Sublist fs ∧ R K cl G H d v f := by
  unfold L2.atI at e ⊢
  rw [r.length]
  obtain ⟨j, e1, e2⟩ := Option.bind_eq_some_iff.mp e
  obtain ⟨v, f, pre, post, e3, e4, rd, _⟩ := r.at e2
  refine ⟨v, f, by rw [e1]; exact e3, ?_, rd⟩
  rw [e4]
  exact (List.sublist_append_left f post).trans (List.sublist_append_right _ _)
end

/-! ### numbers -/
def oI (c : Int → Int → Bool) (g : Int → Int → V) : D → D → Option D
  | .at (.int i), .at (.int j) => if c i j = true then some (.at (g i j)) else none
  | _, _ => none
def cT (_ _ : Int) : Bool := true
section
variable {K : PySem.W.Frag} {cl : Str → Option Addr}
theorem mk_at {G H : Hp} {w : V} {Q : VK} (s : Sub G H) (k : ∀ u G' H' fu, Evq G H G' H' → Fresh H G' H' fu → R K cl G' H' (.at w) u fu → Q u H') : Q w H := k w G H [] (Evq.refl s) Fresh.nil (R.at w)
theorem oI_inv {c : Int → Int → Bool} {g : Int → Int → V} {a b d : D} (e : oI c g a b = some d) : ∃ i j, a = .at (.int i) ∧ b = .at (.int j) ∧ c i j = true ∧ d = .at (g i j) := by
  match a, b, e with
  | .at (.int i), .at (.int j), e =>
    by_cases h : c i j = true
    · have e' : (if c i j = true then some (D.at (g i j)) else none) = some d := e
      rw [if_pos h] at e'
      exact ⟨i, j, rfl, rfl, h, (Option.some.inj e').symm⟩
    · have e' : (if c i j = true then some (D.at (g i j)) else none) = some d := e
      rw [if_neg h] at e'
      cases e'
theorem m_I {C : Int → Int → Prop} {g : Int → Int → V} {c : Int → Int → Bool} (hc : ∀ i j, c i j = true → C i j) : Mk2 K cl (rI C g) (oI c g) := fun {G H a b d v w f g' Q} s ra rb e k => by
  obtain ⟨i, j, rfl, rfl, hcc, rfl⟩ := oI_inv e
  exact ⟨i, j, ra.at_inv.1, rb.at_inv.1, hc i j hcc, mk_at s k⟩
theorem m_I0 {g : Int → Int → V} : Mk2 K cl (rI0 g) (oI cT g) := fun {G H a b d v w f g' Q} s ra rb e k => by
  obtain ⟨i, j, rfl, rfl, hcc, rfl⟩ := oI_inv e
  exact ⟨i, j, ra.at_inv.1, rb.at_inv.1, mk_at s k⟩
end
def cMul (i j : Int) : Bool := decide (i.natAbs.log2 + j.natAbs.log2 < 100000000)
def cFdiv (_ j : Int) : Bool := decide (0 < j) && decide (j.natAbs.log2 < 9000)
def cMod (_ j : Int) : Bool := decide (0 < j)
def cPow (i j : Int) : Bool := decide (0 ≤ j) && decide (j ≤ 1000000) && decide (i.natAbs < 2 ^ 64)
abbrev CMulV (i j : Int) : Prop := i.natAbs.log2 + j.natAbs.log2 < 100000000
theorem CMulV.ok {i j : Int} (h : CMulV i j) : IntMulOk i j := by
  have b : ∀ x : Int, Builtin.Int.intBits x ≤ x.natAbs.log2 + 1 := fun x => by
    unfold Builtin.Int.intBits
    split <;> omega
  have h1 := b i
  have h2 := b j
  have h3 : i.natAbs.log2 + j.natAbs.log2 < 100000000 := h
  have e : bitsLine = 134217728 := by decide
  unfold IntMulOk
  intro z
  rw [Bool.and_eq_true] at z
  have z2 := z.2
  unfold Builtin.Int.intTooBig at z2
  have z3 := of_decide_eq_true z2
  rw [e] at z3
  omega
theorem op_mulV {X : Cx} : OpR X (binaryOp .Mult) (rI CMulV fun i j => .int (i * j)) := opI fun _ _ _ _ _ _ _ hc q => mul_int q hc.ok
theorem iop_mulV {X : Cx} : OpR X (inplaceOp .Mult) (rI CMulV fun i j => .int (i * j)) := opI fun _ _ _ _ _ _ _ hc q => imul_int q hc.ok
theorem hMul : ∀ i j, cMul i j = true → CMulV i j := fun _ _ h => of_decide_eq_true h
theorem hFdiv : ∀ i j, cFdiv i j = true → CDivW i j := fun i j h => by
  unfold cFdiv at h
  rw [Bool.and_eq_true] at h
  exact ⟨of_decide_eq_true h.1, of_decide_eq_true h.2⟩
theorem hMod : ∀ i j, cMod i j = true → (fun _ j : Int => 0 < j) i j := fun _ _ h => of_decide_eq_true h
theorem hPow : ∀ i j, cPow i j = true → CPow i j := fun i j h => by
  unfold cPow at h
  rw [Bool.and_eq_true, Bool.and_eq_true] at h
  exact ⟨of_decide_eq_true h.1.1, of_decide_eq_true h.1.2, of_decide_eq_true h.2⟩

/-! ### + of numbers, texts, lists, tuples -/
section
variable {X : Cx}
theorem op_catL : OpR X (binaryOp .Add) (fun x y H Q => ∃ l b xs zs, x = .ref l ∧ y = .ref b ∧ SqL X.K H l xs ∧ SqL X.K H b zs ∧ xs.length + zs.length ≤ sizeLine ∧ ∀ p, H p = none → Q (.ref p) (upd H p (.lst (xs ++ zs)))) := by
  intro pins s σ H x y v u Q I rx ry h
  obtain ⟨l, b, xs, zs, rfl, rfl, hH, hB, hz, q⟩ := h
  cases rx
  cases ry
  obtain ⟨its, r, ⟨o, n, e, hc, hd, hs⟩, _⟩ := I.list hH
  obtain ⟨its2, r2, ⟨o2, n2, e2, hc2, hd2, hs2⟩, _⟩ := I.list hB
  have hl := r.length
  have hl2 := r2.length
  obtain ⟨oc, od, odt, osl⟩ := o
  obtain ⟨oc2, od2, odt2, osl2⟩ := o2
  simp only at hc hd hs hc2 hd2 hs2
  subst hc hd hs hc2 hd2 hs2
  have ea : its.toArray ++ its2.toArray = (its ++ its2).toArray := by simp
  refine concat_meets ⟨_, e, rfl⟩ ⟨_, e2, rfl⟩ noFill_list_add seq_list_add PySem.F.slot_list_add PySem.F.entry_list_add (PySem.F.args_list_add_2 _ _) (list_addW l b its.toArray its2.toArray n n2 none none osl osl2 (by rw [List.size_toArray, List.size_toArray]; omega)) ⟨e, e2, ?_⟩
  rw [ea]
  exact ⟨.ref _, _, I.lnew (t' := s.toks) (r.append r2) (by rw [List.length_append]; omega), rfl, q _ I.fresh⟩
end

section
variable {K : PySem.W.Frag} {cl : Str → Option Addr} {G H : Hp}
theorem evq_own (s : Sub G H) {p : Addr} (hp : H p = none) (o : HO) : Evq G H G (upd H p o) ∧ Fresh H G (upd H p o) [p] := by
  have k : ∀ a, H a ≠ none → upd H p o a = H a := fun a h => upd_ne fun z => h (z ▸ hp)
  refine ⟨⟨Sub.refl _, fun a x e => (k a (ne_none_of e)).trans e, fun a x e => (k a (ne_none_of (s a x e))).trans (s a x e), fun a g _ => g⟩, ⟨by simp, fun a h => ?_, fun a h => ?_, fun a h => ?_⟩⟩
  · rw [List.mem_singleton.mp h]; exact hp
  · rw [List.mem_singleton.mp h]
    cases e : G p with
    | none => rfl
    | some x => have := s p x e; rw [hp] at this; cases this
  · rw [List.mem_singleton.mp h, upd_same]; exact fun z => nomatch z
theorem evq_frz (s : Sub G H) {p : Addr} (hp : H p = none) (o : HO) : Evq G H (upd G p o) (upd H p o) := by
  have k : ∀ a, H a ≠ none → upd H p o a = H a := fun a h => upd_ne (show a ≠ p from fun z => h (by rw [z]; exact hp))
  refine ⟨fun a x e => ?_, fun a x e => (k a (ne_none_of e)).trans e, fun a x e => ?_, fun a g h => ?_⟩
  · have hn : a ≠ p := fun z => by have := s a x e; rw [z, hp] at this; cases this
    rw [upd_ne hn]; exact e
  · by_cases h : a = p
    · subst h; rw [upd_same] at e ⊢; exact e
    · rw [upd_ne h] at e ⊢; exact s a x e
  · rw [upd_ne (show a ≠ p from fun z => h (by rw [z]; exact hp))]; exact g
/-- a new list of things that are not owned -/
theorem mk_own {ds : List D} {vs : List V} {Q : VK} (s : Sub G H) (r : Rs K cl G H ds vs []) (k : ∀ u G' H' fu, Evq G H G' H' → Fresh H G' H' fu → R K cl G' H' (.own ds) u fu → Q u H') : ∀ p, H p = none → Q (.ref p) (upd H p (.lst vs)) := fun p hp => by
  obtain ⟨q, n⟩ := evq_own s hp (.lst vs)
  exact k (.ref p) G _ [p] q n (R.ndO upd_same (r.mono (Sub.refl _) fun a h => (by simp at h)))
theorem mk_tup {ds : List D} {vs : List V} {Q : VK} (s : Sub G H) (r : Rs K cl G H ds vs []) (k : ∀ u G' H' fu, Evq G H G' H' → Fresh H G' H' fu → R K cl G' H' (.tup ds) u fu → Q u H') : ∀ p, H p = none → Q (.ref p) (upd H p (.tup vs)) := fun p hp => by
  have q := evq_frz s hp (.tup vs)
  exact k (.ref p) _ _ [] q Fresh.nil (R.ndT (.inl (.inl upd_same)) (r.mono q.sub fun a h => (by simp at h)))
theorem mk_tupO {a : Addr} {ds : List D} {vs : List V} {Q : VK} (s : Sub G H) (c : SqT K G a vs) (r : Rs K cl G H ds vs []) (k : ∀ u G' H' fu, Evq G H G' H' → Fresh H G' H' fu → R K cl G' H' (.tup ds) u fu → Q u H') : Q (.ref a) H :=
  k (.ref a) G H [] (Evq.refl s) Fresh.nil (R.ndT c r)
end
def kAdd : D → D → Option D
  | .at (.int i), .at (.int j) => some (.at (.int (i + j)))
  | .at (.str x), .at (.str y) => if x.length + y.length ≤ sizeLine then some (.at (.str (x ++ y))) else none
  | .nd (.lst _) ds, .nd (.lst _) es => if nOws ds = true ∧ nOws es = true ∧ ds.length + es.length ≤ sizeLine then some (.own (ds ++ es)) else none
  | .nd .tup ds, .nd .tup es => if nOws ds = true ∧ nOws es = true ∧ ds.length + es.length ≤ sizeLine then some (.tup (ds ++ es)) else none
  | _, _ => none
def rAddA (K : PySem.W.Frag) : R2 := fun x y H Q => (∃ i j, x = .int i ∧ y = .int j ∧ Q (.int (i + j)) H) ∨ ((∃ i j, x = .str i ∧ y = .str j ∧ i.length + j.length ≤ sizeLine ∧ Q (.str (i ++ j)) H) ∨
  ((∃ l b xs zs, x = .ref l ∧ y = .ref b ∧ SqL K H l xs ∧ SqL K H b zs ∧ xs.length + zs.length ≤ sizeLine ∧ ∀ p, H p = none → Q (.ref p) (upd H p (.lst (xs ++ zs)))) ∨ rCatA K x y H Q))
theorem op_addA {X : Cx} : OpR X (binaryOp .Add) (rAddA X.K) := op_add.or (op_add_str.or (op_catL.or op_catA))
theorem iteSome {c : Prop} [Decidable c] {α : Type} {a b : α} (h : (if c then some a else none) = some b) : c ∧ a = b := by
  by_cases hc : c
  · rw [if_pos hc] at h; exact ⟨hc, Option.some.inj h⟩
  · rw [if_neg hc] at h; cases h
theorem m_add {K : PySem.W.Frag} {cl : Str → Option Addr} : Mk2 K cl (rAddA K) kAdd := fun {G H a b d v w f g Q} s ra rb e k => by
  match a, b, e with
  | .at (.int i), .at (.int j), e => cases e; exact .inl ⟨i, j, ra.at_inv.1, rb.at_inv.1, mk_at s k⟩
  | .at (.str x), .at (.str y), e =>
    obtain ⟨hz, rfl⟩ := iteSome e
    exact .inr (.inl ⟨x, y, ra.at_inv.1, rb.at_inv.1, hz, mk_at s k⟩)
  | .nd (.lst o1) ds, .nd (.lst o2) es, e =>
    obtain ⟨⟨h1, h2, hz⟩, rfl⟩ := iteSome e
    obtain ⟨a1, vs, fs, rfl, c1, r1, _⟩ := ra.lst_rd s
    obtain ⟨a2, us, gs, rfl, c2, r2, _⟩ := rb.lst_rd s
    have e1 := r1.fp_nil h1
    have e2 := r2.fp_nil h2
    subst e1 e2
    exact .inr (.inr (.inl ⟨a1, a2, vs, us, rfl, rfl, c1, c2, by rw [r1.length, r2.length]; exact hz, mk_own s (r1.append r2) k⟩))
  | .nd .tup ds, .nd .tup es, e =>
    obtain ⟨⟨h1, h2, hz⟩, rfl⟩ := iteSome e
    obtain ⟨a1, vs, rfl, c1, r1⟩ := ra.tup_inv
    obtain ⟨a2, us, rfl, c2, r2⟩ := rb.tup_inv
    have e1 := r1.fp_nil h1
    have e2 := r2.fp_nil h2
    subst e1 e2
    have r3 := r1.append r2
    have hl1 := r1.length
    have hl2 := r2.length
    refine .inr (.inr (.inr ⟨a1, a2, vs, us, rfl, rfl, s.st c1, s.st c2, by omega, fun z => ?_, fun _ z => ?_, fun _ _ => mk_tup s r3 k⟩))
    · subst z
      have e0 : ds = [] := List.length_eq_zero_iff.mp hl1.symm
      subst e0
      exact mk_tupO s c2 r2 k
    · subst z
      have e0 : es = [] := List.length_eq_zero_iff.mp hl2.symm
      subst e0
      rw [List.append_nil] at k
      exact mk_tupO s c1 r1 k

/-! ### == and in, over data -/
mutual
def toPy : D → Option PyData
  | .at .non => some .none
  | .at (.bl b) => some (.bool b)
  | .at (.int i) => some (.int i)
  | .at (.str x) => some (.str x)
  | .nd .tup ds => (toPys ds).map .tuple
  | .nd (.lst _) ds => (toPys ds).map .list
  | _ => none
def toPys : List D → Option (List PyData)
  | [] => some []
  | d :: ds => (toPy d).bind fun x => (toPys ds).map fun xs => x :: xs
end
section
variable {K : PySem.W.Frag} {cl : Str → Option Addr} {G H : Hp}
mutual
theorem dp_of (s : Sub G H) : ∀ {d : D} {v : V} {f : List Addr} {p : PyData}, R K cl G H d v f → toPy d = some p → Dp K H v p
  | .at .non, v, f, p, r, e => by cases e; rw [r.at_inv.1]; exact .non
  | .at (.bl b), v, f, p, r, e => by cases e; rw [r.at_inv.1]; exact .bl b
  | .at (.int b), v, f, p, r, e => by cases e; rw [r.at_inv.1]; exact .int b
  | .at (.str b), v, f, p, r, e => by cases e; rw [r.at_inv.1]; exact .str b
  | .nd .tup ds, v, f, p, r, e => by
    unfold toPy at e
    obtain ⟨ps, e1, rfl⟩ := Option.map_eq_some_iff.mp e
    unfold R at r
    obtain ⟨a, vs, fs, rfl, c, rs, _⟩ := r
    exact .tup (s.st c) (dps_of s rs e1)
  | .nd (.lst o) ds, v, f, p, r, e => by
    unfold toPy at e
    obtain ⟨ps, e1, rfl⟩ := Option.map_eq_some_iff.mp e
    unfold R at r
    obtain ⟨a, vs, fs, rfl, c, rs, _⟩ := r
    refine .lst ?_ (dps_of s rs e1)
    cases o with
    | false => exact s.sl c
    | true => exact .inl (.inl c)
  | .nd (.dic _ _) ds, v, f, p, r, e => by unfold toPy at e; cases e
  | .nd (.obj _ _) ds, v, f, p, r, e => by unfold toPy at e; cases e
  | .at (.byt _), v, f, p, r, e => by unfold toPy at e; cases e
  | .at (.flt _), v, f, p, r, e => by unfold toPy at e; cases e
  | .at (.ref _), v, f, p, r, e => by unfold toPy at e; cases e
  | .at (.ty _), v, f, p, r, e => by unfold toPy at e; cases e
theorem dps_of (s : Sub G H) : ∀ {ds : List D} {vs : List V} {f : List Addr} {ps : List PyData}, Rs K cl G H ds vs f → toPys ds = some ps → DpAll K H vs ps
  | [], vs, f, ps, r, e => by
    unfold toPys at e
    cases e
    unfold Rs at r
    rw [r.1]
    exact .nil
  | d :: ds, vs, f, ps, r, e => by
    unfold toPys at e
    obtain ⟨x, e1, e2⟩ := Option.bind_eq_some_iff.mp e
    obtain ⟨xs, e3, rfl⟩ := Option.map_eq_some_iff.mp e2
    unfold Rs at r
    obtain ⟨v, us, f1, g, rfl, rfl, r1, r2⟩ := r
    exact .cons (dp_of s r1 e1) (dps_of s r2 e3)
end
end
def py2 (k : PyData → PyData → Option Bool) (a b : D) : Option D := (toPy a).bind fun x => (toPy b).bind fun y => if SeqAt.shaped x = true ∧ SeqAt.shaped y = true then (k x y).map fun c => .at (.bl c) else none
def kEq : D → D → Option D := py2 fun x y => some (PyData.eqv x y)
def kNe : D → D → Option D := py2 fun x y => some (!PyData.eqv x y)
theorem py2_inv {k : PyData → PyData → Option Bool} {a b d : D} (e : py2 k a b = some d) : ∃ x y c, toPy a = some x ∧ toPy b = some y ∧ SeqAt.shaped x = true ∧ SeqAt.shaped y = true ∧ k x y = some c ∧ d = .at (.bl c) := by
  obtain ⟨x, e1, e2⟩ := Option.bind_eq_some_iff.mp e
  obtain ⟨y, e3, e4⟩ := Option.bind_eq_some_iff.mp e2
  by_cases h : SeqAt.shaped x = true ∧ SeqAt.shaped y = true
  · rw [if_pos h] at e4
    obtain ⟨c, e5, e6⟩ := Option.map_eq_some_iff.mp e4
    exact ⟨x, y, c, e1, e3, h.1, h.2, e5, e6.symm⟩
  · rw [if_neg h] at e4; cases e4
section
variable {K : PySem.W.Frag} {cl : Str → Option Addr}
theorem m_eq : Mk2 K cl (rEqD K) kEq := fun {G H a b d v w f g Q} s ra rb e k => by
  obtain ⟨x, y, c, e1, e2, h1, h2, e3, rfl⟩ := py2_inv e
  cases e3
  exact ⟨x, y, dp_of s ra e1, dp_of s rb e2, h1, h2, mk_at s k⟩
theorem m_ne : Mk2 K cl (rNeD K) kNe := fun {G H a b d v w f g Q} s ra rb e k => by
  obtain ⟨x, y, c, e1, e2, h1, h2, e3, rfl⟩ := py2_inv e
  cases e3
  exact ⟨x, y, dp_of s ra e1, dp_of s rb e2, h1, h2, mk_at s k⟩
end
/-- is None -/
def isNon : D → Bool
  | .at .non => true
  | _ => false
def kIsN : D → D → Option D
  | a, .at .non => some (.at (.bl (isNon a)))
  | _, _ => none
def kNotN : D → D → Option D
  | a, .at .non => some (.at (.bl (!isNon a)))
  | _, _ => none
theorem isNon_of {K : PySem.W.Frag} {cl : Str → Option Addr} {G H : Hp} {a : D} {v : V} {f : List Addr} (r : R K cl G H a v f) : decide (v = .non) = isNon a := by
  cases a with
  | «at» u =>
    rw [r.at_inv.1]
    cases u <;> rfl
  | nd k ds =>
    unfold R at r
    obtain ⟨a, vs, fs, rfl, _⟩ := r
    rfl
section
variable {K : PySem.W.Frag} {cl : Str → Option Addr}
theorem m_isN : Mk2 K cl (fun x y H Q => y = .non ∧ Q (.bl (decide (x = .non))) H) kIsN := fun {G H a b d v w f g Q} s ra rb e k => by
  match b, e with
  | .at .non, e =>
    cases e
    refine ⟨rb.at_inv.1, ?_⟩
    rw [isNon_of ra]
    exact mk_at s k
theorem m_notN : Mk2 K cl (fun x y H Q => y = .non ∧ Q (.bl (!decide (x = .non))) H) kNotN := fun {G H a b d v w f g Q} s ra rb e k => by
  match b, e with
  | .at .non, e =>
    cases e
    refine ⟨rb.at_inv.1, ?_⟩
    rw [isNon_of ra]
    exact mk_at s k
end

/-! ### subscripts -/
def kIx : D → D → Option D
  | .nd (.lst _) ds, .at (.int i) => L2.atI ds i
  | .nd .tup ds, .at (.int i) => L2.atI ds i
  | .at (.str z), .at (.int i) => if z.length ≤ sizeLine then (L2.atI z.cps.toList i).map fun c => .at (.str ⟨#[c]⟩) else none
  | _, _ => none
theorem m_ix {K : PySem.W.Frag} {cl : Str → Option Addr} : Vw2 K cl (rIx K) kIx := fun {G H a b d v w f g Q} s ra rb e k => by
  match a, b, e with
  | .nd (.lst o) ds, .at (.int i), e =>
    obtain ⟨p, vs, fs, rfl, c, rs, sl⟩ := ra.lst_rd s
    obtain ⟨u, fu, e1, sl2, ru⟩ := rs.atI e
    exact .inl ⟨p, vs, i, u, rfl, rb.at_inv.1, c, e1, k u fu (sl2.trans sl) ru⟩
  | .nd .tup ds, .at (.int i), e =>
    obtain ⟨p, vs, fs, rfl, c, rs, sl⟩ := ra.tup_rd s
    obtain ⟨u, fu, e1, sl2, ru⟩ := rs.atI e
    exact .inr (.inl ⟨p, vs, i, u, rfl, rb.at_inv.1, c, e1, k u fu (sl2.trans sl) ru⟩)
  | .at (.str z), .at (.int i), e =>
    by_cases hz : z.length ≤ sizeLine
    · have e' : (if z.length ≤ sizeLine then (L2.atI z.cps.toList i).map fun c => D.at (.str ⟨#[c]⟩) else none) = some d := e
      rw [if_pos hz] at e'
      obtain ⟨c, e1, rfl⟩ := Option.map_eq_some_iff.mp e'
      exact .inr (.inr ⟨z, i, c, ra.at_inv.1, rb.at_inv.1, hz, e1, k _ [] (List.nil_sublist _) (R.at _)⟩)
    · have e' : (if z.length ≤ sizeLine then (L2.atI z.cps.toList i).map fun c => D.at (.str ⟨#[c]⟩) else none) = some d := e
      rw [if_neg hz] at e'
      cases e'

/-! ### calls of built-in things -/
def lenD : D → Option Nat
  | .at (.str x) => if x.length ≤ sizeLine then some x.length else none
  | .nd .tup ds => some ds.length
  | .nd (.lst _) ds => some ds.length
  | .nd (.dic true _) ds => some ds.length
  | _ => none
def kLen : List D → Option D
  | [d] => (lenD d).map fun (n : Nat) => D.at (.int (n : Int))
  | _ => none
def rLen (K : PySem.W.Frag) : List V → Hp → VK → Prop := fun xs H Q => (∃ x n, xs = [x] ∧ LenV K x H n ∧ Q (.int (n : Nat)) H) ∨ ∃ a kvs, xs = [V.ref a] ∧ H a = some (.dK kvs) ∧ Q (.int (kvs.length : Nat)) H
theorem call_lenA {X : Cx} : CallR X (.builtin "len") (rLen X.K) := call_len.or call_lenD
theorem Rs.one {K : PySem.W.Frag} {cl : Str → Option Addr} {G H : Hp} {d : D} {vs : List V} {f : List Addr} (r : Rs K cl G H [d] vs f) : ∃ v, vs = [v] ∧ R K cl G H d v f := by
  obtain ⟨v, us, f1, g, rfl, rfl, r1, r2⟩ := r.inv
  unfold Rs at r2
  rw [r2.1, r2.2, List.append_nil]
  exact ⟨v, rfl, r1⟩
theorem Rs.two {K : PySem.W.Frag} {cl : Str → Option Addr} {G H : Hp} {d e : D} {vs : List V} {f : List Addr} (r : Rs K cl G H [d, e] vs f) : ∃ v u f1 f2, vs = [v, u] ∧ f = f1 ++ f2 ∧ R K cl G H d v f1 ∧ R K cl G H e u f2 := by
  obtain ⟨v, us, f1, g, rfl, rfl, r1, r2⟩ := r.inv
  obtain ⟨u, rfl, r3⟩ := r2.one
  exact ⟨v, u, f1, g, rfl, rfl, r1, r3⟩
theorem m_len {K : PySem.W.Frag} {cl : Str → Option Addr} : MkA K cl (rLen K) kLen := fun {G H as d vs f Q} s rs e k => by
  match as, e with
  | [a], e =>
    obtain ⟨n, e1, rfl⟩ := Option.map_eq_some_iff.mp e
    obtain ⟨v, rfl, ra⟩ := rs.one
    match a, e1 with
    | .at (.str x), e1 =>
      obtain ⟨hz, rfl⟩ := iteSome e1
      exact .inl ⟨v, _, rfl, by rw [ra.at_inv.1]; exact ⟨hz, rfl⟩, mk_at s k⟩
    | .nd .tup ds, e1 =>
      cases e1
      obtain ⟨p, us, fs, rfl, c, r1, _⟩ := ra.tup_rd s
      exact .inl ⟨.ref p, _, rfl, .inr ⟨us, c, r1.length.symm⟩, mk_at s k⟩
    | .nd (.lst o) ds, e1 =>
      cases e1
      obtain ⟨p, us, fs, rfl, c, r1, _⟩ := ra.lst_rd s
      exact .inl ⟨.ref p, _, rfl, .inl ⟨us, c, r1.length.symm⟩, mk_at s k⟩
    | .nd (.dic true ks) ds, e1 =>
      cases e1
      unfold R at ra
      obtain ⟨p, us, fs, rfl, ⟨hl, _, hk⟩, r1, _⟩ := ra
      refine .inr ⟨p, _, rfl, hk, ?_⟩
      have hl2 := r1.length
      rw [List.length_zip, ← hl, Nat.min_self, hl2]
      exact mk_at s k
def kInt : List D → Option D
  | [.at (.int i)] => some (.at (.int i))
  | [.at (.bl b)] => some (.at (.int (if b then 1 else 0)))
  | _ => none
theorem m_int {K : PySem.W.Frag} {cl : Str → Option Addr} : MkA K cl (fun xs H Q => (∃ i, xs = [.int i] ∧ Q (.int i) H) ∨ ∃ k, xs = [.bl k] ∧ Q (.int (if k then 1 else 0)) H) kInt := fun {G H as d vs f Q} s rs e k => by
  match as, e with
  | [.at (.int i)], e =>
    cases e
    obtain ⟨v, rfl, ra⟩ := rs.one
    rw [ra.at_inv.1]
    exact .inl ⟨i, rfl, mk_at s k⟩
  | [.at (.bl b)], e =>
    cases e
    obtain ⟨v, rfl, ra⟩ := rs.one
    rw [ra.at_inv.1]
    exact .inr ⟨b, rfl, mk_at s k⟩
def kMin : List D → Option D
  | [.at (.int i), .at (.int j)] => some (.at (.int (if j < i then j else i)))
  | _ => none
def kMax : List D → Option D
  | [.at (.int i), .at (.int j)] => some (.at (.int (if j > i then j else i)))
  | _ => none
theorem m_min {K : PySem.W.Frag} {cl : Str → Option Addr} : MkA K cl (fun xs H Q => ∃ i j, xs = [.int i, .int j] ∧ Q (.int (if j < i then j else i)) H) kMin := fun {G H as d vs f Q} s rs e k => by
  match as, e with
  | [.at (.int i), .at (.int j)], e =>
    cases e
    obtain ⟨v, u, f1, f2, rfl, _, r1, r2⟩ := rs.two
    rw [r1.at_inv.1, r2.at_inv.1]
    exact ⟨i, j, rfl, mk_at s k⟩
theorem m_max {K : PySem.W.Frag} {cl : Str → Option Addr} : MkA K cl (fun xs H Q => ∃ i j, xs = [.int i, .int j] ∧ Q (.int (if j > i then j else i)) H) kMax := fun {G H as d vs f Q} s rs e k => by
  match as, e with
  | [.at (.int i), .at (.int j)], e =>
    cases e
    obtain ⟨v, u, f1, f2, rfl, _, r1, r2⟩ := rs.two
    rw [r1.at_inv.1, r2.at_inv.1]
    exact ⟨i, j, rfl, mk_at s k⟩
/-- list(xs), of things that are not owned -/
def kList : List D → Option D
  | [.nd (.lst _) ds] => if nOws ds = true then some (.own ds) else none
  | [.nd .tup ds] => if nOws ds = true then some (.own ds) else none
  | _ => none
theorem m_list {K : PySem.W.Frag} {cl : Str → Option Addr} : MkA K cl (fun xs H Q => ∃ p ys, xs = [.ref p] ∧ (SqL K H p ys ∨ SqT K H p ys) ∧ ∀ l, H l = none → Q (.ref l) (upd H l (.lst ys))) kList := fun {G H as d vs f Q} s rs e k => by
  match as, e with
  | [.nd (.lst o) ds], e =>
    obtain ⟨hn, rfl⟩ := iteSome e
    obtain ⟨v, rfl, ra⟩ := rs.one
    obtain ⟨p, us, fs, rfl, c, r1, _⟩ := ra.lst_rd s
    have e1 := r1.fp_nil hn
    subst e1
    exact ⟨p, us, rfl, .inl c, mk_own s r1 k⟩
  | [.nd .tup ds], e =>
    obtain ⟨hn, rfl⟩ := iteSome e
    obtain ⟨v, rfl, ra⟩ := rs.one
    obtain ⟨p, us, fs, rfl, c, r1, _⟩ := ra.tup_rd s
    have e1 := r1.fp_nil hn
    subst e1
    exact ⟨p, us, rfl, .inr c, mk_own s r1 k⟩
def kTuple : List D → Option D
  | [.nd (.lst _) ds] => if nOws ds = true then some (.tup ds) else none
  | [.nd .tup ds] => if nOws ds = true then some (.tup ds) else none
  | _ => none
theorem m_tuple {K : PySem.W.Frag} {cl : Str → Option Addr} : MkA K cl (fun xs H Q => ∃ p ys, xs = [.ref p] ∧ ((SqL K H p ys ∧ ∀ l, H l = none → Q (.ref l) (upd H l (.tup ys))) ∨ (SqT K H p ys ∧ Q (.ref p) H))) kTuple := fun {G H as d vs f Q} s rs e k => by
  match as, e with
  | [.nd (.lst o) ds], e =>
    obtain ⟨hn, rfl⟩ := iteSome e
    obtain ⟨v, rfl, ra⟩ := rs.one
    obtain ⟨p, us, fs, rfl, c, r1, _⟩ := ra.lst_rd s
    have e1 := r1.fp_nil hn
    subst e1
    exact ⟨p, us, rfl, .inl ⟨c, mk_tup s r1 k⟩⟩
  | [.nd .tup ds], e =>
    obtain ⟨hn, rfl⟩ := iteSome e
    obtain ⟨v, rfl, ra⟩ := rs.one
    obtain ⟨p, us, rfl, c, r1⟩ := ra.tup_inv
    have e1 := r1.fp_nil hn
    subst e1
    exact ⟨p, us, rfl, .inr ⟨s.st c, mk_tupO s c r1 k⟩⟩
/-- isinstance -/
def tyN : D → Option String
  | .at .non => some "NoneType"
  | .at (.bl _) => some "bool"
  | .at (.int _) => some "int"
  | .at (.str _) => some "str"
  | .nd .tup _ => some "tuple"
  | .nd (.lst _) _ => some "list"
  | .nd (.dic true _) _ => some "dict"
  | _ => none
def kIsi : List D → Option D
  | [d, .at (.ty T)] => (tyN d).bind fun a => (kitB a T).map fun b => .at (.bl b)
  | _ => none
theorem ty_of {K : PySem.W.Frag} {cl : Str → Option Addr} {G H : Hp} (s : Sub G H) {d : D} {v : V} {f : List Addr} {t : String} (r : R K cl G H d v f) (e : tyN d = some t) : TyX K H v (.type t) := by
  match d, e with
  | .at .non, e => cases e; rw [r.at_inv.1]; exact .base .non
  | .at (.bl b), e => cases e; rw [r.at_inv.1]; exact .base (.bl b)
  | .at (.int b), e => cases e; rw [r.at_inv.1]; exact .base (.int b)
  | .at (.str b), e => cases e; rw [r.at_inv.1]; exact .base (.str b)
  | .nd .tup ds, e =>
    cases e
    obtain ⟨p, us, fs, rfl, c, r1, _⟩ := r.tup_rd s
    rcases c with (c | ⟨o, c⟩) | ⟨o, its, n, c1, c2, _⟩
    · exact .base (.tup c)
    · exact .fTuple c
    · exact .kTuple c1 c2
  | .nd (.lst o) ds, e =>
    cases e
    obtain ⟨p, us, fs, rfl, c, r1, _⟩ := r.lst_rd s
    rcases c with (c | ⟨o, c⟩) | ⟨o, its, n, c1, c2, _⟩
    · exact .base (.lst c)
    · exact .base (.frz c)
    · exact .kList c1 c2
  | .nd (.dic true ks) ds, e =>
    cases e
    unfold R at r
    obtain ⟨p, us, fs, rfl, ⟨hl, _, hk⟩, r1, _⟩ := r
    exact .base (.dK hk)
theorem m_isi {K : PySem.W.Frag} {cl : Str → Option Addr} : MkA K cl (rIsi K) kIsi := fun {G H as d vs f Q} s rs e k => by
  match as, e with
  | [a, .at (.ty T)], e =>
    obtain ⟨t, e1, e2⟩ := Option.bind_eq_some_iff.mp e
    obtain ⟨b, e3, rfl⟩ := Option.map_eq_some_iff.mp e2
    obtain ⟨v, u, f1, f2, rfl, _, r1, r2⟩ := rs.two
    rw [r2.at_inv.1]
    exact ⟨v, .ty T, .type t, .type T, b, rfl, .ty T, ty_of s r1 e1, kit_ty e3, mk_at s k⟩
/-- isinstance(x, (S, T)) -/
def kIsi2 : List D → Option D
  | [d, .nd .tup [.at (.ty S), .at (.ty T)]] => (tyN d).bind fun a => (kitB a S).bind fun b => (kitB a T).map fun c => .at (.bl (b || c))
  | _ => none
def rIsiA (K : PySem.W.Frag) : List V → Hp → VK → Prop := fun xs H Q => ∃ (x : V) (tp : Addr) (cs : List V) (t : Value) (us : List Value) (b : Bool), xs = [x, .ref tp] ∧ SqT K H tp cs ∧ Paired ClsV cs us ∧ TyX K H x t ∧ PySem.W.kitAny K t us = some b ∧ Q (.bl b) H
theorem call_isiA {X : Cx} : CallR X (.builtin "isinstance") (rIsiA X.K) := by
  intro pins s σ H xs us Q I r h
  obtain ⟨x, tp, cs, t, ws, b, rfl, hT, k, ty, e, q⟩ := h
  obtain ⟨u1, u2, rfl, r1, r2⟩ := vals2 r
  cases (show u2 = Value.ref tp from r2)
  obtain ⟨its, rv, ⟨o, ho, hc, n, hd⟩, _⟩ := I.tuple hT
  have e1 := ClsV.all k rv
  subst e1
  obtain ⟨P, Z, p, hx⟩ := kit_of I r1 ty
  obtain ⟨oc, od, odt, osl⟩ := o
  simp only at hc hd
  subst hc hd
  exact PySem.W.kia_tup Z I.kIn p ho e hx fun tk => ⟨.bl b, H, I.tok tk, rfl, q⟩
theorem m_isi2 {K : PySem.W.Frag} {cl : Str → Option Addr} : MkA K cl (rIsiA K) kIsi2 := fun {G H as d vs f Q} s rs e k => by
  match as, e with
  | [a, .nd .tup [.at (.ty S), .at (.ty T)]], e =>
    obtain ⟨t, e1, e2⟩ := Option.bind_eq_some_iff.mp e
    obtain ⟨b, e3, e4⟩ := Option.bind_eq_some_iff.mp e2
    obtain ⟨c, e5, rfl⟩ := Option.map_eq_some_iff.mp e4
    obtain ⟨v, u, f1, f2, rfl, _, r1, r2⟩ := rs.two
    obtain ⟨p, us, rfl, c2, r3⟩ := r2.tup_inv
    obtain ⟨v1, v2, g1, g2, rfl, _, r4, r5⟩ := r3.two
    rw [r4.at_inv.1, r5.at_inv.1] at c2
    refine ⟨v, p, [.ty S, .ty T], .type t, [.type S, .type T], b || c, rfl, s.st c2, .cons (.ty S) (.cons (.ty T) .nil), ty_of s r1 e1, ?_, mk_at s k⟩
    refine kitAny_cons (kit_ty e3) (fun h => ?_) fun h => by rw [h]; rfl
    refine kitAny_cons (kit_ty e5) (fun h2 => ?_) fun h2 => by rw [h2]; exact Bool.or_true _
    rw [h, h2]
    exact kitAny_nil
end DL

set_option maxRecDepth 100000
/-! DLP: rules for calls of built-in things, slices, and, or, not, lists that change. -/
namespace DL
open PySem L2 PySem.Spec PyProof.Rows

/-! ### argument lists that are only looked at -/
abbrev QL := En → Option (List D)
def tQl (K : PySem.W.Frag) (cl : Str → Option Addr) (g : QL) : TA := fun σ H Q => ∃ G ρ l ds, Ok G H l ∧ Es K cl G H ρ σ l ∧ g ρ = some ds ∧ ∀ vs G' H' f, Evq G H G' H' → Rs K cl G' H' ds vs f → Q vs H'
abbrev QA (X : Cx) (cl : Str → Option Addr) (es : List Expr) (g : QL) : Prop := PA X es (tQl X.K cl g)
def lNil : QL := fun _ => some []
def lCons (q : QF) (g : QL) : QL := fun ρ => (q ρ).bind fun d => (g ρ).map fun ds => d :: ds
def qA (k : List D → Option D) (g : QL) : QF := fun ρ => (g ρ).bind k
def vA (k : List D → Option D) (g : LF) : VF := rb g fun ds => rp (k ds)
section
variable {X : Cx} {cl : Str → Option Addr} {XP : XPost} {e : Expr} {es : List Expr}
theorem qa_nil : QA X cl [] lNil := pa_nil.imp fun σ H Q hh => by
  obtain ⟨G, ρ, l, ds, ok, es, e, p⟩ := hh
  cases e
  exact p [] G H [] (Evq.refl ok.sub) Rs.nil
theorem qa_cons {q : QF} {g : QL} (ha : QE X cl e q) (hr : QA X cl es g) (hs : starEach (e :: es) X.env = (false, eval e X.env) :: starEach es X.env := by rfl) : QA X cl (e :: es) (lCons q g) := (pa_cons ha hr hs).imp fun σ H Q hh => by
  obtain ⟨G, ρ, l, ds, ok, es, e, p⟩ := hh
  unfold lCons at e
  obtain ⟨d, e1, e2⟩ := Option.bind_eq_some_iff.mp e
  obtain ⟨ds', e3, rfl⟩ := Option.map_eq_some_iff.mp e2
  refine tQ.use ok es e1 fun v G1 H1 f ev1 rd => ?_
  exact ⟨G1, ρ, l, ds', ev1.ok ok, es.evq ev1 ok, e3, fun vs G2 H2 f2 ev2 rs => p (v :: vs) G2 H2 (f ++ f2) (ev1.trans ev2) (Rs.cons (rd.evq ev2 rd.on) rs)⟩
theorem tQA {K : PySem.W.Frag} {r : List V → Hp → VK → Prop} {k : List D → Option D} {g : QL} (m : MkA K cl r k) {σ : L2.St} {H : Hp} {Q : VK} (h : tQ K cl (qA k g) σ H Q) : tCB r (tQl K cl g) σ H Q := by
  obtain ⟨G, ρ, l, d, ok, es, e, p⟩ := h
  obtain ⟨ds, e1, e2⟩ := Option.bind_eq_some_iff.mp e
  refine ⟨G, ρ, l, ds, ok, es, e1, fun vs G1 H1 f ev rs => ?_⟩
  exact m ev.inn rs e2 fun u G3 H3 fu q n rd => p u G3 H3 fu (ev.trans q) rd
theorem tQAm {K : PySem.W.Frag} {r : List V → Hp → VK → Prop} {k : List D → Option D} {g : QL} (m : MkA K cl r k) {σ : L2.St} {H : Hp} {Q : VK} (h : tV K cl XP (mk (qA k g)) σ H Q) : tCB r (tQl K cl g) σ H Q := by
  obtain ⟨G, ρ, l, rr, ok, es, e, p⟩ := h
  obtain ⟨d, em, rfl⟩ := Option.map_eq_some_iff.mp e
  obtain ⟨ds, e1, e2⟩ := Option.bind_eq_some_iff.mp em
  refine ⟨G, ρ, l, ds, ok, es, e1, fun vs G1 H1 f ev rs => ?_⟩
  exact m ev.inn rs e2 fun u G3 H3 fu q n rd => p u G3 H3 fu l (ev.ev.trans (q.evf n)) (q.okf n (ev.ok ok)) rd (es.evq (ev.trans q) ok)
theorem tVA {K : PySem.W.Frag} {r : List V → Hp → VK → Prop} {k : List D → Option D} {g : LF} (m : MkA K cl r k) {σ : L2.St} {H : Hp} {Q : VK} (h : tV K cl XP (vA k g) σ H Q) : tCB r (tA K cl XP g) σ H Q := by
  obtain ⟨G, ρ, l, rr, ok, es, e, p⟩ := h
  refine tA.bind ok es e (fun ee ρ' z => by subst z; exact p) fun ds ρ1 e1 vs G1 H1 f1 l1 ev1 ok1 rs es1 => ?_
  obtain ⟨d, e3, rfl⟩ := rp_some e1
  refine m ok1.sub rs e3 fun u G3 H3 fu q n rd => ?_
  have o1 := ok1.split.2.1
  exact p u G3 H3 fu l1 ((ev1.less (l2 := l1) fun a h => List.mem_append_right _ h).trans (q.evf n)) (q.okf n o1) rd (es1.evq q o1)
theorem q_cb {e : Expr} {r : List V → Hp → VK → Prop} {k : List D → Option D} {g : QL} (h : PE X e (tCB r (tQl X.K cl g))) (m : MkA X.K cl r k) : QE X cl e (qA k g) := h.imp fun _ _ _ => tQA m
theorem m_cb {e : Expr} {r : List V → Hp → VK → Prop} {k : List D → Option D} {g : QL} (h : PE X e (tCB r (tQl X.K cl g))) (m : MkA X.K cl r k) : VE X cl XP e (mk (qA k g)) := h.imp fun _ _ _ => tQAm m
theorem v_cb {e : Expr} {r : List V → Hp → VK → Prop} {k : List D → Option D} {g : LF} (h : PE X e (tCB r (tA X.K cl XP g))) (m : MkA X.K cl r k) : VE X cl XP e (vA k g) := h.imp fun _ _ _ => tVA m

/-! ### slices -/
def cutD (xs : List D) (lo hi : Option Int) : List D := (xs.drop (HT.sIx xs.length 0 lo)).take (HT.sIx xs.length xs.length hi - HT.sIx xs.length 0 lo)
def kSl (lo hi : Option Int) : D → Option D
  | .nd (.lst _) ds => if nOws ds = true then some (.own (cutD ds lo hi)) else none
  | .nd .tup ds => if nOws ds = true then some (.tup (cutD ds lo hi)) else none
  | .at (.str z) => if z.length ≤ sizeLine then some (.at (.str (cutS z lo hi))) else none
  | _ => none
def rSlAll (K : PySem.W.Frag) : V → Option Int → Option Int → Hp → VK → Prop := fun x lo hi H Q => rSlL K x lo hi H Q ∨ (rSlA K x lo hi H Q ∨ rSlS x lo hi H Q)
theorem sl_all : SlR X (rSlAll X.K) := sl_list.or (sl_tupA.or sl_str)
theorem m_sl {K : PySem.W.Frag} {lo hi : Option Int} {G H : Hp} {a d : D} {v : V} {f : List Addr} {Q : VK} (s : Sub G H) (ra : R K cl G H a v f) (e : kSl lo hi a = some d)
    (k : ∀ u G' H' fu, Evq G H G' H' → Fresh H G' H' fu → R K cl G' H' d u fu → Q u H') : rSlAll K v lo hi H Q := by
  match a, e with
  | .nd (.lst o) ds, e =>
    obtain ⟨hn, rfl⟩ := iteSome e
    obtain ⟨p, us, fs, rfl, c, r1, _⟩ := ra.lst_rd s
    have e1 := r1.fp_nil hn
    subst e1
    refine .inl ⟨p, us, rfl, c, mk_own s ?_ k⟩
    unfold cutV cutD
    rw [r1.length]
    exact (r1.drop _).take _
  | .nd .tup ds, e =>
    obtain ⟨hn, rfl⟩ := iteSome e
    obtain ⟨p, us, rfl, c, r1⟩ := ra.tup_inv
    have e1 := r1.fp_nil hn
    subst e1
    refine .inr (.inl ⟨p, us, rfl, s.st c, fun h => ?_, fun _ => mk_tup s ?_ k⟩)
    · rw [r1.length] at h
      have e2 : cutD ds lo hi = ds := by
        unfold cutD
        rw [h.1, h.2, List.drop_zero, Nat.sub_zero, List.take_length]
      rw [e2] at k
      exact mk_tupO s c r1 k
    · unfold cutV cutD
      rw [r1.length]
      exact (r1.drop _).take _
  | .at (.str z), e =>
    obtain ⟨hz, rfl⟩ := iteSome e
    exact .inr (.inr ⟨z, ra.at_inv.1, hz, mk_at s k⟩)
/-- a part of a slice, looked at -/
abbrev QO := En → Option (Option Int)
def oNone : QO := fun _ => some none
def asI : D → Option Int
  | .at (.int i) => some i
  | _ => none
theorem asI_some {d : D} {i : Int} (h : asI d = some i) : d = .at (.int i) := by
  match d, h with
  | .at (.int j), h => cases h; rfl
def oSome (q : QF) : QO := fun ρ => ((q ρ).bind asI).map some
def tQo (K : PySem.W.Frag) (cl : Str → Option Addr) (q : QO) : TO := fun σ H Q => ∃ G ρ l o, Ok G H l ∧ Es K cl G H ρ σ l ∧ q ρ = some o ∧ ∀ G' H', Evq G H G' H' → Q o H'
theorem o_none : PO X none (tQo X.K cl oNone) := ⟨fun pins s σ H Q I h => po_none.run pins s σ H Q I (by
  obtain ⟨G, ρ, l, o, ok, es, e, p⟩ := h
  cases e
  exact p G H (Evq.refl ok.sub))⟩
theorem o_some {q : QF} (ha : QE X cl e q) : PO X (some e) (tQo X.K cl (oSome q)) := ⟨fun pins s σ H Q I h => (po_some ha).run pins s σ H Q I (by
  obtain ⟨G, ρ, l, o, ok, es, e, p⟩ := h
  obtain ⟨i, e1, rfl⟩ := Option.map_eq_some_iff.mp e
  obtain ⟨d, e2, e3⟩ := Option.bind_eq_some_iff.mp e1
  refine tQ.use ok es e2 fun v G1 H1 f ev rd => ?_
  rw [asI_some e3] at rd
  exact ⟨i, rd.at_inv.1, p G1 H1 ev⟩)⟩
def qSl (q : QF) (lo hi : QO) : QF := fun ρ => (q ρ).bind fun d => (lo ρ).bind fun a => (hi ρ).bind fun b => kSl a b d
def vSl (f : VF) (lo hi : QO) : VF := rb f fun d ρ => (lo ρ).bind fun a => (hi ρ).bind fun b => (kSl a b d).map fun r => .v r ρ
variable {lo hi : Option Expr} {pos p2 : Pos}
theorem q_sl {q : QF} {ql qh : QO} (ha : QE X cl e q) (hl : PO X lo (tQo X.K cl ql)) (hh : PO X hi (tQo X.K cl qh)) : QE X cl (.Subscript e (.Slice lo hi none p2) pos) (qSl q ql qh) := (pe_slice sl_all ha hl hh).imp fun σ H Q h => by
  obtain ⟨G, ρ, l, d, ok, es, e, p⟩ := h
  obtain ⟨a, e1, e⟩ := Option.bind_eq_some_iff.mp e
  obtain ⟨x, e2, e⟩ := Option.bind_eq_some_iff.mp e
  obtain ⟨y, e3, e⟩ := Option.bind_eq_some_iff.mp e
  refine tQ.use ok es e1 fun v G1 H1 f ev1 ra => ?_
  refine ⟨G1, ρ, l, x, ev1.ok ok, es.evq ev1 ok, e2, fun G2 H2 ev2 => ?_⟩
  have ev12 := ev1.trans ev2
  refine ⟨G2, ρ, l, y, ev12.ok ok, es.evq ev12 ok, e3, fun G3 H3 ev3 => ?_⟩
  have ev23 := ev2.trans ev3
  exact m_sl ev3.inn (ra.evq ev23 ra.on) e fun u G4 H4 fu q4 n rd => p u G4 H4 fu ((ev1.trans ev23).trans q4) rd
theorem m_slice {q : QF} {ql qh : QO} (ha : QE X cl e q) (hl : PO X lo (tQo X.K cl ql)) (hh : PO X hi (tQo X.K cl qh)) : VE X cl XP (.Subscript e (.Slice lo hi none p2) pos) (mk (qSl q ql qh)) := (pe_slice sl_all ha hl hh).imp fun σ H Q h => by
  obtain ⟨G, ρ, l, rr, ok, es, e, p⟩ := h
  obtain ⟨d, em, rfl⟩ := Option.map_eq_some_iff.mp e
  obtain ⟨a, e1, em⟩ := Option.bind_eq_some_iff.mp em
  obtain ⟨x, e2, em⟩ := Option.bind_eq_some_iff.mp em
  obtain ⟨y, e3, em⟩ := Option.bind_eq_some_iff.mp em
  refine tQ.use ok es e1 fun v G1 H1 f ev1 ra => ?_
  refine ⟨G1, ρ, l, x, ev1.ok ok, es.evq ev1 ok, e2, fun G2 H2 ev2 => ?_⟩
  have ev12 := ev1.trans ev2
  refine ⟨G2, ρ, l, y, ev12.ok ok, es.evq ev12 ok, e3, fun G3 H3 ev3 => ?_⟩
  have ev23 := ev2.trans ev3
  have ev := ev1.trans ev23
  exact m_sl ev3.inn (ra.evq ev23 ra.on) em fun u G4 H4 fu q4 n rd => p u G4 H4 fu l (ev.ev.trans (q4.evf n)) (q4.okf n (ev.ok ok)) rd (es.evq (ev.trans q4) ok)
theorem v_sl {f : VF} {ql qh : QO} (ha : VE X cl XP e f) (hl : PO X lo (tQo X.K cl ql)) (hh : PO X hi (tQo X.K cl qh)) : VE X cl XP (.Subscript e (.Slice lo hi none p2) pos) (vSl f ql qh) := (pe_slice sl_all ha hl hh).imp fun σ H Q h => by
  obtain ⟨G, ρ, l, rr, ok, es, e, p⟩ := h
  refine tV.bind ok es e (fun ee ρ' z => by subst z; exact p) fun da ρ1 e1 v G1 H1 f1 l1 ev1 ok1 ra es1 => ?_
  obtain ⟨x, e2, e1⟩ := Option.bind_eq_some_iff.mp e1
  obtain ⟨y, e3, e1⟩ := Option.bind_eq_some_iff.mp e1
  obtain ⟨d, e4, rfl⟩ := Option.map_eq_some_iff.mp e1
  have o1 := ok1.split.2.1
  refine ⟨G1, ρ1, l1, x, o1, es1, e2, fun G2 H2 ev2 => ?_⟩
  refine ⟨G2, ρ1, l1, y, ev2.ok o1, es1.evq ev2 o1, e3, fun G3 H3 ev3 => ?_⟩
  have ev := ev2.trans ev3
  exact m_sl ev3.inn (ra.evq ev ra.on) e4 fun u G4 H4 fu q4 n rd => p u G4 H4 fu l1 ((ev1.less (l2 := l1) fun a h => List.mem_append_right _ h).trans (ev.ev.trans (q4.evf n))) (q4.okf n (ev.ok o1)) rd (es1.evq (ev.trans q4) o1)

/-! ### and, or, not, if-else -/
def bAnd (f g : BF) : BF := rb f fun b => if b = true then g else fun ρ => some (.v false ρ)
def bOr (f g : BF) : BF := rb f fun b => if b = true then fun ρ => some (.v true ρ) else g
def bNot (f : BF) : BF := rb f fun b ρ => some (.v (!b) ρ)
def vAnd (f g : VF) : VF := rb (vB f) fun b => if b = true then g else fun ρ => some (.v (.at (.bl false)) ρ)
def vOr (f g : VF) : VF := rb (vB f) fun b => if b = true then fun ρ => some (.v (.at (.bl true)) ρ) else g
def vNot (f : VF) : VF := rb (vB f) fun b ρ => some (.v (.at (.bl (!b))) ρ)
def vIf (c : BF) (f g : VF) : VF := rb c fun b => if b = true then f else g
abbrev WE' (X : Cx) (cl : Str → Option Addr) (XP : XPost) (e : Expr) (f : BF) : Prop := PW X e (tT X.K cl XP f)
theorem tT.bind {K : PySem.W.Frag} {G H : Hp} {l : List Addr} {σ : L2.St} {f : BF} {g : Bool → BF} {ρ : En} {r : Rr Bool} {Q : Bool → Hp → Prop} (ok : Ok G H l) (es : Es K cl G H ρ σ l) (e : rb f g ρ = some r)
    (px : ∀ ee ρ', r = .x ee ρ' → ∀ G' H' l', Ev G H l G' H' l' → Ok G' H' l' → Es K cl G' H' ρ' σ l' → XP ee ρ' G' H' l' σ)
    (k : ∀ b ρ', g b ρ' = some r → ∀ G' H' l', Ev G H l G' H' l' → Ok G' H' l' → Es K cl G' H' ρ' σ l' → Q b H') : tT K cl XP f σ H Q := by
  unfold rb at e
  cases h : f ρ with
  | none => rw [h] at e; cases e
  | some y =>
    rw [h] at e
    cases y with
    | x ee ρ' =>
      cases e
      exact ⟨G, ρ, l, .x ee ρ', ok, es, h, px ee ρ' rfl⟩
    | v b ρ' => exact ⟨G, ρ, l, .v b ρ', ok, es, h, fun G' H' l' ev o ee => k b ρ' e G' H' l' ev o ee⟩
theorem tT.bindV {K : PySem.W.Frag} {G H : Hp} {l : List Addr} {σ : L2.St} {f : BF} {g : Bool → VF} {ρ : En} {r : Rr D} {Q : Bool → Hp → Prop} (ok : Ok G H l) (es : Es K cl G H ρ σ l) (e : rb f g ρ = some r)
    (px : ∀ ee ρ', r = .x ee ρ' → ∀ G' H' l', Ev G H l G' H' l' → Ok G' H' l' → Es K cl G' H' ρ' σ l' → XP ee ρ' G' H' l' σ)
    (k : ∀ b ρ', g b ρ' = some r → ∀ G' H' l', Ev G H l G' H' l' → Ok G' H' l' → Es K cl G' H' ρ' σ l' → Q b H') : tT K cl XP f σ H Q := by
  unfold rb at e
  cases h : f ρ with
  | none => rw [h] at e; cases e
  | some y =>
    rw [h] at e
    cases y with
    | x ee ρ' =>
      cases e
      exact ⟨G, ρ, l, .x ee ρ', ok, es, h, px ee ρ' rfl⟩
    | v b ρ' => exact ⟨G, ρ, l, .v b ρ', ok, es, h, fun G' H' l' ev o ee => k b ρ' e G' H' l' ev o ee⟩
theorem _root_.L2.PW.imp {X : Cx} {e : Expr} {t t' : TT} (h : PW X e t) (k : ∀ σ H Q, t' σ H Q → t σ H Q) : PW X e t' := ⟨fun wh pins s σ H Q I q => h.run wh pins s σ H Q I (k σ H Q q)⟩
variable {a b : Expr} {rest : List Expr} {fa fb : BF}
theorem b_w {e : Expr} {f : BF} (h : WE' X cl XP e f) : BE X cl XP e f := h.pt
theorem w_and1 (ha : BE X cl XP a fa) : WE' X cl XP (.BoolOp .And [a] pos) fa := pw_and1 ha
theorem w_or1 (ha : BE X cl XP a fa) : WE' X cl XP (.BoolOp .Or [a] pos) fa := pw_or1 ha
theorem w_and (ha : BE X cl XP a fa) (hb : WE' X cl XP (.BoolOp .And (b :: rest) pos) fb) : WE' X cl XP (.BoolOp .And (a :: b :: rest) pos) (bAnd fa fb) := (pw_and ha hb).imp fun σ H Q h => by
  obtain ⟨G, ρ, l, rr, ok, es, e, p⟩ := h
  refine tT.bind ok es e (fun ee ρ' z => by subst z; exact p) fun c ρ1 e1 G1 H1 l1 ev1 ok1 es1 => ?_
  cases c with
  | true => exact iteT ⟨G1, ρ1, l1, rr, ok1, es1, e1, p.step ev1⟩
  | false => cases e1; exact iteF (p G1 H1 l1 ev1 ok1 es1)
theorem w_or (ha : BE X cl XP a fa) (hb : WE' X cl XP (.BoolOp .Or (b :: rest) pos) fb) : WE' X cl XP (.BoolOp .Or (a :: b :: rest) pos) (bOr fa fb) := (pw_or ha hb).imp fun σ H Q h => by
  obtain ⟨G, ρ, l, rr, ok, es, e, p⟩ := h
  refine tT.bind ok es e (fun ee ρ' z => by subst z; exact p) fun c ρ1 e1 G1 H1 l1 ev1 ok1 es1 => ?_
  cases c with
  | true => cases e1; exact iteT (p G1 H1 l1 ev1 ok1 es1)
  | false => exact iteF ⟨G1, ρ1, l1, rr, ok1, es1, e1, p.step ev1⟩
theorem b_not (ha : BE X cl XP a fa) : BE X cl XP (.UnaryOp .Not a pos) (bNot fa) := (pt_not ha).imp fun σ H Q h => by
  obtain ⟨G, ρ, l, rr, ok, es, e, p⟩ := h
  refine tT.bind ok es e (fun ee ρ' z => by subst z; exact p) fun c ρ1 e1 G1 H1 l1 ev1 ok1 es1 => ?_
  cases e1
  exact p G1 H1 l1 ev1 ok1 es1
theorem vB_bind {K : PySem.W.Frag} {G H : Hp} {l : List Addr} {σ : L2.St} {f : VF} {g : Bool → VF} {ρ : En} {r : Rr D} {Q : VK} (ok : Ok G H l) (es : Es K cl G H ρ σ l) (e : rb (vB f) g ρ = some r)
    (px : ∀ ee ρ', r = .x ee ρ' → ∀ G' H' l', Ev G H l G' H' l' → Ok G' H' l' → Es K cl G' H' ρ' σ l' → XP ee ρ' G' H' l' σ)
    (k : ∀ b ρ', g b ρ' = some r → ∀ G' H' l', Ev G H l G' H' l' → Ok G' H' l' → Es K cl G' H' ρ' σ l' → Q (.bl b) H') : tV K cl XP f σ H Q := by
  unfold vB rb at e
  cases h : f ρ with
  | none => rw [h] at e; cases e
  | some y =>
    rw [h] at e
    cases y with
    | x ee ρ' =>
      cases e
      exact ⟨G, ρ, l, .x ee ρ', ok, es, h, px ee ρ' rfl⟩
    | v d ρ' =>
      dsimp only at e
      cases hd : asB d with
      | none => rw [hd] at e; cases e
      | some c =>
        rw [hd] at e
        refine ⟨G, ρ, l, .v d ρ', ok, es, h, fun v G' H' fv l' ev o rd ee => ?_⟩
        rw [asB_some hd] at rd
        rw [rd.at_inv.1]
        exact k c ρ' e G' H' l' (ev.less fun a h => List.mem_append_right _ h) o.split.2.1 ee
variable {va vb : VF}
theorem v_one {op} (h : VE X cl XP a va) : VE X cl XP (.BoolOp op [a] pos) va := pe_one h
theorem v_and (ha : VE X cl XP a va) (hb : VE X cl XP (.BoolOp .And (b :: rest) pos) vb) : VE X cl XP (.BoolOp .And (a :: b :: rest) pos) (vAnd va vb) := (pe_and ha hb).imp fun σ H Q h => by
  obtain ⟨G, ρ, l, rr, ok, es, e, p⟩ := h
  refine vB_bind ok es e (fun ee ρ' z => by subst z; exact p) fun c ρ1 e1 G1 H1 l1 ev1 ok1 es1 => ⟨c, rfl, ?_⟩
  cases c with
  | true => exact iteT ⟨G1, ρ1, l1, rr, ok1, es1, e1, p.step ev1⟩
  | false => cases e1; exact iteF (p (.bl false) G1 H1 [] l1 ev1 ok1 (R.at _) es1)
theorem v_or (ha : VE X cl XP a va) (hb : VE X cl XP (.BoolOp .Or (b :: rest) pos) vb) : VE X cl XP (.BoolOp .Or (a :: b :: rest) pos) (vOr va vb) := (pe_or ha hb).imp fun σ H Q h => by
  obtain ⟨G, ρ, l, rr, ok, es, e, p⟩ := h
  refine vB_bind ok es e (fun ee ρ' z => by subst z; exact p) fun c ρ1 e1 G1 H1 l1 ev1 ok1 es1 => ⟨c, rfl, ?_⟩
  cases c with
  | true => cases e1; exact iteT (p (.bl true) G1 H1 [] l1 ev1 ok1 (R.at _) es1)
  | false => exact iteF ⟨G1, ρ1, l1, rr, ok1, es1, e1, p.step ev1⟩
theorem v_not (ha : VE X cl XP a va) : VE X cl XP (.UnaryOp .Not a pos) (vNot va) := (pe_not ha).imp fun σ H Q h => by
  obtain ⟨G, ρ, l, rr, ok, es, e, p⟩ := h
  refine vB_bind ok es e (fun ee ρ' z => by subst z; exact p) fun c ρ1 e1 G1 H1 l1 ev1 ok1 es1 => ⟨c, rfl, ?_⟩
  cases e1
  exact p _ G1 H1 [] l1 ev1 ok1 (R.at _) es1
theorem v_if {c : Expr} {fc : BF} (hc : BE X cl XP c fc) (ha : VE X cl XP a va) (hb : VE X cl XP b vb) : VE X cl XP (.IfExp c a b pos) (vIf fc va vb) := (pe_ifExp hc ha hb).imp fun σ H Q h => by
  obtain ⟨G, ρ, l, rr, ok, es, e, p⟩ := h
  refine tT.bindV ok es e (fun ee ρ' z => by subst z; exact p) fun c ρ1 e1 G1 H1 l1 ev1 ok1 es1 => ?_
  cases c with
  | true => exact iteT ⟨G1, ρ1, l1, rr, ok1, es1, e1, p.step ev1⟩
  | false => exact iteF ⟨G1, ρ1, l1, rr, ok1, es1, e1, p.step ev1⟩
/-! truth of things -/
def truD : D → Option Bool
  | .at .non => some false
  | .at (.bl b) => some b
  | .at (.int i) => some (i != 0)
  | .at (.str y) => if y.length ≤ sizeLine then some ((y.length : Int) != 0) else none
  | .nd .tup ds => some (!ds.isEmpty)
  | .nd (.lst _) ds => some (!ds.isEmpty)
  | _ => none
theorem tru_of {K : PySem.W.Frag} {G H : Hp} (s : Sub G H) {d : D} {v : V} {f : List Addr} {b : Bool} (r : R K cl G H d v f) (e : truD d = some b) : TruV K v H b := by
  match d, e with
  | .at .non, e => cases e; rw [r.at_inv.1]; rfl
  | .at (.bl c), e => cases e; rw [r.at_inv.1]; rfl
  | .at (.int i), e => cases e; rw [r.at_inv.1]; rfl
  | .at (.str y), e =>
    obtain ⟨hz, rfl⟩ := iteSome e
    rw [r.at_inv.1]
    exact ⟨hz, rfl⟩
  | .nd .tup ds, e =>
    cases e
    obtain ⟨p, us, fs, rfl, c, r1, _⟩ := r.tup_rd s
    refine .inr (.inl ⟨us, c, ?_⟩)
    have hl := r1.length
    cases ds <;> cases us <;> simp_all
  | .nd (.lst o) ds, e =>
    cases e
    obtain ⟨p, us, fs, rfl, c, r1, _⟩ := r.lst_rd s
    refine .inl ⟨us, c, ?_⟩
    have hl := r1.length
    cases ds <;> cases us <;> simp_all
def qT (q : QF) : BF := fun ρ => ((q ρ).bind truD).map fun b => .v b ρ
theorem b_tru {q : QF} (h : QE X cl e q) (he : ∀ whole, isTrue e X.env whole = (do let v ← whole; standAt e.pos; holding [v] (truthy v)) := by intro _; rfl) : BE X cl XP e (qT q) := (pt_truth h he).imp fun σ H Q hh => by
  obtain ⟨G, ρ, l, rr, ok, es, e, p⟩ := hh
  obtain ⟨b, em, rfl⟩ := Option.map_eq_some_iff.mp e
  obtain ⟨d, e1, e2⟩ := Option.bind_eq_some_iff.mp em
  exact tQ.use ok es e1 fun v G1 H1 f ev rd => ⟨b, tru_of ev.inn rd e2, p G1 H1 l ev.ev (ev.ok ok) (es.evq ev ok)⟩
end
end DL

set_option maxRecDepth 100000
/-! DLM: lists that change in place; op=. -/
namespace DL
open PySem L2 PySem.Spec PyProof.Rows

section
variable {K : PySem.W.Frag} {cl : Str → Option Addr} {G H : Hp} {l m : List Addr} {σ : L2.St}
theorem R.own_inv {ds : List D} {v : V} {f : List Addr} (r : R K cl G H (.own ds) v f) : ∃ a vs fs, v = .ref a ∧ H a = some (.lst vs) ∧ Rs K cl G H ds vs fs ∧ f = a :: fs := by
  unfold R at r
  obtain ⟨a, vs, fs, e, c, rs, q⟩ := r
  rw [if_pos (show (Kd.lst true).ow = true from rfl)] at q
  exact ⟨a, vs, fs, e, c, rs, q⟩
theorem St.same {σ : L2.St} {i : Nat} {v : V} (e : σ[i]? = some (some v)) : σ.set i (some v) = σ := by
  apply List.ext_getElem?
  intro j
  by_cases hj : i = j
  · subst hj
    rw [e]
    obtain ⟨hl, _⟩ := List.getElem?_eq_some_iff.mp e
    rw [List.getElem?_set_self hl]
  · rw [List.getElem?_set_ne hj]
/-- the list in slot i changes: m are new things that may go into it -/
theorem Es.mutL {ρ : En} {i : Nat} {ds : List D} (ok : Ok G H (m ++ l)) (es : Es K cl G H ρ σ l) (e : look ρ i = some (.own ds)) : ∃ a vs fs, σ[i]? = some (some (.ref a)) ∧ H a = some (.lst vs) ∧ Rs K cl G H ds vs fs ∧
    ∀ (ds' : List D) (vs' : List V) (fu f' : List Addr), (∃ rest, (rest ++ (fu ++ f')).Perm (m ++ fs)) → ((∀ x ∈ m ++ fs, upd H a (.lst vs') x = H x) → Rs K cl G (upd H a (.lst vs')) ds' vs' f') →
      (∀ x ∈ m ++ fs, upd H a (.lst vs') x = H x) ∧ ∃ l', Ev G H (m ++ l) G (upd H a (.lst vs')) (fu ++ l') ∧ Ok G (upd H a (.lst vs')) (fu ++ l') ∧ Es K cl G (upd H a (.lst vs')) (ρ.set i (some (.own ds'))) σ l' := by
  obtain ⟨v, f, pre, post, e1, rfl, r, k, _⟩ := es.at (look_some e)
  obtain ⟨a, vs, fs, rfl, hv, rs, rfl⟩ := r.own_inv
  refine ⟨a, vs, fs, e1, hv, rs, fun ds' vs' fu f' ⟨rest, pm⟩ hr => ?_⟩
  have pm0 : (m ++ (pre ++ (a :: fs ++ post))).Perm (a :: (m ++ fs ++ (pre ++ post))) := by
    have h1 : (pre ++ (a :: fs ++ post)).Perm (a :: (fs ++ (pre ++ post))) := by
      have : (pre ++ (a :: fs ++ post)).Perm ((a :: fs) ++ (pre ++ post)) := by
        rw [← List.append_assoc, ← List.append_assoc]
        exact List.Perm.append_right _ List.perm_append_comm
      simpa using this
    refine (List.Perm.append_left m h1).trans ?_
    refine List.perm_middle.trans ?_
    rw [List.append_assoc]
  have okA := ok.perm pm0
  have hna : a ∉ m ++ fs ++ (pre ++ post) := (List.nodup_cons.mp okA.nd).1
  have hne : ∀ x, x ≠ a → upd H a (.lst vs') x = H x := fun x h => upd_ne h
  have stay : ∀ x ∈ m ++ fs, upd H a (.lst vs') x = H x := fun x hx => hne x fun z => hna (z ▸ List.mem_append_left _ hx)
  refine ⟨stay, pre ++ (a :: f' ++ post), ?_⟩
  have sub' : Sub G (upd H a (.lst vs')) := fun x o ex => by
    have hx : x ≠ a := fun z => by
      have := okA.out a List.mem_cons_self
      rw [z, this] at ex; cases ex
    rw [hne x hx]; exact ok.sub x o ex
  have pm1 : (fu ++ (pre ++ (a :: f' ++ post))).Perm (a :: ((fu ++ f') ++ (pre ++ post))) := by
    have h1 : (pre ++ (a :: f' ++ post)).Perm (a :: (f' ++ (pre ++ post))) := by
      have : (pre ++ (a :: f' ++ post)).Perm ((a :: f') ++ (pre ++ post)) := by
        rw [← List.append_assoc, ← List.append_assoc]
        exact List.Perm.append_right _ List.perm_append_comm
      simpa using this
    refine (List.Perm.append_left fu h1).trans (List.perm_middle.trans ?_)
    rw [List.append_assoc]
  have mem1 : ∀ x ∈ fu ++ (pre ++ (a :: f' ++ post)), x ∈ m ++ (pre ++ (a :: fs ++ post)) := fun x hx => by
    refine pm0.mem_iff.mpr ?_
    rcases List.mem_cons.mp (pm1.mem_iff.mp hx) with z | z
    · rw [z]; exact List.mem_cons_self
    · refine List.mem_cons_of_mem _ ?_
      rcases List.mem_append.mp z with y | y
      · exact List.mem_append_left _ (pm.mem_iff.mp (List.mem_append_right _ y))
      · exact List.mem_append_right _ y
  have nd1 : (fu ++ (pre ++ (a :: f' ++ post))).Nodup := by
    refine pm1.nodup_iff.mpr ?_
    have nd0 := List.nodup_cons.mp okA.nd
    have big : (rest ++ (fu ++ f') ++ (pre ++ post)).Nodup := (List.Perm.append_right _ pm).nodup_iff.mpr nd0.2
    refine List.nodup_cons.mpr ⟨fun z => ?_, big.sublist ?_⟩
    · rcases List.mem_append.mp z with y | y
      · exact hna (List.mem_append_left _ (pm.mem_iff.mp (List.mem_append_right _ y)))
      · exact hna (List.mem_append_right _ y)
    · exact List.Sublist.append (List.sublist_append_right _ _) (List.Sublist.refl _)
  have onE : ∀ x, H x ≠ none → upd H a (.lst vs') x ≠ none := fun x hx => by
    by_cases hxa : x = a
    · rw [hxa, upd_same]; exact fun z => nomatch z
    · rw [hne x hxa]; exact hx
  refine ⟨⟨Sub.refl _, fun x o ex hx => ?_, fun x hx => .inl (mem1 x hx), fun x g _ _ => g, onE⟩, ⟨nd1, sub', fun x hx => ok.out x (mem1 x hx), fun x hx => onE x (ok.on x (mem1 x hx))⟩, ?_⟩
  · rw [hne x fun z => hx (by rw [z]; exact pm0.mem_iff.mpr List.mem_cons_self)]; exact ex
  · have q := k G (upd H a (.lst vs')) (.own ds') (.ref a) (a :: f') (Sub.refl _) (fun x hx => hne x fun z => hna (z ▸ List.mem_append_right _ hx)) (R.ndO upd_same (hr stay))
    rw [St.same e1] at q
    exact q
end

/-- a method that changes a list: its content, the arguments; what it hands back, the new content -/
def MkM (K : PySem.W.Frag) (cl : Str → Option Addr) (r : V → List V → Hp → VK → Prop) (k : List D → List D → Option (D × List D)) : Prop := ∀ {G H : Hp} {a : Addr} {ds : List D} {vs : List V} {fs : List Addr} {as : List D} {us : List V} {m : List Addr} {d : D} {ds' : List D} {Q : VK},
  Sub G H → H a = some (.lst vs) → Rs K cl G H ds vs fs → Rs K cl G H as us m → k ds as = some (d, ds') →
  (∀ (u : V) (vs' : List V) (fu f' : List Addr), (∃ rest, (rest ++ (fu ++ f')).Perm (m ++ fs)) → (∀ H', (∀ x ∈ m ++ fs, H' x = H x) → R K cl G H' d u fu ∧ Rs K cl G H' ds' vs' f') → Q u (upd H a (.lst vs'))) → r (.ref a) us H Q
def isL : Option D → Bool
  | some (.nd (.lst true) _) => true
  | _ => false
def vMut (k : List D → List D → Option (D × List D)) (i : Nat) (g : LF) : VF := fun ρ => if isL (look ρ i) = true then rb g (fun as ρ' => match look ρ' i with
  | some (.nd (.lst true) ds) => (k ds as).map fun p => .v p.1 (ρ'.set i (some (.own p.2)))
  | _ => none) ρ else none
theorem isL_some {o : Option D} (h : isL o = true) : ∃ ds, o = some (.own ds) := by
  match o, h with
  | some (.nd (.lst true) ds), _ => exact ⟨ds, rfl⟩
section
variable {X : Cx} {cl : Str → Option Addr} {XP : XPost} {w : List Nat}
theorem v_mut {e : Expr} {i : Nat} {g : LF} {r : V → List V → Hp → VK → Prop} {k : List D → List D → Option (D × List D)} (h : PE X e (tBM X.K "list" r (tVar i) (tA X.K cl XP g))) (m : MkM X.K cl r k) : VE X cl XP e (vMut k i g) := h.imp fun σ H Q hh => by
  obtain ⟨G, ρ, l, rr, ok, es, e, p⟩ := hh
  unfold vMut at e
  split at e
  · rename_i hl
    obtain ⟨ds0, el⟩ := isL_some hl
    obtain ⟨v, f, pre, post, ev, _, r0, _, _⟩ := es.at (look_some el)
    obtain ⟨a, vs0, fs0, rfl, hv0, _, _⟩ := r0.own_inv
    refine ⟨.ref a, ev, .inl ⟨rfl, vs0, .inl (.inl hv0)⟩, ?_⟩
    refine tA.bind ok es e (fun ee ρ' z => by subst z; exact p) fun as ρ1 e1 us G1 H1 m1 l1 ev1 ok1 rs es1 => ?_
    match hlk : look ρ1 i, e1 with
    | some (.nd (.lst true) ds), e1 =>
      obtain ⟨⟨d, ds'⟩, e2, rfl⟩ := Option.map_eq_some_iff.mp e1
      obtain ⟨a', vs, fs, ea, hv, rds, kk⟩ := es1.mutL ok1 hlk
      rw [ev] at ea
      cases ea
      refine m ok1.sub hv rds rs e2 fun u vs' fu f' pm hR => ?_
      obtain ⟨st, l', ev2, ok2, es2⟩ := kk ds' vs' fu f' pm fun st => (hR _ st).2
      exact p u G1 _ fu l' (ev1.trans ev2) ok2 (hR _ st).1 es2
  · cases e

def kAppend (ds as : List D) : Option (D × List D) := match as with
  | [d] => if ds.length < sizeLine then some (.non, ds ++ [d]) else none
  | _ => none
def kInsert (ds as : List D) : Option (D × List D) := match as with
  | [.at (.int i), d] => if ds.length < sizeLine ∧ 0 ≤ i ∧ i < 2 ^ 63 then some (.non, ds.take i.toNat ++ [d] ++ ds.drop i.toNat) else none
  | _ => none
def kPop (ds as : List D) : Option (D × List D) := match as with
  | [] => (ds[ds.length - 1]?).map fun d => (d, ds.dropLast)
  | _ => none
def kExtend (ds as : List D) : Option (D × List D) := match as with
  | [.nd (.lst _) es] => if nOws es = true ∧ ds.length + es.length ≤ sizeLine then some (.non, ds ++ es) else none
  | _ => none
theorem mm_append {K : PySem.W.Frag} : MkM K cl rAppend kAppend := fun {G H a ds vs fs as us m d ds' Q} s hv rds ras e k => by
  match as, e with
  | [x], e =>
    obtain ⟨hz, e1⟩ := iteSome e
    cases e1
    obtain ⟨u, rfl, rx⟩ := ras.one
    exact ⟨a, vs, u, rfl, rfl, hv, by rw [rds.length]; exact hz, k .non (vs ++ [u]) [] (fs ++ m) ⟨[], by simpa using List.perm_append_comm⟩ fun H' st => ⟨R.at _, (rds.mono (Sub.refl _) fun x hx => st x (List.mem_append_right _ hx)).append (by
      have := Rs.cons (rx.mono (Sub.refl _) fun x hx => st x (List.mem_append_left _ hx)) (Rs.nil (K := K) (cl := cl) (G := G) (H := H'))
      simpa using this)⟩⟩
theorem Rs.split {K : PySem.W.Frag} {cl : Str → Option Addr} {G H : Hp} : ∀ {ds : List D} {vs : List V} {fs : List Addr} (n : Nat), Rs K cl G H ds vs fs → ∃ f1 f2, fs = f1 ++ f2 ∧ Rs K cl G H (ds.take n) (vs.take n) f1 ∧ Rs K cl G H (ds.drop n) (vs.drop n) f2
  | ds, vs, fs, 0, r => ⟨[], fs, rfl, by simp only [List.take_zero]; exact Rs.nil, r⟩
  | [], vs, fs, n + 1, r => by
    unfold Rs at r
    rw [r.1, r.2]
    exact ⟨[], [], rfl, Rs.nil, Rs.nil⟩
  | d :: ds, vs, fs, n + 1, r => by
    obtain ⟨v, us, f, g, rfl, rfl, r1, r2⟩ := r.inv
    obtain ⟨f1, f2, rfl, r3, r4⟩ := r2.split n
    exact ⟨f ++ f1, f2, by rw [List.append_assoc], Rs.cons r1 r3, r4⟩
theorem mm_insert {K : PySem.W.Frag} : MkM K cl (fun x vs H Q => ∃ (l : Addr) (xs : List V) (i : Int) (y : V), x = .ref l ∧ vs = [.int i, y] ∧ H l = some (.lst xs) ∧ xs.length < sizeLine ∧ 0 ≤ i ∧ i < 2 ^ 63 ∧
    Q .non (upd H l (.lst (xs.take i.toNat ++ [y] ++ xs.drop i.toNat)))) kInsert := fun {G H a ds vs fs as us m d ds' Q} s hv rds ras e k => by
  match as, e with
  | [.at (.int i), x], e =>
    obtain ⟨⟨hz, h0, h1⟩, e1⟩ := iteSome e
    cases e1
    obtain ⟨u1, u2, g1, g2, rfl, rfl, r1, r2⟩ := ras.two
    obtain ⟨e2, e3⟩ := r1.at_inv
    subst e2 e3
    obtain ⟨f1, f2, rfl, r3, r4⟩ := rds.split i.toNat
    refine ⟨a, vs, i, u2, rfl, rfl, hv, by rw [rds.length]; exact hz, h0, h1, k .non _ [] (f1 ++ g2 ++ f2) ⟨[], ?_⟩ fun H' st => ⟨R.at _, ?_⟩⟩
    · simp only [List.nil_append]
      rw [← List.append_assoc]
      exact List.Perm.append_right _ List.perm_append_comm
    · simp only [List.nil_append] at st
      have r5 := Rs.cons (r2.mono (Sub.refl _) fun x hx => st x (List.mem_append_left _ hx)) (Rs.nil (K := K) (cl := cl) (G := G) (H := H'))
      rw [List.append_nil] at r5
      exact ((r3.mono (Sub.refl _) fun x hx => st x (List.mem_append_right _ (List.mem_append_left _ hx))).append r5).append (r4.mono (Sub.refl _) fun x hx => st x (List.mem_append_right _ (List.mem_append_right _ hx)))
theorem mm_pop {K : PySem.W.Frag} : MkM K cl rPop kPop := fun {G H a ds vs fs as us m d ds' Q} s hv rds ras e k => by
  match as, e with
  | [], e =>
    obtain ⟨x, e1, e2⟩ := Option.map_eq_some_iff.mp e
    cases e2
    unfold Rs at ras
    obtain ⟨rfl, rfl⟩ := ras
    have hl := rds.length
    obtain ⟨f1, f2, rfl, r3, r4⟩ := rds.split (ds.length - 1)
    have hd : ds.drop (ds.length - 1) = [d] := by
      obtain ⟨hi, hx⟩ := List.getElem?_eq_some_iff.mp e1
      rw [List.drop_eq_getElem_cons hi, List.drop_eq_nil_of_le (by omega), hx]
    rw [hd] at r4
    obtain ⟨u, e4, r5⟩ := r4.one
    have hu : vs[vs.length - 1]? = some u := by
      have : (vs.drop (ds.length - 1))[0]? = some u := by rw [e4]; rfl
      rw [List.getElem?_drop] at this
      rw [hl]
      simpa using this
    refine ⟨a, vs, u, rfl, rfl, hv, hu, k u _ f2 f1 ⟨[], by simpa using List.perm_append_comm⟩ fun H' st => ⟨r5.mono (Sub.refl _) fun x hx => st x (by simp [hx]), ?_⟩⟩
    rw [List.dropLast_eq_take, List.dropLast_eq_take, hl]
    exact r3.mono (Sub.refl _) fun x hx => st x (by simp [hx])

/-! ### xs[i] = e, xs[i] op= e, x op= e -/
def gItem (i : Nat) (q : QF) : GF := fun d ρ => match look ρ i with
  | some (.nd (.lst true) ds) => ((q ρ).bind asI).bind fun k => (ixN ds.length k).map fun j => ρ.set i (some (.own (ds.set j d)))
  | _ => none
theorem g_item {o ix : Expr} {i : Nat} {q : QF} {pos : Pos} (h : PG X (.Subscript o ix pos) (gSub (tVar i) (tQ X.K cl q) rSetL)) : GE X cl w (.Subscript o ix pos) (gItem i q) := h.imp fun v σ H Q hh => by
  obtain ⟨G, d, f, ρ, l, ρ', ok, rd, es, e, p⟩ := hh
  unfold gItem at e
  match hlk : look ρ i, e with
  | some (.nd (.lst true) ds), e =>
    obtain ⟨k, e1, e2⟩ := Option.bind_eq_some_iff.mp e
    obtain ⟨dk, e3, e4⟩ := Option.bind_eq_some_iff.mp e1
    obtain ⟨j, e5, rfl⟩ := Option.map_eq_some_iff.mp e2
    obtain ⟨v0, f0, pre, post, ev, _, r0, _, _⟩ := es.at (look_some hlk)
    obtain ⟨a, vs0, fs0, rfl, hv0, _, _⟩ := r0.own_inv
    refine ⟨.ref a, ev, tQ.use ok.split.2.1 es e3 fun u G1 H1 fu q1 ru => ?_⟩
    rw [asI_some e4] at ru
    have ok1 := q1.ok ok
    have es1 := es.evq q1 ok.split.2.1
    obtain ⟨a', vs, fs, ea, hv, rds, kk⟩ := es1.mutL ok1 hlk
    rw [ev] at ea
    cases ea
    have hj := (ixN_seq e5).2.1
    obtain ⟨x, f1, pre1, post1, h1, h2, h3, h4⟩ := rds.at (List.getElem?_eq_getElem hj)
    refine ⟨a, vs, k, j, rfl, ru.at_inv.1, hv, by rw [rds.length]; exact e5, ?_⟩
    obtain ⟨st, l', ev2, ok2, es2⟩ := kk (ds.set j d) (vs.set j v) [] (pre1 ++ (f ++ post1)) ⟨f1, by
      rw [h2]
      simp only [List.nil_append]
      have z1 : (f1 ++ (pre1 ++ (f ++ post1))).Perm (f ++ (pre1 ++ (f1 ++ post1))) := by
        have a1 : (pre1 ++ (f ++ post1)).Perm (f ++ (pre1 ++ post1)) := by
          rw [← List.append_assoc, ← List.append_assoc]
          exact List.Perm.append_right _ List.perm_append_comm
        have a2 : (pre1 ++ (f1 ++ post1)).Perm (f1 ++ (pre1 ++ post1)) := by
          rw [← List.append_assoc, ← List.append_assoc]
          exact List.Perm.append_right _ List.perm_append_comm
        refine (List.Perm.append_left f1 a1).trans (List.Perm.trans ?_ (List.Perm.append_left f a2.symm))
        have a3 : (f1 ++ (f ++ (pre1 ++ post1))) = (f1 ++ f) ++ (pre1 ++ post1) := by simp only [List.append_assoc]
        have a4 : (f ++ (f1 ++ (pre1 ++ post1))) = (f ++ f1) ++ (pre1 ++ post1) := by simp only [List.append_assoc]
        rw [a3, a4]
        exact List.Perm.append_right _ List.perm_append_comm
      exact z1⟩ fun st => h4 G1 _ d v f (Sub.refl _) (fun y hy => st y (by
        rw [h2]
        rcases List.mem_append.mp hy with z | z
        · exact List.mem_append_right _ (List.mem_append_left _ z)
        · exact List.mem_append_right _ (List.mem_append_right _ (List.mem_append_right _ z)))) ((rd.evq q1 rd.on).mono (Sub.refl _) fun y hy => st y (List.mem_append_left _ hy))
    exact p σ G1 _ l' (Kp.refl _ _) (q1.ev.trans ev2) ok2 es2
/-- what op= does with two scalars -/
def MkI (K : PySem.W.Frag) (cl : Str → Option Addr) (r : R2) (k : D → D → Option D) : Prop := Mk2 K cl r k
def sAug (i : Nat) (k : D → D → Option D) (f : VF) : SF := fun ρ => if (look ρ i).isSome = true then ov f (fun d ρ' => (look ρ' i).bind fun x => (k x d).map fun r => .nx (ρ'.set i (some r))) ρ else none
theorem s_aug {st : Stmt} {i : Nat} {f : VF} {r : R2} {k : D → D → Option D} (h : PS X st (tAug i (tV X.K cl XP f) r)) (m : Mk2 X.K cl r k) (hw : i ∈ w := by decide) : SE X cl XP w st (sAug i k f) := h.imp fun D σ H hh => by
  obtain ⟨G, ρ, l, rr, ok, es, e, p⟩ := hh
  unfold sAug at e
  split at e
  · rename_i hl
    obtain ⟨d0, el⟩ := Option.isSome_iff_exists.mp hl
    obtain ⟨v, f0, pre0, post0, ev, _, _, _, _⟩ := es.at (look_some el)
    refine ⟨v, ev, tV.ov ok es e p fun d ρ1 e1 u G1 H1 f1 l1 ev1 ok1 rd es1 => ?_⟩
    obtain ⟨x, e2, e3⟩ := Option.bind_eq_some_iff.mp e1
    obtain ⟨y, e4, rfl⟩ := Option.map_eq_some_iff.mp e3
    obtain ⟨v', f2, pre, post, ev', rfl, rx, _, _⟩ := es1.at (look_some e2)
    rw [ev] at ev'
    cases ev'
    refine m ok1.sub rx rd e4 fun z G2 H2 fz q n rz => ?_
    have o1 := ok1.split.2.1
    have es2 := es1.evq q o1
    have hi : i < ρ1.length := by
      obtain ⟨hi, _⟩ := List.getElem?_eq_some_iff.mp (look_some e2)
      exact hi
    obtain ⟨l0, sl, kk⟩ := es2.put hi
    obtain ⟨l2, pm, es3⟩ := kk G2 H2 y z fz (Sub.refl _) (fun _ _ => rfl) rz
    have ok2 : Ok G2 H2 (fz ++ l0) := (q.okf n o1).sublist ((List.Sublist.refl _).append sl)
    have ev2 : Ev G H l G2 H2 l2 := (((ev1.less (l2 := pre ++ (f2 ++ post)) fun a h => List.mem_append_right _ h).trans (q.evf n)).less (l2 := fz ++ l0) fun a h => by
      rcases List.mem_append.mp h with z | z
      · exact List.mem_append_left _ z
      · exact List.mem_append_right _ (sl.subset z)).perm pm.symm
    exact p _ G2 H2 l2 (Kp.set hw _) ev2 (ok2.perm pm.symm) es3
  · cases e
/-- xs[j] op= e, a scalar -/
def sAugI (i : Nat) (q : QF) (k : D → D → Option D) (f : QF) : SF := fun ρ => match look ρ i with
  | some (.nd (.lst true) ds) => ((q ρ).bind asI).bind fun j => (ixN ds.length j).bind fun n => (ds[n]?).bind fun x => (f ρ).bind fun y => (k x y).bind fun z => if nOw z = true then some (.nx (ρ.set i (some (.own (ds.set n z))))) else none
  | _ => none
end
end DL

set_option maxRecDepth 100000
/-! DLI: what a for walks; comprehensions. -/
namespace DL
open PySem L2 PySem.Spec PyProof.Rows

/-! ### xs[j] op= e -/
def rGetL (K : PySem.W.Frag) : V → V → Hp → VK → Prop := fun x y H Q => ∃ p xs i v, x = .ref p ∧ y = .int i ∧ SqL K H p xs ∧ L2.atI xs i = some v ∧ Q v H
theorem get_list {X : Cx} : PGet X (rGetL X.K) := by
  intro pins s σ H x y v u Q I rx ry h
  obtain ⟨p, xs, i, z, rfl, rfl, hq, he, q⟩ := h
  cases rx
  obtain ⟨t, rfl⟩ := ry
  obtain ⟨its, r, pl, hz⟩ := I.list hq
  obtain ⟨j, h1, h2, h3, h4, h5⟩ := atI_get he
  obtain ⟨w, ew, rw'⟩ := r.get h2
  have hl := r.length
  have hn := line63
  have fin : EP X pins σ Q w s := ⟨z, H, I, rw', q⟩
  by_cases h0 : 0 ≤ i
  · have hj : i.toNat = j := by
      rw [seqIndex_of h0 h5] at h1
      exact Option.some.inj h1
    exact wpAny_getItem_list pl.isList h0 (by omega) (by rw [hj]; simpa using ew) fin
  · have hj : (i + (its.toArray.size : Int)).toNat = j := by
      rw [seqIndex_neg (by omega) h4] at h1
      rw [List.size_toArray, ← hl]
      exact Option.some.inj h1
    exact wpAny_getItem_list_neg pl.isList (by omega) (by rw [List.size_toArray] <;> omega) (by omega) (by rw [hj]; simpa using ew) fin
section
variable {X : Cx} {cl : Str → Option Addr} {XP : XPost} {w : List Nat}
theorem s_augI {st : Stmt} {i : Nat} {q : QF} {f : QF} {r : R2} {k : D → D → Option D} (h : PS X st (tAugS (tVar i) (tQ X.K cl q) (tQ X.K cl f) (rGetL X.K) r rSetL)) (m : Mk2 X.K cl r k) : SE X cl XP w st (sAugI i q k f) := h.imp fun D σ H hh => by
  obtain ⟨G, ρ, l, rr, ok, es, e, p⟩ := hh
  unfold sAugI at e
  match hlk : look ρ i, e with
  | some (.nd (.lst true) ds), e =>
    obtain ⟨j, e1, e⟩ := Option.bind_eq_some_iff.mp e
    obtain ⟨n, e2, e⟩ := Option.bind_eq_some_iff.mp e
    obtain ⟨x, e3, e⟩ := Option.bind_eq_some_iff.mp e
    obtain ⟨y, e4, e⟩ := Option.bind_eq_some_iff.mp e
    obtain ⟨z, e5, e⟩ := Option.bind_eq_some_iff.mp e
    obtain ⟨dk, e6, e7⟩ := Option.bind_eq_some_iff.mp e1
    obtain ⟨hn, e8⟩ := iteSome e
    subst e8
    obtain ⟨v0, f0, pre, post, ev, _, r0, _, _⟩ := es.at (look_some hlk)
    obtain ⟨a, vs, fs, rfl, hv, rds, _⟩ := r0.own_inv
    refine ⟨.ref a, ev, tQ.use ok es e6 fun u G1 H1 fu q1 ru => ?_⟩
    rw [asI_some e7] at ru
    have e0 := ru.at_inv.1
    subst e0
    obtain ⟨vx, fx, pre1, post1, h1, h2, rx, h4⟩ := rds.at e3
    have hv1 : H1 a = some (.lst vs) := q1.same a _ hv
    refine ⟨a, vs, j, vx, rfl, rfl, .inl (.inl hv1), by unfold L2.atI; rw [rds.length, e2]; exact h1, ?_⟩
    have ok1 := q1.ok ok
    have es1 := es.evq q1 ok
    refine tQ.use ok1 es1 e4 fun u2 G2 H2 fu2 q2 ru2 => ?_
    refine m q2.inn ((rx.evq q1 rx.on).evq q2 (rx.evq q1 rx.on).on) ru2 e5 fun zv G3 H3 fz q3 n3 rz => ?_
    have e9 := rz.fp_nil hn
    subst e9
    have q23 := q2.trans q3
    have ok3 : Ok G3 H3 ([] ++ l) := q23.ok ok1
    have es3 := es1.evq q23 ok1
    obtain ⟨a', vs', fs', ea, hv', rds', kk⟩ := es3.mutL ok3 hlk
    rw [ev] at ea
    cases ea
    have e10 : vs' = vs := by
      have := (q23.same a _ hv1)
      rw [hv'] at this
      cases this
      rfl
    subst e10
    refine ⟨a, vs', j, n, rfl, rfl, hv', by rw [rds.length]; exact e2, ?_⟩
    obtain ⟨vx', fx', pre2, post2, h1', h2', _, h4'⟩ := rds'.at e3
    obtain ⟨st', l', ev3, ok4, es4⟩ := kk (ds.set n z) (vs'.set n zv) [] (pre2 ++ ([] ++ post2)) ⟨fx', by
      rw [h2']
      simp only [List.nil_append]
      rw [← List.append_assoc, ← List.append_assoc]
      exact List.Perm.append_right _ List.perm_append_comm⟩ fun st => h4' G3 _ z zv [] (Sub.refl _) (fun y hy => st y (by
        rw [List.nil_append, h2']
        rcases List.mem_append.mp hy with z | z
        · exact List.mem_append_left _ z
        · exact List.mem_append_right _ (List.mem_append_right _ z))) (rz.mono (Sub.refl _) fun y hy => (by simp at hy))
    exact p σ G3 _ l' (Kp.refl _ _) (((q1.trans q23).ev).trans ev3) ok4 es4

/-! ### what a for walks -/
theorem Rs.get {K : PySem.W.Frag} {G H : Hp} {ds : List D} {vs : List V} {i : Nat} {d : D} (r : Rs K cl G H ds vs []) (e : ds[i]? = some d) : ∃ v, vs[i]? = some v ∧ R K cl G H d v [] := by
  obtain ⟨v, f, pre, post, e1, e2, rd, _⟩ := r.at e
  have := List.append_eq_nil_iff.mp e2.symm
  have e3 := (List.append_eq_nil_iff.mp this.2).1
  subst e3
  exact ⟨v, e1, rd⟩
theorem itd_list' {K : PySem.W.Frag} {G H : Hp} {a : Addr} {vs : List V} {ds : List D} (c : SqL K G a vs) (r : Rs K cl G H ds vs []) : ItD K cl (Itl K a) G ds := fun G1 H1 s1 s2 => by
  have hq : SqL K H1 a vs := (s1.trans s2).sl c
  have hl := r.length
  refine ⟨fun i hi => ?_, fun i hi => ⟨vs, hq, by omega⟩, fun i x H2 d hd hy => ?_⟩
  · obtain ⟨v, e, _⟩ := r.get (List.getElem?_eq_getElem hi)
    exact ⟨vs, v, hq, e⟩
  · obtain ⟨rfl, hx⟩ := hy
    obtain ⟨v, e, rd⟩ := r.get hd
    have := hx vs hq
    rw [e] at this
    cases this
    exact ⟨G1, Evq.refl s2, rd.mono s1 fun y hy => (by simp at hy)⟩
theorem itd_tup {K : PySem.W.Frag} {G H : Hp} {a : Addr} {vs : List V} {ds : List D} (c : SqT K G a vs) (r : Rs K cl G H ds vs []) : ItD K cl (Itt K a) G ds := fun G1 H1 s1 s2 => by
  have hq : SqT K H1 a vs := (s1.trans s2).st c
  have hl := r.length
  refine ⟨fun i hi => ?_, fun i hi => ⟨vs, hq, by omega⟩, fun i x H2 d hd hy => ?_⟩
  · obtain ⟨v, e, _⟩ := r.get (List.getElem?_eq_getElem hi)
    exact ⟨vs, v, hq, e⟩
  · obtain ⟨rfl, hx⟩ := hy
    obtain ⟨v, e, rd⟩ := r.get hd
    have := hx vs hq
    rw [e] at this
    cases this
    exact ⟨G1, Evq.refl s2, rd.mono s1 fun y hy => (by simp at hy)⟩
/-- the tree of a value is frozen: a step -/
theorem freeze {K : PySem.W.Frag} {G H : Hp} {f l : List Addr} {ρ : En} {σ : L2.St} (ok : Ok G H (f ++ l)) (es : Es K cl G H ρ σ l) : Ev G H (f ++ l) (frzH G H f) H l ∧ Ok (frzH G H f) H l ∧ Es K cl (frzH G H f) H ρ σ l ∧ Sub G (frzH G H f) := by
  have out : ∀ a, a ∉ f → frzH G H f a = G a := fun a h => by unfold frzH; rw [if_neg h]
  have sub := frzH_sub ok.sub f
  obtain ⟨_, ol, dis⟩ := ok.split
  refine ⟨⟨sub, fun _ _ h _ => h, fun a h => .inl (List.mem_append_right _ h), fun a g h n => ?_, fun _ h => h⟩, ⟨ol.nd, frzH_in ok.sub f, fun a h => ?_, ol.on⟩, es.mono sub fun _ _ => rfl, sub⟩
  · rw [out a fun z => n (List.mem_append_left _ z)]; exact g
  · rw [out a fun z => dis a z h]; exact ol.out a h
def kItL : D → Option (List D)
  | .nd (.lst _) ds => if foks ds = true then some (frzs ds) else none
  | _ => none
def kItT : D → Option (List D)
  | .nd .tup ds => if foks ds = true then some (frzs ds) else none
  | _ => none
/-- over a list -/
theorem i_lst {tg e : Expr} {f : VF} (h : VE X cl XP e f) : IE X cl XP tg e (rb f fun d => rp (kItL d)) := (pi_list h).imp fun σ H R0 hh => by
  obtain ⟨G, ρ, l, rr, ok, es, e, p⟩ := hh
  refine tV.bind ok es e (fun ee ρ' z => by subst z; exact p) fun d ρ1 e1 v G1 H1 f1 l1 ev1 ok1 rd es1 => ?_
  obtain ⟨ds', e2, rfl⟩ := rp_some e1
  match d, e2, rd with
  | .nd (.lst o) ds, e2, rd =>
    obtain ⟨hf, rfl⟩ := iteSome e2
    obtain ⟨ev2, ok2, es2, sub⟩ := freeze ok1 es1
    have r1 := R.frz (m := f1) ok1.sub (d := .nd (.lst o) ds) (by unfold fok; rw [hf]; rfl) (fun _ h => h) rd
    unfold DL.frz R at r1
    obtain ⟨a, vs, fs, rfl, c, rs, q⟩ := r1
    rw [if_neg (show ¬ (Kd.lst o).frz.ow = true from by simp [Kd.frz, Kd.ow])] at q
    obtain ⟨q1, q2⟩ := q
    rw [← q1] at rs
    exact ⟨a, rfl, ⟨vs, ok2.sub.sl c⟩, p (Itl X.K a) _ _ l1 (ev1.trans ev2) ok2 es2 (itd_list' c rs)⟩
/-- over a tuple -/
theorem i_tup {tg e : Expr} {f : VF} (h : VE X cl XP e f) : IE X cl XP tg e (rb f fun d => rp (kItT d)) := (pi_tup h).imp fun σ H R0 hh => by
  obtain ⟨G, ρ, l, rr, ok, es, e, p⟩ := hh
  refine tV.bind ok es e (fun ee ρ' z => by subst z; exact p) fun d ρ1 e1 v G1 H1 f1 l1 ev1 ok1 rd es1 => ?_
  obtain ⟨ds', e2, rfl⟩ := rp_some e1
  match d, e2, rd with
  | .nd .tup ds, e2, rd =>
    obtain ⟨hf, rfl⟩ := iteSome e2
    obtain ⟨ev2, ok2, es2, sub⟩ := freeze ok1 es1
    have r1 := R.frz (m := f1) ok1.sub (d := .nd .tup ds) (by unfold fok; rw [hf]; rfl) (fun _ h => h) rd
    unfold DL.frz R at r1
    obtain ⟨a, vs, fs, rfl, c, rs, q⟩ := r1
    rw [if_neg (show ¬ Kd.tup.frz.ow = true from by simp [Kd.frz, Kd.ow])] at q
    obtain ⟨q1, q2⟩ := q
    rw [← q1] at rs
    exact ⟨a, rfl, ⟨vs, ok2.sub.st c⟩, p (Itt X.K a) _ _ l1 (ev1.trans ev2) ok2 es2 (itd_tup c rs)⟩
def rngD (lo : Int) (n : Nat) : List D := (List.range n).map fun (i : Nat) => D.at (.int (lo + (i : Int)))
theorem itd_rng {K : PySem.W.Frag} {G : Hp} (lo : Int) (n : Nat) : ItD K cl (Itr lo n) G (rngD lo n) := fun G1 H1 s1 s2 => by
  have hl : (rngD lo n).length = n := by unfold rngD; simp
  refine ⟨fun i hi => by rw [hl] at hi; exact hi, fun i hi => by rw [hl] at hi; exact hi, fun i x H2 d hd hy => ?_⟩
  obtain ⟨rfl, rfl⟩ := hy
  unfold rngD at hd
  rw [List.getElem?_map] at hd
  obtain ⟨j, e1, rfl⟩ := Option.map_eq_some_iff.mp hd
  obtain ⟨hi, e2⟩ := List.getElem?_eq_some_iff.mp e1
  rw [List.getElem_range] at e2
  subst e2
  exact ⟨G1, Evq.refl s2, R.at _⟩
def kRng1 : List D → Option (List D)
  | [.at (.int j)] => if -(2 ^ 62) ≤ j ∧ j < 2 ^ 62 then some (rngD 0 j.toNat) else none
  | _ => none
def kRng2 : List D → Option (List D)
  | [.at (.int i), .at (.int j)] => if -(2 ^ 62) ≤ i ∧ i < 2 ^ 62 ∧ -(2 ^ 62) ≤ j ∧ j < 2 ^ 62 then some (rngD i (j - i).toNat) else none
  | _ => none
def iArg (k : List D → Option (List D)) (g : LF) : LF := rb g fun ds => rp (k ds)
theorem i_rng1 {tg it : Expr} {g : LF} (h : PI X tg it (iRng1 (tA X.K cl XP g))) : IE X cl XP tg it (iArg kRng1 g) := h.imp fun σ H R0 hh => by
  obtain ⟨G, ρ, l, rr, ok, es, e, p⟩ := hh
  refine tA.bind ok es e (fun ee ρ' z => by subst z; exact p) fun as ρ1 e1 us G1 H1 m1 l1 ev1 ok1 rs es1 => ?_
  obtain ⟨ds', e2, rfl⟩ := rp_some e1
  match as, e2 with
  | [.at (.int j)], e2 =>
    obtain ⟨⟨h1, h2⟩, rfl⟩ := iteSome e2
    obtain ⟨u, rfl, ru⟩ := rs.one
    rw [ru.at_inv.1]
    exact ⟨j, rfl, h1, h2, p _ G1 H1 l1 (ev1.less fun a h => List.mem_append_right _ h) ok1.split.2.1 es1 (itd_rng 0 _)⟩
theorem i_rng2 {tg it : Expr} {g : LF} (h : PI X tg it (iRng2 (tA X.K cl XP g))) : IE X cl XP tg it (iArg kRng2 g) := h.imp fun σ H R0 hh => by
  obtain ⟨G, ρ, l, rr, ok, es, e, p⟩ := hh
  refine tA.bind ok es e (fun ee ρ' z => by subst z; exact p) fun as ρ1 e1 us G1 H1 m1 l1 ev1 ok1 rs es1 => ?_
  obtain ⟨ds', e2, rfl⟩ := rp_some e1
  match as, e2 with
  | [.at (.int i), .at (.int j)], e2 =>
    obtain ⟨h1, rfl⟩ := iteSome e2
    obtain ⟨u, u2, g1, g2, rfl, _, ru, ru2⟩ := rs.two
    rw [ru.at_inv.1, ru2.at_inv.1]
    exact ⟨i, j, rfl, h1, p _ G1 H1 l1 (ev1.less fun a h => List.mem_append_right _ h) ok1.split.2.1 es1 (itd_rng i _)⟩
/-- over a text -/
def strD (x : Str) : List D := x.cps.toList.map fun c => D.at (.str ⟨#[c]⟩)
def kItS : D → Option (List D)
  | .at (.str x) => some (strD x)
  | _ => none
theorem i_str {tg e : Expr} {f : VF} (h : VE X cl XP e f) : IE X cl XP tg e (rb f fun d => rp (kItS d)) := (pi_str h).imp fun σ H R0 hh => by
  obtain ⟨G, ρ, l, rr, ok, es, e, p⟩ := hh
  refine tV.bind ok es e (fun ee ρ' z => by subst z; exact p) fun d ρ1 e1 v G1 H1 f1 l1 ev1 ok1 rd es1 => ?_
  obtain ⟨ds', e2, rfl⟩ := rp_some e1
  match d, e2, rd with
  | .at (.str x), e2, rd =>
    cases e2
    refine ⟨x, rd.at_inv.1, p _ G1 H1 l1 (ev1.less fun a h => List.mem_append_right _ h) ok1.split.2.1 es1 fun G2 H2 s1 s2 => ?_⟩
    have hl : (strD x).length = x.cps.size := by unfold strD; simp
    refine ⟨fun i hi => by rw [hl] at hi; exact hi, fun i hi => by rw [hl] at hi; exact hi, fun i y H3 d hd hy => ?_⟩
    obtain ⟨rfl, c, hc, rfl⟩ := hy
    unfold strD at hd
    rw [List.getElem?_map] at hd
    obtain ⟨c', e3, rfl⟩ := Option.map_eq_some_iff.mp hd
    have e4 : x.cps[i]? = some c' := by rw [← Array.getElem?_toList]; exact e3
    rw [hc] at e4
    cases e4
    exact ⟨G2, Evq.refl s2, R.at _⟩
/-- enumerate, zip of lists -/
def enumD (ds : List D) : List D := ds.zipIdx.map fun p => D.tup [.at (.int (p.2 : Int)), p.1]
def kEnum : List D → Option (List D)
  | [.nd (.lst _) ds] => if foks ds = true then some (enumD (frzs ds)) else none
  | _ => none
theorem i_enum {tg it : Expr} {g : LF} (h : PI X tg it (iEnum X.K (tA X.K cl XP g))) : IE X cl XP tg it (iArg kEnum g) := h.imp fun σ H R0 hh => by
  obtain ⟨G, ρ, l, rr, ok, es, e, p⟩ := hh
  refine tA.bind ok es e (fun ee ρ' z => by subst z; exact p) fun as ρ1 e1 us G1 H1 m1 l1 ev1 ok1 rs es1 => ?_
  obtain ⟨ds', e2, rfl⟩ := rp_some e1
  match as, e2 with
  | [.nd (.lst o) ds], e2 =>
    obtain ⟨hf, rfl⟩ := iteSome e2
    obtain ⟨u, rfl, rd⟩ := rs.one
    obtain ⟨ev2, ok2, es2, sub⟩ := freeze ok1 es1
    have r1 := R.frz (m := m1) ok1.sub (d := .nd (.lst o) ds) (by unfold fok; rw [hf]; rfl) (fun _ h => h) rd
    unfold DL.frz R at r1
    obtain ⟨a, vs, fs, rfl, c, rs, q⟩ := r1
    rw [if_neg (show ¬ (Kd.lst o).frz.ow = true from by simp [Kd.frz, Kd.ow])] at q
    obtain ⟨q1, q2⟩ := q
    rw [← q1] at rs
    refine ⟨a, vs, rfl, ok2.sub.sl c, p (Ite X.K a) _ _ l1 (ev1.trans ev2) ok2 es2 fun G3 H3 s1 s2 => ?_⟩
    have hq : SqL X.K H3 a vs := (s1.trans s2).sl c
    have hl := rs.length
    have hl2 : (enumD (frzs ds)).length = (frzs ds).length := by unfold enumD; simp
    refine ⟨fun i hi => ?_, fun i hi => ⟨vs, hq, by omega⟩, fun i x H4 d hd hy => ?_⟩
    · rw [hl2] at hi
      obtain ⟨v, e, _⟩ := rs.get (List.getElem?_eq_getElem hi)
      exact ⟨vs, v, hq, e⟩
    · obtain ⟨T, x0, rfl, hT, rfl, hx⟩ := hy
      unfold enumD at hd
      rw [List.getElem?_map] at hd
      obtain ⟨p0, e3, rfl⟩ := Option.map_eq_some_iff.mp hd
      rw [List.getElem?_zipIdx] at e3
      obtain ⟨d0, e4, rfl⟩ := Option.map_eq_some_iff.mp e3
      obtain ⟨v, e5, rv⟩ := rs.get e4
      have e7 : v = x0 := by
        have := hx vs hq
        rw [e5] at this
        exact Option.some.inj this
      subst e7
      have ev := evq_frz s2 hT (.tup [.int (i : Nat), v])
      refine ⟨_, ev, R.ndT (.inl (.inl upd_same)) ?_⟩
      have rv' : R X.K cl (upd G3 T (.tup [.int (i : Nat), v])) (upd H3 T (.tup [.int (i : Nat), v])) d0 v [] := rv.mono (s1.trans ev.sub) fun y hy => (by simp at hy)
      have := Rs.cons (R.at (K := X.K) (cl := cl) (G := upd G3 T (.tup [.int (i : Nat), v])) (H := upd H3 T (.tup [.int (i : Nat), v])) (.int (i : Nat))) (Rs.cons rv' Rs.nil)
      simpa using this
def zipD (ds es : List D) : List D := (ds.zip es).map fun p => D.tup [p.1, p.2]
def kZip : List D → Option (List D)
  | [.nd (.lst _) ds, .nd (.lst _) es] => if foks ds = true ∧ foks es = true then some (zipD (frzs ds) (frzs es)) else none
  | _ => none
theorem i_zip {tg it : Expr} {g : LF} (h : PI X tg it (iZip X.K (tA X.K cl XP g))) : IE X cl XP tg it (iArg kZip g) := h.imp fun σ H R0 hh => by
  obtain ⟨G, ρ, l, rr, ok, es, e, p⟩ := hh
  refine tA.bind ok es e (fun ee ρ' z => by subst z; exact p) fun as ρ1 e1 us G1 H1 m1 l1 ev1 ok1 rs es1 => ?_
  obtain ⟨ds', e2, rfl⟩ := rp_some e1
  match as, e2 with
  | [.nd (.lst o) ds, .nd (.lst o2) ds2], e2 =>
    obtain ⟨⟨hf, hf2⟩, rfl⟩ := iteSome e2
    obtain ⟨u, u2, g1, g2, rfl, rfl, rd, rd2⟩ := rs.two
    clear rs
    obtain ⟨ev2, ok2, es2, sub⟩ := freeze ok1 es1
    have r1 := R.frz (m := g1 ++ g2) ok1.sub (d := .nd (.lst o) ds) (by unfold fok; rw [hf]; rfl) (fun _ h => List.mem_append_left _ h) rd
    have r2 := R.frz (m := g1 ++ g2) ok1.sub (d := .nd (.lst o2) ds2) (by unfold fok; rw [hf2]; rfl) (fun _ h => List.mem_append_right _ h) rd2
    unfold DL.frz R at r1 r2
    obtain ⟨a, vs, fs, rfl, c, rs, q⟩ := r1
    obtain ⟨b, vs2, fs2, rfl, c2, rs2, q'⟩ := r2
    rw [if_neg (show ¬ (Kd.lst o).frz.ow = true from by simp [Kd.frz, Kd.ow])] at q
    rw [if_neg (show ¬ (Kd.lst o2).frz.ow = true from by simp [Kd.frz, Kd.ow])] at q'
    rw [← q.1] at rs
    rw [← q'.1] at rs2
    refine ⟨a, b, vs, vs2, rfl, ok2.sub.sl c, ok2.sub.sl c2, p (Itz X.K a b) _ _ l1 (ev1.trans ev2) ok2 es2 fun G3 H3 s1 s2 => ?_⟩
    have hq : SqL X.K H3 a vs := (s1.trans s2).sl c
    have hq2 : SqL X.K H3 b vs2 := (s1.trans s2).sl c2
    have hl := rs.length
    have hl' := rs2.length
    have hl2 : (zipD (frzs ds) (frzs ds2)).length = min (frzs ds).length (frzs ds2).length := by unfold zipD; simp
    refine ⟨fun i hi => ?_, fun i hi => ⟨vs, vs2, hq, hq2, by omega⟩, fun i x H4 d hd hy => ?_⟩
    · rw [hl2] at hi
      obtain ⟨v, e, _⟩ := rs.get (List.getElem?_eq_getElem (show i < (frzs ds).length by omega))
      obtain ⟨v2, e', _⟩ := rs2.get (List.getElem?_eq_getElem (show i < (frzs ds2).length by omega))
      exact ⟨vs, vs2, v, v2, hq, hq2, e, e'⟩
    · obtain ⟨T, x0, y0, rfl, hT, rfl, hx, hy'⟩ := hy
      unfold zipD at hd
      rw [List.getElem?_map] at hd
      obtain ⟨p0, e3, rfl⟩ := Option.map_eq_some_iff.mp hd
      rw [List.getElem?_zip_eq_some] at e3
      obtain ⟨v, e5, rv⟩ := rs.get e3.1
      obtain ⟨v2, e6, rv2⟩ := rs2.get e3.2
      have e7 : v = x0 := by
        have := hx vs hq
        rw [e5] at this
        exact Option.some.inj this
      have e8 : v2 = y0 := by
        have := hy' vs2 hq2
        rw [e6] at this
        exact Option.some.inj this
      subst e7
      subst e8
      have ev := evq_frz s2 hT (.tup [v, v2])
      refine ⟨_, ev, R.ndT (.inl (.inl upd_same)) ?_⟩
      have rv' : R X.K cl (upd G3 T (.tup [v, v2])) (upd H3 T (.tup [v, v2])) p0.1 v [] := rv.mono (s1.trans ev.sub) fun y hy => (by simp at hy)
      have rv2' : R X.K cl (upd G3 T (.tup [v, v2])) (upd H3 T (.tup [v, v2])) p0.2 v2 [] := rv2.mono (s1.trans ev.sub) fun y hy => (by simp at hy)
      have := Rs.cons rv' (Rs.cons rv2' Rs.nil)
      simpa using this
end
end DL

set_option maxRecDepth 100000
/-! DLC: list comprehensions over trees. -/
namespace DL
open PySem L2 PySem.Spec PyProof.Rows

/-- the own slots of a comprehension, forgotten; brought back -/
def wipeE (ρ : En) : List Nat → En
  | [] => ρ
  | v :: vs => (wipeE ρ vs).set v none
def backE (ρ0 ρ : En) : List Nat → En
  | [] => ρ
  | v :: vs => (backE ρ0 ρ vs).set v ((ρ0[v]?).getD none)
/-- nothing owned stands in them -/
def lowE (ρ : En) (vs : List Nat) : Bool := vs.all fun v => match ρ[v]? with
  | some (some d) => nOw d
  | some none => true
  | none => false
section
variable {K : PySem.W.Frag} {cl : Str → Option Addr} {G H : Hp}
theorem Es.drop1 {ρ : En} {σ : L2.St} {l : List Addr} {v : Nat} (es : Es K cl G H ρ σ l) (h : ∀ d, ρ[v]? = some (some d) → nOw d = true) (hv : v < ρ.length) : Es K cl G H (ρ.set v none) (σ.set v none) l := by
  cases e : ρ[v]? with
  | none => exact absurd (List.getElem?_eq_none_iff.mp e) (by omega)
  | some x =>
    cases x with
    | some d =>
      obtain ⟨u, f, pre, post, e1, rfl, r, _, k⟩ := es.at e
      have e2 := r.fp_nil (h d e)
      subst e2
      simpa using k G H none (Sub.refl _) fun _ _ => rfl
    | none =>
      have all : ∀ {ρ : En} {σ : L2.St} {l : List Addr} {v : Nat}, Es K cl G H ρ σ l → ρ[v]? = some none → Es K cl G H (ρ.set v none) (σ.set v none) l := by
        intro ρ
        induction ρ with
        | nil => intro σ l v es e; simp at e
        | cons s ρ ih =>
          intro σ l v es e
          cases s with
          | none =>
            unfold Es at es
            obtain ⟨y, τ, rfl, es'⟩ := es
            cases v with
            | zero =>
              show Es K cl G H (none :: ρ) (none :: τ) l
              unfold Es
              exact ⟨none, τ, rfl, es'⟩
            | succ v =>
              show Es K cl G H (none :: ρ.set v none) (y :: τ.set v none) l
              unfold Es
              exact ⟨y, _, rfl, ih es' (by simpa using e)⟩
          | some d =>
            unfold Es at es
            obtain ⟨y, τ, f, g, rfl, rfl, r, es'⟩ := es
            cases v with
            | zero => simp at e
            | succ v =>
              show Es K cl G H (some d :: ρ.set v none) (some y :: τ.set v none) (f ++ g)
              unfold Es
              exact ⟨y, _, f, g, rfl, rfl, r, ih es' (by simpa using e)⟩
      exact all es e
theorem wipeE_length (ρ : En) : ∀ vs : List Nat, (wipeE ρ vs).length = ρ.length
  | [] => rfl
  | v :: vs => by unfold wipeE; rw [List.length_set, wipeE_length ρ vs]
theorem wipeE_get {ρ : En} : ∀ {vs : List Nat} {j : Nat} {d : D}, (wipeE ρ vs)[j]? = some (some d) → ρ[j]? = some (some d)
  | [], _, _, h => h
  | v :: vs, j, d, h => by
    unfold wipeE at h
    by_cases e : v = j
    · subst e
      rw [List.getElem?_set] at h
      split at h
      · split at h <;> cases h
      · exact absurd rfl (by assumption)
    · rw [List.getElem?_set_ne e] at h
      exact wipeE_get h
theorem lowE_at {ρ : En} {vs : List Nat} (h : lowE ρ vs = true) : ∀ v ∈ vs, v < ρ.length ∧ ∀ d, ρ[v]? = some (some d) → nOw d = true := fun v hv => by
  have := List.all_eq_true.mp h v hv
  cases e : ρ[v]? with
  | none => rw [e] at this; cases this
  | some x =>
    refine ⟨(List.getElem?_eq_some_iff.mp e).1, fun d hd => ?_⟩
    cases hd
    rw [e] at this
    exact this
theorem Es.wipe {ρ : En} {σ : L2.St} {l : List Addr} (es : Es K cl G H ρ σ l) : ∀ {vs : List Nat}, lowE ρ vs = true → Es K cl G H (wipeE ρ vs) (L2.wipe σ vs) l
  | [], _ => es
  | v :: vs, h => by
    unfold lowE at h
    rw [List.all_cons, Bool.and_eq_true] at h
    have h2 : lowE ρ vs = true := h.2
    have h1 := lowE_at (ρ := ρ) (vs := [v]) (by unfold lowE; rw [List.all_cons, h.1]; rfl) v List.mem_cons_self
    unfold wipeE L2.wipe
    exact (Es.wipe es h2).drop1 (fun d hd => h1.2 d (wipeE_get hd)) (by rw [wipeE_length]; exact h1.1)
theorem backE_length (ρ0 ρ : En) : ∀ vs : List Nat, (backE ρ0 ρ vs).length = ρ.length
  | [] => rfl
  | v :: vs => by unfold backE; rw [List.length_set, backE_length ρ0 ρ vs]
/-- a slot whose tree is not owned gets what stood there before -/
theorem Es.fill1 {ρ : En} {σ : L2.St} {l : List Addr} {v : Nat} {x : Option D} {y : Option V} (es : Es K cl G H ρ σ l) (h : ∀ d, ρ[v]? = some (some d) → nOw d = true) (hv : v < ρ.length) (hx : ∀ d, x = some d → ∃ u, y = some u ∧ R K cl G H d u []) : Es K cl G H (ρ.set v x) (σ.set v y) l := by
  cases x with
  | some d =>
    obtain ⟨u, rfl, r⟩ := hx d rfl
    cases e : ρ[v]? with
    | none => exact absurd (List.getElem?_eq_none_iff.mp e) (by omega)
    | some s =>
      cases s with
      | some d0 =>
        obtain ⟨u0, f, pre, post, e1, rfl, r0, k, _⟩ := es.at e
        have e2 := r0.fp_nil (h d0 e)
        subst e2
        exact k G H d u [] (Sub.refl _) (fun _ _ => rfl) r
      | none =>
        obtain ⟨pre, post, rfl, k⟩ := es.fill e
        exact k G H d u [] (Sub.refl _) (fun _ _ => rfl) r
  | none =>
    have q := es.drop1 h hv
    have all : ∀ {ρ : En} {σ : L2.St} {l : List Addr} {v : Nat}, Es K cl G H ρ (σ.set v none) l → ρ[v]? = some none → Es K cl G H ρ (σ.set v y) l := by
      intro ρ
      induction ρ with
      | nil => intro σ l v es e; simp at e
      | cons s ρ ih =>
        intro σ l v es e
        cases σ with
        | nil => exact es
        | cons a τ =>
          cases v with
          | zero =>
            simp only [List.getElem?_cons_zero, Option.some.injEq] at e
            subst e
            have es' : Es K cl G H (none :: ρ) (none :: τ) l := es
            unfold Es at es'
            obtain ⟨b, τ', e2, es'⟩ := es'
            cases e2
            show Es K cl G H (none :: ρ) (y :: τ) l
            unfold Es
            exact ⟨y, τ, rfl, es'⟩
          | succ v =>
            have es' : Es K cl G H (s :: ρ) (a :: τ.set v none) l := es
            show Es K cl G H (s :: ρ) (a :: τ.set v y) l
            cases s with
            | none =>
              unfold Es at es' ⊢
              obtain ⟨b, τ', e2, es'⟩ := es'
              cases e2
              exact ⟨a, _, rfl, ih es' (by simpa using e)⟩
            | some d =>
              unfold Es at es' ⊢
              obtain ⟨b, τ', f, g, e2, e3, r, es'⟩ := es'
              cases e2
              exact ⟨b, _, f, g, rfl, e3, r, ih es' (by simpa using e)⟩
    exact all q (by rw [List.getElem?_set_self hv])
theorem backE_get {ρ0 ρ : En} : ∀ {vs : List Nat} {j : Nat} {d : D}, j ∉ vs → (backE ρ0 ρ vs)[j]? = some (some d) → ρ[j]? = some (some d)
  | [], _, _, _, h => h
  | v :: vs, j, d, hj, h => by
    unfold backE at h
    rw [List.getElem?_set_ne (show v ≠ j from fun e => hj (by rw [← e]; exact List.mem_cons_self))] at h
    exact backE_get (fun z => hj (List.mem_cons_of_mem _ z)) h
/-- behind a comprehension: the slots as they stood -/
theorem Es.unwipe {G1 H1 : Hp} {ρ0 ρ : En} {σ τ : L2.St} {l0 l : List Addr} (s : Sub G G1) (es0 : Es K cl G H ρ0 σ l0) (es : Es K cl G1 H1 ρ τ l) (hlen : τ.length = σ.length) : ∀ {vs : List Nat}, lowE ρ0 vs = true → lowE ρ vs = true → ∃ υ : L2.St, Es K cl G1 H1 (backE ρ0 ρ vs) υ l ∧ υ.length = σ.length ∧ (∀ j ∈ vs, υ[j]? = σ[j]?) ∧ ∀ j, j ∉ vs → υ[j]? = τ[j]?
  | [], _, _ => ⟨τ, es, hlen, fun _ h => (by simp at h), fun _ _ => rfl⟩
  | v :: vs, h0, h => by
    have h0' := lowE_at h0
    have h' := lowE_at h
    unfold lowE at h0 h
    rw [List.all_cons, Bool.and_eq_true] at h0 h
    obtain ⟨υ, e1, e2, e3, e4⟩ := Es.unwipe s es0 es hlen (vs := vs) h0.2 h.2
    obtain ⟨hv0, hn0⟩ := h0' v List.mem_cons_self
    obtain ⟨hv, hn⟩ := h' v List.mem_cons_self
    have hlσ := es0.length
    have hv3 : v < υ.length := by rw [e2, hlσ]; exact hv0
    refine ⟨υ.set v ((σ[v]?).getD none), ?_, by rw [List.length_set]; exact e2, fun j hj => ?_, fun j hj => ?_⟩
    · unfold backE
      refine e1.fill1 (fun d hd => ?_) (by rw [backE_length]; exact hv) (fun d hd => ?_)
      · by_cases hm : v ∈ vs
        · have key : ∀ {ws : List Nat}, v ∈ ws → (backE ρ0 ρ ws)[v]? = some (some d) → ρ0[v]? = some (some d) := by
            intro ws
            induction ws with
            | nil => intro z; simp at z
            | cons w ws ih =>
              intro z q
              unfold backE at q
              by_cases ew : w = v
              · subst ew
                rw [List.getElem?_set_self (by rw [backE_length]; exact hv)] at q
                cases e : ρ0[w]? with
                | none => rw [e] at q; cases q
                | some x => rw [e] at q; exact q
              · rw [List.getElem?_set_ne ew] at q
                exact ih ((List.mem_cons.mp z).resolve_left fun y => ew y.symm) q
          exact hn0 d (key hm hd)
        · exact hn d (backE_get hm hd)
      · have ed : ρ0[v]? = some (some d) := by
          cases e : ρ0[v]? with
          | none => rw [e] at hd; cases hd
          | some x => rw [e] at hd; rw [show x = some d from hd]
        obtain ⟨u, f, pre, post, e5, _, r, _, _⟩ := es0.at ed
        have e6 := r.fp_nil (hn0 d ed)
        subst e6
        exact ⟨u, by rw [e5]; rfl, r.mono s fun y hy => (by simp at hy)⟩
    · by_cases ej : v = j
      · subst ej
        rw [List.getElem?_set_self hv3]
        cases e : σ[v]? with
        | none => exact absurd (List.getElem?_eq_none_iff.mp e) (by omega)
        | some x => rfl
      · rw [List.getElem?_set_ne ej]
        exact e3 j ((List.mem_cons.mp hj).resolve_left fun y => ej y.symm)
    · rw [List.getElem?_set_ne (show v ≠ j from fun e => hj (by rw [← e]; exact List.mem_cons_self))]
      exact e4 j fun z => hj (List.mem_cons_of_mem _ z)
theorem wipe_get (σ : L2.St) : ∀ {vs : List Nat} {j : Nat}, j ∉ vs → (L2.wipe σ vs)[j]? = σ[j]?
  | [], _, _ => rfl
  | v :: vs, j, h => by
    unfold L2.wipe
    rw [List.getElem?_set_ne (show v ≠ j from fun e => h (by rw [← e]; exact List.mem_cons_self))]
    exact wipe_get σ fun z => h (List.mem_cons_of_mem _ z)
theorem wipe_kp {σ τ : L2.St} {vs : List Nat} (h : Kp vs (L2.wipe σ vs) τ) : L2.wipe τ vs = L2.wipe σ vs := by
  have key : ∀ (α β : L2.St) (ws : List Nat), α.length = β.length → (∀ j, j ∉ ws → α[j]? = β[j]?) → L2.wipe α ws = L2.wipe β ws := by
    intro α β ws hl
    induction ws with
    | nil => intro h; exact List.ext_getElem? fun j => h j (by simp)
    | cons w ws ih =>
      intro h
      apply List.ext_getElem?
      intro j
      have l1 := wipe_length α (w :: ws)
      have l2 := wipe_length β (w :: ws)
      by_cases hj : j ∈ w :: ws
      · have none_at : ∀ (γ : L2.St) (us : List Nat), j ∈ us → j < γ.length → (L2.wipe γ us)[j]? = some none := by
          intro γ us
          induction us with
          | nil => intro z; simp at z
          | cons u us ih2 =>
            intro z hg
            unfold L2.wipe
            by_cases eu : u = j
            · subst eu
              rw [List.getElem?_set_self (by rw [wipe_length]; exact hg)]
            · rw [List.getElem?_set_ne eu]
              exact ih2 ((List.mem_cons.mp z).resolve_left fun y => eu y.symm) hg
        by_cases hg : j < α.length
        · rw [none_at α _ hj hg, none_at β _ hj (by omega)]
        · rw [List.getElem?_eq_none_iff.mpr (by omega), List.getElem?_eq_none_iff.mpr (by omega)]
      · rw [wipe_get α hj, wipe_get β hj, h j hj]
  rw [key τ σ vs (by rw [h.1, wipe_length]) fun j hj => by rw [h.2 j hj, wipe_get σ hj]]
end

/-! ### the comprehension -/
def lcD (t : GF) (c : BF) (e : VF) (vs : List Nat) : List D → List D → En → Option (List D × En)
  | [], acc, ρ => some (acc, ρ)
  | d :: ds, acc, ρ => match t d ρ with
    | none => none
    | some ρ1 => match c ρ1 with
      | some (.v true ρ2) => (match e ρ2 with
        | some (.v y ρ3) => if acc.length < sizeLine ∧ lowE ρ3 vs = true then lcD t c e vs ds (acc ++ [y]) (wipeE ρ3 vs) else none
        | _ => none)
      | some (.v false ρ2) => if lowE ρ2 vs = true then lcD t c e vs ds acc (wipeE ρ2 vs) else none
      | _ => none
def vLc (it : LF) (t : GF) (c : BF) (e : VF) (vs : List Nat) : VF := fun ρ => match it ρ with
  | none => none
  | some (.x ee ρ') => some (.x ee ρ')
  | some (.v ds ρ') => if lowE ρ' vs = true then (lcD t c e vs ds [] (wipeE ρ' vs)).bind fun p => if lowE p.2 vs = true then some (.v (.own p.1) (backE ρ' p.2 vs)) else none else none
def bYes : BF := fun ρ => some (.v true ρ)
abbrev XP0 : XPost := fun _ _ _ _ _ _ => False
abbrev TTs (X : Cx) (cl : Str → Option Addr) (XP : XPost) (ifs : List Expr) (c : BF) : Prop := PTs X ifs (tT X.K cl XP c)
section
variable {X : Cx} {cl : Str → Option Addr} {XP : XPost} {w : List Nat}
theorem ts_nil : TTs X cl XP [] bYes := ⟨fun pins s σ H Q I h => pts_nil.run pins s σ H Q I (by
  obtain ⟨G, ρ, l, rr, ok, es, e, p⟩ := h
  cases e
  exact p G H l (Ev.refl _ _ _) ok es)⟩
theorem ts_one {e : Expr} {c : BF} (h : BE X cl XP e c) : TTs X cl XP [e] c := pts_one h
theorem tLc_ok {K : PySem.W.Frag} {it : LF} {t : GF} {c : BF} {e : VF} {vs : List Nat} {σ : L2.St} {H : Hp} {Q : VK} (h : tV K cl XP (vLc it t c e vs) σ H Q) : tLc (tI K cl XP it) (tG K cl vs t) (tT K cl XP0 c) (tV K cl XP0 e) vs σ H Q := by
  obtain ⟨G, ρ, l, rr, ok, es, ee, p⟩ := h
  unfold vLc at ee
  cases hit : it ρ with
  | none => rw [hit] at ee; cases ee
  | some y =>
    rw [hit] at ee
    cases y with
    | x e' ρ' =>
      cases ee
      exact ⟨G, ρ, l, .x e' ρ', ok, es, hit, fun G' H' l' ev o es' => p G' H' l' ev o es'⟩
    | v ds ρ' =>
      dsimp only at ee
      split at ee
      · rename_i hlow
        obtain ⟨⟨res, ρf⟩, e1, e2⟩ := Option.bind_eq_some_iff.mp ee
        dsimp only at e2
        split at e2
        · rename_i hlowf
          cases e2
          refine ⟨G, ρ, l, .v ds ρ', ok, es, hit, fun J G1 H1 l1 ev1 ok1 es1 itd => ?_⟩
          intro Dd hD
          have es1w := es1.wipe hlow
          obtain ⟨evD, okD, kD⟩ := newOwn (f := []) (l := l1) ok1 hD (.lst [])
          have es1D : Es K cl G1 (upd H1 Dd (.lst [])) (wipeE ρ' vs) (L2.wipe σ vs) l1 := es1w.mono (Sub.refl _) fun a ha => kD a (ok1.on a ha)
          refine ⟨fun i m Hc => m = ds.length - i ∧ ∃ Gc ρc lc acc vacc facc, Ev G1 H1 l1 Gc Hc ((Dd :: facc) ++ lc) ∧ Ok Gc Hc ((Dd :: facc) ++ lc) ∧ Hc Dd = some (.lst vacc) ∧ Rs K cl Gc Hc acc vacc facc ∧ Es K cl Gc Hc ρc (L2.wipe σ vs) lc ∧ lcD t c e vs (ds.drop i) acc ρc = some (res, ρf),
            ⟨_, rfl, G1, wipeE ρ' vs, l1, [], [], [], evD, okD, upd_same, Rs.nil, es1D, e1⟩, fun i m Hc hw => ?_⟩
          obtain ⟨hm, Gc, ρc, lc, acc, vacc, facc, ev, okc, hDc, racc, esc, ec⟩ := hw
          have okl := okc.split.2.1
          obtain ⟨go, stop, yld⟩ := itd Gc Hc ev.sub okc.sub
          by_cases hi' : i < ds.length
          · refine .inr ⟨go i hi', fun H' => ds.length - (i + 1) = ds.length - (i + 1) ∧ ∃ Gc ρc lc acc vacc facc, Ev G1 H1 l1 Gc H' ((Dd :: facc) ++ lc) ∧ Ok Gc H' ((Dd :: facc) ++ lc) ∧ H' Dd = some (.lst vacc) ∧ Rs K cl Gc H' acc vacc facc ∧ Es K cl Gc H' ρc (L2.wipe σ vs) lc ∧ lcD t c e vs (ds.drop (i + 1)) acc ρc = some (res, ρf),
              fun H' hq => ⟨_, by omega, hq⟩, fun x H2 hy => ?_⟩
            have hd : ds[i]? = some ds[i] := List.getElem?_eq_getElem hi'
            obtain ⟨G2, q, rd⟩ := yld i x H2 _ hd hy
            rw [List.drop_eq_getElem_cons hi'] at ec
            unfold lcD at ec
            cases ht : t ds[i] ρc with
            | none => rw [ht] at ec; cases ec
            | some ρ1 =>
              rw [ht] at ec
              dsimp only at ec
              refine ⟨G2, ds[i], [], ρc, lc, ρ1, q.ok okl, rd, esc.evq q okl, ht, fun σ3 G3 H3 l3 k3 ev3 ok3 es3 => ⟨wipe_kp k3, ?_⟩⟩
              -- the frame: D and what it holds
              obtain ⟨okF3, kp3⟩ := (q.ok okc).frame ev3 ok3
              have evT3 : Ev G1 H1 l1 G3 H3 ((Dd :: facc) ++ l3) := ev.trans (q.ev.trans (ev3.frame (q.ok okc)))
              have at2 := q.at okc
              have kp3' : ∀ a ∈ Dd :: facc, H3 a = Hc a := fun a ha => (kp3 a ha).trans (at2 a (List.mem_append_left _ ha))
              cases hc : c ρ1 with
              | none => rw [hc] at ec; cases ec
              | some rc =>
                rw [hc] at ec
                cases rc with
                | x e' ρ2 => cases ec
                | v b ρ2 =>
                  refine ⟨G3, ρ1, l3, .v b ρ2, ok3, es3, hc, fun G4 H4 l4 ev4 ok4 es4 => ?_⟩
                  obtain ⟨okF4, kp4⟩ := okF3.frame ev4 ok4
                  have evT4 := evT3.trans (ev4.frame okF3)
                  have kp4' : ∀ a ∈ Dd :: facc, H4 a = Hc a := fun a ha => (kp4 a ha).trans (kp3' a ha)
                  cases b with
                  | false =>
                    dsimp only at ec
                    split at ec
                    · rename_i hlow2
                      refine iteF ⟨rfl, G4, wipeE ρ2 vs, l4, acc, vacc, facc, evT4, okF4, (kp4' Dd List.mem_cons_self).trans hDc, racc.mono ((q.sub.trans ev3.sub).trans ev4.sub) fun a ha => kp4' a (List.mem_cons_of_mem _ ha), ?_, ec⟩
                      have := es4.wipe hlow2
                      rw [wipe_kp k3] at this
                      exact this
                    · cases ec
                  | true =>
                    dsimp only at ec
                    cases he : e ρ2 with
                    | none => rw [he] at ec; cases ec
                    | some re =>
                      rw [he] at ec
                      cases re with
                      | x e' ρ3 => cases ec
                      | v y ρ3 =>
                        dsimp only at ec
                        split at ec
                        · rename_i hz
                          refine iteT ⟨G4, ρ2, l4, .v y ρ3, ok4, es4, he, fun u G5 H5 fy l5 ev5 ok5 ry es5 => ?_⟩
                          obtain ⟨okF5, kp5⟩ := okF4.frame ev5 ok5
                          have evT5 := evT4.trans (ev5.frame okF4)
                          have kp5' : ∀ a ∈ Dd :: facc, H5 a = Hc a := fun a ha => (kp5 a ha).trans (kp4' a ha)
                          have hD5 : H5 Dd = some (.lst vacc) := (kp5' Dd List.mem_cons_self).trans hDc
                          have subT := ((q.sub.trans ev3.sub).trans ev4.sub).trans ev5.sub
                          refine ⟨vacc, hD5, by rw [racc.length]; exact hz.1, ?_⟩
                          -- the store
                          have pmA : ((Dd :: facc) ++ (fy ++ l5)).Perm ((Dd :: (facc ++ fy)) ++ l5) := by
                            simp only [List.cons_append, List.append_assoc]
                            exact List.Perm.refl _
                          have okA := okF5.perm pmA
                          have hnd := List.nodup_cons.mp (show (Dd :: ((facc ++ fy) ++ l5)).Nodup from okA.nd)
                          have ne : ∀ a, a ≠ Dd → upd H5 Dd (.lst (vacc ++ [u])) a = H5 a := fun a h => upd_ne h
                          have on' : ∀ a, H5 a ≠ none → upd H5 Dd (.lst (vacc ++ [u])) a ≠ none := fun a h => by
                            by_cases ha : a = Dd
                            · rw [ha, upd_same]; exact fun z => nomatch z
                            · rw [ne a ha]; exact h
                          have evS : Ev G5 H5 ((Dd :: facc) ++ (fy ++ l5)) G5 (upd H5 Dd (.lst (vacc ++ [u]))) ((Dd :: (facc ++ fy)) ++ l5) := ⟨Sub.refl _, fun a o ea hn => by
                            rw [ne a fun z => hn (by rw [z]; exact List.mem_cons_self)]; exact ea, fun a ha => .inl (pmA.mem_iff.mpr ha), fun a g _ _ => g, on'⟩
                          have okS : Ok G5 (upd H5 Dd (.lst (vacc ++ [u]))) ((Dd :: (facc ++ fy)) ++ l5) := ⟨okA.nd, fun a o ea => by
                            rw [ne a fun z => by have := okA.out Dd List.mem_cons_self; rw [z, this] at ea; cases ea]; exact okA.sub a o ea, okA.out, fun a ha => on' a (okA.on a ha)⟩
                          have ryS : R K cl G5 (upd H5 Dd (.lst (vacc ++ [u]))) y u fy := ry.mono (Sub.refl _) fun a ha => ne a fun z => hnd.1 (by rw [← z]; exact List.mem_append_left _ (List.mem_append_right _ ha))
                          have raS : Rs K cl G5 (upd H5 Dd (.lst (vacc ++ [u]))) acc vacc facc := racc.mono subT fun a ha => (ne a fun z => hnd.1 (by rw [← z]; exact List.mem_append_left _ (List.mem_append_left _ ha))).trans (kp5' a (List.mem_cons_of_mem _ ha))
                          have rnS : Rs K cl G5 (upd H5 Dd (.lst (vacc ++ [u]))) (acc ++ [y]) (vacc ++ [u]) (facc ++ fy) := raS.append (by
                            have := Rs.cons ryS (Rs.nil (K := K) (cl := cl) (G := G5) (H := upd H5 Dd (.lst (vacc ++ [u]))))
                            simpa using this)
                          have esS : Es K cl G5 (upd H5 Dd (.lst (vacc ++ [u]))) (wipeE ρ3 vs) (L2.wipe σ vs) l5 := by
                            have := es5.wipe hz.2
                            rw [wipe_kp k3] at this
                            exact this.mono (Sub.refl _) fun a ha => ne a fun z => hnd.1 (by rw [← z]; exact List.mem_append_right _ ha)
                          exact ⟨rfl, G5, wipeE ρ3 vs, l5, acc ++ [y], vacc ++ [u], facc ++ fy, evT5.trans evS, okS, upd_same, rnS, esS, ec⟩
                        · cases ec
          · refine .inl ⟨stop i (by omega), ?_⟩
            rw [List.drop_eq_nil_of_le (by omega)] at ec
            unfold lcD at ec
            cases ec
            obtain ⟨υ, es6, e2, e3, e4⟩ := Es.unwipe ev.sub es1 esc (wipe_length σ vs) hlow hlowf
            have eυ : υ = σ := by
              apply List.ext_getElem?
              intro j
              by_cases hj : j ∈ vs
              · exact e3 j hj
              · rw [e4 j hj, wipe_get σ hj]
            rw [eυ] at es6
            exact p (.ref Dd) Gc Hc (Dd :: facc) lc (ev1.trans ev) okc (R.ndO hDc racc) es6
        · cases e2
      · cases ee
theorem v_lc {elt tg iter : Expr} {ifs : List Expr} {scope : Scope} {own : List (Str × Nat)} {pos : Pos} {it : LF} {t : GF} {c : BF} {e : VF} (hc : X.calm = true) (hN : X.N.Nodup) (hi : IE X cl XP tg iter it) (ok : BlkOk X.N X.env.scope scope own)
    (hg : ∀ (s : Shared) (H : Hp) (C : Addr) (cl' : List (Str × Addr)) (fp : List Addr), GE (X.blk s H scope (compEnvC scope cl' C X.env) fp) cl (own.map (·.2)) tg t)
    (ht : ∀ (s : Shared) (H : Hp) (C : Addr) (cl' : List (Str × Addr)) (fp : List Addr), TTs (X.blk s H scope (compEnvC scope cl' C X.env) fp) cl XP0 ifs c)
    (he : ∀ (s : Shared) (H : Hp) (C : Addr) (cl' : List (Str × Addr)) (fp : List Addr), VE (X.blk s H scope (compEnvC scope cl' C X.env) fp) cl XP0 elt e)
    (hs : ∀ x, foldedSetIterable iter X.env x = pure x := by intro _; rfl) : VE X cl XP (.ListComp elt [⟨tg, iter, ifs, 0⟩] scope pos) (vLc it t c e (own.map (·.2))) :=
  (pe_lc (X := X) hc hN hi ok hg ht he hs).imp fun _ _ _ => tLc_ok
theorem s_setLc {i : Nat} {y : Str} {py : Pos} {elt tg iter : Expr} {ifs : List Expr} {scope : Scope} {own : List (Str × Nat)} {pos spos : Pos} {it : LF} {t : GF} {c : BF} {e : VF} (hc : X.calm = true) (hN : X.N.Nodup) (hy : X.N[i]? = some y) (hyl : X.env.scope.names.lookup y = some .local)
    (hsw : swapsWith (.ListComp elt [⟨tg, iter, ifs, 0⟩] scope pos) (some (.Name y py)) spos.line X.env = pure true) (hi : IE X cl XP tg iter it) (ok : BlkOk X.N X.env.scope scope own)
    (hg : ∀ (s : Shared) (H : Hp) (C : Addr) (cl' : List (Str × Addr)) (fp : List Addr), GE (X.blk s H scope (compEnvC scope cl' C X.env) fp) cl (own.map (·.2)) tg t)
    (ht : ∀ (s : Shared) (H : Hp) (C : Addr) (cl' : List (Str × Addr)) (fp : List Addr), TTs (X.blk s H scope (compEnvC scope cl' C X.env) fp) cl XP0 ifs c)
    (he : ∀ (s : Shared) (H : Hp) (C : Addr) (cl' : List (Str × Addr)) (fp : List Addr), VE (X.blk s H scope (compEnvC scope cl' C X.env) fp) cl XP0 elt e) (hw : i ∈ w := by decide)
    (hs : ∀ x, foldedSetIterable iter X.env x = pure x := by intro _; rfl) : SE X cl XP w (.Assign [.Name y py] (.ListComp elt [⟨tg, iter, ifs, 0⟩] scope pos) spos) (sAsg (vLc it t c e (own.map (·.2))) (gSet i)) :=
  s_asg' (ps_setLc hc hN hy hyl hsw hi ok hg ht he hs) (fun _ _ _ => tLc_ok) fun v σ H Q h => by
    obtain ⟨G, d, f, ρ, l, ρ', ok, r, es, e, p⟩ := h
    unfold gSet at e
    split at e
    · rename_i hil
      cases e
      obtain ⟨l0, sl, k⟩ := es.put hil
      obtain ⟨l2, pm, es2⟩ := k G H d v f (Sub.refl _) (fun _ _ => rfl) r
      have o2 : Ok G H (f ++ l0) := ok.sublist ((List.Sublist.refl f).append sl)
      exact p _ G H l2 (Kp.set hw _) ((Ev.refl G H (f ++ l)).less fun a h => by
        rcases List.mem_append.mp (pm.mem_iff.mp h) with z | z
        · exact List.mem_append_left _ z
        · exact List.mem_append_right _ (sl.subset z)) (o2.perm pm.symm) es2
    · cases e
end
end DL

set_option maxRecDepth 100000
/-! DLK: names for the rules that a printed proof uses. -/
namespace DL
open PySem L2 PySem.Spec PyProof.Rows

abbrev kSub : D → D → Option D := oI cT fun i j => .int (i - j)
abbrev kMul : D → D → Option D := oI cMul fun i j => .int (i * j)
abbrev kFdiv : D → D → Option D := oI cFdiv fun i j => .int (i / j)
abbrev kMod : D → D → Option D := oI cMod fun i j => .int (i % j)
abbrev kPow : D → D → Option D := oI cPow fun i j => .int (i ^ j.toNat)
abbrev kLt : D → D → Option D := oI cT fun i j => .bl (decide (i < j))
abbrev kLe : D → D → Option D := oI cT fun i j => .bl (decide (i ≤ j))
abbrev kGt : D → D → Option D := oI cT fun i j => .bl (decide (j < i))
abbrev kGe : D → D → Option D := oI cT fun i j => .bl (decide (j ≤ i))
abbrev kIAdd : D → D → Option D := oI cT fun i j => .int (i + j)
def kNeg : D → Option D
  | .at (.int i) => some (.at (.int (-i)))
  | _ => none
section
variable {K : PySem.W.Frag} {cl : Str → Option Addr}
theorem m_sub : Mk2 K cl (rI0 fun i j => .int (i - j)) kSub := m_I0
theorem m_mul : Mk2 K cl (rI CMulV fun i j => .int (i * j)) kMul := m_I hMul
theorem m_fdiv : Mk2 K cl (rI CDivW fun i j => .int (i / j)) kFdiv := m_I hFdiv
theorem m_mod : Mk2 K cl (rI (fun _ j => 0 < j) fun i j => .int (i % j)) kMod := m_I hMod
theorem m_pow : Mk2 K cl (rI CPow fun i j => .int (i ^ j.toNat)) kPow := m_I hPow
theorem m_lt : Mk2 K cl (rI0 fun i j => .bl (decide (i < j))) kLt := m_I0
theorem m_le : Mk2 K cl (rI0 fun i j => .bl (decide (i ≤ j))) kLe := m_I0
theorem m_gt : Mk2 K cl (rI0 fun i j => .bl (decide (j < i))) kGt := m_I0
theorem m_ge : Mk2 K cl (rI0 fun i j => .bl (decide (j ≤ i))) kGe := m_I0
theorem m_iadd : Mk2 K cl (rI0 fun i j => .int (i + j)) kIAdd := m_I0
theorem m_neg : Mk1 K cl (rU fun i => .int (-i)) kNeg := fun {G H a d v f Q} s ra e k => by
  match a, e with
  | .at (.int i), e => cases e; exact ⟨i, ra.at_inv.1, mk_at s k⟩
end
/-- in a list or tuple of flat things -/
def toVs : List D → Option (List V)
  | [] => some []
  | .at v :: ds => (toVs ds).map fun vs => v :: vs
  | _ => none
theorem toVs_ok {K : PySem.W.Frag} {cl : Str → Option Addr} {G H : Hp} : ∀ {ds : List D} {vs ws : List V} {f : List Addr}, Rs K cl G H ds vs f → toVs ds = some ws → vs = ws
  | [], _, _, _, r, e => by cases e; unfold Rs at r; exact r.1
  | .at v :: ds, _, _, _, r, e => by
    obtain ⟨ws', e1, rfl⟩ := Option.map_eq_some_iff.mp e
    obtain ⟨u, us, f, g, rfl, rfl, r1, r2⟩ := r.inv
    rw [r1.at_inv.1, toVs_ok r2 e1]
  | .nd k es :: ds, _, _, _, r, e => by cases e
def kInF (neg : Bool) : D → D → Option D
  | .at v, .nd (.lst _) ds => (toVs ds).bind fun xs => if flatV v = true ∧ xs.all flatV = true then some (.at (.bl (if neg then !inV v xs else inV v xs))) else none
  | .at v, .nd .tup ds => (toVs ds).bind fun xs => if flatV v = true ∧ xs.all flatV = true then some (.at (.bl (if neg then !inV v xs else inV v xs))) else none
  | _, _ => none
theorem m_inF {K : PySem.W.Frag} {cl : Str → Option Addr} {neg : Bool} : Mk2 K cl (rIn K neg) (kInF neg) := fun {G H a b d v w f g Q} s ra rb e k => by
  match a, b, e with
  | .at v0, .nd (.lst o) ds, e =>
    obtain ⟨xs, e1, e2⟩ := Option.bind_eq_some_iff.mp e
    obtain ⟨⟨h1, h2⟩, rfl⟩ := iteSome e2
    obtain ⟨p, us, fs, rfl, c, rs, _⟩ := rb.lst_rd s
    have := toVs_ok rs e1
    subst this
    rw [ra.at_inv.1]
    exact ⟨p, us, rfl, .inl c, h1, h2, mk_at s k⟩
  | .at v0, .nd .tup ds, e =>
    obtain ⟨xs, e1, e2⟩ := Option.bind_eq_some_iff.mp e
    obtain ⟨⟨h1, h2⟩, rfl⟩ := iteSome e2
    obtain ⟨p, us, fs, rfl, c, rs, _⟩ := rb.tup_rd s
    have := toVs_ok rs e1
    subst this
    rw [ra.at_inv.1]
    exact ⟨p, us, rfl, .inr c, h1, h2, mk_at s k⟩
/-- a method of a text that is looked at -/
def MkS (K : PySem.W.Frag) (cl : Str → Option Addr) (r : V → List V → Hp → VK → Prop) (k : Str → List D → Option D) : Prop := ∀ {G H : Hp} {z : Str} {as : List D} {d : D} {us : List V} {f : List Addr} {Q : VK}, Sub G H → Rs K cl G H as us f → k z as = some d →
  (∀ u G' H' fu, Evq G H G' H' → Fresh H G' H' fu → R K cl G' H' d u fu → Q u H') → r (.str z) us H Q
def asS : D → Option Str
  | .at (.str x) => some x
  | _ => none
theorem asS_some {d : D} {i : Str} (h : asS d = some i) : d = .at (.str i) := by
  match d, h with
  | .at (.str j), h => cases h; rfl
def vMt (k : Str → List D → Option D) (q : QF) (g : LF) : VF := fun ρ => ((q ρ).bind asS).bind fun z => rb g (fun as => rp (k z as)) ρ
def strsD : List D → Option (List Str)
  | [] => some []
  | .at (.str x) :: ds => (strsD ds).map fun xs => x :: xs
  | _ => none
theorem strsD_ok {K : PySem.W.Frag} {cl : Str → Option Addr} {G H : Hp} : ∀ {ds : List D} {vs : List V} {ws : List Str} {f : List Addr}, Rs K cl G H ds vs f → strsD ds = some ws → vs = ws.map V.str
  | [], _, _, _, r, e => by cases e; unfold Rs at r; exact r.1
  | .at (.str v) :: ds, _, _, _, r, e => by
    obtain ⟨ws', e1, rfl⟩ := Option.map_eq_some_iff.mp e
    obtain ⟨u, us, f, g, rfl, rfl, r1, r2⟩ := r.inv
    rw [r1.at_inv.1, strsD_ok r2 e1]
    rfl
  | .nd k es :: ds, _, _, _, r, e => by cases e
  | .at .non :: ds, _, _, _, r, e => by cases e
  | .at (.bl _) :: ds, _, _, _, r, e => by cases e
  | .at (.int _) :: ds, _, _, _, r, e => by cases e
  | .at (.byt _) :: ds, _, _, _, r, e => by cases e
  | .at (.flt _) :: ds, _, _, _, r, e => by cases e
  | .at (.ref _) :: ds, _, _, _, r, e => by cases e
  | .at (.ty _) :: ds, _, _, _, r, e => by cases e
def kJoin (a : Str) : List D → Option D
  | [.nd (.lst _) ds] => (strsD ds).bind fun ys => if (ys.map (·.length)).sum + ys.length * a.length ≤ 16777216 then some (.at (.str (Txt.join a ys))) else none
  | _ => none
def rJoinD (K : PySem.W.Frag) : V → List V → Hp → VK → Prop := fun x xs H Q => ∃ a p, ∃ ys : List Str, x = .str a ∧ xs = [.ref p] ∧ (SqL K H p (ys.map V.str) ∨ SqT K H p (ys.map V.str)) ∧
  (ys.map (·.length)).sum + ys.length * a.length ≤ 16777216 ∧ Q (.str (Txt.join a ys)) H
theorem ms_join {K : PySem.W.Frag} {cl : Str → Option Addr} : MkS K cl (rJoinD K) kJoin := fun {G H z as d us f Q} s rs e k => by
  match as, e with
  | [.nd (.lst o) ds], e =>
    obtain ⟨ys, e1, e2⟩ := Option.bind_eq_some_iff.mp e
    obtain ⟨hz, rfl⟩ := iteSome e2
    obtain ⟨u, rfl, ra⟩ := rs.one
    obtain ⟨p, vs, fs, rfl, c, r1, _⟩ := ra.lst_rd s
    have := strsD_ok r1 e1
    subst this
    exact ⟨z, p, ys, rfl, rfl, .inl c, hz, mk_at s k⟩
theorem mt_joinD {X : Cx} : MtR X "str.join" (rJoinD X.K) := mt_join
section
variable {X : Cx} {cl : Str → Option Addr} {XP : XPost} {w : List Nat} {W : WX}
theorem v_mt {e : Expr} {q : QF} {g : LF} {r : V → List V → Hp → VK → Prop} {k : Str → List D → Option D} (h : PE X e (tBM X.K "str" r (tQ X.K cl q) (tA X.K cl XP g))) (m : MkS X.K cl r k) : VE X cl XP e (vMt k q g) := h.imp fun σ H Q hh => by
  obtain ⟨G, ρ, l, rr, ok, es, e, p⟩ := hh
  obtain ⟨z, e1, e2⟩ := Option.bind_eq_some_iff.mp e
  obtain ⟨d, e3, e4⟩ := Option.bind_eq_some_iff.mp e1
  refine tQ.use ok es e3 fun v G1 H1 f ev rd => ?_
  rw [asS_some e4] at rd
  have e5 := rd.at_inv.1
  subst e5
  refine ⟨rfl, tA.bind (ev.ok ok) (es.evq ev ok) e2 (fun ee ρ' z => by subst z; exact p.step ev.ev) fun as ρ1 e6 us G2 H2 m1 l1 ev2 ok2 rs es2 => ?_⟩
  obtain ⟨d2, e7, rfl⟩ := rp_some e6
  have o2 := ok2.split.2.1
  exact m ok2.sub rs e7 fun u G3 H3 fu q3 n rd3 => p u G3 H3 fu l1 ((ev.ev.trans (ev2.less (l2 := l1) fun a h => List.mem_append_right _ h)).trans (q3.evf n)) (q3.okf n o2) rd3 (es2.evq q3 o2)
/-- x[f], x a name: its tree is looked at behind f -/
def vIxN (i : Nat) (f : VF) : VF := fun ρ => (look ρ i).bind fun _ => rb f (fun k ρ' => (look ρ' i).bind fun x => (kIx x k).bind fun d => if nOw d = true then some (.v d ρ') else none) ρ
theorem v_ixN {a b : Expr} {i : Nat} {f : VF} {pos : Pos} (ha : PE X a (tVar i)) (hb : VE X cl XP b f) (hs : PlainIx b) : VE X cl XP (.Subscript a b pos) (vIxN i f) := (pe_ix ix_seq ha hb hs).imp fun σ H Q h => by
  obtain ⟨G, ρ, l, rr, ok, es, e, p⟩ := h
  obtain ⟨d0, e0, e1⟩ := Option.bind_eq_some_iff.mp e
  obtain ⟨v, f0, pre, post, ev, _, _, _, _⟩ := es.at (look_some e0)
  refine ⟨v, ev, tV.bind ok es e1 (fun ee ρ' z => by subst z; exact p) fun dk ρ1 e2 u G1 H1 f1 l1 ev1 ok1 rk es1 => ?_⟩
  obtain ⟨x, e3, e4⟩ := Option.bind_eq_some_iff.mp e2
  obtain ⟨d, e5, e6⟩ := Option.bind_eq_some_iff.mp e4
  split at e6
  · rename_i hn
    cases e6
    obtain ⟨v', f2, pre2, post2, ev', _, rx, _, _⟩ := es1.at (look_some e3)
    rw [ev] at ev'
    cases ev'
    refine m_ix (cl := cl) ok1.sub rx rk e5 fun z fz _ rz => ?_
    have e7 := rz.fp_nil hn
    subst e7
    exact p z G1 H1 [] l1 (ev1.less fun a h => List.mem_append_right _ h) ok1.split.2.1 rz es1
  · cases e6

/-! ### a def that is proved -/
structure Cal (P : Program) (w0 : World) (K : PySem.W.Frag) (mg : Str → Option Value) (base : Heap) (cl : Str → Option Addr) (x : Str) (n k : Nat) (F : DF) : Prop where
  ex : ∃ (f : Addr) (fd : FuncData) (ps : List Str), ps.length = n ∧ mg x = some (.ref f) ∧ PySem.W.keepIn K (.ref f) = true ∧ Binds K fd ps [] ∧ FnOk P w0 K mg base (L2.CX P w0) k f fd ps (spD K cl ps.length F)
  len : ∀ ds r, F ds = some r → ds.length = n
theorem v_cal {F : DF} {ios : List (Nat × Nat)} {n k : Nat} {x : Str} {p pos : Pos} {e : Expr} {es : List Expr} {args : LF} (xl : XL X cl XP W) (C : Cal X.prog X.w X.K X.mg X.base cl x n k F) (hr : Room k X.A) (hg : Gl X x)
    (ha : CE' X cl XP ios (e :: es) args) (hdb : (x == ("__debug__" : Str)) = false := by decide) (he : starEach (e :: es) X.env = (false, eval e X.env) :: starEach es X.env := by rfl) (hpl : (backTo pos (starEach es X.env)).any (·.1) = false := by rfl) :
    VE X cl XP (.Call (.Name x p) (e :: es) [] pos) (vCall F ios args) := by
  obtain ⟨⟨f, fd, ps, rfl, hm, hk, hb, Fk⟩, hn⟩ := C
  exact v_call xl Fk hr hg hm hk hb ha hn hdb he hpl
theorem xl0 {X : Cx} {cl : Str → Option Addr} : XL X cl XP0 (fun _ _ _ _ => False) := ⟨takes0, fun _ _ _ _ _ _ _ _ h _ => h⟩
end
/-- a def's function, for arguments of one number -/
def fnN (n : Nat) (F : DF) : DF := fun ds => if ds.length = n then F ds else none
theorem fnN_len {n : Nat} {F : DF} : ∀ ds r, fnN n F ds = some r → ds.length = n := fun ds r e => by
  unfold fnN at e
  split at e
  · assumption
  · cases e
theorem spD_fnN {K : PySem.W.Frag} {cl : Str → Option Addr} {n : Nat} {F : DF} : ∀ vs H Q E, spD K cl n (fnN n F) vs H Q E → spD K cl n F vs H Q E := fun vs H Q E ⟨G, ds, fp, r, ok, rs, hl, e, p⟩ => ⟨G, ds, fp, r, ok, rs, hl, by
  unfold fnN at e
  rw [if_pos hl] at e
  exact e, p⟩
theorem FnOk.none {P : Program} {w0 : World} {K : PySem.W.Frag} {mg : Str → Option Value} {base : Heap} {cl : Str → Option Addr} {CX : CXT} {k : Nat} {f : Addr} {fd : FuncData} {ps : List Str} : FnOk P w0 K mg base CX k f fd ps (spD K cl ps.length fun _ => Option.none) :=
  ⟨fun vs H Q E ⟨G, ds, fp, r, ok, rs, hl, e, p⟩ => (nomatch e), fun A outer s H args us vs Q E _ _ _ _ ⟨G, ds, fp, r, ok, rs, hl, e, p⟩ => (nomatch e)⟩
/-! ### the law's end -/
theorem Rs.ints {K : PySem.W.Frag} {cl : Str → Option Addr} {G H : Hp} : ∀ ns : List Int, Rs K cl G H (ns.map fun i => D.at (.int i)) (ns.map V.int) []
  | [] => Rs.nil
  | n :: ns => Rs.cons (R.at _) (Rs.ints ns)
theorem sp_law {K : PySem.W.Frag} {cl : Str → Option Addr} {H : Hp} {a : Addr} {ns : List Int} {F : DF} (hS : SqL K H a (ns.map V.int)) (h : ∃ as, F [.lst (ns.map fun i => D.at (.int i))] = some (.v (.at (.bl true)) as)) :
    spD K cl 1 F [.ref a] H (fun v _ => v = .bl true) fun _ _ _ => False := by
  obtain ⟨as, e⟩ := h
  refine ⟨H, [.lst (ns.map fun i => D.at (.int i))], [], _, ⟨List.nodup_nil, Sub.refl _, fun _ h => (by simp at h), fun _ h => (by simp at h)⟩, ?_, rfl, e, fun v G' H' fv fp' _ _ rd _ => rd.at_inv.1⟩
  have := Rs.cons (R.ndL (cl := cl) (H := H) hS (Rs.ints ns)) Rs.nil
  simpa using this
end DL

set_option maxRecDepth 100000
/-! DLW: what the plain functions come to, by what is wanted of the end. -/
namespace DL
open PySem L2 PySem.Spec PyProof.Rows

def wO {α : Type} (o : Option α) (P : α → Prop) : Prop := ∃ a, o = some a ∧ P a
def wR {α : Type} (o : Option (Rr α)) (P : α → En → Prop) (E : Exn → En → Prop) : Prop := ∃ r, o = some r ∧ match r with
  | .v a ρ => P a ρ
  | .x e ρ => E e ρ
structure Ed where
  nx : En → Prop
  rt : D → En → Prop
  bk : En → Prop
  ct : En → Prop
  ex : Exn → En → Prop
def Ed.at (Q : Ed) : Out → Prop
  | .nx ρ => Q.nx ρ
  | .rt d ρ => Q.rt d ρ
  | .bk ρ => Q.bk ρ
  | .ct ρ => Q.ct ρ
  | .ex e ρ => Q.ex e ρ
def wS (o : Option Out) (Q : Ed) : Prop := ∃ r, o = some r ∧ Q.at r
/-- a def's end: its value and its arguments behind it -/
def wD (o : Option Ret) (P : D → List D → Prop) (E : Exn → List D → Prop) : Prop := ∃ r, o = some r ∧ match r with
  | .v d as => P d as
  | .x e as => E e as
section
variable {α β : Type}
theorem wO_some {a : α} {P : α → Prop} : wO (some a) P ↔ P a := ⟨fun ⟨b, e, h⟩ => by cases e; exact h, fun h => ⟨a, rfl, h⟩⟩
theorem wO_none {P : α → Prop} : wO (none : Option α) P ↔ False := ⟨fun ⟨b, e, h⟩ => (by cases e), False.elim⟩
theorem wO_ite {c : Prop} [Decidable c] {a b : Option α} {P : α → Prop} : wO (if c then a else b) P ↔ if c then wO a P else wO b P := by
  by_cases h : c
  · rw [if_pos h, if_pos h]
  · rw [if_neg h, if_neg h]
theorem wO_iteN {c : Prop} [Decidable c] {a : Option α} {P : α → Prop} : wO (if c then a else none) P ↔ c ∧ wO a P := by
  by_cases h : c
  · rw [if_pos h]; exact ⟨fun z => ⟨h, z⟩, fun z => z.2⟩
  · rw [if_neg h]; exact ⟨fun ⟨_, e, _⟩ => (by cases e), fun z => absurd z.1 h⟩
theorem wO_bind {o : Option α} {f : α → Option β} {P : β → Prop} : wO (o.bind f) P ↔ wO o fun a => wO (f a) P := by
  cases o with
  | none => exact ⟨fun ⟨_, e, _⟩ => (by cases e), fun ⟨_, e, _⟩ => (by cases e)⟩
  | some a => exact ⟨fun h => ⟨a, rfl, h⟩, fun ⟨b, e, h⟩ => by cases e; exact h⟩
theorem wO_map {o : Option α} {f : α → β} {P : β → Prop} : wO (o.map f) P ↔ wO o fun a => P (f a) := by
  cases o with
  | none => exact ⟨fun ⟨_, e, _⟩ => (by cases e), fun ⟨_, e, _⟩ => (by cases e)⟩
  | some a => exact ⟨fun ⟨b, e, h⟩ => ⟨a, rfl, by cases e; exact h⟩, fun ⟨b, e, h⟩ => by cases e; exact ⟨_, rfl, h⟩⟩
theorem wO_mono {o : Option α} {P Q : α → Prop} (h : wO o P) (k : ∀ a, P a → Q a) : wO o Q := let ⟨a, e, p⟩ := h; ⟨a, e, k a p⟩
theorem wR_mono {o : Option (Rr α)} {P P' : α → En → Prop} {E E' : Exn → En → Prop} (h : wR o P E) (k : ∀ a ρ, P a ρ → P' a ρ) (k2 : ∀ e ρ, E e ρ → E' e ρ) : wR o P' E' := by
  obtain ⟨r, e, p⟩ := h
  refine ⟨r, e, ?_⟩
  cases r with
  | v a ρ => exact k a ρ p
  | x e1 ρ => exact k2 e1 ρ p
end
section
variable {α β : Type} {P : α → En → Prop} {E : Exn → En → Prop} {ρ : En}
theorem wR_v {a : α} : wR (some (.v a ρ)) P E ↔ P a ρ := ⟨fun ⟨r, e, h⟩ => by cases e; exact h, fun h => ⟨_, rfl, h⟩⟩
theorem wR_rb {f : En → Option (Rr β)} {g : β → En → Option (Rr α)} : wR (rb f g ρ) P E ↔ wR (f ρ) (fun b ρ' => wR (g b ρ') P E) E := by
  unfold rb
  cases f ρ with
  | none => exact ⟨fun ⟨_, e, _⟩ => (by cases e), fun ⟨_, e, _⟩ => (by cases e)⟩
  | some y =>
    cases y with
    | v b ρ' => exact ⟨fun h => ⟨_, rfl, h⟩, fun ⟨r, e, h⟩ => by cases e; exact h⟩
    | x e ρ' => exact ⟨fun ⟨r, e, h⟩ => by cases e; exact ⟨_, rfl, h⟩, fun ⟨r, e, h⟩ => by cases e; exact ⟨_, rfl, h⟩⟩
theorem wR_rp {o : Option α} : wR (rp o ρ) P E ↔ wO o fun a => P a ρ := by
  unfold rp
  cases o with
  | none => exact ⟨fun ⟨_, e, _⟩ => (by cases e), fun ⟨_, e, _⟩ => (by cases e)⟩
  | some y => exact ⟨fun ⟨r, e, h⟩ => by cases e; exact ⟨_, rfl, h⟩, fun ⟨r, e, h⟩ => by cases e; exact ⟨_, rfl, h⟩⟩
theorem wR_of_map {γ : Type} {o : Option γ} {f : γ → α} : wR (o.map fun c => Rr.v (f c) ρ) P E ↔ wO o fun c => P (f c) ρ := by
  cases o with
  | none => exact ⟨fun ⟨_, e, _⟩ => (by cases e), fun ⟨_, e, _⟩ => (by cases e)⟩
  | some y => exact ⟨fun ⟨r, e, h⟩ => by cases e; exact ⟨_, rfl, h⟩, fun ⟨r, e, h⟩ => by cases e; exact ⟨_, rfl, h⟩⟩
theorem wR_of_mapE {γ : Type} {o : Option γ} {a : α} {f : γ → En} : wR (o.map fun c => Rr.v a (f c)) P E ↔ wO o fun c => P a (f c) := by
  cases o with
  | none => exact ⟨fun ⟨_, e, _⟩ => (by cases e), fun ⟨_, e, _⟩ => (by cases e)⟩
  | some y => exact ⟨fun ⟨r, e, h⟩ => by cases e; exact ⟨_, rfl, h⟩, fun ⟨r, e, h⟩ => by cases e; exact ⟨_, rfl, h⟩⟩
theorem wR_bind {γ : Type} {o : Option γ} {f : γ → Option (Rr α)} : wR (o.bind f) P E ↔ wO o fun c => wR (f c) P E := by
  cases o with
  | none => exact ⟨fun ⟨_, e, _⟩ => (by cases e), fun ⟨_, e, _⟩ => (by cases e)⟩
  | some y => exact ⟨fun h => ⟨_, rfl, h⟩, fun ⟨r, e, h⟩ => by cases e; exact h⟩
theorem wR_iteN {c : Prop} [Decidable c] {o : Option (Rr α)} : wR (if c then o else none) P E ↔ c ∧ wR o P E := by
  by_cases h : c
  · rw [if_pos h]; exact ⟨fun z => ⟨h, z⟩, fun z => z.2⟩
  · rw [if_neg h]; exact ⟨fun ⟨_, e, _⟩ => (by cases e), fun z => absurd z.1 h⟩
theorem wR_ite {c : Prop} [Decidable c] {o o' : Option (Rr α)} : wR (if c then o else o') P E ↔ if c then wR o P E else wR o' P E := by
  by_cases h : c
  · rw [if_pos h, if_pos h]
  · rw [if_neg h, if_neg h]
theorem wR_none : wR (none : Option (Rr α)) P E ↔ False := ⟨fun ⟨_, e, _⟩ => (by cases e), False.elim⟩
/-- a test that goes two ways, as functions -/
theorem app_ite {c : Prop} [Decidable c] {f g : En → Option (Rr α)} : (if c then f else g) ρ = if c then f ρ else g ρ := by
  by_cases h : c
  · rw [if_pos h, if_pos h]
  · rw [if_neg h, if_neg h]
end
/-! ### values -/
section
variable {P : D → En → Prop} {E : Exn → En → Prop} {ρ : En} {T : D → Prop} {k : D → D → Option D} {k1 : D → Option D}
theorem wq_var {i : Nat} : wO (qVar i ρ) T ↔ wO (look ρ i) T := Iff.rfl
theorem wq_c {v : V} : wO (qC v ρ) T ↔ T (.at v) := wO_some
theorem wq_2 {a b : QF} : wO (q2 k a b ρ) T ↔ wO (a ρ) fun x => wO (b ρ) fun y => wO (k x y) T := by
  unfold q2
  rw [wO_bind]
  exact ⟨fun h => wO_mono h fun x z => wO_bind.mp z, fun h => wO_mono h fun x z => wO_bind.mpr z⟩
theorem wq_1 {a : QF} : wO (q1 k1 a ρ) T ↔ wO (a ρ) fun x => wO (k1 x) T := wO_bind
theorem wq_A {f : List D → Option D} {g : QL} : wO (qA f g ρ) T ↔ wO (g ρ) fun ds => wO (f ds) T := wO_bind
theorem wq_lNil {T : List D → Prop} : wO (lNil ρ) T ↔ T [] := wO_some
theorem wq_lCons {T : List D → Prop} {q : QF} {g : QL} : wO (lCons q g ρ) T ↔ wO (q ρ) fun d => wO (g ρ) fun ds => T (d :: ds) := by
  unfold lCons
  rw [wO_bind]
  exact ⟨fun h => wO_mono h fun x z => wO_map.mp z, fun h => wO_mono h fun x z => wO_map.mpr z⟩
theorem wq_sl {q : QF} {lo hi : QO} : wO (qSl q lo hi ρ) T ↔ wO (q ρ) fun d => wO (lo ρ) fun a => wO (hi ρ) fun b => wO (kSl a b d) T := by
  unfold qSl
  rw [wO_bind]
  refine ⟨fun h => wO_mono h fun x z => wO_mono (wO_bind.mp z) fun y u => wO_bind.mp u, fun h => wO_mono h fun x z => wO_bind.mpr (wO_mono z fun y u => wO_bind.mpr u)⟩
theorem wo_none {T : Option Int → Prop} : wO (oNone ρ) T ↔ T none := wO_some
theorem wo_some {T : Option Int → Prop} {q : QF} : wO (oSome q ρ) T ↔ wO (q ρ) fun d => wO (asI d) fun i => T (some i) := by
  unfold oSome
  rw [wO_map, wO_bind]
theorem wv_cp {q : QF} : wR (cp q ρ) P E ↔ wO (q ρ) fun d => nOw d = true ∧ P d ρ := by
  unfold cp
  rw [wR_bind]
  exact ⟨fun h => wO_mono h fun x z => (wR_iteN.mp z).imp id wR_v.mp, fun h => wO_mono h fun x z => wR_iteN.mpr (z.imp id wR_v.mpr)⟩
theorem wv_mk {q : QF} : wR (mk q ρ) P E ↔ wO (q ρ) fun d => P d ρ := wR_of_map
theorem wv_share {i : Nat} : wR (vShare i ρ) P E ↔ wO (look ρ i) fun d => fok d = true ∧ P (frz d) (ρ.set i (some (frz d))) := by
  unfold vShare
  rw [wR_bind]
  exact ⟨fun h => wO_mono h fun x z => (wR_iteN.mp z).imp id wR_v.mp, fun h => wO_mono h fun x z => wR_iteN.mpr (z.imp id wR_v.mpr)⟩
theorem wv_move {i : Nat} : wR (vMove i ρ) P E ↔ wO (look ρ i) fun d => P d (ρ.set i none) := by
  unfold vMove
  rw [wR_bind]
  exact ⟨fun h => wO_mono h fun x z => wR_v.mp z, fun h => wO_mono h fun x z => wR_v.mpr z⟩
theorem wv_1 {a : VF} : wR (v1 k1 a ρ) P E ↔ wR (a ρ) (fun x ρ' => wO (k1 x) fun d => P d ρ') E := by
  unfold v1
  rw [wR_rb]
  exact ⟨fun h => wR_mono h (fun x ρ' z => wR_rp.mp z) fun _ _ z => z, fun h => wR_mono h (fun x ρ' z => wR_rp.mpr z) fun _ _ z => z⟩
theorem wv_2 {a b : VF} : wR (v2 k a b ρ) P E ↔ wR (a ρ) (fun x ρ1 => wR (b ρ1) (fun y ρ2 => wO (k x y) fun d => P d ρ2) E) E := by
  unfold v2
  rw [wR_rb]
  exact ⟨fun h => wR_mono h (fun x ρ' z => wR_mono (wR_rb.mp z) (fun y ρ2 u => wR_rp.mp u) fun _ _ z => z) fun _ _ z => z, fun h => wR_mono h (fun x ρ' z => wR_rb.mpr (wR_mono z (fun y ρ2 u => wR_rp.mpr u) fun _ _ z => z)) fun _ _ z => z⟩
theorem wv_A {f : List D → Option D} {g : LF} : wR (vA f g ρ) P E ↔ wR (g ρ) (fun ds ρ' => wO (f ds) fun d => P d ρ') E := by
  unfold vA
  rw [wR_rb]
  exact ⟨fun h => wR_mono h (fun x ρ' z => wR_rp.mp z) fun _ _ z => z, fun h => wR_mono h (fun x ρ' z => wR_rp.mpr z) fun _ _ z => z⟩
theorem wa_nil {P : List D → En → Prop} : wR (aNil ρ) P E ↔ P [] ρ := wR_v
theorem wa_cons {P : List D → En → Prop} {f : VF} {g : LF} : wR (aCons f g ρ) P E ↔ wR (f ρ) (fun d ρ1 => wR (g ρ1) (fun ds ρ2 => P (d :: ds) ρ2) E) E := by
  unfold aCons
  rw [wR_rb]
  exact ⟨fun h => wR_mono h (fun x ρ' z => wR_mono (wR_rb.mp z) (fun y ρ2 u => wR_v.mp u) fun _ _ z => z) fun _ _ z => z, fun h => wR_mono h (fun x ρ' z => wR_rb.mpr (wR_mono z (fun y ρ2 u => wR_v.mpr u) fun _ _ z => z)) fun _ _ z => z⟩
theorem wa_io {P : List D → En → Prop} {i : Nat} {g : LF} : wR (aIo i g ρ) P E ↔ wO (look ρ i) fun _ => wR (g ρ) (fun ds ρ1 => wO (look ρ1 i) fun d => P (d :: ds) (ρ1.set i none)) E := by
  unfold aIo
  rw [wR_bind]
  refine ⟨fun h => wO_mono h fun x z => ?_, fun h => wO_mono h fun x z => ?_⟩
  · cases hg : g ρ with
    | none => rw [hg] at z; exact (wR_none.mp z).elim
    | some y =>
      rw [hg] at z
      cases y with
      | v ds ρ1 => exact ⟨_, rfl, wR_of_map.mp z⟩
      | x e ρ1 =>
        obtain ⟨r, e1, h⟩ := z
        cases e1
        exact ⟨_, rfl, h⟩
  · obtain ⟨r, e, h⟩ := z
    rw [e]
    cases r with
    | v ds ρ1 => exact wR_of_map.mpr h
    | x e ρ1 => exact ⟨_, rfl, h⟩
theorem wv_tup {g : LF} : wR (vTup g ρ) P E ↔ wR (g ρ) (fun ds ρ' => ds.length ≤ sizeLine ∧ P (.tup ds) ρ') E := by
  unfold vTup
  rw [wR_rb]
  exact ⟨fun h => wR_mono h (fun x ρ' z => (wR_iteN.mp z).imp id wR_v.mp) fun _ _ z => z, fun h => wR_mono h (fun x ρ' z => wR_iteN.mpr (z.imp id wR_v.mpr)) fun _ _ z => z⟩
theorem wv_lst {g : LF} : wR (vLst g ρ) P E ↔ wR (g ρ) (fun ds ρ' => ds.length ≤ sizeLine ∧ P (.own ds) ρ') E := by
  unfold vLst
  rw [wR_rb]
  exact ⟨fun h => wR_mono h (fun x ρ' z => (wR_iteN.mp z).imp id wR_v.mp) fun _ _ z => z, fun h => wR_mono h (fun x ρ' z => wR_iteN.mpr (z.imp id wR_v.mpr)) fun _ _ z => z⟩
theorem wv_call {F : DF} {ios : List (Nat × Nat)} {args : LF} : wR (vCall F ios args ρ) P E ↔ wR (args ρ) (fun ds ρ' => wD (F ds) (fun d as => wO (putB ios (as.map some) ρ') fun ρ2 => P d ρ2) (fun e as => wO (putB ios (as.map some) ρ') fun ρ2 => E e ρ2)) E := by
  unfold vCall
  rw [wR_rb]
  refine ⟨fun h => wR_mono h (fun x ρ' z => ?_) fun _ _ z => z, fun h => wR_mono h (fun x ρ' z => ?_) fun _ _ z => z⟩
  · cases hF : F x with
    | none => rw [hF] at z; exact (wR_none.mp z).elim
    | some r =>
      rw [hF] at z
      refine ⟨r, rfl, ?_⟩
      cases r with
      | v d as => exact wR_of_mapE.mp z
      | x e as =>
        obtain ⟨r2, e2, h2⟩ := z
        obtain ⟨ρ2, e3, rfl⟩ := Option.map_eq_some_iff.mp e2
        exact ⟨ρ2, e3, h2⟩
  · obtain ⟨r, e, h2⟩ := z
    simp only [e]
    cases r with
    | v d as => exact wR_of_mapE.mpr h2
    | x e as =>
      obtain ⟨ρ2, e3, h3⟩ := h2
      exact ⟨_, Option.map_eq_some_iff.mpr ⟨ρ2, e3, rfl⟩, h3⟩
theorem wv_if {c : BF} {f g : VF} : wR (vIf c f g ρ) P E ↔ wR (c ρ) (fun b ρ' => if b = true then wR (f ρ') P E else wR (g ρ') P E) E := by
  unfold vIf
  rw [wR_rb]
  exact ⟨fun h => wR_mono h (fun x ρ' z => by rw [app_ite] at z; exact wR_ite.mp z) fun _ _ z => z, fun h => wR_mono h (fun x ρ' z => by rw [app_ite]; exact wR_ite.mpr z) fun _ _ z => z⟩
theorem wv_sl {f : VF} {lo hi : QO} : wR (vSl f lo hi ρ) P E ↔ wR (f ρ) (fun d ρ' => wO (lo ρ') fun a => wO (hi ρ') fun b => wO (kSl a b d) fun r => P r ρ') E := by
  unfold vSl
  rw [wR_rb]
  exact ⟨fun h => wR_mono h (fun x ρ' z => wO_mono (wR_bind.mp z) fun a u => wO_mono (wR_bind.mp u) fun b y => wR_of_map.mp y) fun _ _ z => z, fun h => wR_mono h (fun x ρ' z => wR_bind.mpr (wO_mono z fun a u => wR_bind.mpr (wO_mono u fun b y => wR_of_map.mpr y))) fun _ _ z => z⟩
theorem wv_ixN {i : Nat} {f : VF} : wR (vIxN i f ρ) P E ↔ wO (look ρ i) fun _ => wR (f ρ) (fun k ρ' => wO (look ρ' i) fun x => wO (kIx x k) fun d => nOw d = true ∧ P d ρ') E := by
  unfold vIxN
  rw [wR_bind]
  exact ⟨fun h => wO_mono h fun y w => wR_mono (wR_rb.mp w) (fun x ρ' z => wO_mono (wR_bind.mp z) fun a u => wO_mono (wR_bind.mp u) fun b y => (wR_iteN.mp y).imp id wR_v.mp) fun _ _ z => z,
    fun h => wO_mono h fun y w => wR_rb.mpr (wR_mono w (fun x ρ' z => wR_bind.mpr (wO_mono z fun a u => wR_bind.mpr (wO_mono u fun b y => wR_iteN.mpr (y.imp id wR_v.mpr)))) fun _ _ z => z)⟩
theorem wv_mt {k : Str → List D → Option D} {q : QF} {g : LF} : wR (vMt k q g ρ) P E ↔ wO (q ρ) fun x => wO (asS x) fun z => wR (g ρ) (fun as ρ' => wO (k z as) fun d => P d ρ') E := by
  unfold vMt
  rw [wR_bind, wO_bind]
  exact ⟨fun h => wO_mono h fun x z => wO_mono z fun y u => wR_mono (wR_rb.mp u) (fun _ _ a => wR_rp.mp a) fun _ _ z => z, fun h => wO_mono h fun x z => wO_mono z fun y u => wR_rb.mpr (wR_mono u (fun _ _ a => wR_rp.mpr a) fun _ _ z => z)⟩
theorem wv_mut {k : List D → List D → Option (D × List D)} {i : Nat} {g : LF} : wR (vMut k i g ρ) P E ↔ isL (look ρ i) = true ∧ wR (g ρ) (fun as ρ' => wO (look ρ' i) fun x => wO (match x with
    | .nd (.lst true) ds => some ds
    | _ => none) fun ds => wO (k ds as) fun p => P p.1 (ρ'.set i (some (.own p.2)))) E := by
  unfold vMut
  rw [wR_iteN, wR_rb]
  have key : ∀ (as : List D) (ρ' : En), wR (match look ρ' i with
      | some (.nd (.lst true) ds) => (k ds as).map fun p => Rr.v p.1 (ρ'.set i (some (.own p.2)))
      | _ => none) P E ↔ wO (look ρ' i) fun x => wO (match x with
    | .nd (.lst true) ds => some ds
    | _ => none) fun ds => wO (k ds as) fun p => P p.1 (ρ'.set i (some (.own p.2))) := fun as ρ' => by
    cases hl : look ρ' i with
    | none => exact ⟨fun ⟨_, e, _⟩ => (by cases e), fun ⟨_, e, _⟩ => (by cases e)⟩
    | some x =>
      rw [wO_some]
      have go : ∀ ds : List D, wR ((k ds as).map fun p => Rr.v p.1 (ρ'.set i (some (.own p.2)))) P E ↔ wO (k ds as) fun p => P p.1 (ρ'.set i (some (.own p.2))) := fun ds => by
        cases k ds as with
        | none => exact ⟨fun ⟨_, e, _⟩ => (by cases e), fun ⟨_, e, _⟩ => (by cases e)⟩
        | some y => exact ⟨fun ⟨r, e, h⟩ => by cases e; exact ⟨_, rfl, h⟩, fun ⟨r, e, h⟩ => by cases e; exact ⟨_, rfl, h⟩⟩
      split
      · rename_i ds he
        cases he
        rw [wO_some]
        exact go ds
      · rename_i hne
        split
        · rename_i ds
          exact absurd rfl (hne ds)
        · exact ⟨fun ⟨_, e, _⟩ => (by cases e), fun ⟨_, e, _⟩ => (by cases e)⟩
  exact ⟨fun h => h.imp id fun h => wR_mono h (fun as ρ' z => (key as ρ').mp z) fun _ _ z => z, fun h => h.imp id fun h => wR_mono h (fun as ρ' z => (key as ρ').mpr z) fun _ _ z => z⟩
end
/-! ### tests -/
section
variable {P : Bool → En → Prop} {E : Exn → En → Prop} {ρ : En}
theorem wb_q {q : QF} : wR (qB q ρ) P E ↔ wO (q ρ) fun d => wO (asB d) fun b => P b ρ := by
  unfold qB
  rw [wR_of_map (f := fun b => b), wO_bind]
theorem wb_t {q : QF} : wR (qT q ρ) P E ↔ wO (q ρ) fun d => wO (truD d) fun b => P b ρ := by
  unfold qT
  rw [wR_of_map (f := fun b => b), wO_bind]
theorem wb_v {f : VF} : wR (vB f ρ) P E ↔ wR (f ρ) (fun d ρ' => wO (asB d) fun b => P b ρ') E := by
  unfold vB
  rw [wR_rb]
  exact ⟨fun h => wR_mono h (fun x ρ' z => wR_rp.mp z) fun _ _ z => z, fun h => wR_mono h (fun x ρ' z => wR_rp.mpr z) fun _ _ z => z⟩
theorem wb_and {f g : BF} : wR (bAnd f g ρ) P E ↔ wR (f ρ) (fun b ρ' => if b = true then wR (g ρ') P E else P false ρ') E := by
  unfold bAnd
  rw [wR_rb]
  have key : ∀ b ρ', wR ((if b = true then g else fun ρ => some (.v false ρ)) ρ') P E ↔ if b = true then wR (g ρ') P E else P false ρ' := fun b ρ' => by
    cases b
    · exact wR_v
    · exact Iff.rfl
  exact ⟨fun h => wR_mono h (fun x ρ' z => (key x ρ').mp z) fun _ _ z => z, fun h => wR_mono h (fun x ρ' z => (key x ρ').mpr z) fun _ _ z => z⟩
theorem wb_or {f g : BF} : wR (bOr f g ρ) P E ↔ wR (f ρ) (fun b ρ' => if b = true then P true ρ' else wR (g ρ') P E) E := by
  unfold bOr
  rw [wR_rb]
  have key : ∀ b ρ', wR ((if b = true then fun ρ => some (.v true ρ) else g) ρ') P E ↔ if b = true then P true ρ' else wR (g ρ') P E := fun b ρ' => by
    cases b
    · exact Iff.rfl
    · exact wR_v
  exact ⟨fun h => wR_mono h (fun x ρ' z => (key x ρ').mp z) fun _ _ z => z, fun h => wR_mono h (fun x ρ' z => (key x ρ').mpr z) fun _ _ z => z⟩
theorem wb_not {f : BF} : wR (bNot f ρ) P E ↔ wR (f ρ) (fun b ρ' => P (!b) ρ') E := by
  unfold bNot
  rw [wR_rb]
  exact ⟨fun h => wR_mono h (fun x ρ' z => wR_v.mp z) fun _ _ z => z, fun h => wR_mono h (fun x ρ' z => wR_v.mpr z) fun _ _ z => z⟩
theorem wb_yes : wR (bYes ρ) P E ↔ P true ρ := wR_v
end
section
variable {P : D → En → Prop} {E : Exn → En → Prop} {ρ : En}
theorem wv_and {f g : VF} : wR (vAnd f g ρ) P E ↔ wR (f ρ) (fun d ρ' => wO (asB d) fun b => if b = true then wR (g ρ') P E else P (.at (.bl false)) ρ') E := by
  unfold vAnd
  rw [wR_rb, wb_v]
  have key : ∀ b ρ', wR ((if b = true then g else fun ρ => some (.v (.at (.bl false)) ρ)) ρ') P E ↔ if b = true then wR (g ρ') P E else P (.at (.bl false)) ρ' := fun b ρ' => by
    cases b
    · exact wR_v
    · exact Iff.rfl
  exact ⟨fun h => wR_mono h (fun x ρ' z => wO_mono z fun b u => (key b ρ').mp u) fun _ _ z => z, fun h => wR_mono h (fun x ρ' z => wO_mono z fun b u => (key b ρ').mpr u) fun _ _ z => z⟩
theorem wv_or {f g : VF} : wR (vOr f g ρ) P E ↔ wR (f ρ) (fun d ρ' => wO (asB d) fun b => if b = true then P (.at (.bl true)) ρ' else wR (g ρ') P E) E := by
  unfold vOr
  rw [wR_rb, wb_v]
  have key : ∀ b ρ', wR ((if b = true then fun ρ => some (.v (.at (.bl true)) ρ) else g) ρ') P E ↔ if b = true then P (.at (.bl true)) ρ' else wR (g ρ') P E := fun b ρ' => by
    cases b
    · exact Iff.rfl
    · exact wR_v
  exact ⟨fun h => wR_mono h (fun x ρ' z => wO_mono z fun b u => (key b ρ').mp u) fun _ _ z => z, fun h => wR_mono h (fun x ρ' z => wO_mono z fun b u => (key b ρ').mpr u) fun _ _ z => z⟩
theorem wv_not {f : VF} : wR (vNot f ρ) P E ↔ wR (f ρ) (fun d ρ' => wO (asB d) fun b => P (.at (.bl (!b))) ρ') E := by
  unfold vNot
  rw [wR_rb, wb_v]
  exact ⟨fun h => wR_mono h (fun x ρ' z => wO_mono z fun b u => wR_v.mp u) fun _ _ z => z, fun h => wR_mono h (fun x ρ' z => wO_mono z fun b u => wR_v.mpr u) fun _ _ z => z⟩
end
/-! ### statements -/
section
variable {Q : Ed} {ρ : En}
theorem wS_nx : wS (some (.nx ρ)) Q ↔ Q.nx ρ := ⟨fun ⟨r, e, h⟩ => by cases e; exact h, fun h => ⟨_, rfl, h⟩⟩
theorem wS_mono {o : Option Out} {Q Q' : Ed} (h : wS o Q) (k : ∀ r, Q.at r → Q'.at r) : wS o Q' := let ⟨r, e, p⟩ := h; ⟨r, e, k r p⟩
theorem ws_seq {f g : SF} : wS (sSeq f g ρ) Q ↔ wS (f ρ) { Q with nx := fun ρ' => wS (g ρ') Q } := by
  unfold sSeq
  cases f ρ with
  | none => exact ⟨fun ⟨_, e, _⟩ => (by cases e), fun ⟨_, e, _⟩ => (by cases e)⟩
  | some y =>
    cases y with
    | nx ρ' => exact ⟨fun h => ⟨_, rfl, h⟩, fun ⟨r, e, h⟩ => by cases e; exact h⟩
    | rt d ρ' => exact ⟨fun ⟨r, e, h⟩ => by cases e; exact ⟨_, rfl, h⟩, fun ⟨r, e, h⟩ => by cases e; exact ⟨_, rfl, h⟩⟩
    | bk ρ' => exact ⟨fun ⟨r, e, h⟩ => by cases e; exact ⟨_, rfl, h⟩, fun ⟨r, e, h⟩ => by cases e; exact ⟨_, rfl, h⟩⟩
    | ct ρ' => exact ⟨fun ⟨r, e, h⟩ => by cases e; exact ⟨_, rfl, h⟩, fun ⟨r, e, h⟩ => by cases e; exact ⟨_, rfl, h⟩⟩
    | ex e ρ' => exact ⟨fun ⟨r, e, h⟩ => by cases e; exact ⟨_, rfl, h⟩, fun ⟨r, e, h⟩ => by cases e; exact ⟨_, rfl, h⟩⟩
theorem ws_ov {f : VF} {g : D → En → Option Out} : wS (ov f g ρ) Q ↔ wR (f ρ) (fun d ρ' => wS (g d ρ') Q) Q.ex := by
  unfold ov
  cases f ρ with
  | none => exact ⟨fun ⟨_, e, _⟩ => (by cases e), fun ⟨_, e, _⟩ => (by cases e)⟩
  | some y =>
    cases y with
    | v b ρ' => exact ⟨fun h => ⟨_, rfl, h⟩, fun ⟨r, e, h⟩ => by cases e; exact h⟩
    | x e ρ' => exact ⟨fun ⟨r, e, h⟩ => by cases e; exact ⟨_, rfl, h⟩, fun ⟨r, e, h⟩ => by cases e; exact ⟨_, rfl, h⟩⟩
theorem ws_map {o : Option En} : wS (o.map .nx) Q ↔ wO o Q.nx := by
  cases o with
  | none => exact ⟨fun ⟨_, e, _⟩ => (by cases e), fun ⟨_, e, _⟩ => (by cases e)⟩
  | some y => exact ⟨fun ⟨r, e, h⟩ => by cases e; exact ⟨_, rfl, h⟩, fun ⟨r, e, h⟩ => by cases e; exact ⟨_, rfl, h⟩⟩
theorem ws_asg {f : VF} {t : GF} : wS (sAsg f t ρ) Q ↔ wR (f ρ) (fun d ρ' => wO (t d ρ') Q.nx) Q.ex := by
  unfold sAsg
  rw [ws_ov]
  exact ⟨fun h => wR_mono h (fun x ρ' z => ws_map.mp z) fun _ _ z => z, fun h => wR_mono h (fun x ρ' z => ws_map.mpr z) fun _ _ z => z⟩
theorem ws_ret {f : VF} : wS (sRet f ρ) Q ↔ wR (f ρ) Q.rt Q.ex := by
  unfold sRet
  rw [ws_ov]
  exact ⟨fun h => wR_mono h (fun x ρ' ⟨r, e, z⟩ => by cases e; exact z) fun _ _ z => z, fun h => wR_mono h (fun x ρ' z => ⟨_, rfl, z⟩) fun _ _ z => z⟩
theorem ws_retN : wS (sRetN ρ) Q ↔ Q.rt .non ρ := ⟨fun ⟨r, e, h⟩ => by cases e; exact h, fun h => ⟨_, rfl, h⟩⟩
theorem ws_drop {f : VF} : wS (sDrop f ρ) Q ↔ wR (f ρ) (fun _ ρ' => Q.nx ρ') Q.ex := by
  unfold sDrop
  rw [ws_ov]
  exact ⟨fun h => wR_mono h (fun x ρ' z => wS_nx.mp z) fun _ _ z => z, fun h => wR_mono h (fun x ρ' z => wS_nx.mpr z) fun _ _ z => z⟩
theorem ws_pass : wS (sPass ρ) Q ↔ Q.nx ρ := wS_nx
theorem ws_bk : wS (sBk ρ) Q ↔ Q.bk ρ := ⟨fun ⟨r, e, h⟩ => by cases e; exact h, fun h => ⟨_, rfl, h⟩⟩
theorem ws_ct : wS (sCt ρ) Q ↔ Q.ct ρ := ⟨fun ⟨r, e, h⟩ => by cases e; exact h, fun h => ⟨_, rfl, h⟩⟩
theorem ws_if {c : BF} {f g : SF} : wS (sIf c f g ρ) Q ↔ wR (c ρ) (fun b ρ' => if b = true then wS (f ρ') Q else wS (g ρ') Q) Q.ex := by
  unfold sIf
  cases c ρ with
  | none => exact ⟨fun ⟨_, e, _⟩ => (by cases e), fun ⟨_, e, _⟩ => (by cases e)⟩
  | some y =>
    cases y with
    | v b ρ' =>
      cases b
      · exact ⟨fun h => ⟨_, rfl, h⟩, fun ⟨r, e, h⟩ => by cases e; exact h⟩
      · exact ⟨fun h => ⟨_, rfl, h⟩, fun ⟨r, e, h⟩ => by cases e; exact h⟩
    | x e ρ' => exact ⟨fun ⟨r, e, h⟩ => by cases e; exact ⟨_, rfl, h⟩, fun ⟨r, e, h⟩ => by cases e; exact ⟨_, rfl, h⟩⟩
theorem ws_aug {i : Nat} {k : D → D → Option D} {f : VF} : wS (sAug i k f ρ) Q ↔ (look ρ i).isSome = true ∧ wR (f ρ) (fun d ρ' => wO (look ρ' i) fun x => wO (k x d) fun r => Q.nx (ρ'.set i (some r))) Q.ex := by
  unfold sAug
  have key : ∀ d ρ', wS ((look ρ' i).bind fun x => (k x d).map fun r => Out.nx (ρ'.set i (some r))) Q ↔ wO (look ρ' i) fun x => wO (k x d) fun r => Q.nx (ρ'.set i (some r)) := fun d ρ' => by
    cases look ρ' i with
    | none => exact ⟨fun ⟨_, e, _⟩ => (by cases e), fun ⟨_, e, _⟩ => (by cases e)⟩
    | some x =>
      rw [wO_some]
      show wS ((k x d).map _) Q ↔ _
      cases k x d with
      | none => exact ⟨fun ⟨_, e, _⟩ => (by cases e), fun ⟨_, e, _⟩ => (by cases e)⟩
      | some y => exact ⟨fun ⟨r, e, h⟩ => by cases e; exact ⟨_, rfl, h⟩, fun ⟨r, e, h⟩ => by cases e; exact ⟨_, rfl, h⟩⟩
  by_cases h : (look ρ i).isSome = true
  · rw [if_pos h, ws_ov]
    exact ⟨fun z => ⟨h, wR_mono z (fun d ρ' u => (key d ρ').mp u) fun _ _ z => z⟩, fun z => wR_mono z.2 (fun d ρ' u => (key d ρ').mpr u) fun _ _ z => z⟩
  · rw [if_neg h]
    exact ⟨fun ⟨_, e, _⟩ => (by cases e), fun z => absurd z.1 h⟩
theorem ws_augI {i : Nat} {q : QF} {k : D → D → Option D} {f : QF} : wS (sAugI i q k f ρ) Q ↔ wO (look ρ i) fun o => wO (match o with
    | .nd (.lst true) ds => some ds
    | _ => none) fun ds => wO (q ρ) fun dj => wO (asI dj) fun j => wO (ixN ds.length j) fun n => wO (ds[n]?) fun x => wO (f ρ) fun y => wO (k x y) fun z => nOw z = true ∧ Q.nx (ρ.set i (some (.own (ds.set n z)))) := by
  unfold sAugI
  cases hl : look ρ i with
  | none => exact ⟨fun ⟨_, e, _⟩ => (by cases e), fun ⟨_, e, _⟩ => (by cases e)⟩
  | some o =>
    rw [wO_some]
    have go : ∀ ds : List D, wS (((q ρ).bind asI).bind fun j => (ixN ds.length j).bind fun n => (ds[n]?).bind fun x => (f ρ).bind fun y => (k x y).bind fun z => if nOw z = true then some (Out.nx (ρ.set i (some (.own (ds.set n z))))) else none) Q ↔
        wO (q ρ) fun dj => wO (asI dj) fun j => wO (ixN ds.length j) fun n => wO (ds[n]?) fun x => wO (f ρ) fun y => wO (k x y) fun z => nOw z = true ∧ Q.nx (ρ.set i (some (.own (ds.set n z)))) := fun ds => by
      constructor
      · rintro ⟨r, e, h⟩
        obtain ⟨j, e1, e⟩ := Option.bind_eq_some_iff.mp e
        obtain ⟨dj, e2, e3⟩ := Option.bind_eq_some_iff.mp e1
        obtain ⟨n, e4, e⟩ := Option.bind_eq_some_iff.mp e
        obtain ⟨x, e5, e⟩ := Option.bind_eq_some_iff.mp e
        obtain ⟨y, e6, e⟩ := Option.bind_eq_some_iff.mp e
        obtain ⟨z, e7, e⟩ := Option.bind_eq_some_iff.mp e
        obtain ⟨hz, rfl⟩ := iteSome e
        exact ⟨dj, e2, j, e3, n, e4, x, e5, y, e6, z, e7, hz, h⟩
      · rintro ⟨dj, e2, j, e3, n, e4, x, e5, y, e6, z, e7, hz, h⟩
        refine ⟨.nx (ρ.set i (some (.own (ds.set n z)))), ?_, h⟩
        rw [e2, Option.bind_some, e3, Option.bind_some, e4, Option.bind_some, e5, Option.bind_some, e6, Option.bind_some, e7, Option.bind_some, if_pos hz]
    split
    · rename_i ds he
      cases he
      rw [wO_some]
      exact go ds
    · rename_i hne
      split
      · rename_i ds
        exact absurd rfl (hne ds)
      · exact ⟨fun ⟨_, e, _⟩ => (by cases e), fun ⟨_, e, _⟩ => (by cases e)⟩
theorem wg_item {T : En → Prop} {i : Nat} {q : QF} {d : D} : wO (gItem i q d ρ) T ↔ wO (look ρ i) fun o => wO (match o with
    | .nd (.lst true) ds => some ds
    | _ => none) fun ds => wO (q ρ) fun dj => wO (asI dj) fun j => wO (ixN ds.length j) fun n => T (ρ.set i (some (.own (ds.set n d)))) := by
  unfold gItem
  cases hl : look ρ i with
  | none => exact ⟨fun ⟨_, e, _⟩ => (by cases e), fun ⟨_, e, _⟩ => (by cases e)⟩
  | some o =>
    rw [wO_some]
    split
    · rename_i ds he
      cases he
      rw [wO_some, wO_bind, wO_bind]
      exact ⟨fun h => wO_mono h fun dj z => wO_mono z fun j u => wO_map.mp u, fun h => wO_mono h fun dj z => wO_mono z fun j u => wO_map.mpr u⟩
    · rename_i hne
      split
      · rename_i ds
        exact absurd rfl (hne ds)
      · exact ⟨fun ⟨_, e, _⟩ => (by cases e), fun ⟨_, e, _⟩ => (by cases e)⟩
theorem wg_set {T : En → Prop} {i : Nat} {d : D} : wO (gSet i d ρ) T ↔ i < ρ.length ∧ T (ρ.set i (some d)) := by
  unfold gSet
  rw [wO_iteN]
  exact ⟨fun h => h.imp id wO_some.mp, fun h => h.imp id wO_some.mpr⟩
theorem wg_tup {T : En → Prop} {t : GFs} {ds : List D} : wO (gTup' t (.nd .tup ds) ρ) T ↔ wO (t ds ρ) T := Iff.rfl
theorem wg_cons {T : En → Prop} {t : GF} {u : GFs} {d : D} {ds : List D} : wO (gCons' t u (d :: ds) ρ) T ↔ wO (t d ρ) fun ρ' => wO (u ds ρ') T := wO_bind
theorem wg_nil {T : En → Prop} : wO (gNil' [] ρ) T ↔ T ρ := wO_some
/-! loops -/
theorem ws_for {it : LF} {t : GF} {b : SF} : wS (sFor it t b ρ) Q ↔ wR (it ρ) (fun ds ρ' => wS (forD t b ds ρ') Q) Q.ex := by
  unfold sFor
  cases it ρ with
  | none => exact ⟨fun ⟨_, e, _⟩ => (by cases e), fun ⟨_, e, _⟩ => (by cases e)⟩
  | some y =>
    cases y with
    | v ds ρ' => exact ⟨fun h => ⟨_, rfl, h⟩, fun ⟨r, e, h⟩ => by cases e; exact h⟩
    | x e ρ' => exact ⟨fun ⟨r, e, h⟩ => by cases e; exact ⟨_, rfl, h⟩, fun ⟨r, e, h⟩ => by cases e; exact ⟨_, rfl, h⟩⟩
/-- what a turn of a loop is to reach -/
abbrev Ed.turn (Q : Ed) (N : En → Prop) : Ed := { nx := N, ct := N, bk := Q.nx, rt := Q.rt, ex := Q.ex }
theorem w_forD {t : GF} {b : SF} (I : Nat → En → Prop) : ∀ {ds : List D} {n : Nat} {ρ : En}, I n ρ → (∀ i d ρ, ds[i]? = some d → I (n + i) ρ → wO (t d ρ) fun ρ1 => wS (b ρ1) (Q.turn (I (n + i + 1)))) → (∀ ρ, I (n + ds.length) ρ → Q.nx ρ) → wS (forD t b ds ρ) Q
  | [], n, ρ, h, _, k => ⟨_, rfl, k ρ h⟩
  | d :: ds, n, ρ, h, s, k => by
    obtain ⟨ρ1, e1, out, e2, h2⟩ := s 0 d ρ rfl h
    have go : ∀ ρ2, I (n + 1) ρ2 → wS (forD t b ds ρ2) Q := fun ρ2 h3 => w_forD I (n := n + 1) h3 (fun i d' ρ' hd hi => by
      have := s (i + 1) d' ρ' (by simpa using hd) (by rw [show n + (i + 1) = n + 1 + i by omega]; exact hi)
      rw [show n + (i + 1) + 1 = n + 1 + i + 1 by omega] at this
      exact this) fun ρ' h' => k ρ' (by rw [List.length_cons, show n + (ds.length + 1) = n + 1 + ds.length by omega]; exact h')
    unfold forD
    rw [e1]
    dsimp only
    rw [e2]
    cases out with
    | nx ρ2 => exact go ρ2 h2
    | ct ρ2 => exact go ρ2 h2
    | bk ρ2 => exact ⟨_, rfl, h2⟩
    | rt d ρ2 => exact ⟨_, rfl, h2⟩
    | ex e ρ2 => exact ⟨_, rfl, h2⟩
theorem w_for {t : GF} {b : SF} {ds : List D} (I : Nat → En → Prop) (h0 : I 0 ρ) (hs : ∀ i d ρ, ds[i]? = some d → I i ρ → wO (t d ρ) fun ρ1 => wS (b ρ1) (Q.turn (I (i + 1)))) (he : ∀ ρ, I ds.length ρ → Q.nx ρ) : wS (forD t b ds ρ) Q :=
  w_forD I (n := 0) h0 (fun i d ρ hd hi => by simpa using hs i d ρ hd (by simpa using hi)) fun ρ h => he ρ (by simpa using h)
/-- a while loop by what holds and a number that falls -/
theorem w_while {c : BF} {b : SF} (I : Nat → En → Prop) : ∀ {m : Nat} {ρ : En}, I m ρ → (∀ m ρ, I m ρ → wR (c ρ) (fun k ρ1 => if k = true then wS (b ρ1) (Q.turn fun ρ2 => ∃ m', m' < m ∧ I m' ρ2) else Q.nx ρ1) Q.ex) → wS (sWhile c b ρ) Q := by
  intro m
  induction m using Nat.strongRecOn with
  | ind m ih =>
    intro ρ h s
    obtain ⟨r, e1, h1⟩ := s m ρ h
    have fin : ∀ o, whileD c b 1 ρ = some o → sWhile c b ρ = some o := fun o e => sWhile_of e
    cases r with
    | x e ρ1 => exact ⟨.ex e ρ1, fin _ (by unfold whileD; rw [e1]), h1⟩
    | v k ρ1 =>
      cases k with
      | false => exact ⟨.nx ρ1, fin _ (by unfold whileD; rw [e1]; rfl), h1⟩
      | true =>
        obtain ⟨out, e2, h2⟩ : wS (b ρ1) _ := by simpa using h1
        have go : ∀ ρ2, (∃ m', m' < m ∧ I m' ρ2) → (b ρ1 = some (.nx ρ2) ∨ b ρ1 = some (.ct ρ2)) → wS (sWhile c b ρ) Q := fun ρ2 ⟨m', hm, hi⟩ hb => by
          obtain ⟨o, e3, h3⟩ := ih m' hm hi s
          obtain ⟨n, e4⟩ := of_sWhile e3
          refine ⟨o, sWhile_of (n := n + 1) ?_, h3⟩
          unfold whileD
          rw [e1]
          rcases hb with hb | hb <;> (simp only [hb, if_pos]; exact e4)
        cases out with
        | nx ρ2 => exact go ρ2 h2 (.inl e2)
        | ct ρ2 => exact go ρ2 h2 (.inr e2)
        | bk ρ2 => exact ⟨.nx ρ2, fin _ (by unfold whileD; rw [e1]; simp only [e2, if_pos]), h2⟩
        | rt d ρ2 => exact ⟨.rt d ρ2, fin _ (by unfold whileD; rw [e1]; simp only [e2, if_pos]), h2⟩
        | ex e ρ2 => exact ⟨.ex e ρ2, fin _ (by unfold whileD; rw [e1]; simp only [e2, if_pos]), h2⟩
end
section
variable {P : D → En → Prop} {E : Exn → En → Prop} {ρ : En}
theorem wv_lc {it : LF} {t : GF} {c : BF} {e : VF} {vs : List Nat} : wR (vLc it t c e vs ρ) P E ↔ wR (it ρ) (fun ds ρ' => lowE ρ' vs = true ∧ wO (lcD t c e vs ds [] (wipeE ρ' vs)) fun p => lowE p.2 vs = true ∧ P (.own p.1) (backE ρ' p.2 vs)) E := by
  unfold vLc
  cases it ρ with
  | none => exact ⟨fun ⟨_, e, _⟩ => (by cases e), fun ⟨_, e, _⟩ => (by cases e)⟩
  | some y =>
    cases y with
    | x e ρ' => exact ⟨fun ⟨r, e, h⟩ => by cases e; exact ⟨_, rfl, h⟩, fun ⟨r, e, h⟩ => by cases e; exact ⟨_, rfl, h⟩⟩
    | v ds ρ' =>
      rw [wR_v]
      dsimp only
      rw [wR_iteN, wR_bind]
      exact ⟨fun h => h.imp id fun z => wO_mono z fun p u => (wR_iteN.mp u).imp id wR_v.mp, fun h => h.imp id fun z => wO_mono z fun p u => wR_iteN.mpr (u.imp id wR_v.mpr)⟩
/-- a comprehension by what holds behind each turn: the list so far, the slots -/
theorem w_lcD {t : GF} {c : BF} {e : VF} {vs : List Nat} {T : List D × En → Prop} (I : Nat → List D → En → Prop) : ∀ {ds : List D} {n : Nat} {acc : List D} {ρ : En}, I n acc ρ →
    (∀ i d acc ρ, ds[i]? = some d → I (n + i) acc ρ → wO (t d ρ) fun ρ1 => wR (c ρ1) (fun b ρ2 => if b = true then wR (e ρ2) (fun y ρ3 => acc.length < sizeLine ∧ lowE ρ3 vs = true ∧ I (n + i + 1) (acc ++ [y]) (wipeE ρ3 vs)) (fun _ _ => False) else lowE ρ2 vs = true ∧ I (n + i + 1) acc (wipeE ρ2 vs)) fun _ _ => False) →
    (∀ acc ρ, I (n + ds.length) acc ρ → T (acc, ρ)) → wO (lcD t c e vs ds acc ρ) T
  | [], n, acc, ρ, h, _, k => ⟨_, rfl, k acc ρ h⟩
  | d :: ds, n, acc, ρ, h, s, k => by
    obtain ⟨ρ1, e1, r, e2, h2⟩ := s 0 d acc ρ rfl h
    have go : ∀ acc' ρ2, I (n + 1) acc' ρ2 → wO (lcD t c e vs ds acc' ρ2) T := fun acc' ρ2 h3 => w_lcD I (n := n + 1) h3 (fun i d' acc'' ρ' hd hi => by
      have := s (i + 1) d' acc'' ρ' (by simpa using hd) (by rw [show n + (i + 1) = n + 1 + i by omega]; exact hi)
      rw [show n + (i + 1) + 1 = n + 1 + i + 1 by omega] at this
      exact this) fun acc'' ρ' h' => k acc'' ρ' (by rw [List.length_cons, show n + (ds.length + 1) = n + 1 + ds.length by omega]; exact h')
    unfold lcD
    rw [e1]
    dsimp only
    rw [e2]
    cases r with
    | x e ρ2 => exact h2.elim
    | v b ρ2 =>
      cases b with
      | false =>
        obtain ⟨h3, h4⟩ : lowE ρ2 vs = true ∧ I (n + 1) acc (wipeE ρ2 vs) := by simpa using h2
        dsimp only
        rw [if_pos h3]
        exact go _ _ h4
      | true =>
        obtain ⟨r3, e3, h3⟩ : wR (e ρ2) _ _ := by simpa using h2
        dsimp only
        rw [e3]
        cases r3 with
        | x e ρ3 => exact h3.elim
        | v y ρ3 =>
          dsimp only
          rw [if_pos ⟨h3.1, h3.2.1⟩]
          exact go _ _ h3.2.2
theorem w_lc {t : GF} {c : BF} {e : VF} {vs : List Nat} {T : List D × En → Prop} {ds : List D} (I : Nat → List D → En → Prop) (h0 : I 0 [] ρ)
    (hs : ∀ i d acc ρ, ds[i]? = some d → I i acc ρ → wO (t d ρ) fun ρ1 => wR (c ρ1) (fun b ρ2 => if b = true then wR (e ρ2) (fun y ρ3 => acc.length < sizeLine ∧ lowE ρ3 vs = true ∧ I (i + 1) (acc ++ [y]) (wipeE ρ3 vs)) (fun _ _ => False) else lowE ρ2 vs = true ∧ I (i + 1) acc (wipeE ρ2 vs)) fun _ _ => False)
    (he : ∀ acc ρ, I ds.length acc ρ → T (acc, ρ)) : wO (lcD t c e vs ds [] ρ) T :=
  w_lcD I (n := 0) h0 (fun i d acc ρ hd hi => by simpa using hs i d acc ρ hd (by simpa using hi)) fun acc ρ h => he acc ρ (by simpa using h)
theorem wi_arg {P : List D → En → Prop} {k : List D → Option (List D)} {g : LF} : wR (iArg k g ρ) P E ↔ wR (g ρ) (fun ds ρ' => wO (k ds) fun r => P r ρ') E := by
  unfold iArg
  rw [wR_rb]
  exact ⟨fun h => wR_mono h (fun x ρ' z => wR_rp.mp z) fun _ _ z => z, fun h => wR_mono h (fun x ρ' z => wR_rp.mpr z) fun _ _ z => z⟩
end
/-! ### defs -/
section
variable {P : D → List D → Prop} {E : Exn → List D → Prop}
theorem wD_fn {n nn : Nat} {w : List Nat} {body : SF} {ds : List D} (hl : ds.length = n)
    (h : wS (body (ds.map some ++ List.replicate (nn - ds.length) none)) { nx := fun ρ => wO (finD w 0 ds ρ) fun as => P .non as, rt := fun d ρ => wO (finD w 0 ds ρ) fun as => P d as, bk := fun _ => False, ct := fun _ => False, ex := fun e ρ => wO (finD w 0 ds ρ) fun as => E e as }) :
    wD (fnN n (fnD w nn body) ds) P E := by
  obtain ⟨out, e, h⟩ := h
  unfold fnN fnD
  rw [if_pos hl, e]
  cases out with
  | nx ρ =>
    obtain ⟨as, e2, h2⟩ := h
    exact ⟨.v .non as, by dsimp only; rw [e2]; rfl, h2⟩
  | rt d ρ =>
    obtain ⟨as, e2, h2⟩ := h
    exact ⟨.v d as, by dsimp only; rw [e2]; rfl, h2⟩
  | ex e1 ρ =>
    obtain ⟨as, e2, h2⟩ := h
    exact ⟨.x e1 as, by dsimp only; rw [e2]; rfl, h2⟩
  | bk ρ => exact h.elim
  | ct ρ => exact h.elim
theorem wD_mono {o : Option Ret} {P' : D → List D → Prop} {E' : Exn → List D → Prop} (h : wD o P E) (k : ∀ d as, P d as → P' d as) (k2 : ∀ e as, E e as → E' e as) : wD o P' E' := by
  obtain ⟨r, e, p⟩ := h
  refine ⟨r, e, ?_⟩
  cases r with
  | v a ρ => exact k a ρ p
  | x e1 ρ => exact k2 e1 ρ p
theorem look_zero (x : Option D) (ρ : En) : look (x :: ρ) 0 = x := by cases x <;> rfl
theorem look_succ (x : Option D) (ρ : En) (n : Nat) : look (x :: ρ) (n + 1) = look ρ n := rfl
end
end DL

set_option maxRecDepth 100000
/-! DLE: operations reckoned out. -/
namespace DL
open PySem L2 PySem.Spec PyProof.Rows

section
variable {ds es : List D} {o : Bool} {i j : Int} {x y : Str} {a b : D}
theorem kIx_lst : kIx (.nd (.lst o) ds) (.at (.int i)) = L2.atI ds i := rfl
theorem kIx_tup : kIx (.nd .tup ds) (.at (.int i)) = L2.atI ds i := rfl
theorem kIx_str : kIx (.at (.str x)) (.at (.int i)) = if x.length ≤ sizeLine then (L2.atI x.cps.toList i).map fun c => .at (.str ⟨#[c]⟩) else none := rfl
theorem atI_cast {α : Type} {xs : List α} {n : Nat} : L2.atI xs (n : Int) = xs[n]? := by
  cases h : xs[n]? with
  | some v => exact L2.atI_nat h
  | none =>
    have hn := List.getElem?_eq_none_iff.mp h
    unfold L2.atI ixN
    rw [if_pos (by omega), if_neg (by omega)]
    rfl
theorem atI_0 {α : Type} {xs : List α} : L2.atI xs 0 = xs[0]? := atI_cast (n := 0)
theorem atI_1 {α : Type} {xs : List α} : L2.atI xs 1 = xs[1]? := atI_cast (n := 1)
theorem atI_2 {α : Type} {xs : List α} : L2.atI xs 2 = xs[2]? := atI_cast (n := 2)
theorem atI_3 {α : Type} {xs : List α} : L2.atI xs 3 = xs[3]? := atI_cast (n := 3)
theorem atI_4 {α : Type} {xs : List α} : L2.atI xs 4 = xs[4]? := atI_cast (n := 4)
theorem atI_5 {α : Type} {xs : List α} : L2.atI xs 5 = xs[5]? := atI_cast (n := 5)
theorem atI_6 {α : Type} {xs : List α} : L2.atI xs 6 = xs[6]? := atI_cast (n := 6)
theorem atI_pos {α : Type} {xs : List α} {i : Int} (h : 0 ≤ i) : L2.atI xs i = xs[i.toNat]? := by
  obtain ⟨n, rfl⟩ : ∃ n : Nat, i = n := ⟨i.toNat, by omega⟩
  exact atI_cast
theorem ixN_lit {n : Nat} {k : Nat} (h : k < n) : ixN n (k : Int) = some k := by
  unfold ixN
  rw [if_pos (by omega), if_pos (by omega)]
  simp
theorem ixN_0 {n : Nat} : ixN (n + 1) 0 = some 0 := ixN_lit (k := 0) (by omega)
theorem ixN_1 {n : Nat} : ixN (n + 1 + 1) 1 = some 1 := ixN_lit (k := 1) (by omega)
theorem ixN_2 {n : Nat} : ixN (n + 1 + 1 + 1) 2 = some 2 := ixN_lit (k := 2) (by omega)
theorem ixN_3 {n : Nat} : ixN (n + 1 + 1 + 1 + 1) 3 = some 3 := ixN_lit (k := 3) (by omega)
theorem asI_int : asI (.at (.int i)) = some i := rfl
theorem asB_bl {c : Bool} : asB (.at (.bl c)) = some c := rfl
theorem asS_str : asS (.at (.str x)) = some x := rfl
theorem oI_int {c : Int → Int → Bool} {g : Int → Int → V} : oI c g (.at (.int i)) (.at (.int j)) = if c i j = true then some (.at (g i j)) else none := rfl
theorem cT_true : (cT i j = true) = True := eq_true rfl
theorem kAdd_int : kAdd (.at (.int i)) (.at (.int j)) = some (.at (.int (i + j))) := rfl
theorem kAdd_str : kAdd (.at (.str x)) (.at (.str y)) = if x.length + y.length ≤ sizeLine then some (.at (.str (x ++ y))) else none := rfl
theorem kAdd_lst {o2 : Bool} : kAdd (.nd (.lst o) ds) (.nd (.lst o2) es) = if nOws ds = true ∧ nOws es = true ∧ ds.length + es.length ≤ sizeLine then some (.own (ds ++ es)) else none := rfl
theorem kAdd_tup : kAdd (.nd .tup ds) (.nd .tup es) = if nOws ds = true ∧ nOws es = true ∧ ds.length + es.length ≤ sizeLine then some (.tup (ds ++ es)) else none := rfl
theorem kInt_int : kInt [.at (.int i)] = some (.at (.int i)) := rfl
theorem kInt_bl {c : Bool} : kInt [.at (.bl c)] = some (.at (.int (if c then 1 else 0))) := rfl
theorem kMin_int : kMin [.at (.int i), .at (.int j)] = some (.at (.int (if j < i then j else i))) := rfl
theorem kMax_int : kMax [.at (.int i), .at (.int j)] = some (.at (.int (if j > i then j else i))) := rfl
theorem kLen_lst : kLen [.nd (.lst o) ds] = some (.at (.int (ds.length : Int))) := rfl
theorem kLen_tup : kLen [.nd .tup ds] = some (.at (.int (ds.length : Int))) := rfl
theorem kLen_str : kLen [.at (.str x)] = if x.length ≤ sizeLine then some (.at (.int (x.length : Int))) else none := by
  show ((if x.length ≤ sizeLine then some x.length else none).map fun (n : Nat) => D.at (.int (n : Int))) = _
  by_cases h : x.length ≤ sizeLine
  · rw [if_pos h, if_pos h]; rfl
  · rw [if_neg h, if_neg h]; rfl
theorem nOw_at {v : V} : (nOw (.at v) = true) = True := eq_true (by unfold nOw; rfl)
theorem nOw_tup : nOw (.nd .tup ds) = nOws ds := by
  conv => lhs; unfold nOw
  rfl
theorem nOw_lstF : nOw (.nd (.lst false) ds) = nOws ds := by
  conv => lhs; unfold nOw
  rfl
theorem nOw_own : (nOw (.nd (.lst true) ds) = true) = False := eq_false (by unfold nOw; simp [Kd.ow])
theorem nOws_nil : (nOws [] = true) = True := eq_true (by unfold nOws; rfl)
theorem nOws_cons {d : D} : (nOws (d :: ds) = true) = (nOw d = true ∧ nOws ds = true) := by
  conv => lhs; unfold nOws
  rw [Bool.and_eq_true]
theorem nOws_append : (nOws (ds ++ es) = true) = (nOws ds = true ∧ nOws es = true) := by
  rw [nOws_all, nOws_all, nOws_all, List.all_append, Bool.and_eq_true]
theorem nOws_ints {ns : List Int} : (nOws (ns.map fun i => D.at (.int i)) = true) = True := eq_true (by
  rw [nOws_all, List.all_map]
  exact List.all_eq_true.mpr fun _ _ => by show nOw (D.at _) = true; unfold nOw; rfl)
theorem nOws_map {α : Type} {l : List α} {g : α → D} (h : ∀ a ∈ l, nOw (g a) = true) : nOws (l.map g) = true := by
  rw [nOws_all, List.all_map]
  exact List.all_eq_true.mpr fun a ha => h a ha
theorem shaped_int : SeqAt.shaped (.int i) = true := rfl
theorem kEq_int : kEq (.at (.int i)) (.at (.int j)) = some (.at (.bl (i == j))) := rfl
theorem kNe_int : kNe (.at (.int i)) (.at (.int j)) = some (.at (.bl (!(i == j)))) := rfl
theorem shaped_str : SeqAt.shaped (.str x) = SeqAt.shaped (.str x) := rfl
theorem kEq_str : kEq (.at (.str x)) (.at (.str y)) = if SeqAt.shaped (.str x) = true ∧ SeqAt.shaped (.str y) = true then some (.at (.bl (x == y))) else none := rfl
theorem kNe_str : kNe (.at (.str x)) (.at (.str y)) = if SeqAt.shaped (.str x) = true ∧ SeqAt.shaped (.str y) = true then some (.at (.bl (!(x == y)))) else none := rfl
theorem kEq_bl {c d : Bool} : kEq (.at (.bl c)) (.at (.bl d)) = some (.at (.bl (c == d))) := rfl
theorem kIsN_at {v : V} : kIsN (.at v) (.at .non) = some (.at (.bl (decide (v = .non)))) := by cases v <;> rfl
theorem kNotN_at {v : V} : kNotN (.at v) (.at .non) = some (.at (.bl (!decide (v = .non)))) := by cases v <;> rfl
theorem kIsN_nd {k : Kd} : kIsN (.nd k ds) (.at .non) = some (.at (.bl false)) := rfl
theorem kNotN_nd {k : Kd} : kNotN (.nd k ds) (.at .non) = some (.at (.bl true)) := rfl
theorem kList_lst : kList [.nd (.lst o) ds] = if nOws ds = true then some (.own ds) else none := rfl
theorem kList_tup : kList [.nd .tup ds] = if nOws ds = true then some (.own ds) else none := rfl
theorem kTuple_lst : kTuple [.nd (.lst o) ds] = if nOws ds = true then some (.tup ds) else none := rfl
theorem kAppend_one {d : D} : kAppend ds [d] = if ds.length < sizeLine then some (.non, ds ++ [d]) else none := rfl
theorem kSl_lst {lo hi : Option Int} : kSl lo hi (.nd (.lst o) ds) = if nOws ds = true then some (.own (cutD ds lo hi)) else none := rfl
theorem kSl_str {lo hi : Option Int} : kSl lo hi (.at (.str x)) = if x.length ≤ sizeLine then some (.at (.str (cutS x lo hi))) else none := rfl
theorem kSl_tup {lo hi : Option Int} : kSl lo hi (.nd .tup ds) = if nOws ds = true then some (.tup (cutD ds lo hi)) else none := rfl
theorem kRng1_int : kRng1 [.at (.int j)] = if -(2 ^ 62) ≤ j ∧ j < 2 ^ 62 then some (rngD 0 j.toNat) else none := rfl
theorem kRng2_int : kRng2 [.at (.int i), .at (.int j)] = if -(2 ^ 62) ≤ i ∧ i < 2 ^ 62 ∧ -(2 ^ 62) ≤ j ∧ j < 2 ^ 62 then some (rngD i (j - i).toNat) else none := rfl
theorem rngD_get {lo : Int} {n k : Nat} {d : D} (h : (rngD lo n)[k]? = some d) : k < n ∧ d = .at (.int (lo + (k : Int))) := by
  unfold rngD at h
  rw [List.getElem?_map] at h
  obtain ⟨j, e1, rfl⟩ := Option.map_eq_some_iff.mp h
  obtain ⟨hi, e2⟩ := List.getElem?_eq_some_iff.mp e1
  rw [List.getElem_range] at e2
  subst e2
  exact ⟨by simpa using hi, rfl⟩
theorem rngD_length {lo : Int} {n : Nat} : (rngD lo n).length = n := by unfold rngD; simp
theorem isL_own : (isL (some (.nd (.lst true) ds)) = true) = True := eq_true rfl
theorem frz_at {v : V} : frz (.at v) = .at v := by unfold frz; rfl
theorem fok_at {v : V} : (fok (.at v) = true) = True := eq_true (by unfold fok; rfl)
theorem frz_lst : frz (.nd (.lst o) ds) = .lst (frzs ds) := by
  conv => lhs; unfold frz
  rfl
theorem fok_lst : fok (.nd (.lst o) ds) = foks ds := by
  conv => lhs; unfold fok
  rfl
theorem frz_tup : frz (.nd .tup ds) = .tup (frzs ds) := by
  conv => lhs; unfold frz
  rfl
theorem fok_tup : fok (.nd .tup ds) = foks ds := by
  conv => lhs; unfold fok
  rfl
theorem kItL_lst : kItL (.nd (.lst o) ds) = if foks ds = true then some (frzs ds) else none := rfl
theorem kItT_tup : kItT (.nd .tup ds) = if foks ds = true then some (frzs ds) else none := rfl
theorem kItS_str : kItS (.at (.str x)) = some (strD x) := rfl
theorem kZip_lst {o2 : Bool} : kZip [.nd (.lst o) ds, .nd (.lst o2) es] = if foks ds = true ∧ foks es = true then some (zipD (frzs ds) (frzs es)) else none := rfl
theorem kEnum_lst : kEnum [.nd (.lst o) ds] = if foks ds = true then some (enumD (frzs ds)) else none := rfl
theorem hole_none {ρ : En} : hole (none :: ρ) 0 = true := rfl
theorem hole_succ {s : Option D} {ρ : En} {n : Nat} : hole (s :: ρ) (n + 1) = hole ρ n := rfl
theorem putB_nil {p ρ : En} : putB [] p ρ = some ρ := rfl
theorem putB_cons {k n : Nat} {r : List (Nat × Nat)} {p ρ : En} : putB ((k, n) :: r) p ρ = (look p k).bind fun d => if hole ρ n = true then putB r (p.set k none) (ρ.set n (some d)) else none := rfl
theorem finD_nil {w : List Nat} {n : Nat} {ρ : En} : finD w n [] ρ = some [] := by cases ρ <;> (unfold finD; rfl)
theorem finD_cons {w : List Nat} {n : Nat} {d : D} {s : Option D} {ρ : En} : finD w n (d :: ds) (s :: ρ) = (finD w (n + 1) ds ρ).bind fun r => if n ∈ w then (if nOw d = true then some (d :: r) else none) else s.map fun d' => d' :: r := by
  conv => lhs; unfold finD
theorem lowE_nil {ρ : En} : (lowE ρ [] = true) = True := eq_true rfl
def lowS : Option (Option D) → Bool
  | some (some d) => nOw d
  | some none => true
  | none => false
theorem lowE_cons {ρ : En} {v : Nat} {vs : List Nat} : lowE ρ (v :: vs) = (lowS ρ[v]? && lowE ρ vs) := by
  unfold lowE
  rw [List.all_cons]
  rfl
theorem lowS_some {d : D} : lowS (some (some d)) = nOw d := rfl
theorem lowS_none : (lowS (some none) = true) = True := eq_true rfl
theorem wipeE_nil {ρ : En} : wipeE ρ [] = ρ := rfl
theorem wipeE_cons {ρ : En} {v : Nat} {vs : List Nat} : wipeE ρ (v :: vs) = (wipeE ρ vs).set v none := rfl
theorem backE_nil {ρ0 ρ : En} : backE ρ0 ρ [] = ρ := rfl
theorem backE_cons {ρ0 ρ : En} {v : Nat} {vs : List Nat} : backE ρ0 ρ (v :: vs) = (backE ρ0 ρ vs).set v ((ρ0[v]?).getD none) := rfl
end
/-- from a def's end to its equation -/
theorem wD_v {o : Option Ret} {P : D → List D → Prop} (h : wD o P fun _ _ => False) : ∃ d as, o = some (.v d as) ∧ P d as := by
  obtain ⟨r, e, p⟩ := h
  cases r with
  | v d as => exact ⟨d, as, e, p⟩
  | x e as => exact p.elim
theorem wD_of {o : Option Ret} {d : D} {as : List D} {P : D → List D → Prop} {E : Exn → List D → Prop} (e : o = some (.v d as)) (h : P d as) : wD o P E := ⟨_, e, h⟩
/-- two statements by what holds between them -/
theorem ws_mid {f g : SF} {ρ : En} {Q : Ed} (M : En → Prop) (h : wS (f ρ) { Q with nx := M }) (k : ∀ ρ', M ρ' → wS (g ρ') Q) : wS (sSeq f g ρ) Q := ws_seq.mpr (wS_mono h fun r hr => by
  cases r with
  | nx ρ' => exact k ρ' hr
  | rt d ρ' => exact hr
  | bk ρ' => exact hr
  | ct ρ' => exact hr
  | ex e ρ' => exact hr)
end DL

set_option maxRecDepth 100000
/-! DLT: texts by their codes; whole numbers. -/
namespace DL
open PySem L2 PySem.Spec PyProof.Rows
abbrev T (l : List Nat) : D := .at (.str ⟨l.toArray⟩)
section
variable {l m : List Nat} {a b i j : Int} {c : Nat}
theorem len_mk : (Str.mk l.toArray).length = l.length := by simp [Str.length]
theorem app_mk : Str.mk l.toArray ++ Str.mk m.toArray = Str.mk (l ++ m).toArray := by
  show Str.mk _ = _
  simp
theorem toL_mk : (Str.mk l.toArray).cps.toList = l := by simp
theorem eq_mk {x : Str} : x = Str.mk x.cps.toList.toArray := by simp
theorem T_inj : T l = T m ↔ l = m := by
  constructor
  · intro h
    have : (Str.mk l.toArray) = Str.mk m.toArray := by
      injection h with h
      injection h
    have := congrArg (fun s : Str => s.cps.toList) this
    simpa using this
  · rintro rfl; rfl
theorem kAdd_T : kAdd (T l) (T m) = if l.length + m.length ≤ sizeLine then some (T (l ++ m)) else none := by
  rw [kAdd_str, len_mk, len_mk, app_mk]
theorem kLen_T : kLen [T l] = if l.length ≤ sizeLine then some (.at (.int l.length)) else none := by
  rw [kLen_str, len_mk]
theorem kIx_T : kIx (T l) (.at (.int i)) = if l.length ≤ sizeLine then (L2.atI l i).map (fun c => T [c]) else none := by
  rw [kIx_str, len_mk, toL_mk]
theorem beq_mk : (Str.mk l.toArray == Str.mk m.toArray) = (l == m) := by
  rw [Bool.eq_iff_iff, beq_iff_eq, beq_iff_eq]
  constructor
  · intro h
    have := congrArg (fun s : Str => s.cps.toList) h
    simpa using this
  · rintro rfl; rfl
def okC (l : List Nat) : Bool := SeqAt.shaped (.str ⟨l.toArray⟩)
theorem kEq_T : kEq (T l) (T m) = if okC l = true ∧ okC m = true then some (.at (.bl (l == m))) else none := by
  rw [kEq_str, beq_mk]
  rfl
theorem kNe_T : kNe (T l) (T m) = if okC l = true ∧ okC m = true then some (.at (.bl (!(l == m)))) else none := by
  rw [kNe_str, beq_mk]
  rfl
theorem strD_T : strD ⟨l.toArray⟩ = l.map fun c => T [c] := by
  unfold strD
  rw [toL_mk]
theorem kItS_T : kItS (T l) = some (l.map fun c => T [c]) := by
  rw [kItS_str, strD_T]
def cutL (l : List Nat) (lo hi : Option Int) : List Nat := (l.drop (HT.sIx l.length 0 lo)).take (HT.sIx l.length l.length hi - HT.sIx l.length 0 lo)
theorem cutS_mk {lo hi : Option Int} : cutS ⟨l.toArray⟩ lo hi = ⟨(cutL l lo hi).toArray⟩ := by
  unfold cutS cutL
  rw [len_mk, toL_mk]
theorem kSl_T {lo hi : Option Int} : kSl lo hi (T l) = if l.length ≤ sizeLine then some (T (cutL l lo hi)) else none := by
  rw [kSl_str, len_mk, cutS_mk]
theorem cutL_nat {p q : Nat} (hp : p ≤ l.length) (hq : q ≤ l.length) : cutL l (some (p : Int)) (some (q : Int)) = (l.drop p).take (q - p) := by
  unfold cutL
  rw [HT.sIx_nat, HT.sIx_nat, Nat.min_eq_left hp, Nat.min_eq_left hq]
theorem toVs_T : toVs (l.map fun c => T [c]) = some (l.map fun c => V.str ⟨#[c]⟩) := by
  induction l with
  | nil => rfl
  | cons c l ih =>
    rw [List.map_cons]
    show (toVs (l.map fun c => T [c])).map _ = _
    rw [ih]
    rfl
theorem kIn_T {neg : Bool} {c : Nat} : kInF neg (T [c]) (.nd .tup (l.map fun c => T [c])) = some (.at (.bl (if neg then !decide (c ∈ l) else decide (c ∈ l)))) := by
  show (toVs (l.map fun c => T [c])).bind _ = _
  have h1 : (l.map fun c => V.str ⟨#[c]⟩).all flatV = true := by
    rw [List.all_map]
    exact List.all_eq_true.mpr fun _ _ => rfl
  have h2 : inV (V.str ⟨#[c]⟩) (l.map fun c => V.str ⟨#[c]⟩) = decide (c ∈ l) := by
    unfold inV
    rw [List.any_map, Bool.eq_iff_iff, List.any_eq_true, decide_eq_true_eq]
    constructor
    · rintro ⟨x, hx, h⟩
      have : (Str.mk #[x] == Str.mk #[c]) = true := h
      have := eq_of_beq this
      injection this with h
      have : x = c := by simpa using h
      exact this ▸ hx
    · intro h
      exact ⟨c, h, by show (Str.mk #[c] == Str.mk #[c]) = true; exact beq_self_eq_true _⟩
  rw [toVs_T, Option.bind_some, h1, h2, if_pos ⟨rfl, rfl⟩]
theorem strsD_T {ls : List (List Nat)} : strsD (ls.map T) = some (ls.map fun l => ⟨l.toArray⟩) := by
  induction ls with
  | nil => rfl
  | cons c l ih =>
    rw [List.map_cons]
    show (strsD (l.map T)).map _ = _
    rw [ih]
    rfl
theorem join_nil0 : ∀ {ls : List (List Nat)}, TL.joinL [] ls = ls.flatten
  | [] => rfl
  | [p] => by simp [TL.joinL]
  | p :: q :: r => by
    show p ++ ([] ++ TL.joinL [] (q :: r)) = _
    rw [join_nil0, List.nil_append]
    rfl
theorem join_nil {ls : List (List Nat)} : Txt.join ⟨#[]⟩ (ls.map fun l => ⟨l.toArray⟩) = ⟨ls.flatten.toArray⟩ := by
  have h := TL.tl_join ⟨#[]⟩ (ls.map fun l => (⟨l.toArray⟩ : Str))
  rw [← TL.join_eq, List.map_map] at h
  rw [show TL.tl (Str.mk #[]) = [] from rfl, show (TL.tl ∘ fun l : List Nat => (Str.mk l.toArray)) = id from by funext l; simp, List.map_id, join_nil0] at h
  have h : (Txt.join (Str.mk #[]) (ls.map fun l => (⟨l.toArray⟩ : Str))).cps.toList = ls.flatten := h
  rw [eq_mk (x := Txt.join _ _), h]
theorem okC_of (h : ∀ c ∈ l, c < 0x110000) : okC l = true := by
  unfold okC SeqAt.shaped PyData.canLay0 PyData.depth PyData.strOk
  rw [Bool.and_eq_true, Array.all_eq_true_iff_forall_mem]
  exact ⟨fun c hc => decide_eq_true (h c (by simpa using hc)), by decide⟩
theorem cMul_of (ha : a.natAbs < 2 ^ 1000) (hb : b.natAbs < 2 ^ 1000) : cMul a b = true := by
  have g : ∀ x : Int, x.natAbs < 2 ^ 1000 → x.natAbs.log2 < 1000 := fun x h => by
    by_cases h0 : x.natAbs = 0
    · rw [h0]; decide
    · exact PySem.Flt.log2_lt_of (by decide) h
  have := g a ha
  have := g b hb
  unfold cMul
  exact decide_eq_true (by omega)
theorem small (h0 : 0 ≤ a) (h1 : a < 2147483648) : a.natAbs < 2 ^ 1000 := by
  have : a.natAbs < 2147483648 := by omega
  exact Nat.lt_of_lt_of_le this (by decide +kernel)
theorem cMul_small (h0 : 0 ≤ a) (h1 : a < 2147483648) (h2 : 0 ≤ b) (h3 : b < 2147483648) : cMul a b = true := cMul_of (small h0 h1) (small h2 h3)
theorem cFdiv_of (h0 : 0 < j) (h1 : j < 2147483648) : cFdiv i j = true := by
  have : j.natAbs.log2 < 9000 := by
    have : j.natAbs < 2 ^ 31 := by omega
    have := PySem.Flt.log2_lt_of (by decide) this
    omega
  unfold cFdiv
  rw [decide_eq_true h0, decide_eq_true this]
  rfl
theorem cMod_of (h0 : 0 < j) : cMod i j = true := decide_eq_true h0
theorem kMod_int : kMod (.at (.int i)) (.at (.int j)) = if cMod i j = true then some (.at (.int (i % j))) else none := rfl
theorem kGe_int : kGe (.at (.int i)) (.at (.int j)) = some (.at (.bl (decide (j ≤ i)))) := rfl
end
end DL

set_option maxRecDepth 100000
/-! DLB: instances of own classes: attributes, methods, making; calls that only look. -/
namespace DL
open PySem L2 PySem.Spec PyProof.Rows

/-! ### where an attribute lies -/
def ixF (f : Str) : List Str → Option Nat
  | [] => none
  | g :: r => if g = f then some 0 else (ixF f r).map (· + 1)
theorem ixF_lt {f : Str} : ∀ {fs : List Str} {i : Nat}, ixF f fs = some i → i < fs.length
  | [], i, h => by cases h
  | g :: r, i, h => by
    unfold ixF at h
    split at h
    · cases h; simp
    · obtain ⟨j, h1, rfl⟩ := Option.map_eq_some_iff.mp h
      have := ixF_lt h1
      simp; omega
theorem ixF_lookup {f : Str} : ∀ {fs : List Str} {vs : List V} {i : Nat} {v : V}, ixF f fs = some i → vs[i]? = some v → (fs.zip vs).lookup f = some v
  | [], _, i, _, h, _ => by cases h
  | g :: r, [], i, v, h, e => by simp at e
  | g :: r, w :: vs, i, v, h, e => by
    unfold ixF at h
    rw [List.zip_cons_cons, List.lookup_cons]
    split at h
    · rename_i hg
      cases h
      rw [hg, beq_self_eq_true]
      simpa using e
    · rename_i hg
      obtain ⟨j, h1, rfl⟩ := Option.map_eq_some_iff.mp h
      have hb : (f == g) = false := by
        rw [Bool.eq_false_iff]
        intro z
        exact hg (eq_of_beq z).symm
      rw [hb]
      exact ixF_lookup h1 (by simpa using e)
theorem ixF_none {f : Str} : ∀ {fs : List Str} {vs : List V}, ixF f fs = none → (fs.zip vs).lookup f = none
  | [], _, _ => rfl
  | g :: r, [], _ => rfl
  | g :: r, w :: vs, h => by
    unfold ixF at h
    split at h
    · cases h
    · rename_i hg
      have hb : (f == g) = false := by
        rw [Bool.eq_false_iff]
        intro z
        exact hg (eq_of_beq z).symm
      rw [List.zip_cons_cons, List.lookup_cons, hb]
      exact ixF_none (by simpa using h)
theorem ixF_put {f : Str} {y : V} : ∀ {fs : List Str} {vs : List V} {i : Nat}, ixF f fs = some i → vs.length = fs.length → L2.putF f y (fs.zip vs) = fs.zip (vs.set i y)
  | [], _, i, h, _ => by cases h
  | g :: r, [], i, h, e => by simp at e
  | g :: r, w :: vs, i, h, e => by
    unfold ixF at h
    rw [List.zip_cons_cons]
    unfold L2.putF
    split at h
    · rename_i hg
      cases h
      rw [if_pos hg]
      rfl
    · rename_i hg
      obtain ⟨j, h1, rfl⟩ := Option.map_eq_some_iff.mp h
      rw [if_neg hg, ixF_put h1 (by simpa using e)]
      rfl
theorem ixF_add {f : Str} {y : V} : ∀ {fs : List Str} {vs : List V}, ixF f fs = none → vs.length = fs.length → L2.putF f y (fs.zip vs) = (fs ++ [f]).zip (vs ++ [y])
  | [], [], _, _ => rfl
  | [], _ :: _, _, e => by simp at e
  | g :: r, [], h, e => by simp at e
  | g :: r, w :: vs, h, e => by
    unfold ixF at h
    rw [List.zip_cons_cons]
    unfold L2.putF
    split at h
    · cases h
    · rename_i hg
      rw [if_neg hg, ixF_add (by simpa using h) (by simpa using e)]
      rfl
/-- an own class as the rules need it -/
structure Kls (K : PySem.W.Frag) (cl : Str → Option Addr) (c : Str) (C : Addr) (fs : List Str) : Prop where
  at_ : cl c = some C
  ok : L2.Cls K C
  na : ∀ f ∈ fs, L2.NoAttr K C f
section
variable {K : PySem.W.Frag} {cl : Str → Option Addr} {G H : Hp}
theorem R.obj_inv {c : Str} {C : Addr} {fs : List Str} {ds : List D} {v : V} {f : List Addr} (hc : cl c = some C) (r : R K cl G H (.nd (.obj c fs) ds) v f) : ∃ a dx vs gs, v = .ref a ∧ vs.length = fs.length ∧ H a = some (.ins C dx (fs.zip vs)) ∧ Rs K cl G H ds vs gs ∧ f = a :: gs := by
  unfold R at r
  obtain ⟨a, vs, gs, e, ⟨hl, C', dx, e1, e2⟩, rs, q⟩ := r
  rw [if_pos (show (Kd.obj c fs).ow = true from rfl)] at q
  rw [hc] at e1
  cases e1
  exact ⟨a, dx, vs, gs, e, hl, e2, rs, q⟩
theorem R.obj_mk {c : Str} {C : Addr} {fs : List Str} {ds : List D} {a dx : Addr} {vs : List V} {gs : List Addr} (hc : cl c = some C) (hl : vs.length = fs.length) (e : H a = some (.ins C dx (fs.zip vs))) (rs : Rs K cl G H ds vs gs) : R K cl G H (.nd (.obj c fs) ds) (.ref a) (a :: gs) := by
  unfold R
  refine ⟨a, vs, gs, rfl, ⟨hl, C, dx, hc, e⟩, rs, ?_⟩
  rw [if_pos (show (Kd.obj c fs).ow = true from rfl)]
end
/-! ### looking at an attribute -/
def kFld (c f : Str) : D → Option D
  | .nd (.obj c' fs) ds => if c' = c then (ixF f fs).bind fun i => ds[i]? else none
  | _ => none
theorem kFld_some {c f : Str} {x d : D} (h : kFld c f x = some d) : ∃ gs ds i, x = .nd (.obj c gs) ds ∧ ixF f gs = some i ∧ ds[i]? = some d := by
  unfold kFld at h
  split at h
  · rename_i c' gs ds
    by_cases hc : c' = c
    · subst hc
      rw [if_pos rfl] at h
      obtain ⟨i, e3, e4⟩ := Option.bind_eq_some_iff.mp h
      exact ⟨gs, ds, i, rfl, e3, e4⟩
    · rw [if_neg hc] at h
      cases h
  · cases h
section
variable {X : Cx} {cl : Str → Option Addr} {XP : XPost} {W : WX} {w : List Nat} {c f : Str} {C : Addr} {fs : List Str}
theorem q_fld {e : Expr} {q : QF} {pos : Pos} (k : Kls X.K cl c C fs) (hf : f ∈ fs) (h : QE X cl e q) (hb : attributeBase e f X.env (eval e X.env) = eval e X.env := by rfl) : QE X cl (.Attribute e f pos) (q1 (kFld c f) q) := (pe_fld h hb).imp fun σ H Q hh => by
  obtain ⟨G, ρ, l, d, ok, es, e, p⟩ := hh
  unfold q1 at e
  obtain ⟨x, e1, e2⟩ := Option.bind_eq_some_iff.mp e
  refine tQ.use ok es e1 fun v G1 H1 g ev rx => ?_
  obtain ⟨gs, ds, i, rfl, e3, e4⟩ := kFld_some e2
  obtain ⟨a, dx, vs, ks, rfl, hl, ha, rs, rfl⟩ := rx.obj_inv k.at_
  obtain ⟨u, f1, pre, post, h1, h2, h3, h4⟩ := rs.at e4
  exact ⟨a, C, dx, _, u, rfl, ha, k.ok, k.na f hf, ixF_lookup e3 h1, p u G1 H1 f1 ev h3⟩
/-! ### storing an attribute -/
def putD (f : Str) (d : D) (fs : List Str) (ds : List D) : List Str × List D := match ixF f fs with
  | some i => (fs, ds.set i d)
  | none => (fs ++ [f], ds ++ [d])
def setO (c f : Str) (d : D) : Option D → Option D
  | some (.nd (.obj c' fs) ds) => if c' = c ∧ fs.length < 900 then some (.nd (.obj c (putD f d fs ds).1) (putD f d fs ds).2) else none
  | _ => none
theorem setO_some {c f : Str} {d o : D} {z : Option D} (h : setO c f d z = some o) : ∃ gs ds, z = some (.nd (.obj c gs) ds) ∧ gs.length < 900 ∧ o = .nd (.obj c (putD f d gs ds).1) (putD f d gs ds).2 := by
  unfold setO at h
  split at h
  · rename_i c' gs ds
    by_cases hc : c' = c ∧ gs.length < 900
    · obtain ⟨rfl, hn⟩ := hc
      rw [if_pos ⟨rfl, hn⟩] at h
      cases h
      exact ⟨gs, ds, rfl, hn, rfl⟩
    · rw [if_neg hc] at h
      cases h
  · cases h
def sSetF (i : Nat) (c f : Str) (g : VF) : SF := ov g fun d ρ => (setO c f d (look ρ i)).map fun o => .nx (ρ.set i (some o))
theorem Es.setO {K : PySem.W.Frag} {G H : Hp} {ρ : En} {σ : L2.St} {l fv : List Addr} {i : Nat} {d o : D} {v : V} (hc : cl c = some C) (ok : Ok G H (fv ++ l)) (es : Es K cl G H ρ σ l) (rd : R K cl G H d v fv) (e : DL.setO c f d (look ρ i) = some o) :
    ∃ (a dx : Addr) (gs : List Str) (vs : List V), σ[i]? = some (some (.ref a)) ∧ H a = some (.ins C dx (gs.zip vs)) ∧ (gs.zip vs).length < 1000 ∧ ∃ l', Ev G H (fv ++ l) G (upd H a (.ins C dx (L2.putF f v (gs.zip vs)))) l' ∧ Ok G (upd H a (.ins C dx (L2.putF f v (gs.zip vs)))) l' ∧ Es K cl G (upd H a (.ins C dx (L2.putF f v (gs.zip vs)))) (ρ.set i (some o)) σ l' := by
  obtain ⟨gs, ds, hl, hn, rfl⟩ := setO_some e
  obtain ⟨u, g, pre, post, e1, rfl, r, kk, _⟩ := es.at (look_some hl)
  obtain ⟨a, dx, vs, ks, rfl, hvl, ha, rs, rfl⟩ := r.obj_inv hc
  refine ⟨a, dx, gs, vs, e1, ha, by rw [List.length_zip]; omega, ?_⟩
  have stay : ∀ x, x ≠ a → upd H a (.ins C dx (L2.putF f v (gs.zip vs))) x = H x := fun x h => upd_ne h
  have pm0 : (fv ++ (pre ++ (a :: ks ++ post))).Perm (a :: (fv ++ (ks ++ (pre ++ post)))) := List.perm_iff_count.mpr fun x => by simp only [List.count_append, List.count_cons, List.cons_append]; omega
  have okA := ok.perm pm0
  have hna := (List.nodup_cons.mp okA.nd).1
  have st : ∀ x ∈ fv ++ (ks ++ (pre ++ post)), upd H a (.ins C dx (L2.putF f v (gs.zip vs))) x = H x := fun x hx => stay x fun z => hna (z ▸ hx)
  have rd' := rd.mono (Sub.refl G) (H' := upd H a (.ins C dx (L2.putF f v (gs.zip vs)))) fun x hx => st x (List.mem_append_left _ hx)
  have evb : ∀ l', (∀ x ∈ l', x ∈ a :: (fv ++ (ks ++ (pre ++ post)))) → Ev G H (fv ++ (pre ++ (a :: ks ++ post))) G (upd H a (.ins C dx (L2.putF f v (gs.zip vs)))) l' := fun l' hl' => by
    have hm : a ∈ fv ++ (pre ++ (a :: ks ++ post)) := pm0.mem_iff.mpr List.mem_cons_self
    refine ⟨Sub.refl _, fun x o e n => ?_, fun x hx => .inl (pm0.mem_iff.mpr (hl' x hx)), fun x g _ _ => g, fun x hx => ?_⟩
    · rw [stay x fun z => n (z ▸ hm)]; exact e
    · by_cases z : x = a
      · rw [z, upd_same]; exact fun z => nomatch z
      · rw [stay x z]; exact hx
  have okb : ∀ l', l'.Nodup → (∀ x ∈ l', x ∈ a :: (fv ++ (ks ++ (pre ++ post)))) → Ok G (upd H a (.ins C dx (L2.putF f v (gs.zip vs)))) l' := fun l' hn' hl' => by
    refine ⟨hn', fun x o e => ?_, fun x hx => okA.out x (hl' x hx), fun x hx => ?_⟩
    · rw [stay x fun z => ?_]
      · exact ok.sub x o e
      · rw [z, okA.out a List.mem_cons_self] at e
        cases e
    · by_cases z : x = a
      · rw [z, upd_same]; exact fun z => nomatch z
      · rw [stay x z]; exact okA.on x (hl' x hx)
  cases hix : ixF f gs with
  | some j =>
    have hj : j < ds.length := by
      have := ixF_lt hix
      rw [← rs.length, hvl]
      exact this
    obtain ⟨u1, f1, pre1, post1, h1, h2, h3, h4⟩ := rs.at (List.getElem?_eq_getElem hj)
    subst h2
    have rs' := h4 G (upd H a (.ins C dx (L2.putF f v (gs.zip vs)))) d v fv (Sub.refl G) (fun x hx => st x (by
      refine List.mem_append_right _ (List.mem_append_left _ ?_)
      rcases List.mem_append.mp hx with z | z
      · exact List.mem_append_left _ z
      · exact List.mem_append_right _ (List.mem_append_right _ z))) rd'
    have ro : R K cl G (upd H a (.ins C dx (L2.putF f v (gs.zip vs)))) (.nd (.obj c gs) (ds.set j d)) (.ref a) (a :: (pre1 ++ (fv ++ post1))) := R.obj_mk hc (by rw [List.length_set]; exact hvl) (by rw [upd_same, ixF_put hix hvl]) rs'
    have es' := kk G _ _ _ _ (Sub.refl G) (fun x hx => st x (List.mem_append_right _ (List.mem_append_right _ hx))) ro
    rw [St.same e1] at es'
    have pmJ : (a :: (fv ++ (pre1 ++ (f1 ++ post1) ++ (pre ++ post)))).Perm (f1 ++ (pre ++ (a :: (pre1 ++ (fv ++ post1)) ++ post))) := List.perm_iff_count.mpr fun x => by simp only [List.count_append, List.count_cons, List.cons_append]; omega
    refine ⟨pre ++ (a :: (pre1 ++ (fv ++ post1)) ++ post), evb _ fun x hx => pmJ.mem_iff.mpr (List.mem_append_right _ hx), okb _ (List.nodup_append.mp (pmJ.nodup_iff.mp okA.nd)).2.1 fun x hx => pmJ.mem_iff.mpr (List.mem_append_right _ hx), ?_⟩
    simp only [putD, hix]
    exact es'
  | none =>
    have rs' := (rs.mono (Sub.refl G) (H' := upd H a (.ins C dx (L2.putF f v (gs.zip vs)))) fun x hx => st x (List.mem_append_right _ (List.mem_append_left _ hx))).append (Rs.cons rd' Rs.nil)
    have ro : R K cl G (upd H a (.ins C dx (L2.putF f v (gs.zip vs)))) (.nd (.obj c (gs ++ [f])) (ds ++ [d])) (.ref a) (a :: (ks ++ (fv ++ []))) := R.obj_mk hc (by simp [hvl]) (by rw [upd_same, ixF_add hix hvl]) rs'
    have es' := kk G _ _ _ _ (Sub.refl G) (fun x hx => st x (List.mem_append_right _ (List.mem_append_right _ hx))) ro
    rw [St.same e1] at es'
    have pm : (a :: (fv ++ (ks ++ (pre ++ post)))).Perm (pre ++ (a :: (ks ++ (fv ++ [])) ++ post)) := List.perm_iff_count.mpr fun x => by simp only [List.count_append, List.count_cons, List.cons_append, List.count_nil]; omega
    refine ⟨pre ++ (a :: (ks ++ (fv ++ [])) ++ post), evb _ fun x hx => pm.mem_iff.mpr hx, okb _ (pm.nodup_iff.mp okA.nd) fun x hx => pm.mem_iff.mpr hx, ?_⟩
    simp only [putD, hix]
    exact es'
/-- x.f = e, x a name -/
theorem s_setF {e : Expr} {i : Nat} {x : Str} {pos pos' p2 : Pos} {g : VF} (k : Kls X.K cl c C fs) (hf : f ∈ fs) (ho : PE X (.Name x p2) (tVar i)) (he : VE X cl XP e g) (hs : swapsWith e (some (.Attribute (.Name x p2) f pos')) pos.line X.env = pure false := by rfl) : SE X cl XP w (.Assign [.Attribute (.Name x p2) f pos'] e pos) (sSetF i c f g) := (ps_fld ho he hs).imp fun D σ H hh => by
  obtain ⟨G, ρ, l, rr, ok, es, e, p⟩ := hh
  refine tV.ov ok es e p fun d ρ1 e1 v G1 H1 f1 l1 ev1 ok1 rd es1 => ?_
  obtain ⟨o, e2, rfl⟩ := Option.map_eq_some_iff.mp e1
  obtain ⟨a, dx, gs, vs, h1, h2, h3, l', ev2, ok2, es2⟩ := Es.setO k.at_ ok1 es1 rd e2
  exact ⟨.ref a, h1, a, C, dx, _, rfl, h2, k.ok, k.na f hf, h3, p σ G1 _ l' (Kp.refl _ _) (ev1.trans ev2) ok2 es2⟩
end
/-! ### a list that stands in an attribute, or nowhere -/
theorem iteN {α : Type} {c : Prop} [Decidable c] {o : Option α} {r : α} (h : (if c then o else none) = some r) : c ∧ o = some r := by
  by_cases hc : c
  · rw [if_pos hc] at h; exact ⟨hc, h⟩
  · rw [if_neg hc] at h; cases h
/-- a list changes: its footprint alone -/
theorem own_mut {K : PySem.W.Frag} {cl : Str → Option Addr} {G H : Hp} {a : Addr} {ds : List D} {vs : List V} {fs m F : List Addr} (ok : Ok G H (F ++ (m ++ (a :: fs)))) (hv : H a = some (.lst vs)) (rs : Rs K cl G H ds vs fs) (ds' : List D) (vs' : List V) (fu f' : List Addr) (pm : ∃ rest, (rest ++ (fu ++ f')).Perm (m ++ fs))
    (hr : (∀ x ∈ m ++ fs, upd H a (.lst vs') x = H x) → Rs K cl G (upd H a (.lst vs')) ds' vs' f') :
    (∀ x ∈ F, upd H a (.lst vs') x = H x) ∧ (∀ x ∈ m ++ fs, upd H a (.lst vs') x = H x) ∧ Ev G H (F ++ (m ++ (a :: fs))) G (upd H a (.lst vs')) (F ++ (fu ++ (a :: f'))) ∧ Ok G (upd H a (.lst vs')) (F ++ (fu ++ (a :: f'))) := by
  obtain ⟨rest, pm⟩ := pm
  have stay : ∀ x, x ≠ a → upd H a (.lst vs') x = H x := fun x h => upd_ne h
  have pm0 : (F ++ (m ++ (a :: fs))).Perm (a :: (F ++ (m ++ fs))) := List.perm_iff_count.mpr fun x => by simp only [List.count_append, List.count_cons]; omega
  have okA := ok.perm pm0
  have hna := (List.nodup_cons.mp okA.nd).1
  have pm1 : (a :: (F ++ (m ++ fs))).Perm (rest ++ (F ++ (fu ++ (a :: f')))) := List.perm_iff_count.mpr fun x => by
    have := pm.count_eq x
    simp only [List.count_append, List.count_cons] at this ⊢
    omega
  have inn : ∀ x ∈ F ++ (fu ++ (a :: f')), x ∈ a :: (F ++ (m ++ fs)) := fun x hx => pm1.mem_iff.mpr (List.mem_append_right _ hx)
  refine ⟨fun x hx => stay x fun z => hna (z ▸ List.mem_append_left _ hx), fun x hx => stay x fun z => hna (z ▸ List.mem_append_right _ hx), ?_, ?_⟩
  · refine ⟨Sub.refl _, fun x o e n => ?_, fun x hx => .inl (pm0.mem_iff.mpr (inn x hx)), fun x g _ _ => g, fun x hx => ?_⟩
    · rw [stay x fun z => n (pm0.mem_iff.mpr (by rw [z]; exact List.mem_cons_self))]; exact e
    · by_cases z : x = a
      · rw [z, upd_same]; exact fun z => nomatch z
      · rw [stay x z]; exact hx
  · refine ⟨(List.nodup_append.mp (pm1.nodup_iff.mp okA.nd)).2.1, fun x o e => ?_, fun x hx => okA.out x (inn x hx), fun x hx => ?_⟩
    · rw [stay x fun z => ?_]
      · exact ok.sub x o e
      · rw [z, okA.out a List.mem_cons_self] at e
        cases e
    · by_cases z : x = a
      · rw [z, upd_same]; exact fun z => nomatch z
      · rw [stay x z]; exact okA.on x (inn x hx)
theorem R.own_mk {K : PySem.W.Frag} {cl : Str → Option Addr} {G H : Hp} {a : Addr} {ds : List D} {vs : List V} {fs : List Addr} (e : H a = some (.lst vs)) (rs : Rs K cl G H ds vs fs) : R K cl G H (.own ds) (.ref a) (a :: fs) := by
  unfold R
  refine ⟨a, vs, fs, rfl, e, rs, ?_⟩
  rw [if_pos (show (Kd.lst true).ow = true from rfl)]
/-- e.append(x) and the like, e of a list that no slot holds -/
def asL : D → Option (List D)
  | .nd (.lst true) ds => some ds
  | _ => none
theorem asL_some {d : D} {ds : List D} (h : asL d = some ds) : d = .own ds := by
  unfold asL at h
  split at h
  · cases h; rfl
  · cases h
def vMutV (k : List D → List D → Option (D × List D)) (f : VF) (g : LF) : VF := rb f fun d => fun ρ => (asL d).bind fun ds => rb g (fun as => rp ((k ds as).map (·.1))) ρ
section
variable {X : Cx} {cl : Str → Option Addr} {XP : XPost} {w : List Nat} {c f : Str} {C : Addr} {fs : List Str}
theorem v_mutV {e : Expr} {fv : VF} {g : LF} {r : V → List V → Hp → VK → Prop} {k : List D → List D → Option (D × List D)} (h : PE X e (tBM X.K "list" r (tV X.K cl XP fv) (tA X.K cl XP g))) (m : MkM X.K cl r k) : VE X cl XP e (vMutV k fv g) := h.imp fun σ H Q hh => by
  obtain ⟨G, ρ, l, rr, ok, es, e, p⟩ := hh
  refine tV.bind ok es e (fun ee ρ' z => by subst z; exact p) fun d ρ1 e1 v G1 H1 f1 l1 ev1 ok1 rd es1 => ?_
  obtain ⟨ds, e2, e3⟩ := Option.bind_eq_some_iff.mp e1
  have := asL_some e2
  subst this
  obtain ⟨a, vs, fs, rfl, hv, rs, rfl⟩ := rd.own_inv
  refine ⟨.inl ⟨rfl, vs, .inl (.inl hv)⟩, ?_⟩
  have ol := ok1.split.2.1
  have p1 := p.step (ev1.less (l2 := l1) fun a h => List.mem_append_right _ h)
  refine tA.bind ol es1 e3 (fun ee ρ' z => by subst z; exact p1) fun as ρ2 e4 us G2 H2 m2 l2 ev2 ok2 ras es2 => ?_
  obtain ⟨y, e5, rfl⟩ := rp_some e4
  obtain ⟨⟨d2, ds2⟩, e6, rfl⟩ := Option.map_eq_some_iff.mp e5
  obtain ⟨okF, kp⟩ := ok1.frame ev2 ok2
  have hv2 : H2 a = some (.lst vs) := (kp a List.mem_cons_self).trans hv
  have rs2 := rs.mono ev2.sub (H' := H2) fun x hx => kp x (List.mem_cons_of_mem _ hx)
  refine m ok2.sub hv2 rs2 ras e6 fun u vs' fu f' pm hR => ?_
  have okG : Ok G2 H2 (l2 ++ (m2 ++ (a :: fs))) := okF.perm (List.perm_iff_count.mpr fun x => by simp only [List.count_append, List.count_cons, List.cons_append]; omega)
  obtain ⟨sF, sM, ev3, ok3⟩ := own_mut okG hv2 rs2 ds2 vs' fu f' pm fun st => (hR _ st).2
  have es3 := es2.mono (Sub.refl _) (H' := upd H2 a (.lst vs')) sF
  have ok4 : Ok G2 (upd H2 a (.lst vs')) (a :: f' ++ (fu ++ l2)) := ok3.perm (List.perm_iff_count.mpr fun x => by simp only [List.count_append, List.count_cons, List.cons_append]; omega)
  have ev23 : Ev G1 H1 (a :: fs ++ l1) G2 (upd H2 a (.lst vs')) (fu ++ l2) := ((ev2.frame ok1).trans (ev3.permL (List.perm_iff_count.mpr fun x => by simp only [List.count_append, List.count_cons, List.cons_append]; omega))).less fun x hx => by
    rcases List.mem_append.mp hx with z | z
    · exact List.mem_append_right _ (List.mem_append_left _ z)
    · exact List.mem_append_left _ z
  exact p u G2 _ fu l2 (ev1.trans ev23) ok4.split.2.1 (hR _ sM).1 es3
/-! x.f.append(..), x a name; the arguments do not touch x -/
def mutO (k : List D → List D → Option (D × List D)) (c f : Str) (as : List D) : D → Option (D × D)
  | .nd (.obj c' fs) ds => if c' = c then (ixF f fs).bind fun j => (ds[j]?).bind fun y => (asL y).bind fun es => (k es as).map fun p => (p.1, .nd (.obj c fs) (ds.set j (.own p.2))) else none
  | _ => none
theorem mutO_some {k : List D → List D → Option (D × List D)} {as : List D} {z d o : D} (h : mutO k c f as z = some (d, o)) : ∃ gs ds j es es', z = .nd (.obj c gs) ds ∧ ixF f gs = some j ∧ ds[j]? = some (.own es) ∧ k es as = some (d, es') ∧ o = .nd (.obj c gs) (ds.set j (.own es')) := by
  unfold mutO at h
  split at h
  · rename_i c' gs ds
    by_cases hc : c' = c
    · subst hc
      rw [if_pos rfl] at h
      obtain ⟨j, e1, h⟩ := Option.bind_eq_some_iff.mp h
      obtain ⟨y, e2, h⟩ := Option.bind_eq_some_iff.mp h
      obtain ⟨es, e3, h⟩ := Option.bind_eq_some_iff.mp h
      obtain ⟨⟨d', es'⟩, e4, h⟩ := Option.map_eq_some_iff.mp h
      cases h
      rw [asL_some e3] at e2
      exact ⟨gs, ds, j, es, es', rfl, e1, e2, e4, rfl⟩
    · rw [if_neg hc] at h
      cases h
  · cases h
def hasL (c f : Str) (z : D) : Bool := ((kFld c f z).bind asL).isSome
def vMutF (k : List D → List D → Option (D × List D)) (i : Nat) (c f : Str) (g : LF) : VF := fun ρ => (look ρ i).bind fun z => if hasL c f z = true then rb g (fun as ρ' => if hole ρ' i = true then (mutO k c f as z).map fun p => .v p.1 (ρ'.set i (some p.2)) else none) (ρ.set i none) else none
theorem v_mutF {e : Expr} {i : Nat} {g : LF} {r : V → List V → Hp → VK → Prop} {k : List D → List D → Option (D × List D)} (kl : Kls X.K cl c C fs) (hf : f ∈ fs) (h : PE X e (tBM X.K "list" r (tFld X.K (tVar i) f) (tA X.K cl XP g))) (m : MkM X.K cl r k) : VE X cl XP e (vMutF k i c f g) := h.imp fun σ H Q hh => by
  obtain ⟨G, ρ, l, rr, ok, es, e, p⟩ := hh
  obtain ⟨z, el, e⟩ := Option.bind_eq_some_iff.mp e
  obtain ⟨hz, e⟩ := iteN e
  obtain ⟨v, f0, l0, e1, pm, r0, es0⟩ := es.take el
  obtain ⟨y, hy⟩ := Option.isSome_iff_exists.mp hz
  obtain ⟨y0, hy0, hy1⟩ := Option.bind_eq_some_iff.mp hy
  have := asL_some hy1
  subst this
  obtain ⟨gs, ds, j, rfl, hj1, hj2⟩ := kFld_some hy0
  obtain ⟨a, dx, vs, ks, rfl, hl, ha, rs, rfl⟩ := r0.obj_inv kl.at_
  obtain ⟨u0, f1, pre, post, h1, h2, h3, h4⟩ := rs.at hj2
  subst h2
  obtain ⟨b, ws, qs, rfl, hb, rqs, rfl⟩ := h3.own_inv
  refine ⟨.ref a, e1, a, C, dx, _, .ref b, rfl, ha, kl.ok, kl.na f hf, ixF_lookup hj1 h1, .inl ⟨rfl, ws, .inl (.inl hb)⟩, ?_⟩
  have ok0 := ok.perm pm
  refine tA.bind ok0.split.2.1 es0 e (fun ee ρ' z => by subst z; exact p.step ((Ev.refl G H l).less fun x hx => pm.mem_iff.mpr (List.mem_append_right _ hx))) fun as ρ2 e2 us G2 H2 m2 l2 ev2 ok2 ras es2 => ?_
  obtain ⟨hh2, e3⟩ := iteN e2
  obtain ⟨⟨d, o⟩, e4, rfl⟩ := Option.map_eq_some_iff.mp e3
  obtain ⟨gs', ds', j', es', es'', hq, hq1, hq2, hq3, rfl⟩ := mutO_some e4
  cases hq
  rw [hj1] at hq1
  cases hq1
  rw [hj2] at hq2
  cases hq2
  obtain ⟨okF, kp⟩ := ok0.frame ev2 ok2
  have hb2 : H2 b = some (.lst ws) := (kp b (List.mem_cons_of_mem _ (List.mem_append_right _ (List.mem_append_left _ List.mem_cons_self)))).trans hb
  have rq2 := rqs.mono ev2.sub (H' := H2) fun x hx => kp x (List.mem_cons_of_mem _ (List.mem_append_right _ (List.mem_append_left _ (List.mem_cons_of_mem _ hx))))
  refine m ok2.sub hb2 rq2 ras hq3 fun u vs' fu f' pmm hR => ?_
  have okG : Ok G2 H2 ((a :: (pre ++ (post ++ l2))) ++ (m2 ++ (b :: qs))) := okF.perm (List.perm_iff_count.mpr fun x => by simp only [List.count_append, List.count_cons, List.cons_append]; omega)
  obtain ⟨sF, sM, ev3, ok3⟩ := own_mut okG hb2 rq2 es'' vs' fu f' pmm fun st => (hR _ st).2
  have rown := R.own_mk (K := X.K) (cl := cl) (G := G2) (H := upd H2 b (.lst vs')) (a := b) (upd_same ..) (hR _ sM).2
  have keep : ∀ x ∈ a :: (pre ++ post), upd H2 b (.lst vs') x = H x := fun x hx => by
    rcases List.mem_cons.mp hx with z | z
    · rw [z, sF a List.mem_cons_self]
      exact kp a List.mem_cons_self
    · rcases List.mem_append.mp z with z | z
      · rw [sF x (List.mem_cons_of_mem _ (List.mem_append_left _ z))]
        exact kp x (List.mem_cons_of_mem _ (List.mem_append_left _ z))
      · rw [sF x (List.mem_cons_of_mem _ (List.mem_append_right _ (List.mem_append_left _ z)))]
        exact kp x (List.mem_cons_of_mem _ (List.mem_append_right _ (List.mem_append_right _ z)))
  have rs' := h4 G2 (upd H2 b (.lst vs')) _ _ _ ev2.sub (fun x hx => keep x (List.mem_cons_of_mem _ hx)) rown
  have hset : vs.set j (.ref b) = vs := by
    apply List.ext_getElem?
    intro q
    by_cases hjq : j = q
    · subst hjq
      obtain ⟨hlt, _⟩ := List.getElem?_eq_some_iff.mp h1
      rw [List.getElem?_set_self hlt, h1]
    · rw [List.getElem?_set_ne hjq]
  rw [hset] at rs'
  have ro := R.obj_mk (K := X.K) (cl := cl) (c := c) (dx := dx) kl.at_ hl ((keep a List.mem_cons_self).trans ha) rs'
  have es3 := es2.mono (Sub.refl _) (H' := upd H2 b (.lst vs')) fun x hx => sF x (List.mem_cons_of_mem _ (List.mem_append_right _ (List.mem_append_right _ hx)))
  obtain ⟨l3, pm3, es4⟩ := es3.back (hole_some hh2) e1 ro
  have pm5 : ((a :: (pre ++ (post ++ l2))) ++ (fu ++ (b :: f'))).Perm (fu ++ l3) := List.perm_iff_count.mpr fun x => by
    have := pm3.count_eq x
    simp only [List.count_append, List.count_cons, List.cons_append] at this ⊢
    omega
  have evA : Ev G H l G2 H2 ((a :: (pre ++ (b :: qs ++ post))) ++ (m2 ++ l2)) := (ev2.frame ok0).permL pm.symm
  exact p u G2 _ fu l3 ((evA.trans (ev3.permL (List.perm_iff_count.mpr fun x => by simp only [List.count_append, List.count_cons, List.cons_append]; omega))).perm pm5) (ok3.perm pm5) (hR _ sM).1 es4
end
/-! ### methods -/
structure CalM (P : Program) (w0 : World) (K : PySem.W.Frag) (mg : Str → Option Value) (base : Heap) (cl : Str → Option Addr) (C : Addr) (m : Str) (n k : Nat) (F : DF) : Prop where
  ex : ∃ (f : Addr) (fd : FuncData) (ps : List Str), ps.length = n ∧ Meth K C m f ∧ Binds K fd ps [] ∧ FnOk P w0 K mg base (L2.CX P w0) k f fd ps (spD K cl ps.length F)
  len : ∀ ds r, F ds = some r → ds.length = n
structure CalI (P : Program) (w0 : World) (K : PySem.W.Frag) (mg : Str → Option Value) (base : Heap) (cl : Str → Option Addr) (x : Str) (C : Addr) (n k : Nat) (F : DF) : Prop where
  ex : ∃ (f : Addr) (fd : FuncData) (ps : List Str), ps.length = n ∧ mg x = some (.ref C) ∧ Mk K C f ∧ Binds K fd ps [] ∧ FnOk P w0 K mg base (L2.CX P w0) k f fd ps (spD K cl ps.length F)
  len : ∀ ds r, F ds = some r → ds.length = n
section
variable {X : Cx} {cl : Str → Option Addr} {XP : XPost} {W : WX} {w : List Nat}
/-- o.m(..): what is asked, the exceptions by the slots -/
def tMethAt (C : Addr) (m : Str) (sp : Sp) (E : L2.St → XK) (ta : TE) (t : TA) : TE := fun σ H Q => ta σ H fun x H1 => ∃ a dx fs, (x = V.ref a ∧ H1 a = some (.ins C dx fs)) ∧ fs.lookup m = none ∧ t σ H1 fun vs H2 => sp (x :: vs) H2 Q (E σ)
theorem pe_methAt {CXX : CXT} {k : Nat} {f C : Addr} {fd : FuncData} {ps : List Str} {sp : Sp} {E : L2.St → XK} {m : Str} {apos pos : Pos} {e o : Expr} {es : List Expr} {ta : TE} {t : TA} {pl : Sem Bool} (ho : PE X o ta) (kc : L2.Cls X.K C) (km : Meth X.K C m f) (kf : FnOk X.prog X.w X.K X.mg X.base CXX k f fd ps sp) (rm : Room k X.A) (bi : Binds X.K fd ps []) (px : ∀ σ, PassesAt CXX X σ (E σ)) (las : PA X (e :: es) t)
    (hfst : starEach (e :: es) X.env = (false, eval e X.env) :: starEach es X.env := by rfl) (hrst : (backTo pos (starEach es X.env)).any (·.1) = false := by rfl)
    (hgo : eval (.Call (.Attribute o m apos) (e :: es) [] pos) X.env = (do
      let recv ← eval o X.env
      standAt apos.atName
      let (g, one) ← holding [recv] (getMethod recv m pl)
      callWith pos g one (backTo pos (starEach (e :: es) X.env)) (backToKw pos (keywordEach [] X.env))) := by rfl) :
    PE X (.Call (.Attribute o m apos) (e :: es) [] pos) (tMethAt C m sp E ta t) :=
  ⟨fun pins s σ H Q I hh => PySem.W.methodCall_KW (pl := pl) (thn (ho.run pins s σ H _ I hh) fun u s1 hq => by
    obtain ⟨x, H1, I1, rx, a, dx, fs, ⟨rfl, ea⟩, l, q⟩ := hq
    cases (show u = Value.ref a from rx)
    refine getmeth_ok I1 ea kc km l (PySem.W.callWith_K (first := [.ref a]) (h₀ := X.base) I.ok.mod.kin km.kp (thn (las.run pos pins s1 σ H1 _ I1 q) fun us s2 hq2 => ?_) hfst hrst)
    obtain ⟨vs, H2, I2, r, q2⟩ := hq2
    exact ⟨I2.kIn, run_fnS (us := .ref a :: us) (vs := .ref a :: vs) kf rm bi (px σ) I2 (.cons rfl r) q2⟩) hgo⟩
theorem pe_methAt0 {CXX : CXT} {k : Nat} {f C : Addr} {fd : FuncData} {ps : List Str} {sp : Sp} {E : L2.St → XK} {m : Str} {apos pos : Pos} {o : Expr} {ta : TE} {pl : Sem Bool} (ho : PE X o ta) (kc : L2.Cls X.K C) (km : Meth X.K C m f) (kf : FnOk X.prog X.w X.K X.mg X.base CXX k f fd ps sp) (rm : Room k X.A) (bi : Binds X.K fd ps []) (px : ∀ σ, PassesAt CXX X σ (E σ))
    (hgo : eval (.Call (.Attribute o m apos) [] [] pos) X.env = (do
      let recv ← eval o X.env
      standAt apos.atName
      let (g, one) ← holding [recv] (getMethod recv m pl)
      callWith pos g one (backTo pos (starEach [] X.env)) (backToKw pos (keywordEach [] X.env))) := by rfl) :
    PE X (.Call (.Attribute o m apos) [] [] pos) (tMethAt C m sp E ta tNil) :=
  ⟨fun pins s σ H Q I hh => PySem.W.methodCall_KW (pl := pl) (thn (ho.run pins s σ H _ I hh) fun u s1 hq => by
    obtain ⟨x, H1, I1, rx, a, dx, fs, ⟨rfl, ea⟩, l, q⟩ := hq
    cases (show u = Value.ref a from rx)
    exact getmeth_ok I1 ea kc km l (PySem.W.callWith_K0 (first := [.ref a]) I1.kIn km.kp (run_fnS (us := [.ref a]) (vs := [.ref a]) kf rm bi (px σ) I1 (.cons rfl .nil) q))) hgo⟩
/-- the first of the arguments stands in slot i -/
theorem io_go {K : PySem.W.Frag} {ios : List (Nat × Nat)} {i : Nat} {g : LF} {σ : L2.St} {H : Hp} {Q : List V → Hp → Prop} (h : tC' K cl XP ((0, i) :: shift ios) (aIo i g) σ H Q) : ∃ v, σ[i]? = some (some v) ∧ tC' K cl XP ios g σ H fun vs H1 => Q (v :: vs) H1 := by
  obtain ⟨G, ρ, l, rr, ok, es, e, p⟩ := h
  unfold aIo at e
  obtain ⟨d0, e0, e⟩ := Option.bind_eq_some_iff.mp e
  obtain ⟨v, f0, pre, post, ev, _, _, _, _⟩ := es.at (look_some e0)
  refine ⟨v, ev, ?_⟩
  cases h : g ρ with
  | none => rw [h] at e; cases e
  | some y =>
    rw [h] at e
    cases y with
    | x ee ρ' =>
      cases e
      exact ⟨G, ρ, l, .x ee ρ', ok, es, h, p⟩
    | v ds ρ' =>
      obtain ⟨d, e1, rfl⟩ := Option.map_eq_some_iff.mp e
      refine ⟨G, ρ, l, .v ds ρ', ok, es, h, fun vs G2 H2 fv l2 ev2 ok2 rs es2 hio => ?_⟩
      obtain ⟨v', f, l0, e2, pm, r, es3⟩ := es2.take e1
      rw [ev] at e2
      cases e2
      have pm2 : (fv ++ l2).Perm (f ++ fv ++ l0) := List.perm_iff_count.mpr fun x => by
        have := pm.count_eq x
        simp only [List.count_append] at this ⊢
        omega
      refine p (v :: vs) G2 H2 (f ++ fv) l0 (ev2.perm pm2) (ok2.perm pm2) (Rs.cons r rs) es3 fun q hq => ?_
      rcases List.mem_cons.mp hq with z | z
      · subst z
        exact ⟨v, rfl, ev⟩
      · obtain ⟨q', hq', rfl⟩ := List.mem_map.mp z
        obtain ⟨u, h1, h2⟩ := hio q' hq'
        exact ⟨u, by simpa using h1, h2⟩
def isO (c m : Str) : Option D → Bool
  | some (.nd (.obj c' fs) _) => decide (c' = c) && (ixF m fs).isNone
  | _ => false
theorem isO_some {c m : Str} {o : Option D} (h : isO c m o = true) : ∃ fs ds, o = some (.nd (.obj c fs) ds) ∧ ixF m fs = none := by
  unfold isO at h
  split at h
  · rw [Bool.and_eq_true, decide_eq_true_eq, Option.isNone_iff_eq_none] at h
    obtain ⟨rfl, h2⟩ := h
    exact ⟨_, _, rfl, h2⟩
  · cases h
def vMeth (c m : Str) (F : DF) (ios : List (Nat × Nat)) (i : Nat) (g : LF) : VF := fun ρ => if isO c m (look ρ i) = true then vCall F ((0, i) :: shift ios) (aIo i g) ρ else none
theorem meth_go {F : DF} {ios : List (Nat × Nat)} {n i : Nat} {g : LF} {σ : L2.St} {H : Hp} {Q : VK} {c m : Str} {C : Addr} (xl : XL X cl XP W) (hc : cl c = some C) (hn : ∀ ds r, F ds = some r → ds.length = n) (h : tV X.K cl XP (vMeth c m F ios i g) σ H Q) :
    tVar i σ H fun x H1 => ∃ a dx fs, (x = V.ref a ∧ H1 a = some (.ins C dx fs)) ∧ fs.lookup m = none ∧ tC' X.K cl XP ios g σ H1 fun vs H2 => spD X.K cl n F (x :: vs) H2 Q (WE W σ) := by
  obtain ⟨G, ρ, l, rr, ok, es, e, p⟩ := h
  obtain ⟨hz, e⟩ := iteN e
  obtain ⟨fs, ds, e0, hm⟩ := isO_some hz
  obtain ⟨v, f0, pre, post, ev, _, r0, _, _⟩ := es.at (look_some e0)
  obtain ⟨a, dx, vs, ks, rfl, hl, ha, rs, _⟩ := r0.obj_inv hc
  have h1 := call_go (n := n) xl hn (⟨G, ρ, l, rr, ok, es, e, p⟩ : tV X.K cl XP (vCall F ((0, i) :: shift ios) (aIo i g)) σ H Q)
  obtain ⟨v', ev', t⟩ := io_go h1
  rw [ev] at ev'
  cases ev'
  exact ⟨.ref a, ev, a, dx, _, ⟨rfl, ha⟩, ixF_none hm, t⟩
theorem v_meth {F : DF} {ios : List (Nat × Nat)} {n k i : Nat} {c m : Str} {C : Addr} {fs : List Str} {o e : Expr} {es : List Expr} {g : LF} {apos pos : Pos} {pl : Sem Bool} (xl : XL X cl XP W) (kl : Kls X.K cl c C fs) (M : CalM X.prog X.w X.K X.mg X.base cl C m n k F) (hr : Room k X.A) (ho : PE X o (tVar i)) (ha : CE' X cl XP ios (e :: es) g)
    (hfst : starEach (e :: es) X.env = (false, eval e X.env) :: starEach es X.env := by rfl) (hrst : (backTo pos (starEach es X.env)).any (·.1) = false := by rfl)
    (hgo : eval (.Call (.Attribute o m apos) (e :: es) [] pos) X.env = (do
      let recv ← eval o X.env
      standAt apos.atName
      let (g, one) ← holding [recv] (getMethod recv m pl)
      callWith pos g one (backTo pos (starEach (e :: es) X.env)) (backToKw pos (keywordEach [] X.env))) := by rfl) :
    VE X cl XP (.Call (.Attribute o m apos) (e :: es) [] pos) (vMeth c m F ios i g) := by
  obtain ⟨⟨f, fd, ps, rfl, km, bi, kf⟩, hn⟩ := M
  exact (pe_methAt (pl := pl) ho kl.ok km kf hr bi (fun σ => passAt xl.tk σ) ha hfst hrst hgo).imp fun σ H Q hh => meth_go xl kl.at_ hn hh
theorem v_meth0 {F : DF} {n k i : Nat} {c m : Str} {C : Addr} {fs : List Str} {o : Expr} {apos pos : Pos} {pl : Sem Bool} (xl : XL X cl XP W) (kl : Kls X.K cl c C fs) (M : CalM X.prog X.w X.K X.mg X.base cl C m n k F) (hr : Room k X.A) (ho : PE X o (tVar i))
    (hgo : eval (.Call (.Attribute o m apos) [] [] pos) X.env = (do
      let recv ← eval o X.env
      standAt apos.atName
      let (g, one) ← holding [recv] (getMethod recv m pl)
      callWith pos g one (backTo pos (starEach [] X.env)) (backToKw pos (keywordEach [] X.env))) := by rfl) :
    VE X cl XP (.Call (.Attribute o m apos) [] [] pos) (vMeth c m F [] i aNil) := by
  obtain ⟨⟨f, fd, ps, rfl, km, bi, kf⟩, hn⟩ := M
  refine (pe_methAt0 (pl := pl) ho kl.ok km kf hr bi (fun σ => passAt xl.tk σ) hgo).imp fun σ H Q hh => ?_
  obtain ⟨v, e1, a, dx, fs, h1, h2, G, ρ, l, rr, ok, es, e, p⟩ := meth_go xl kl.at_ hn hh
  cases e
  exact ⟨v, e1, a, dx, fs, h1, h2, p [] G H [] l (Ev.refl G H l) ok Rs.nil es (fun _ h => (by simp at h))⟩
/-! ### making an instance -/
def vMake (c : Str) (F : DF) (args : LF) : VF := rb args fun ds ρ => match F (.nd (.obj c []) [] :: ds) with
  | some (.v (.at .non) (o :: _)) => some (.v o ρ)
  | _ => none
theorem make_go {F : DF} {n : Nat} {args : LF} {σ : L2.St} {H : Hp} {Q : VK} {c : Str} {C : Addr} (hc : cl c = some C) (hn : ∀ ds r, F ds = some r → ds.length = n) (h : tV X.K cl XP (vMake c F args) σ H Q) :
    tA X.K cl XP args σ H fun vs H1 => ∀ x dx, H1 x = none → H1 dx = none → dx ≠ x → spD X.K cl n F (.ref x :: vs) (upd (upd H1 dx (.own x)) x (.ins C dx [])) (fun v H2 => v = .non ∧ Q (.ref x) H2) (fun _ _ _ => False) := by
  obtain ⟨G, ρ, l, rr, ok, es, e, p⟩ := h
  refine tA.bind ok es e (fun ee ρ' z => by subst z; exact p) fun ds ρ1 e1 vs G1 H1 fp l1 ev1 ok1 rs es1 x dx hx hdx hne => ?_
  split at e1
  · rename_i o as hF
    cases e1
    have gx : G1 x = none := by
      cases z : G1 x with
      | none => rfl
      | some u => rw [ok1.sub x u z] at hx; cases hx
    have old : ∀ y, H1 y ≠ none → upd (upd H1 dx (.own x)) x (.ins C dx []) y = H1 y := fun y hy => by
      rw [upd_ne (fun z : y = x => hy (by rw [z]; exact hx)), upd_ne (fun z : y = dx => hy (by rw [z]; exact hdx))]
    have q : Evq G1 H1 G1 (upd (upd H1 dx (.own x)) x (.ins C dx [])) := ⟨Sub.refl _, fun y u e => by rw [old y (ne_none_of e)]; exact e, fun y u e => by
      have := ok1.sub y u e
      rw [old y (ne_none_of this)]; exact this, fun _ g _ => g⟩
    have nf : Fresh H1 G1 (upd (upd H1 dx (.own x)) x (.ins C dx [])) [x] := ⟨(by simp), fun y hy => by rw [List.mem_singleton.mp hy]; exact hx, fun y hy => by rw [List.mem_singleton.mp hy]; exact gx, fun y hy => by rw [List.mem_singleton.mp hy, upd_same]; exact fun z => nomatch z⟩
    have rs1 := rs.evq q fun y hy => ok1.on y (List.mem_append_left _ hy)
    have es2 := es1.evq q (ok1.split.2.1)
    have okx := q.okf nf ok1
    have evx := q.evf (l := fp ++ l1) nf
    have ro : R X.K cl G1 (upd (upd H1 dx (.own x)) x (.ins C dx [])) (.nd (.obj c []) []) (.ref x) [x] := R.obj_mk (vs := []) (dx := dx) hc rfl (by rw [upd_same]; rfl) Rs.nil
    have ok3 : Ok G1 (upd (upd H1 dx (.own x)) x (.ins C dx [])) (l1 ++ ([x] ++ fp)) := okx.perm (List.perm_iff_count.mpr fun y => by simp only [List.count_append, List.count_cons]; omega)
    refine ⟨G1, _, [x] ++ fp, _, ok3.split.2.1, Rs.cons ro rs1, hn _ _ hF, hF, ?_⟩
    intro v G2 H2 fv fp' ev2 ok2 rd rs2
    obtain ⟨okF, kp⟩ := ok3.frame ev2 ok2
    refine ⟨rd.at_inv.1, ?_⟩
    obtain ⟨v1, us1, f1, g1, ee1, ee2, r1, r2⟩ := rs2.inv
    have hv1 : v1 = .ref x := by cases ee1; rfl
    subst hv1
    subst ee2
    rw [rd.at_inv.2] at ev2 ok2 okF
    have es3 := es2.mono ev2.sub kp
    have pm : (l1 ++ ([] ++ (f1 ++ g1))).Perm (g1 ++ (f1 ++ l1)) := List.perm_iff_count.mpr fun y => by simp only [List.count_append, List.count_nil]; omega
    refine p (.ref x) G2 H2 f1 l1 ((ev1.trans (evx.permL (l := fp ++ l1) (m := fp ++ l1) (List.Perm.refl _))).trans ?_) (okF.perm pm).split.2.1 r1 es3
    have := ((ev2.frame ok3).perm pm).less (l2 := f1 ++ l1) fun y hy => List.mem_append_right _ hy
    exact this.permL (List.perm_iff_count.mpr fun y => by simp only [List.count_append, List.count_cons]; omega)
  · cases e1
theorem noX {X : Cx} : Passes (L2.CX X.prog X.w) X (fun _ _ _ => False) := fun pins σ H s e s' I h => by
  obtain ⟨_, _, _, _, _, _, _, _, _, _, _, _, z⟩ := h
  exact z.elim
theorem v_make {F : DF} {n k : Nat} {c x : Str} {C : Addr} {fs : List Str} {e : Expr} {es : List Expr} {g : LF} {p pos : Pos} (kl : Kls X.K cl c C fs) (M : CalI X.prog X.w X.K X.mg X.base cl x C n k F) (hr : Room (k + 1) X.A) (hg : Gl X x) (ha : LE' X cl XP (e :: es) g)
    (hdb : (x == ("__debug__" : Str)) = false := by decide) (he : starEach (e :: es) X.env = (false, eval e X.env) :: starEach es X.env := by rfl) (hpl : (backTo pos (starEach es X.env)).any (·.1) = false := by rfl) :
    VE X cl XP (.Call (.Name x p) (e :: es) [] pos) (vMake c F g) := by
  obtain ⟨⟨f, fd, ps, rfl, hm, km, bi, kf⟩, hn⟩ := M
  refine (pe_make km kf hr hg hm bi .nil noX ha hdb he hpl).imp fun σ H Q hh => ?_
  have := make_go kl.at_ hn hh
  unfold tMake
  simpa only [List.append_nil] using this
theorem v_make0 {F : DF} {n k : Nat} {c x : Str} {C : Addr} {fs : List Str} {p pos : Pos} (kl : Kls X.K cl c C fs) (M : CalI X.prog X.w X.K X.mg X.base cl x C n k F) (hr : Room (k + 1) X.A) (hg : Gl X x)
    (hdb : (x == ("__debug__" : Str)) = false := by decide) : VE X cl XP (.Call (.Name x p) [] [] pos) (vMake c F aNil) := by
  obtain ⟨⟨f, fd, ps, rfl, hm, km, bi, kf⟩, hn⟩ := M
  refine (pe_make0 km kf hr hg hm bi .nil noX hdb).imp fun σ H Q hh => ?_
  obtain ⟨G, ρ, l, rr, ok, es, e, q⟩ := make_go kl.at_ hn hh
  cases e
  exact q [] G H [] l (Ev.refl G H l) ok Rs.nil es
end
/-! ### calls that only look: every argument is seen as frozen while the call runs -/
section
variable {K : PySem.W.Frag} {cl : Str → Option Addr} {G H G1 H1 : Hp}
def OwnC (o : HO) : Prop := (∃ vs, o = .lst vs) ∨ (∃ kv, o = .dK kv) ∨ ∃ C dx fs, o = .ins C dx fs
theorem Cont.kind {a : Addr} {vs : List V} {k : Kd} (h : k.ow = true) (c : Cont K cl G H a vs k) : ∃ o, H a = some o ∧ OwnC o := by
  match k, h, c with
  | .lst true, _, c => exact ⟨_, c, .inl ⟨_, rfl⟩⟩
  | .dic true ks, _, c => exact ⟨_, c.2.2, .inr (.inl ⟨_, rfl⟩)⟩
  | .obj c0 fs, _, c =>
    obtain ⟨l, C, dx, e1, e2⟩ := c
    exact ⟨_, e2, .inr (.inr ⟨_, _, _, rfl⟩)⟩
mutual
theorem R.kind : ∀ {d : D} {v : V} {f : List Addr}, R K cl G H d v f → ∀ a ∈ f, ∃ o, H a = some o ∧ OwnC o
  | .at v, w, f, r, a, ha => by
    unfold R at r
    rw [r.2] at ha
    cases ha
  | .nd k ds, w, f, r, a, ha => by
    unfold R at r
    obtain ⟨b, vs, fs, e, c, rs, q⟩ := r
    by_cases ho : k.ow = true
    · rw [if_pos ho] at q
      rw [q] at ha
      rcases List.mem_cons.mp ha with z | z
      · rw [z]; exact c.kind ho
      · exact Rs.kind rs a z
    · rw [if_neg ho] at q
      rw [q.1] at ha
      exact Rs.kind rs a ha
theorem Rs.kind : ∀ {ds : List D} {vs : List V} {f : List Addr}, Rs K cl G H ds vs f → ∀ a ∈ f, ∃ o, H a = some o ∧ OwnC o
  | [], _, f, r, a, ha => by
    unfold Rs at r
    rw [r.2] at ha
    cases ha
  | d :: ds, _, f, r, a, ha => by
    obtain ⟨v, us, f1, g, rfl, rfl, r1, r2⟩ := r.inv
    rcases List.mem_append.mp ha with z | z
    · exact R.kind r1 a z
    · exact Rs.kind r2 a z
end
theorem Es.kind : ∀ {ρ : En} {σ : L2.St} {l : List Addr}, Es K cl G H ρ σ l → ∀ a ∈ l, ∃ o, H a = some o ∧ OwnC o
  | [], _, l, e, a, ha => by
    unfold Es at e
    rw [e.2] at ha
    cases ha
  | none :: ρ, _, l, e, a, ha => by
    unfold Es at e
    obtain ⟨s, τ, rfl, e⟩ := e
    exact Es.kind e a ha
  | some d :: ρ, _, l, e, a, ha => by
    unfold Es at e
    obtain ⟨v, τ, f, g, rfl, rfl, r, e⟩ := e
    rcases List.mem_append.mp ha with z | z
    · exact r.kind a z
    · exact Es.kind e a z
/-- nothing frozen in it but tuples -/
def Kd.bare : Kd → Bool
  | .tup => true
  | .lst o => o
  | .dic o _ => o
  | .obj _ _ => true
mutual
def bare : D → Bool
  | .at _ => true
  | .nd k ds => k.bare && bares ds
def bares : List D → Bool
  | [] => true
  | d :: ds => bare d && bares ds
end
/-- the frozen part without what l owns -/
def less (G : Hp) (l : List Addr) : Hp := fun a => if a ∈ l then none else G a
theorem less_of {l : List Addr} {a : Addr} (h : a ∉ l) : less G l a = G a := by unfold less; rw [if_neg h]
theorem less_in {l : List Addr} {a : Addr} (h : a ∈ l) : less G l a = none := by unfold less; rw [if_pos h]
theorem less_sub {l : List Addr} : Sub (less G l) G := fun a o e => by
  unfold less at e
  split at e
  · cases e
  · exact e
theorem Cont.thaw {l : List Addr} {a : Addr} {vs : List V} {k : Kd} (s : Sub G H) (hl : ∀ b ∈ l, ∃ o, H b = some o ∧ OwnC o) (h : k.bare = true) (c : Cont K cl G H a vs k) : Cont K cl (less G l) H a vs k := by
  match k, h, c with
  | .tup, _, c =>
    have go : ∀ b u, G b = some u → ¬ OwnC u → less G l b = some u := fun b u e n => by
      rw [less_of fun hb => ?_]
      · exact e
      · obtain ⟨o, h1, h2⟩ := hl b hb
        rw [s b u e] at h1
        cases h1
        exact n h2
    rcases c with c | c
    · rcases c with c | ⟨o, c⟩
      · exact .inl (.inl (go _ _ c (by rintro (⟨_, h⟩ | ⟨_, h⟩ | ⟨_, _, _, h⟩) <;> cases h)))
      · exact .inl (.inr ⟨o, go _ _ c (by rintro (⟨_, h⟩ | ⟨_, h⟩ | ⟨_, _, _, h⟩) <;> cases h)⟩)
    · exact .inr c
  | .lst true, _, c => exact c
  | .dic true ks, _, c => exact c
  | .obj c0 fs, _, c => exact c
mutual
theorem R.thaw {l : List Addr} (s : Sub G H) (hl : ∀ b ∈ l, ∃ o, H b = some o ∧ OwnC o) : ∀ {d : D} {v : V} {f : List Addr}, bare d = true → R K cl G H d v f → R K cl (less G l) H d v f
  | .at v, w, f, _, r => by
    unfold R at r ⊢
    exact r
  | .nd k ds, w, f, h, r => by
    unfold bare at h
    rw [Bool.and_eq_true] at h
    unfold R at r ⊢
    obtain ⟨b, vs, fs, e, c, rs, q⟩ := r
    exact ⟨b, vs, fs, e, c.thaw s hl h.1, Rs.thaw s hl h.2 rs, q⟩
theorem Rs.thaw {l : List Addr} (s : Sub G H) (hl : ∀ b ∈ l, ∃ o, H b = some o ∧ OwnC o) : ∀ {ds : List D} {vs : List V} {f : List Addr}, bares ds = true → Rs K cl G H ds vs f → Rs K cl (less G l) H ds vs f
  | [], _, f, _, r => by
    unfold Rs at r ⊢
    exact r
  | d :: ds, _, f, h, r => by
    unfold bares at h
    rw [Bool.and_eq_true] at h
    unfold Rs at r ⊢
    obtain ⟨v, us, f1, g, e1, e2, r1, r2⟩ := r
    exact ⟨v, us, f1, g, e1, e2, R.thaw s hl h.1 r1, Rs.thaw s hl h.2 r2⟩
end
end
def vCallW (F : DF) (g : QL) : VF := fun ρ => (g ρ).bind fun ds => if foks ds = true then match F (frzs ds) with
  | some (.v d _) => if bare d = true then some (.v d ρ) else none
  | _ => none else none
section
variable {X : Cx} {cl : Str → Option Addr} {XP : XPost} {W : WX} {w : List Nat}
theorem callW_go {F : DF} {n : Nat} {g : QL} {σ : L2.St} {H : Hp} {Q : VK} (hn : ∀ ds r, F ds = some r → ds.length = n) (h : tV X.K cl XP (vCallW F g) σ H Q) : tQl X.K cl g σ H fun vs H1 => spD X.K cl n F vs H1 Q (fun _ _ _ => False) := by
  obtain ⟨G, ρ, l, rr, ok, es, e, p⟩ := h
  obtain ⟨ds, e1, e2⟩ := Option.bind_eq_some_iff.mp e
  refine ⟨G, ρ, l, ds, ok, es, e1, fun vs G1 H1 f q rs => ?_⟩
  obtain ⟨hf, e3⟩ := iteN e2
  split at e3
  · rename_i d as hF
    obtain ⟨hb, e4⟩ := iteN e3
    cases e4
    have ok1 := q.ok ok
    have es1 := es.evq q ok
    refine ⟨frzH G1 H1 (l ++ f), frzs ds, [], _, ⟨List.nodup_nil, frzH_in q.inn _, fun _ z => (nomatch z), fun _ z => (nomatch z)⟩, rs.frz q.inn hf fun a ha => List.mem_append_right _ ha, hn _ _ hF, hF, ?_⟩
    intro v G2 H2 fv fp' ev2 ok2 rd rs2
    have keep : ∀ a, H1 a ≠ none → H2 a = H1 a := fun a ha => by
      cases z : H1 a with
      | none => exact absurd z ha
      | some u => exact ev2.keep a u z (fun h => nomatch h)
    have inm : ∀ a, a ∈ (l ++ f).filter (fun a => (G1 a).isNone) ↔ (a ∈ l ∨ a ∈ f) ∧ G1 a = none := fun a => by
      rw [List.mem_filter, List.mem_append, Option.isNone_iff_eq_none]
    generalize hm0 : (l ++ f).filter (fun a => (G1 a).isNone) = m at inm
    have kind : ∀ b ∈ m, ∃ o, H2 b = some o ∧ OwnC o := fun b hb => by
      obtain ⟨o, h1, h2⟩ := ((inm b).mp hb).1.elim (es1.kind b) (rs.kind b)
      exact ⟨o, (keep b (ne_none_of h1)).trans h1, h2⟩
    have lm : ∀ a ∈ l, a ∈ m := fun a ha => (inm a).mpr ⟨.inl ha, ok1.out a ha⟩
    have newf : ∀ a ∈ fv, H1 a = none := fun a ha => (ev2.news a (List.mem_append_left _ ha)).elim (fun z => nomatch z) id
    have sub1 : Sub G1 (less G2 m) := fun a o e => by
      rw [less_of fun hb => ?_]
      · exact ev2.sub a o (frzH_sub q.inn _ a o e)
      · rw [((inm a).mp hb).2] at e; cases e
    have okv := (ok2.split).1
    have okr : Ok (less G2 m) H2 (fv ++ l) := by
      refine ⟨List.nodup_append.mpr ⟨okv.nd, ok1.nd, fun x hx y hy z => ?_⟩, fun a o e => ok2.sub a o (less_sub a o e), fun a ha => ?_, fun a ha => ?_⟩
      · subst z
        exact ok1.on x hy (newf x hx)
      · rcases List.mem_append.mp ha with z | z
        · cases hz : less G2 m a with
          | none => rfl
          | some u =>
            have := less_sub a u hz
            rw [okv.out a z] at this
            cases this
        · exact less_in (lm a z)
      · rcases List.mem_append.mp ha with z | z
        · exact okv.on a z
        · rw [keep a (ok1.on a z)]; exact ok1.on a z
    have ev3 : Ev G1 H1 l (less G2 m) H2 (fv ++ l) := by
      refine ⟨sub1, fun a o e _ => (keep a (ne_none_of e)).trans e, fun a ha => (List.mem_append.mp ha).elim (fun z => .inr (newf a z)) .inl, fun a g0 h0 hn0 => ?_, ev2.there⟩
      by_cases hm : a ∈ m
      · exact less_in hm
      · rw [less_of hm]
        exact ev2.gn a (by
          unfold frzH
          rw [if_neg fun z => hm ((inm a).mpr ⟨List.mem_append.mp z, g0⟩)]
          exact g0) h0 (fun z => nomatch z)
    exact p v (less G2 m) H2 fv l (q.ev.trans ev3) okr (rd.thaw ok2.sub kind hb) (es1.mono sub1 fun a ha => keep a (ok1.on a ha))
  · cases e3
theorem v_calW {F : DF} {n k : Nat} {x : Str} {p pos : Pos} {e : Expr} {es : List Expr} {args : QL} (C : Cal X.prog X.w X.K X.mg X.base cl x n k F) (hr : Room k X.A) (hg : Gl X x)
    (ha : QA X cl (e :: es) args) (hdb : (x == ("__debug__" : Str)) = false := by decide) (he : starEach (e :: es) X.env = (false, eval e X.env) :: starEach es X.env := by rfl) (hpl : (backTo pos (starEach es X.env)).any (·.1) = false := by rfl) :
    VE X cl XP (.Call (.Name x p) (e :: es) [] pos) (vCallW F args) := by
  obtain ⟨⟨f, fd, ps, rfl, hm, hk, hb, Fk⟩, hn⟩ := C
  refine (pe_call Fk hr hg hm hk hb .nil noX ha hdb he hpl).imp fun σ H Q hh => ?_
  have := callW_go hn hh
  unfold tCall
  simpa only [List.append_nil] using this
/-! ### a list taken apart -/
def gUn (t : GFs) : GF := fun d ρ => match d with
  | .nd (.lst _) ds => t ds ρ
  | _ => none
theorem R.lst_inv {K : PySem.W.Frag} {G H : Hp} {v : V} {ds : List D} {o : Bool} {f : List Addr} (s : Sub G H) (r : R K cl G H (.nd (.lst o) ds) v f) : ∃ a vs fs, v = .ref a ∧ SqL K H a vs ∧ Rs K cl G H ds vs fs ∧ fs.Sublist f := by
  unfold R at r
  obtain ⟨a, vs, fs, e, c, rs, q⟩ := r
  cases o with
  | true =>
    rw [if_pos (show (Kd.lst true).ow = true from rfl)] at q
    refine ⟨a, vs, fs, e, .inl (.inl c), rs, ?_⟩
    rw [q]
    exact List.sublist_cons_self a fs
  | false =>
    rw [if_neg (by decide)] at q
    refine ⟨a, vs, fs, e, s.sl c, rs, ?_⟩
    rw [q.1]
    exact List.Sublist.refl fs
theorem g_un {es : List Expr} {k : Nat} {t : GFs} {n : Nat} {pos : Pos} (hc : X.calm = true) (h : PGs X es (tGs X.K cl w t)) (hlen : ∀ ds ρ ρ', t ds ρ = some ρ' → ds.length = n)
    (hn : (assignEach es X.env).length = n := by rfl) (hst : (assignEach es X.env).findIdx? (·.1) = none := by rfl) : GE X cl w (.Tuple es k pos) (gUn t) := (pg_lst hc h hn hst).imp fun v σ H Q hh => by
  obtain ⟨G, d, f, ρ, l, ρ', ok, r, es, e, p⟩ := hh
  match d, e, r with
  | .nd (.lst o) ds, e, r =>
    obtain ⟨a, vs, fs, rfl, hq, rs, sl⟩ := r.lst_inv ok.sub
    have sl2 : (fs ++ l).Sublist (f ++ l) := sl.append (List.Sublist.refl l)
    exact ⟨a, vs, rfl, hq, rs.length.trans (hlen ds ρ ρ' e), G, ds, fs, ρ, l, ρ', ok.sublist sl2, rs, es, e, fun σ' G' H' l' kp ev ok' es' => p σ' G' H' l' kp (((Ev.refl G H (f ++ l)).less fun a h => sl2.subset h).trans ev) ok' es'⟩
end
/-! ### extend -/
theorem Rs.one_own {K : PySem.W.Frag} {cl : Str → Option Addr} {G H : Hp} {es : List D} {us : List V} {m : List Addr} (r : Rs K cl G H [.own es] us m) : ∃ b zs gs, us = [.ref b] ∧ H b = some (.lst zs) ∧ Rs K cl G H es zs gs ∧ m = b :: gs := by
  obtain ⟨v, us, f, g, rfl, rfl, r1, r2⟩ := r.inv
  unfold Rs at r2
  obtain ⟨rfl, rfl⟩ := r2
  obtain ⟨b, zs, gs, rfl, h, rs, rfl⟩ := r1.own_inv
  exact ⟨b, zs, gs, rfl, h, rs, by rw [List.append_nil]⟩
def kExtO (ds as : List D) : Option (D × List D) := match as with
  | [.nd (.lst true) es] => if ds.length + es.length ≤ sizeLine then some (.non, ds ++ es) else none
  | _ => none
theorem mm_extend {K : PySem.W.Frag} {cl : Str → Option Addr} : MkM K cl rExtend kExtO := fun {G H a ds vs fs as us m d ds' Q} s hv rds ras e k => by
  match as, e, ras with
  | [.nd (.lst true) es], e, ras =>
    obtain ⟨hz, e1⟩ := iteN e
    cases e1
    obtain ⟨b, zs, gs, rfl, hb, rs, rfl⟩ := ras.one_own
    refine ⟨a, b, vs, zs, rfl, rfl, hv, hb, by rw [rds.length, rs.length]; exact hz, k .non (vs ++ zs) [] (fs ++ gs) ⟨[b], ?_⟩ fun H' st => ⟨R.at _, ?_⟩⟩
    · exact List.perm_iff_count.mpr fun x => by simp only [List.count_append, List.count_cons, List.count_nil, List.cons_append]; omega
    · exact (rds.mono (Sub.refl _) fun x hx => st x (List.mem_append_right _ hx)).append (rs.mono (Sub.refl _) fun x hx => st x (List.mem_append_left _ (List.mem_cons_of_mem _ hx)))
/-! ### a value, frozen as it is handed on -/
def vFrz (f : VF) : VF := rb f fun d => fun ρ => if fok d = true then some (.v (frz d) ρ) else none
theorem v_frz {X : Cx} {cl : Str → Option Addr} {XP : XPost} {e : Expr} {f : VF} (h : VE X cl XP e f) : VE X cl XP e (vFrz f) := h.imp fun σ H Q hh => by
  obtain ⟨G, ρ, l, rr, ok, es, e, p⟩ := hh
  refine tV.bind ok es e (fun ee ρ' z => by subst z; exact p) fun d ρ1 e1 v G1 H1 f1 l1 ev1 ok1 rd es1 => ?_
  obtain ⟨hf, e2⟩ := iteN e1
  cases e2
  obtain ⟨om, ol, dis⟩ := ok1.split
  have r1 := R.frz (m := f1) ok1.sub hf (fun _ h => h) rd
  have sub := frzH_sub ok1.sub f1
  have out : ∀ a, a ∉ f1 → frzH G1 H1 f1 a = G1 a := fun a h => by unfold frzH; rw [if_neg h]
  have ev2 : Ev G1 H1 (f1 ++ l1) (frzH G1 H1 f1) H1 l1 := ⟨sub, fun _ _ h _ => h, fun a h => .inl (List.mem_append_right _ h), fun a g h n => by rw [out a fun z => n (List.mem_append_left _ z)]; exact g, fun _ h => h⟩
  have ok2 : Ok (frzH G1 H1 f1) H1 l1 := ⟨ol.nd, frzH_in ok1.sub f1, fun a h => by rw [out a fun z => dis a z h]; exact ol.out a h, ol.on⟩
  exact p v (frzH G1 H1 f1) H1 [] l1 (ev1.trans ev2) ok2 r1 (es1.mono sub fun _ _ => rfl)
end DL

set_option maxRecDepth 100000
/-! DLX: exceptions raised and caught; attributes counted up. -/
namespace DL
open PySem L2 PySem.Spec PyProof.Rows
/-- an own class over ValueError -/
structure Xc (K : PySem.W.Frag) (mg : Str → Option Value) (cl : Str → Option Addr) (x : Str) (C : Addr) : Prop where
  at_ : cl x = some C
  gl : mg x = some (.ref C)
  ex : PySem.W.excIn K C [.type "ValueError", .type "Exception", .type "BaseException", .type "object"] "ValueError.__new__" = true
  kp : PySem.W.keepIn K (.ref C) = true
  sb : PySem.W.subIn K (.ref C) (.type "BaseException") = some true
  ty : PySem.W.typeIn K (.ref C) = some (.type "type")
def sRaise (x : Str) : SF := fun ρ => some (.ex ⟨x, []⟩ ρ)
def XPw (K : PySem.W.Frag) (cl : Str → Option Addr) (W : WX) : XPost := fun e _ G H _ σ => ∀ c od, XR K cl e c od G H → W c od σ H
def sTry (b : SF) (mt : Str → Option Bool) (s : SF) : SF := fun ρ => match b ρ with
  | some (.ex e ρ') => (match mt e.cls with
    | some true => s ρ'
    | some false => some (.ex e ρ')
    | none => none)
  | o => o
section
variable {X : Cx} {cl : Str → Option Addr} {XP : XPost} {W : WX} {w : List Nat}
theorem s_raise {x m : Str} {C : Addr} {j : Nat} {p p2 pos pos' : Pos} (xl : XL X cl XP W) (hx : Xc X.K X.mg cl x C) (hc : X.calm = true) (hg : Gl X x) (hdb : (x == ("__debug__" : Str)) = false := by decide) :
    SE X cl XP w (.Raise (some (.Call (.Name x p) [.Constant (.str m) j p2] [] pos)) none pos') (sRaise x) := (ps_raise hc xl.tk (pmk_own PySem.F.excBase_ValueError hx.ex hx.gl hx.kp (raises_own hx.sb hx.ty) hg hdb)).imp fun D σ H hh => by
  obtain ⟨G, ρ, l, rr, ok, es, e, q⟩ := hh
  cases e
  exact xl.lk _ ρ G H l σ (.ref C) none (q σ G H l (Kp.refl _ _) (Ev.refl G H l) ok es) ⟨C, hx.at_, rfl, .inl rfl⟩
theorem s_try {x : Str} {Ch : Addr} {np pos pos' : Pos} {body : List Stmt} {b0 : Stmt} {suite : List Stmt} {fb fs : SF} {mt : Str → Option Bool} (hs : X.stack = X.env :: X.outer) (hf : X.env.frame = some X.env.locals) (hc : Names X x (.ref Ch)) (xl : XL X cl XP W)
    (hm : ∀ n b C, mt n = some b → cl n = some C → PySem.W.exmOne X.K (.ref C) (.ref Ch) = some b)
    (hb : ∀ (W : WX) (pn : List (Addr × Obj)) (xe : Value → Shared → Prop), XL (X.tr pn xe) cl (XPw X.K cl W) W → PassesOwn (model X.prog X.w) X.A X.env xe → BL (X.tr pn xe) cl (XPw X.K cl W) w body fb)
    (hsu : ∀ (a : Addr) (oe : Obj) (pn : List (Addr × Obj)), BL (X.suite a ((a, oe) :: pn)) cl XP w (b0 :: suite) fs) :
    SE X cl XP w (.Try body [.ExceptHandler (some (.Name x np)) none (b0 :: suite) pos'] [] [] pos) (sTry fb mt fs) :=
  (ps_try_only (tb := fun W => tS X.K cl (XPw X.K cl W) w fb) (ts := fun _ _ _ => tS X.K cl XP w fs) hs hf hc xl.tk (fun W pn xe tk ho => hb W pn xe ⟨tk, fun _ _ _ _ _ _ c od h x => h c od x⟩ ho) (fun a oe _ _ pn _ _ => hsu a oe pn)).imp fun D σ H hh => by
    obtain ⟨G, ρ, l, r, ok, es, e, p⟩ := hh
    unfold sTry at e
    cases hfb : fb ρ with
    | none => rw [hfb] at e; cases e
    | some out =>
      rw [hfb] at e
      refine ⟨G, ρ, l, out, ok, es, hfb, ?_⟩
      cases out with
      | nx ρ1 => cases e; exact p
      | rt d ρ1 => cases e; exact p
      | bk ρ1 => cases e; exact p
      | ct ρ1 => cases e; exact p
      | ex e1 ρ1 =>
        intro σ' G' H' l' kp ev ok' es' c od xr
        obtain ⟨C, h1, h2, h3⟩ := xr
        subst h2
        dsimp only at e
        cases hmt : mt e1.cls with
        | none => rw [hmt] at e; cases e
        | some b =>
          rw [hmt] at e
          cases b with
          | false =>
            cases e
            exact ⟨false, hm _ _ _ hmt h1, fun z => (nomatch z), fun _ => xl.lk e1 ρ1 G' H' l' σ' _ od (p σ' G' H' l' kp ev ok' es') ⟨C, h1, rfl, h3⟩⟩
          | true => exact ⟨true, hm _ _ _ hmt h1, fun _ a ha => ⟨G', ρ1, l', r, ok', es', e, p.step kp ev⟩, fun z => (nomatch z)⟩
/-! x.f op= e -/
def sAugF (i : Nat) (c f : Str) (k : D → D → Option D) (q : QF) : SF := fun ρ => (look ρ i).bind fun o => (kFld c f o).bind fun x => (q ρ).bind fun y => (k x y).bind fun z => (setO c f z (some o)).map fun o' => .nx (ρ.set i (some o'))
theorem s_augF {c f : Str} {C : Addr} {fs : List Str} {e : Expr} {i : Nat} {x : Str} {pos pos' p2 : Pos} {op : Operator} {rd : V → V → Hp → VK → Prop} {k : D → D → Option D} {q : QF} (kl : Kls X.K cl c C fs) (hf : f ∈ fs) (ho : PE X (.Name x p2) (tVar i)) (he : QE X cl e q) (hop : InOp X op rd) (m : Mk2 X.K cl rd k) :
    SE X cl XP w (.AugAssign (.Attribute (.Name x p2) f pos') op e pos) (sAugF i c f k q) := (ps_fldaug ho he hop).imp fun D σ H hh => by
  obtain ⟨G, ρ, l, rr, ok, es, e, p⟩ := hh
  obtain ⟨o, e1, e⟩ := Option.bind_eq_some_iff.mp e
  obtain ⟨d0, e2, e⟩ := Option.bind_eq_some_iff.mp e
  obtain ⟨d1, e3, e⟩ := Option.bind_eq_some_iff.mp e
  obtain ⟨d2, e4, e⟩ := Option.bind_eq_some_iff.mp e
  obtain ⟨o', e5, rfl⟩ := Option.map_eq_some_iff.mp e
  obtain ⟨v, f0, pre, post, ev, _, r0, _, _⟩ := es.at (look_some e1)
  obtain ⟨gs, ds, j, rfl, hj1, hj2⟩ := kFld_some e2
  obtain ⟨a, dx, vs, ks, rfl, hl, ha, rs, _⟩ := r0.obj_inv kl.at_
  obtain ⟨u0, f1, pre1, post1, h1, h2, h3, h4⟩ := rs.at hj2
  refine ⟨.ref a, ev, a, C, dx, _, u0, rfl, ha, kl.ok, kl.na f hf, ixF_lookup hj1 h1, ?_⟩
  refine tQ.use ok es e3 fun y G1 H1 g ev1 ry => ?_
  refine m ev1.inn (h3.evq ev1 h3.on) ry e4 fun u G2 H2 fu q2 nf rz => ?_
  have ev12 := ev1.trans q2
  have es2 := es.evq ev12 ok
  have okz := q2.okf nf (ev1.ok ok)
  obtain ⟨a', dx', gs', vs', b1, b2, b3, l', ev3, ok3, es3⟩ := Es.setO kl.at_ okz es2 rz (by rw [e1]; exact e5)
  rw [ev] at b1
  cases b1
  exact ⟨dx', _, b2, b3, p σ G2 _ l' (Kp.refl _ _) ((ev1.ev.trans (q2.evf nf)).trans ev3) ok3 es3⟩
end
/-! ### a list, some times over -/
def kRep : D → D → Option D
  | .nd (.lst true) ds, .at (.int k) => if nOws ds = true ∧ -(2 ^ 63) ≤ k ∧ k < 2 ^ 63 ∧ ds.length * k.toNat ≤ sizeLine then some (.own (List.replicate k.toNat ds).flatten) else none
  | _, _ => none
theorem Rs.rep {K : PySem.W.Frag} {cl : Str → Option Addr} {G H : Hp} {ds : List D} {vs : List V} (r : Rs K cl G H ds vs []) : ∀ n : Nat, Rs K cl G H (List.replicate n ds).flatten (List.replicate n vs).flatten []
  | 0 => Rs.nil
  | n + 1 => by
    rw [List.replicate_succ, List.replicate_succ, List.flatten_cons, List.flatten_cons]
    exact r.append (Rs.rep r n)
theorem m_rep {K : PySem.W.Frag} {cl : Str → Option Addr} : Mk2 K cl rRep kRep := fun {G H a b d v w f g Q} s ra rb e k => by
  unfold kRep at e
  split at e
  · rename_i ds j
    obtain ⟨⟨h1, h2, h3, h4⟩, e1⟩ := iteSome e
    subst e1
    obtain ⟨l, vs, fs, rfl, hv, rs, rfl⟩ := ra.own_inv
    have := Rs.fp_nil h1 rs
    subst this
    refine ⟨l, j, vs, rfl, rb.at_inv.1, hv, h2, h3, by rw [rs.length]; exact h4, ?_⟩
    exact mk_own s (Rs.rep rs _) k
  · cases e
theorem inop {X : Cx} {op : Operator} {rd : R2} (h : OpR X (inplaceOp op) rd) : InOp X op rd := fun pins s σ H x y u v Q I rx ry q => h pins s σ H x y u v Q I rx ry q
/-! ### name[:e], e any value -/
def vSlN (i : Nat) (f : VF) : VF := fun ρ => (look ρ i).bind fun _ => rb f (fun dk ρ' => (look ρ' i).bind fun x => (asI dk).bind fun b => (kSl none (some b) x).map fun r => .v r ρ') ρ
theorem v_slN {X : Cx} {cl : Str → Option Addr} {XP : XPost} {a b : Expr} {i : Nat} {f : VF} {pos p2 : Pos} (ha : PE X a (tVar i)) (hb : VE X cl XP b f) : VE X cl XP (.Subscript a (.Slice none (some b) none p2) pos) (vSlN i f) := (pe_slice sl_all ha po_none (po_some hb)).imp fun σ H Q h => by
  obtain ⟨G, ρ, l, rr, ok, es, e, p⟩ := h
  obtain ⟨d0, e0, e1⟩ := Option.bind_eq_some_iff.mp e
  obtain ⟨v, f0, pre, post, ev, _, _, _, _⟩ := es.at (look_some e0)
  refine ⟨v, ev, tV.bind ok es e1 (fun ee ρ' z => by subst z; exact p) fun dk ρ1 e2 u G1 H1 f1 l1 ev1 ok1 rk es1 => ?_⟩
  obtain ⟨x, e3, e4⟩ := Option.bind_eq_some_iff.mp e2
  obtain ⟨j, e5, e6⟩ := Option.bind_eq_some_iff.mp e4
  obtain ⟨d, e7, rfl⟩ := Option.map_eq_some_iff.mp e6
  rw [asI_some e5] at rk
  obtain ⟨v', f2, pre2, post2, ev', _, rx, _, _⟩ := es1.at (look_some e3)
  rw [ev] at ev'
  cases ev'
  have o1 := ok1.split.2.1
  exact ⟨j, rk.at_inv.1, m_sl (cl := cl) ok1.sub rx e7 fun u G3 H3 fu q n rd => p u G3 H3 fu l1 ((ev1.less (l2 := l1) fun a h => List.mem_append_right _ h).trans (q.evf n)) (q.okf n o1) rd (es1.evq q o1)⟩
theorem pe_gcc {X : Cx} {x : Str} {v : V} {pos : Pos} (hg : Gl X x) (h : ∃ u, X.mg x = some u ∧ RelV v u) (hd : (x == ("__debug__" : Str)) = false := by decide) : PE X (.Name x pos) (tC v) := by
  obtain ⟨u, h1, h2⟩ := h
  exact pe_glob hg h1 h2 (by assumption)
end DL

set_option maxRecDepth 100000
/-! DLV: what the plain functions come to: instances, calls that look. -/
namespace DL
open PySem L2 PySem.Spec PyProof.Rows
section
variable {P : D → En → Prop} {E : Exn → En → Prop} {ρ : En} {Q : Ed}
theorem wR_pm {o : Option (D × D)} {g : D × D → En} : wR (o.map fun p => Rr.v p.1 (g p)) P E ↔ wO o fun p => P p.1 (g p) := by
  cases o with
  | none => exact ⟨fun ⟨_, e, _⟩ => (by cases e), fun ⟨_, e, _⟩ => (by cases e)⟩
  | some y => exact ⟨fun ⟨r, e, h⟩ => by cases e; exact ⟨_, rfl, h⟩, fun ⟨r, e, h⟩ => by cases e; exact ⟨_, rfl, h⟩⟩
theorem wv_mutF {k : List D → List D → Option (D × List D)} {i : Nat} {c f : Str} {g : LF} : wR (vMutF k i c f g ρ) P E ↔ wO (look ρ i) fun z => hasL c f z = true ∧ wR (g (ρ.set i none)) (fun as ρ' => hole ρ' i = true ∧ wO (mutO k c f as z) fun p => P p.1 (ρ'.set i (some p.2))) E := by
  unfold vMutF
  rw [wR_bind]
  exact ⟨fun h => wO_mono h fun z y => (wR_iteN.mp y).imp id fun u => wR_mono (wR_rb.mp u) (fun a ρ' w => (wR_iteN.mp w).imp id fun z => wR_pm.mp z) fun _ _ z => z,
    fun h => wO_mono h fun z y => wR_iteN.mpr (y.imp id fun u => wR_rb.mpr (wR_mono u (fun a ρ' w => wR_iteN.mpr (w.imp id fun z => wR_pm.mpr z)) fun _ _ z => z))⟩
theorem wv_mutV {k : List D → List D → Option (D × List D)} {f : VF} {g : LF} : wR (vMutV k f g ρ) P E ↔ wR (f ρ) (fun d ρ1 => wO (asL d) fun ds => wR (g ρ1) (fun as ρ2 => wO (k ds as) fun p => P p.1 ρ2) E) E := by
  unfold vMutV
  rw [wR_rb]
  exact ⟨fun h => wR_mono h (fun a ρ1 z => wO_mono (wR_bind.mp z) fun ds y => wR_mono (wR_rb.mp y) (fun as ρ2 u => wO_map.mp (wR_rp.mp u)) fun _ _ z => z) fun _ _ z => z,
    fun h => wR_mono h (fun a ρ1 z => wR_bind.mpr (wO_mono z fun ds y => wR_rb.mpr (wR_mono y (fun as ρ2 u => wR_rp.mpr (wO_map.mpr u)) fun _ _ z => z))) fun _ _ z => z⟩
theorem wv_meth {c m : Str} {F : DF} {ios : List (Nat × Nat)} {i : Nat} {g : LF} : wR (vMeth c m F ios i g ρ) P E ↔ isO c m (look ρ i) = true ∧ wR (vCall F ((0, i) :: shift ios) (aIo i g) ρ) P E := by
  unfold vMeth
  exact wR_iteN
theorem wv_make {c : Str} {F : DF} {args : LF} : wR (vMake c F args ρ) P E ↔ wR (args ρ) (fun ds ρ' => wD (F (.nd (.obj c []) [] :: ds)) (fun d as => d = .non ∧ ∃ o r, as = o :: r ∧ P o ρ') fun _ _ => False) E := by
  unfold vMake
  rw [wR_rb]
  have key : ∀ ds ρ', wR (match F (.nd (.obj c []) [] :: ds) with
      | some (.v (.at .non) (o :: _)) => some (.v o ρ')
      | _ => none) P E ↔ wD (F (.nd (.obj c []) [] :: ds)) (fun d as => d = .non ∧ ∃ o r, as = o :: r ∧ P o ρ') fun _ _ => False := fun ds ρ' => by
    constructor
    · intro h
      split at h
      · rename_i o as hF
        exact ⟨_, hF, rfl, o, as, rfl, wR_v.mp h⟩
      · exact (wR_none.mp h).elim
    · rintro ⟨r, e, h⟩
      rw [e]
      cases r with
      | x e as => exact h.elim
      | v d as =>
        obtain ⟨rfl, o, r, rfl, h⟩ := h
        exact wR_v.mpr h
  exact ⟨fun h => wR_mono h (fun a ρ1 z => (key _ _).mp z) fun _ _ z => z, fun h => wR_mono h (fun a ρ1 z => (key _ _).mpr z) fun _ _ z => z⟩
theorem wv_callW {F : DF} {g : QL} : wR (vCallW F g ρ) P E ↔ wO (g ρ) fun ds => foks ds = true ∧ wD (F (frzs ds)) (fun d _ => bare d = true ∧ P d ρ) fun _ _ => False := by
  unfold vCallW
  rw [wR_bind]
  have key : ∀ ds, wR (match F (frzs ds) with
      | some (.v d _) => if bare d = true then some (.v d ρ) else none
      | _ => none) P E ↔ wD (F (frzs ds)) (fun d _ => bare d = true ∧ P d ρ) fun _ _ => False := fun ds => by
    constructor
    · intro h
      split at h
      · rename_i d as hF
        exact ⟨_, hF, (wR_iteN.mp h).imp id wR_v.mp⟩
      · exact (wR_none.mp h).elim
    · rintro ⟨r, e, h⟩
      rw [e]
      cases r with
      | x e as => exact h.elim
      | v d as => exact wR_iteN.mpr (h.imp id wR_v.mpr)
  exact ⟨fun h => wO_mono h fun ds z => (wR_iteN.mp z).imp id (key _).mp, fun h => wO_mono h fun ds z => wR_iteN.mpr (z.imp id (key _).mpr)⟩
theorem wv_frz {f : VF} : wR (vFrz f ρ) P E ↔ wR (f ρ) (fun d ρ' => fok d = true ∧ P (frz d) ρ') E := by
  unfold vFrz
  rw [wR_rb]
  exact ⟨fun h => wR_mono h (fun d ρ' z => (wR_iteN.mp z).imp id wR_v.mp) fun _ _ z => z, fun h => wR_mono h (fun d ρ' z => wR_iteN.mpr (z.imp id wR_v.mpr)) fun _ _ z => z⟩
theorem ws_setF {i : Nat} {c f : Str} {g : VF} : wS (sSetF i c f g ρ) Q ↔ wR (g ρ) (fun d ρ' => wO (setO c f d (look ρ' i)) fun o => Q.nx (ρ'.set i (some o))) Q.ex := by
  unfold sSetF
  rw [ws_ov]
  have key : ∀ d ρ', wS ((setO c f d (look ρ' i)).map fun o => Out.nx (ρ'.set i (some o))) Q ↔ wO (setO c f d (look ρ' i)) fun o => Q.nx (ρ'.set i (some o)) := fun d ρ' => by
    cases setO c f d (look ρ' i) with
    | none => exact ⟨fun ⟨_, e, _⟩ => (by cases e), fun ⟨_, e, _⟩ => (by cases e)⟩
    | some y => exact ⟨fun ⟨r, e, h⟩ => by cases e; exact ⟨_, rfl, h⟩, fun ⟨r, e, h⟩ => by cases e; exact ⟨_, rfl, h⟩⟩
  exact ⟨fun h => wR_mono h (fun d ρ' z => (key _ _).mp z) fun _ _ z => z, fun h => wR_mono h (fun d ρ' z => (key _ _).mpr z) fun _ _ z => z⟩
theorem wg_un {T : En → Prop} {t : GFs} {o : Bool} {ds : List D} : wO (gUn t (.nd (.lst o) ds) ρ) T ↔ wO (t ds ρ) T := Iff.rfl
end
section
variable {c f m : Str} {fs : List Str} {ds as : List D} {d : D} {o : Bool} {v : V} {k : List D → List D → Option (D × List D)}
theorem kFld_obj : kFld c f (.nd (.obj c fs) ds) = (ixF f fs).bind fun i => ds[i]? := by
  show (if c = c then _ else none) = _
  exact if_pos rfl
theorem setO_obj : setO c f d (some (.nd (.obj c fs) ds)) = if fs.length < 900 then some (.nd (.obj c (putD f d fs ds).1) (putD f d fs ds).2) else none := by
  show (if c = c ∧ fs.length < 900 then _ else none) = _
  by_cases h : fs.length < 900
  · rw [if_pos (And.intro rfl h), if_pos h]
  · rw [if_neg (fun z : c = c ∧ fs.length < 900 => h z.2), if_neg h]
theorem mutO_obj : mutO k c f as (.nd (.obj c fs) ds) = (ixF f fs).bind fun j => (ds[j]?).bind fun y => (asL y).bind fun es => (k es as).map fun p => (p.1, .nd (.obj c fs) (ds.set j (.own p.2))) := by
  show (if c = c then _ else none) = _
  exact if_pos rfl
theorem hasL_obj : hasL c f (.nd (.obj c fs) ds) = (((ixF f fs).bind fun i => ds[i]?).bind asL).isSome := by
  unfold hasL
  rw [kFld_obj]
theorem isO_obj : (isO c m (some (.nd (.obj c fs) ds)) = true) = ((ixF m fs).isNone = true) := by
  show ((decide (c = c) && (ixF m fs).isNone) = true) = _
  rw [decide_eq_true rfl, Bool.true_and]
theorem asL_own : asL (.nd (.lst true) ds) = some ds := rfl
theorem bare_at : (bare (.at v) = true) = True := eq_true (by unfold bare; rfl)
theorem bare_own : bare (.nd (.lst true) ds) = bares ds := by
  conv => lhs; unfold bare
  rfl
theorem bare_tup : bare (.nd .tup ds) = bares ds := by
  conv => lhs; unfold bare
  rfl
theorem bares_all : ∀ ds : List D, bares ds = ds.all bare
  | [] => rfl
  | d :: ds => by unfold bares; rw [bares_all ds]; rfl
theorem shift_nil : shift [] = [] := rfl
theorem shift_cons {a b : Nat} {r : List (Nat × Nat)} : shift ((a, b) :: r) = (a + 1, b) :: shift r := rfl
theorem frzs_nil : frzs [] = [] := rfl
theorem frzs_cons : frzs (d :: ds) = frz d :: frzs ds := by
  conv => lhs; unfold frzs
theorem foks_nil : (foks [] = true) = True := eq_true rfl
theorem foks_cons : (foks (d :: ds) = true) = (fok d = true ∧ foks ds = true) := by
  conv => lhs; unfold foks
  rw [Bool.and_eq_true]
end
end DL

set_option maxRecDepth 100000
/-! DLQ: what things are; plain data. -/
namespace DL
open PySem L2 PySem.Spec PyProof.Rows
section
variable {i : Int} {c : Bool} {x : Str} {ds : List D}
theorem isi {d : D} {a T : String} {b : Bool} (e : tyN d = some a) (h : kitB a T = some b) : kIsi [d, .at (.ty T)] = some (.at (.bl b)) := by
  show ((tyN d).bind fun a => (kitB a T).map fun b => D.at (.bl b)) = _
  rw [e, Option.bind_some, h]
  rfl
theorem isi_ib : kIsi [.at (.int i), .at (.ty "bool")] = some (.at (.bl false)) := isi rfl (by decide +kernel)
theorem isi_ii : kIsi [.at (.int i), .at (.ty "int")] = some (.at (.bl true)) := isi rfl (by decide +kernel)
theorem isi_bb : kIsi [.at (.bl c), .at (.ty "bool")] = some (.at (.bl true)) := isi rfl (by decide +kernel)
theorem isi_sb : kIsi [.at (.str x), .at (.ty "bool")] = some (.at (.bl false)) := isi rfl (by decide +kernel)
theorem isi_si : kIsi [.at (.str x), .at (.ty "int")] = some (.at (.bl false)) := isi rfl (by decide +kernel)
theorem isi_ss : kIsi [.at (.str x), .at (.ty "str")] = some (.at (.bl true)) := isi rfl (by decide +kernel)
theorem isi_tb : kIsi [.nd .tup ds, .at (.ty "bool")] = some (.at (.bl false)) := isi rfl (by decide +kernel)
theorem isi_ti : kIsi [.nd .tup ds, .at (.ty "int")] = some (.at (.bl false)) := isi rfl (by decide +kernel)
theorem isi_ts : kIsi [.nd .tup ds, .at (.ty "str")] = some (.at (.bl false)) := isi rfl (by decide +kernel)
theorem isi_tt : kIsi [.nd .tup ds, .at (.ty "tuple")] = some (.at (.bl true)) := isi rfl (by decide +kernel)
theorem isi_tl : kIsi [.nd .tup ds, .at (.ty "list")] = some (.at (.bl false)) := isi rfl (by decide +kernel)
theorem isi_lb : kIsi [.nd (.lst false) ds, .at (.ty "bool")] = some (.at (.bl false)) := isi rfl (by decide +kernel)
theorem isi_li : kIsi [.nd (.lst false) ds, .at (.ty "int")] = some (.at (.bl false)) := isi rfl (by decide +kernel)
theorem isi_ls : kIsi [.nd (.lst false) ds, .at (.ty "str")] = some (.at (.bl false)) := isi rfl (by decide +kernel)
theorem isi_lt : kIsi [.nd (.lst false) ds, .at (.ty "tuple")] = some (.at (.bl false)) := isi rfl (by decide +kernel)
theorem isi_ll : kIsi [.nd (.lst false) ds, .at (.ty "list")] = some (.at (.bl true)) := isi rfl (by decide +kernel)
theorem isi_nb : kIsi [.at .non, .at (.ty "bool")] = some (.at (.bl false)) := isi rfl (by decide +kernel)
theorem isi_ni : kIsi [.at .non, .at (.ty "int")] = some (.at (.bl false)) := isi rfl (by decide +kernel)
theorem isi_ns : kIsi [.at .non, .at (.ty "str")] = some (.at (.bl false)) := isi rfl (by decide +kernel)
theorem isi_bi : kIsi [.at (.bl c), .at (.ty "int")] = some (.at (.bl true)) := isi rfl (by decide +kernel)
theorem isi_bs : kIsi [.at (.bl c), .at (.ty "str")] = some (.at (.bl false)) := isi rfl (by decide +kernel)
theorem isi_is : kIsi [.at (.int i), .at (.ty "str")] = some (.at (.bl false)) := isi rfl (by decide +kernel)
theorem isi2 {d : D} {a S T : String} {b c : Bool} (e : tyN d = some a) (h : kitB a S = some b) (h2 : kitB a T = some c) : kIsi2 [d, .nd .tup [.at (.ty S), .at (.ty T)]] = some (.at (.bl (b || c))) := by
  show ((tyN d).bind fun a => (kitB a S).bind fun b => (kitB a T).map fun c => D.at (.bl (b || c))) = _
  rw [e, Option.bind_some, h, Option.bind_some, h2]
  rfl
theorem isi2_n : kIsi2 [.at .non, .nd .tup [.at (.ty "list"), .at (.ty "tuple")]] = some (.at (.bl false)) := isi2 (b := false) (c := false) rfl (by decide +kernel) (by decide +kernel)
theorem isi2_b : kIsi2 [.at (.bl c), .nd .tup [.at (.ty "list"), .at (.ty "tuple")]] = some (.at (.bl false)) := isi2 (b := false) (c := false) rfl (by decide +kernel) (by decide +kernel)
theorem isi2_i : kIsi2 [.at (.int i), .nd .tup [.at (.ty "list"), .at (.ty "tuple")]] = some (.at (.bl false)) := isi2 (b := false) (c := false) rfl (by decide +kernel) (by decide +kernel)
theorem isi2_s : kIsi2 [.at (.str x), .nd .tup [.at (.ty "list"), .at (.ty "tuple")]] = some (.at (.bl false)) := isi2 (b := false) (c := false) rfl (by decide +kernel) (by decide +kernel)
theorem isi2_t : kIsi2 [.nd .tup ds, .nd .tup [.at (.ty "list"), .at (.ty "tuple")]] = some (.at (.bl true)) := isi2 (b := false) (c := true) rfl (by decide +kernel) (by decide +kernel)
theorem isi2_l : kIsi2 [.nd (.lst false) ds, .nd .tup [.at (.ty "list"), .at (.ty "tuple")]] = some (.at (.bl true)) := isi2 (b := true) (c := false) rfl (by decide +kernel) (by decide +kernel)
end
inductive Pl : Nat → D → Prop
  | non {n : Nat} : Pl (n + 1) .non
  | int {n : Nat} {i : Int} : Pl (n + 1) (.at (.int i))
  | bl {n : Nat} {c : Bool} : Pl (n + 1) (.at (.bl c))
  | str {n : Nat} {l : List Nat} (h : okC l = true) : Pl (n + 1) (T l)
  | tup {n : Nat} {ds : List D} (h : ∀ d ∈ ds, Pl n d) (hl : ds.length < 2 ^ 60) : Pl (n + 1) (.tup ds)
  | lst {n : Nat} {ds : List D} (h : ∀ d ∈ ds, Pl n d) (hl : ds.length < 2 ^ 60) : Pl (n + 1) (.lst ds)
theorem Pl.nOw : ∀ {n : Nat} {d : D}, Pl n d → DL.nOw d = true
  | _, _, .non => by simp only [nOw_at]
  | _, _, .int => by simp only [nOw_at]
  | _, _, .bl => by simp only [nOw_at]
  | _, _, .str _ => by simp only [nOw_at]
  | _, _, .tup h _ => by
    rw [nOw_tup, nOws_all]
    exact List.all_eq_true.mpr fun d hd => (h d hd).nOw
  | _, _, .lst h _ => by
    rw [nOw_lstF, nOws_all]
    exact List.all_eq_true.mpr fun d hd => (h d hd).nOw
end DL

set_option maxRecDepth 100000
/-! DLY: what the plain functions come to: exceptions. -/
namespace DL
open PySem L2 PySem.Spec PyProof.Rows
section
variable {P : D → En → Prop} {E : Exn → En → Prop} {ρ : En} {Q : Ed}
theorem ws_raise {x : Str} : wS (sRaise x ρ) Q ↔ Q.ex ⟨x, []⟩ ρ := ⟨fun ⟨r, e, h⟩ => by cases e; exact h, fun h => ⟨_, rfl, h⟩⟩
theorem ws_try {b s : SF} {mt : Str → Option Bool} : wS (sTry b mt s ρ) Q ↔ wS (b ρ) { Q with ex := fun e ρ' => ∃ k, mt e.cls = some k ∧ if k = true then wS (s ρ') Q else Q.ex e ρ' } := by
  unfold sTry
  cases b ρ with
  | none => exact ⟨fun ⟨_, e, _⟩ => (by cases e), fun ⟨_, e, _⟩ => (by cases e)⟩
  | some o =>
    cases o with
    | nx ρ1 => exact ⟨fun ⟨r, e, h⟩ => by cases e; exact ⟨_, rfl, h⟩, fun ⟨r, e, h⟩ => by cases e; exact ⟨_, rfl, h⟩⟩
    | rt d ρ1 => exact ⟨fun ⟨r, e, h⟩ => by cases e; exact ⟨_, rfl, h⟩, fun ⟨r, e, h⟩ => by cases e; exact ⟨_, rfl, h⟩⟩
    | bk ρ1 => exact ⟨fun ⟨r, e, h⟩ => by cases e; exact ⟨_, rfl, h⟩, fun ⟨r, e, h⟩ => by cases e; exact ⟨_, rfl, h⟩⟩
    | ct ρ1 => exact ⟨fun ⟨r, e, h⟩ => by cases e; exact ⟨_, rfl, h⟩, fun ⟨r, e, h⟩ => by cases e; exact ⟨_, rfl, h⟩⟩
    | ex e1 ρ1 =>
      dsimp only
      constructor
      · intro h
        refine ⟨_, rfl, ?_⟩
        cases hm : mt e1.cls with
        | none => rw [hm] at h; obtain ⟨_, e, _⟩ := h; cases e
        | some k =>
          rw [hm] at h
          refine ⟨k, hm, ?_⟩
          cases k with
          | true => exact h
          | false => obtain ⟨r, e, h⟩ := h; cases e; exact h
      · rintro ⟨r, e, h⟩
        cases e
        obtain ⟨k, hm, h⟩ := h
        rw [hm]
        cases k with
        | true => exact h
        | false => exact ⟨_, rfl, h⟩
theorem ws_augF {i : Nat} {c f : Str} {k : D → D → Option D} {q : QF} : wS (sAugF i c f k q ρ) Q ↔ wO (look ρ i) fun o => wO (kFld c f o) fun x => wO (q ρ) fun y => wO (k x y) fun z => wO (setO c f z (some o)) fun o' => Q.nx (ρ.set i (some o')) := by
  unfold sAugF
  constructor
  · rintro ⟨r, e, h⟩
    obtain ⟨o, e1, e⟩ := Option.bind_eq_some_iff.mp e
    obtain ⟨d0, e2, e⟩ := Option.bind_eq_some_iff.mp e
    obtain ⟨d1, e3, e⟩ := Option.bind_eq_some_iff.mp e
    obtain ⟨d2, e4, e⟩ := Option.bind_eq_some_iff.mp e
    obtain ⟨o', e5, rfl⟩ := Option.map_eq_some_iff.mp e
    exact ⟨o, e1, d0, e2, d1, e3, d2, e4, o', e5, h⟩
  · rintro ⟨o, e1, d0, e2, d1, e3, d2, e4, o', e5, h⟩
    refine ⟨.nx (ρ.set i (some o')), ?_, h⟩
    rw [e1, Option.bind_some, e2, Option.bind_some, e3, Option.bind_some, e4, Option.bind_some, e5]
    rfl
theorem wv_slN {i : Nat} {f : VF} : wR (vSlN i f ρ) P E ↔ wO (look ρ i) fun _ => wR (f ρ) (fun k ρ' => wO (look ρ' i) fun x => wO (asI k) fun b => wO (kSl none (some b) x) fun r => P r ρ') E := by
  unfold vSlN
  rw [wR_bind]
  exact ⟨fun h => wO_mono h fun y w => wR_mono (wR_rb.mp w) (fun x ρ' z => wO_mono (wR_bind.mp z) fun a u => wO_mono (wR_bind.mp u) fun b y => wR_of_map.mp y) fun _ _ z => z,
    fun h => wO_mono h fun y w => wR_rb.mpr (wR_mono w (fun x ρ' z => wR_bind.mpr (wO_mono z fun a u => wR_bind.mpr (wO_mono u fun b y => wR_of_map.mpr y))) fun _ _ z => z)⟩
end
end DL

set_option maxRecDepth 100000
set_option maxHeartbeats 4000000
namespace K11
open PySem L2 DL PyProof.Rows
def top (i : Nat) : Stmt := PySem.Challenge.pw_lorewhole_k11_records.main.body.getD i (.Pass ⟨0, 0, 0, 0⟩)
structure Blt (mg : Str → Option Value) : Prop where
  m_list : mg "list" = none
  m_len : mg "len" = none
  m_range : mg "range" = none
  m_int : mg "int" = none
  m_min : mg "min" = none
  m_isinstance : mg "isinstance" = none
  m_bool : mg "bool" = none
  m_tuple : mg "tuple" = none
  m_str : mg "str" = none
  g_NUMBER_BYTES : ∃ u, mg "NUMBER_BYTES" = some u ∧ RelV (.int 60) u
  g_CHECKSUM_LIMIT : ∃ u, mg "CHECKSUM_LIMIT" = some u ∧ RelV (.int 4294967296) u
def mt_LorewholeError (n : Str) : Option Bool := if n = "LorewholeError" then some true else none
def mt_DamagedPacket (n : Str) : Option Bool := if n = "DamagedPacket" then some true else none
section
variable {P : Program} {w0 : World} {K : PySem.W.Frag} {mg : Str → Option Value} {base : Heap} {cl : Str → Option Addr}
variable {C_Reader : Addr}
variable {C_LorewholeError : Addr}
variable {C_DamagedPacket : Addr}
/-! ### Reader.__init__ -/
abbrev s_Reader_init : Stmt := inClass (top 6) 0
theorem sc_Reader_init : FnScope ["self", "data"] ["self", "data"] (defScope s_Reader_init) := ⟨rfl, rfl, rfl, by decide +kernel, rfl, by decide +kernel, by decide +kernel⟩
noncomputable def b_Reader_init : SF := sSeq (sSetF 0 "Reader" "data" (mk (qA kList (lCons (qVar 1) (lNil))))) (sSetF 0 "Reader" "at" (cp (qC (.int 0))))
noncomputable def F_Reader_init : DF := fnN 2 (fnD [] 2 b_Reader_init)
theorem ok_Reader_init {f : Addr} {fd : FuncData} (F : Fun K "__init__" "Reader.__init__" s_Reader_init f fd) (hm : mg "Reader" = some (.ref C_Reader)) (hM : Mk K C_Reader f) (B : Blt mg) (kl_Reader : Kls K cl "Reader" C_Reader ["data", "at"]) : CalI P w0 K mg base cl "Reader" C_Reader 2 1 F_Reader_init := by
  refine ⟨⟨f, fd, ["self", "data"], rfl, hm, hM, F.binds (fun _ _ _ _ _ _ us hl => match us, hl with | [_, _], _ => rfl), ?_⟩, fnN_len⟩
  refine (fn_ok (k := 0) (w := []) (body := b_Reader_init) F sc_Reader_init fun cdv A outer s H E hr => ?_).imp fun vs H Q E h => spD_fnN vs H Q E h
  have xl : XL (cxOf (L2.CX P w0) P w0 K mg base ["self", "data"] "Reader.__init__" (defScope s_Reader_init) f cdv A outer s H E) cl (fun e _ G' H' _ _ => ∀ c od, XR K cl e c od G' H' → E c od H') (fun c od _ H' => E c od H') := ⟨takes_of rfl rfl rfl rfl, fun _ _ _ _ _ _ c od h x => h c od x⟩
  exact l_cons (s_setF kl_Reader (.head _) (pv 0) (m_cb (pe_callTy call_list_of (by rfl) B.m_list boot_list (qa_cons (q_nm (pv 1)) (qa_nil))) m_list)) (l_one (s_setF kl_Reader (.tail _ (.head _)) (pv 0) (v_cp (q_c pe_int))))
/-! ### Reader.read_byte -/
abbrev s_Reader_read_byte : Stmt := inClass (top 6) 1
theorem sc_Reader_read_byte : FnScope ["self"] ["self"] (defScope s_Reader_read_byte) := ⟨rfl, rfl, rfl, by decide +kernel, rfl, by decide +kernel, by decide +kernel⟩
noncomputable def b_Reader_read_byte : SF := sSeq (sIf (qB (q2 kGe (q1 (kFld "Reader" "at") (qVar 0)) (qA kLen (lCons (q1 (kFld "Reader" "data") (qVar 0)) (lNil))))) (sRaise "DamagedPacket") (sPass)) (sSeq (sAugF 0 "Reader" "at" kIAdd (qC (.int 1))) (sRet (cp (q2 kIx (q1 (kFld "Reader" "data") (qVar 0)) (q2 kSub (q1 (kFld "Reader" "at") (qVar 0)) (qC (.int 1)))))))
noncomputable def F_Reader_read_byte : DF := fnN 1 (fnD [] 1 b_Reader_read_byte)
theorem ok_Reader_read_byte {f : Addr} {fd : FuncData} (F : Fun K "read_byte" "Reader.read_byte" s_Reader_read_byte f fd) (hM : Meth K C_Reader "read_byte" f) (B : Blt mg) (kl_Reader : Kls K cl "Reader" C_Reader ["data", "at"]) (xc_DamagedPacket : Xc K mg cl "DamagedPacket" C_DamagedPacket) : CalM P w0 K mg base cl C_Reader "read_byte" 1 1 F_Reader_read_byte := by
  refine ⟨⟨f, fd, ["self"], rfl, hM, F.binds (fun _ _ _ _ _ _ us hl => match us, hl with | [_], _ => rfl), ?_⟩, fnN_len⟩
  refine (fn_ok (k := 0) (w := []) (body := b_Reader_read_byte) F sc_Reader_read_byte fun cdv A outer s H E hr => ?_).imp fun vs H Q E h => spD_fnN vs H Q E h
  have xl : XL (cxOf (L2.CX P w0) P w0 K mg base ["self"] "Reader.read_byte" (defScope s_Reader_read_byte) f cdv A outer s H E) cl (fun e _ G' H' _ _ => ∀ c od, XR K cl e c od G' H' → E c od H') (fun c od _ H' => E c od H') := ⟨takes_of rfl rfl rfl rfl, fun _ _ _ _ _ _ c od h x => h c od x⟩
  exact l_cons (s_if (b_qcmp op_ge m_ge (q_fld kl_Reader (.tail _ (.head _)) (q_nm (pv 0))) (q_cb (pe_callB call_lenA (by rfl) B.m_len boot_len (qa_cons (q_fld kl_Reader (.head _) (q_nm (pv 0))) (qa_nil))) m_len) (nomark _)) (l_one (s_raise xl xc_DamagedPacket rfl rfl)) (l_nil)) (l_cons (s_augF kl_Reader (.tail _ (.head _)) (pv 0) (q_c pe_int) (inop iop_add) m_iadd) (l_one (s_ret (v_cp (q_ix ix_seq m_ix (q_fld kl_Reader (.head _) (q_nm (pv 0))) (q_op op_sub m_sub (q_fld kl_Reader (.tail _ (.head _)) (q_nm (pv 0))) (q_c pe_int)) (fun _ _ => rfl))))))
/-! ### Reader.read_number -/
abbrev s_Reader_read_number : Stmt := inClass (top 6) 4
theorem sc_Reader_read_number : FnScope ["self", "total", "factor", "index", "byte"] ["self"] (defScope s_Reader_read_number) := ⟨rfl, rfl, rfl, by decide +kernel, rfl, by decide +kernel, by decide +kernel⟩
noncomputable def b_Reader_read_number : SF := sSeq (sAsg (cp (qC (.int 0))) (gSet 1)) (sSeq (sAsg (cp (qC (.int 1))) (gSet 2)) (sSeq (sFor (iArg kRng1 (aCons (cp (qC (.int 60))) (aNil))) (gSet 3) (sSeq (sAsg (vMeth "Reader" "read_byte" F_Reader_read_byte [] 0 aNil) (gSet 4)) (sSeq (sAug 1 kIAdd (cp (q2 kMul (q2 kMod (qVar 4) (qC (.int 128))) (qVar 2)))) (sSeq (sIf (qB (q2 kLt (qVar 4) (qC (.int 128)))) (sSeq (sIf (bAnd (qB (q2 kEq (qVar 4) (qC (.int 0)))) (qB (q2 kGt (qVar 3) (qC (.int 0))))) (sRaise "DamagedPacket") (sPass)) (sRet (vMove 1))) (sPass)) (sAsg (cp (q2 kMul (qVar 2) (qC (.int 128)))) (gSet 2)))))) (sRaise "DamagedPacket")))
noncomputable def F_Reader_read_number : DF := fnN 1 (fnD [1, 2, 3, 4] 5 b_Reader_read_number)
theorem ok_Reader_read_number {f : Addr} {fd : FuncData} (F : Fun K "read_number" "Reader.read_number" s_Reader_read_number f fd) (hM : Meth K C_Reader "read_number" f) (B : Blt mg) (kl_Reader : Kls K cl "Reader" C_Reader ["data", "at"]) (xc_DamagedPacket : Xc K mg cl "DamagedPacket" C_DamagedPacket) (c_Reader_read_byte : CalM P w0 K mg base cl C_Reader "read_byte" 1 1 F_Reader_read_byte) : CalM P w0 K mg base cl C_Reader "read_number" 1 2 F_Reader_read_number := by
  refine ⟨⟨f, fd, ["self"], rfl, hM, F.binds (fun _ _ _ _ _ _ us hl => match us, hl with | [_], _ => rfl), ?_⟩, fnN_len⟩
  refine (fn_ok (k := 1) (w := [1, 2, 3, 4]) (body := b_Reader_read_number) F sc_Reader_read_number fun cdv A outer s H E hr => ?_).imp fun vs H Q E h => spD_fnN vs H Q E h
  have xl : XL (cxOf (L2.CX P w0) P w0 K mg base ["self", "total", "factor", "index", "byte"] "Reader.read_number" (defScope s_Reader_read_number) f cdv A outer s H E) cl (fun e _ G' H' _ _ => ∀ c od, XR K cl e c od G' H' → E c od H') (fun c od _ H' => E c od H') := ⟨takes_of rfl rfl rfl rfl, fun _ _ _ _ _ _ c od h x => h c od x⟩
  exact l_cons (s_set (i := 1) (v_cp (q_c pe_int)) sc_Reader_read_number.nd rfl (Or.inl rfl)) (l_cons (s_set (i := 2) (v_cp (q_c pe_int)) sc_Reader_read_number.nd rfl (Or.inl rfl)) (l_cons (s_for (passes_of rfl) rfl (i_rng1 (pi_range1 rfl B.m_range (a_cons (v_cp (q_c (pe_gcc rfl B.g_NUMBER_BYTES))) (a_nil)))) (g_nm (pg_name (i := 3) sc_Reader_read_number.nd rfl (Or.inl rfl))) (l_cons (s_set (i := 4) (v_meth0 xl kl_Reader c_Reader_read_byte (hr.mono (by first | decide | omega)) (pv 0)) sc_Reader_read_number.nd rfl (Or.inl rfl)) (l_cons (s_aug (ps_aug (i := 1) sc_Reader_read_number.nd rfl (Or.inl rfl) (v_cp (q_op op_mulV m_mul (q_op op_mod m_mod (q_nm (pv 4)) (q_c pe_int)) (q_nm (pv 2)))) iop_add) m_iadd) (l_cons (s_if (b_qcmp op_lt m_lt (q_nm (pv 4)) (q_c pe_int) (nomark _)) (l_cons (s_if (b_w (w_and (b_qcmp (op_eqD hr.units) m_eq (q_nm (pv 4)) (q_c pe_int) (nomark _)) (w_and1 (b_qcmp op_gt m_gt (q_nm (pv 3)) (q_c pe_int) (nomark _))))) (l_one (s_raise xl xc_DamagedPacket rfl rfl)) (l_nil)) (l_one (s_ret (v_move (pv 1))))) (l_nil)) (l_one (s_set (i := 2) (v_cp (q_op op_mulV m_mul (q_nm (pv 2)) (q_c pe_int))) sc_Reader_read_number.nd rfl (Or.inl rfl))))))) (l_one (s_raise xl xc_DamagedPacket rfl rfl))))
/-! ### write_number -/
abbrev s_write_number : Stmt := top 8
theorem sc_write_number : FnScope ["number", "data"] ["number"] (defScope s_write_number) := ⟨rfl, rfl, rfl, by decide +kernel, rfl, by decide +kernel, by decide +kernel⟩
noncomputable def b_write_number : SF := sSeq (sAsg (vLst (aNil)) (gSet 1)) (sSeq (sWhile (qB (q2 kGe (qVar 0) (qC (.int 128)))) (sSeq (sDrop (vMut kAppend 1 (aCons (cp (q2 kAdd (q2 kMod (qVar 0) (qC (.int 128))) (qC (.int 128)))) (aNil)))) (sAsg (cp (q2 kFdiv (qVar 0) (qC (.int 128)))) (gSet 0)))) (sRet (v2 kAdd (vShare 1) (vLst (aCons (cp (qVar 0)) (aNil))))))
noncomputable def F_write_number : DF := fnN 1 (fnD [0, 1] 2 b_write_number)
theorem ok_write_number {f : Addr} {fd : FuncData} (F : Fun K "write_number" "write_number" s_write_number f fd) (hm : mg "write_number" = some (.ref f)) (B : Blt mg)  : Cal P w0 K mg base cl "write_number" 1 1 F_write_number := by
  refine ⟨⟨f, fd, ["number"], rfl, hm, F.kp, F.binds (fun _ _ _ _ _ _ us hl => match us, hl with | [_], _ => rfl), ?_⟩, fnN_len⟩
  refine (fn_ok (k := 0) (w := [0, 1]) (body := b_write_number) F sc_write_number fun cdv A outer s H E hr => ?_).imp fun vs H Q E h => spD_fnN vs H Q E h
  have xl : XL (cxOf (L2.CX P w0) P w0 K mg base ["number", "data"] "write_number" (defScope s_write_number) f cdv A outer s H E) cl (fun e _ G' H' _ _ => ∀ c od, XR K cl e c od G' H' → E c od H') (fun c od _ H' => E c od H') := ⟨takes_of rfl rfl rfl rfl, fun _ _ _ _ _ _ c od h x => h c od x⟩
  exact l_cons (s_set (i := 1) (v_lst (a_nil)) sc_write_number.nd rfl (Or.inl rfl)) (l_cons (s_while (passes_of rfl) (b_qcmp op_ge m_ge (q_nm (pv 0)) (q_c pe_int) (nomark _)) (l_cons (s_expr (v_mut (pe_bm PySem.F.plainAttrs_list PySem.F.slot_list_append PySem.F.type_list_append mt_append (pv 1) (a_cons (v_cp (q_op op_addA m_add (q_op op_mod m_mod (q_nm (pv 0)) (q_c pe_int)) (q_c pe_int))) (a_nil))) mm_append)) (l_one (s_set (i := 0) (v_cp (q_op op_fdivW m_fdiv (q_nm (pv 0)) (q_c pe_int))) sc_write_number.nd rfl (Or.inl rfl))))) (l_one (s_ret (v_op op_addA m_add (v_share (pv 1)) (v_lst (a_cons (v_cp (q_nm (pv 0))) (a_nil)))))))
/-! ### checksum -/
abbrev s_checksum : Stmt := top 11
theorem sc_checksum : FnScope ["data", "total", "byte"] ["data"] (defScope s_checksum) := ⟨rfl, rfl, rfl, by decide +kernel, rfl, by decide +kernel, by decide +kernel⟩
noncomputable def b_checksum : SF := sSeq (sAsg (cp (qC (.int 7))) (gSet 1)) (sSeq (sFor (rb (vShare 0) fun d => rp (kItL d)) (gSet 2) (sAsg (cp (q2 kMod (q2 kAdd (q2 kAdd (q2 kMul (qC (.int 31)) (qVar 1)) (qVar 2)) (qC (.int 1))) (qC (.int 4294967296)))) (gSet 1))) (sRet (vMove 1)))
noncomputable def F_checksum : DF := fnN 1 (fnD [1, 2] 3 b_checksum)
theorem ok_checksum {f : Addr} {fd : FuncData} (F : Fun K "checksum" "checksum" s_checksum f fd) (hm : mg "checksum" = some (.ref f)) (B : Blt mg)  : Cal P w0 K mg base cl "checksum" 1 1 F_checksum := by
  refine ⟨⟨f, fd, ["data"], rfl, hm, F.kp, F.binds (fun _ _ _ _ _ _ us hl => match us, hl with | [_], _ => rfl), ?_⟩, fnN_len⟩
  refine (fn_ok (k := 0) (w := [1, 2]) (body := b_checksum) F sc_checksum fun cdv A outer s H E hr => ?_).imp fun vs H Q E h => spD_fnN vs H Q E h
  have xl : XL (cxOf (L2.CX P w0) P w0 K mg base ["data", "total", "byte"] "checksum" (defScope s_checksum) f cdv A outer s H E) cl (fun e _ G' H' _ _ => ∀ c od, XR K cl e c od G' H' → E c od H') (fun c od _ H' => E c od H') := ⟨takes_of rfl rfl rfl rfl, fun _ _ _ _ _ _ c od h x => h c od x⟩
  exact l_cons (s_set (i := 1) (v_cp (q_c pe_int)) sc_checksum.nd rfl (Or.inl rfl)) (l_cons (s_for (passes_of rfl) rfl (i_lst (v_share (pv 0))) (g_nm (pg_name (i := 2) sc_checksum.nd rfl (Or.inl rfl))) (l_one (s_set (i := 1) (v_cp (q_op op_mod m_mod (q_op op_addA m_add (q_op op_addA m_add (q_op op_mulV m_mul (q_c pe_int) (q_nm (pv 1))) (q_nm (pv 2))) (q_c pe_int)) (q_c (pe_gcc rfl B.g_CHECKSUM_LIMIT)))) sc_checksum.nd rfl (Or.inl rfl)))) (l_one (s_ret (v_move (pv 1)))))
/-! ### write_record -/
abbrev s_write_record : Stmt := top 12
theorem sc_write_record : FnScope ["data", "total", "tail"] ["data"] (defScope s_write_record) := ⟨rfl, rfl, rfl, by decide +kernel, rfl, by decide +kernel, by decide +kernel⟩
noncomputable def b_write_record : SF := sSeq (sAsg (vCallW F_checksum (lCons (qVar 0) (lNil))) (gSet 1)) (sSeq (sAsg (vLst (aCons (cp (q2 kFdiv (qVar 1) (qC (.int 16777216)))) (aCons (cp (q2 kMod (q2 kFdiv (qVar 1) (qC (.int 65536))) (qC (.int 256)))) (aCons (cp (q2 kMod (q2 kFdiv (qVar 1) (qC (.int 256))) (qC (.int 256)))) (aCons (cp (q2 kMod (qVar 1) (qC (.int 256)))) (aNil)))))) (gSet 2)) (sRet (v2 kAdd (v2 kAdd (vCall F_write_number [] (aCons (cp (qA kLen (lCons (qVar 0) (lNil)))) (aNil))) (mk (qA kList (lCons (qVar 0) (lNil))))) (vShare 2))))
noncomputable def F_write_record : DF := fnN 1 (fnD [1, 2] 3 b_write_record)
theorem ok_write_record {f : Addr} {fd : FuncData} (F : Fun K "write_record" "write_record" s_write_record f fd) (hm : mg "write_record" = some (.ref f)) (B : Blt mg) (c_checksum : Cal P w0 K mg base cl "checksum" 1 1 F_checksum) (c_write_number : Cal P w0 K mg base cl "write_number" 1 1 F_write_number) : Cal P w0 K mg base cl "write_record" 1 2 F_write_record := by
  refine ⟨⟨f, fd, ["data"], rfl, hm, F.kp, F.binds (fun _ _ _ _ _ _ us hl => match us, hl with | [_], _ => rfl), ?_⟩, fnN_len⟩
  refine (fn_ok (k := 1) (w := [1, 2]) (body := b_write_record) F sc_write_record fun cdv A outer s H E hr => ?_).imp fun vs H Q E h => spD_fnN vs H Q E h
  have xl : XL (cxOf (L2.CX P w0) P w0 K mg base ["data", "total", "tail"] "write_record" (defScope s_write_record) f cdv A outer s H E) cl (fun e _ G' H' _ _ => ∀ c od, XR K cl e c od G' H' → E c od H') (fun c od _ H' => E c od H') := ⟨takes_of rfl rfl rfl rfl, fun _ _ _ _ _ _ c od h x => h c od x⟩
  exact l_cons (s_set (i := 1) (v_calW c_checksum (hr.mono (by first | decide | omega)) (by rfl) (qa_cons (q_nm (pv 0)) (qa_nil))) sc_write_record.nd rfl (Or.inl rfl)) (l_cons (s_set (i := 2) (v_lst (a_cons (v_cp (q_op op_fdivW m_fdiv (q_nm (pv 1)) (q_c pe_int))) (a_cons (v_cp (q_op op_mod m_mod (q_op op_fdivW m_fdiv (q_nm (pv 1)) (q_c pe_int)) (q_c pe_int))) (a_cons (v_cp (q_op op_mod m_mod (q_op op_fdivW m_fdiv (q_nm (pv 1)) (q_c pe_int)) (q_c pe_int))) (a_cons (v_cp (q_op op_mod m_mod (q_nm (pv 1)) (q_c pe_int))) (a_nil)))))) sc_write_record.nd rfl (Or.inl rfl)) (l_one (s_ret (v_op op_addA m_add (v_op op_addA m_add (v_cal xl c_write_number (hr.mono (by first | decide | omega)) (by rfl) (c_val (v_cp (q_cb (pe_callB call_lenA (by rfl) B.m_len boot_len (qa_cons (q_nm (pv 0)) (qa_nil))) m_len)) (c_nil))) (m_cb (pe_callTy call_list_of (by rfl) B.m_list boot_list (qa_cons (q_nm (pv 0)) (qa_nil))) m_list)) (v_share (pv 2))))))
/-! ### _read_size -/
abbrev s_read_size : Stmt := top 13
theorem sc_read_size : FnScope ["data", "start", "reader", "size"] ["data", "start"] (defScope s_read_size) := ⟨rfl, rfl, rfl, by decide +kernel, rfl, by decide +kernel, by decide +kernel⟩
noncomputable def b_read_size : SF := sSeq (sAsg (vMake "Reader" F_Reader_init (aCons (mk (qSl (qVar 0) (oSome (qVar 1)) (oSome (q2 kAdd (qVar 1) (qC (.int 60)))))) (aNil))) (gSet 2)) (sSeq (sTry (sAsg (vMeth "Reader" "read_number" F_Reader_read_number [] 2 aNil) (gSet 3)) mt_DamagedPacket (sRet (cp (qC .non)))) (sRet (vTup (aCons (cp (q2 kAdd (qVar 1) (q1 (kFld "Reader" "at") (qVar 2)))) (aCons (cp (qVar 3)) (aNil))))))
noncomputable def F_read_size : DF := fnN 2 (fnD [2, 3] 4 b_read_size)
theorem ok_read_size {f : Addr} {fd : FuncData} (F : Fun K "_read_size" "_read_size" s_read_size f fd) (hm : mg "_read_size" = some (.ref f)) (B : Blt mg) (kl_Reader : Kls K cl "Reader" C_Reader ["data", "at"]) (gx_DamagedPacket : mg "DamagedPacket" = some (.ref C_DamagedPacket)) (em_DamagedPacket : ∀ n b C, mt_DamagedPacket n = some b → cl n = some C → PySem.W.exmOne K (.ref C) (.ref C_DamagedPacket) = some b) (c_Reader_init : CalI P w0 K mg base cl "Reader" C_Reader 2 1 F_Reader_init) (c_Reader_read_number : CalM P w0 K mg base cl C_Reader "read_number" 1 2 F_Reader_read_number) : Cal P w0 K mg base cl "_read_size" 2 3 F_read_size := by
  refine ⟨⟨f, fd, ["data", "start"], rfl, hm, F.kp, F.binds (fun _ _ _ _ _ _ us hl => match us, hl with | [_, _], _ => rfl), ?_⟩, fnN_len⟩
  refine (fn_ok (k := 2) (w := [2, 3]) (body := b_read_size) F sc_read_size fun cdv A outer s H E hr => ?_).imp fun vs H Q E h => spD_fnN vs H Q E h
  have xl : XL (cxOf (L2.CX P w0) P w0 K mg base ["data", "start", "reader", "size"] "_read_size" (defScope s_read_size) f cdv A outer s H E) cl (fun e _ G' H' _ _ => ∀ c od, XR K cl e c od G' H' → E c od H') (fun c od _ H' => E c od H') := ⟨takes_of rfl rfl rfl rfl, fun _ _ _ _ _ _ c od h x => h c od x⟩
  exact l_cons (s_set (i := 2) (v_make kl_Reader c_Reader_init (hr.mono (by first | decide | omega)) (by rfl) (a_cons (m_slice (q_nm (pv 0)) (o_some (q_nm (pv 1))) (o_some (q_op op_addA m_add (q_nm (pv 1)) (q_c pe_int)))) (a_nil))) sc_read_size.nd rfl (Or.inl rfl)) (l_cons (s_try rfl rfl ⟨rfl, by decide, .inl gx_DamagedPacket⟩ xl em_DamagedPacket (fun W pn xe xl ho => l_one (s_set (i := 3) (v_meth0 xl kl_Reader c_Reader_read_number (hr.mono (by first | decide | omega)) (pv 2)) sc_read_size.nd rfl (Or.inl rfl))) (fun a oe pn => l_one (s_ret (v_cp (q_c pe_non))))) (l_one (s_ret (v_tup (a_cons (v_cp (q_op op_addA m_add (q_nm (pv 1)) (q_fld kl_Reader (.tail _ (.head _)) (q_nm (pv 2))))) (a_cons (v_cp (q_nm (pv 3))) (a_nil)))))))
/-! ### read_records -/
abbrev s_read_records : Stmt := top 14
theorem sc_read_records : FnScope ["data", "records", "start", "found", "begin", "size", "record", "end"] ["data"] (defScope s_read_records) := ⟨rfl, rfl, rfl, by decide +kernel, rfl, by decide +kernel, by decide +kernel⟩
noncomputable def b_read_records : SF := sSeq (sAsg (vLst (aNil)) (gSet 1)) (sSeq (sAsg (cp (qC (.int 0))) (gSet 2)) (sSeq (sAsg (vCallW F_read_size (lCons (qVar 0) (lCons (qVar 2) (lNil)))) (gSet 3)) (sSeq (sWhile (qB (q2 kNotN (qVar 3) (qC .non))) (sSeq (sAsg (cp (qVar 3)) (gTup' (gCons' (gSet 4) (gCons' (gSet 5) (gNil'))))) (sSeq (sAsg (mk (qSl (qVar 0) (oSome (qVar 4)) (oSome (q2 kAdd (qVar 4) (qVar 5))))) (gSet 6)) (sSeq (sAsg (cp (q2 kAdd (q2 kAdd (qVar 4) (qVar 5)) (qC (.int 4)))) (gSet 7)) (sSeq (sIf (bOr (qB (q2 kGt (qVar 7) (qA kLen (lCons (qVar 0) (lNil))))) (vB (v2 kNe (vSl (vCallW F_write_record (lCons (qVar 6) (lNil))) (oSome (q1 kNeg (qC (.int 4)))) (oNone)) (mk (qSl (qVar 0) (oSome (q2 kSub (qVar 7) (qC (.int 4)))) (oSome (qVar 7))))))) (sBk) (sPass)) (sSeq (sDrop (vMut kAppend 1 (aCons (vMove 6) (aNil)))) (sSeq (sAsg (cp (qVar 7)) (gSet 2)) (sAsg (vCallW F_read_size (lCons (qVar 0) (lCons (qVar 2) (lNil)))) (gSet 3))))))))) (sRet (vTup (aCons (vMove 1) (aCons (cp (qVar 2)) (aNil))))))))
noncomputable def F_read_records : DF := fnN 1 (fnD [1, 2, 3, 4, 5, 6, 7] 8 b_read_records)
theorem ok_read_records {f : Addr} {fd : FuncData} (F : Fun K "read_records" "read_records" s_read_records f fd) (hm : mg "read_records" = some (.ref f)) (B : Blt mg) (c_read_size : Cal P w0 K mg base cl "_read_size" 2 3 F_read_size) (c_write_record : Cal P w0 K mg base cl "write_record" 1 2 F_write_record) : Cal P w0 K mg base cl "read_records" 1 4 F_read_records := by
  refine ⟨⟨f, fd, ["data"], rfl, hm, F.kp, F.binds (fun _ _ _ _ _ _ us hl => match us, hl with | [_], _ => rfl), ?_⟩, fnN_len⟩
  refine (fn_ok (k := 3) (w := [1, 2, 3, 4, 5, 6, 7]) (body := b_read_records) F sc_read_records fun cdv A outer s H E hr => ?_).imp fun vs H Q E h => spD_fnN vs H Q E h
  have xl : XL (cxOf (L2.CX P w0) P w0 K mg base ["data", "records", "start", "found", "begin", "size", "record", "end"] "read_records" (defScope s_read_records) f cdv A outer s H E) cl (fun e _ G' H' _ _ => ∀ c od, XR K cl e c od G' H' → E c od H') (fun c od _ H' => E c od H') := ⟨takes_of rfl rfl rfl rfl, fun _ _ _ _ _ _ c od h x => h c od x⟩
  exact l_cons (s_set (i := 1) (v_lst (a_nil)) sc_read_records.nd rfl (Or.inl rfl)) (l_cons (s_set (i := 2) (v_cp (q_c pe_int)) sc_read_records.nd rfl (Or.inl rfl)) (l_cons (s_set (i := 3) (v_calW c_read_size (hr.mono (by first | decide | omega)) (by rfl) (qa_cons (q_nm (pv 0)) (qa_cons (q_nm (pv 2)) (qa_nil)))) sc_read_records.nd rfl (Or.inl rfl)) (l_cons (s_while (passes_of rfl) (b_qcmp op_notN m_notN (q_nm (pv 3)) (q_c pe_non) (nomark _)) (l_cons (s_asg (v_cp (q_nm (pv 3))) (g_tup rfl (gs_cons (g_nm (pg_name (i := 4) sc_read_records.nd rfl (Or.inl rfl))) (gs_cons (g_nm (pg_name (i := 5) sc_read_records.nd rfl (Or.inl rfl))) (gs_nil))) (len_cons (len_cons (fun _ _ _ => len_nil))))) (l_cons (s_set (i := 6) (m_slice (q_nm (pv 0)) (o_some (q_nm (pv 4))) (o_some (q_op op_addA m_add (q_nm (pv 4)) (q_nm (pv 5))))) sc_read_records.nd rfl (Or.inl rfl)) (l_cons (s_set (i := 7) (v_cp (q_op op_addA m_add (q_op op_addA m_add (q_nm (pv 4)) (q_nm (pv 5))) (q_c pe_int))) sc_read_records.nd rfl (Or.inl rfl)) (l_cons (s_if (b_w (w_or (b_qcmp op_gt m_gt (q_nm (pv 7)) (q_cb (pe_callB call_lenA (by rfl) B.m_len boot_len (qa_cons (q_nm (pv 0)) (qa_nil))) m_len) (nomark _)) (w_or1 (b_vcmp (op_neD hr.units) m_ne (v_sl (v_calW c_write_record (hr.mono (by first | decide | omega)) (by rfl) (qa_cons (q_nm (pv 6)) (qa_nil))) (o_some (q_un un_neg m_neg (q_c pe_int))) (o_none)) (m_slice (q_nm (pv 0)) (o_some (q_op op_sub m_sub (q_nm (pv 7)) (q_c pe_int))) (o_some (q_nm (pv 7)))) (nomark _))))) (l_one (s_bk)) (l_nil)) (l_cons (s_expr (v_mut (pe_bm PySem.F.plainAttrs_list PySem.F.slot_list_append PySem.F.type_list_append mt_append (pv 1) (a_cons (v_move (pv 6)) (a_nil))) mm_append)) (l_cons (s_set (i := 2) (v_cp (q_nm (pv 7))) sc_read_records.nd rfl (Or.inl rfl)) (l_one (s_set (i := 3) (v_calW c_read_size (hr.mono (by first | decide | omega)) (by rfl) (qa_cons (q_nm (pv 0)) (qa_cons (q_nm (pv 2)) (qa_nil)))) sc_read_records.nd rfl (Or.inl rfl)))))))))) (l_one (s_ret (v_tup (a_cons (v_move (pv 1)) (a_cons (v_cp (q_nm (pv 2))) (a_nil)))))))))
/-! ### _law_mix -/
abbrev s_law_mix : Stmt := top 16
theorem sc_law_mix : FnScope ["cell", "k", "value"] ["cell", "k"] (defScope s_law_mix) := ⟨rfl, rfl, rfl, by decide +kernel, rfl, by decide +kernel, by decide +kernel⟩
noncomputable def b_law_mix : SF := sSeq (sAsg (cp (q2 kMod (qA kInt (lCons (q2 kAdd (q2 kAdd (q2 kMul (qA kInt (lCons (qVar 0) (lNil))) (qC (.int 48271))) (q2 kMul (qVar 1) (qC (.int 69621)))) (qC (.int 12345))) (lNil))) (qC (.int 2147483647)))) (gSet 2)) (sSeq (sAsg (cp (q2 kMod (qA kInt (lCons (q2 kAdd (q2 kAdd (q2 kMul (qVar 2) (qVar 2)) (q2 kMul (qVar 1) (qC (.int 40692)))) (qC (.int 1))) (lNil))) (qC (.int 2147483399)))) (gSet 2)) (sRet (cp (q2 kMod (q2 kFdiv (qVar 2) (qC (.int 5))) (qC (.int 9973))))))
noncomputable def F_law_mix : DF := fnN 2 (fnD [2] 3 b_law_mix)
theorem ok_law_mix {f : Addr} {fd : FuncData} (F : Fun K "_law_mix" "_law_mix" s_law_mix f fd) (hm : mg "_law_mix" = some (.ref f)) (B : Blt mg)  : Cal P w0 K mg base cl "_law_mix" 2 1 F_law_mix := by
  refine ⟨⟨f, fd, ["cell", "k"], rfl, hm, F.kp, F.binds (fun _ _ _ _ _ _ us hl => match us, hl with | [_, _], _ => rfl), ?_⟩, fnN_len⟩
  refine (fn_ok (k := 0) (w := [2]) (body := b_law_mix) F sc_law_mix fun cdv A outer s H E hr => ?_).imp fun vs H Q E h => spD_fnN vs H Q E h
  have xl : XL (cxOf (L2.CX P w0) P w0 K mg base ["cell", "k", "value"] "_law_mix" (defScope s_law_mix) f cdv A outer s H E) cl (fun e _ G' H' _ _ => ∀ c od, XR K cl e c od G' H' → E c od H') (fun c od _ H' => E c od H') := ⟨takes_of rfl rfl rfl rfl, fun _ _ _ _ _ _ c od h x => h c od x⟩
  exact l_cons (s_set (i := 2) (v_cp (q_op op_mod m_mod (q_cb (pe_callTy call_int1 (by rfl) B.m_int boot_int (qa_cons (q_op op_addA m_add (q_op op_addA m_add (q_op op_mulV m_mul (q_cb (pe_callTy call_int1 (by rfl) B.m_int boot_int (qa_cons (q_nm (pv 0)) (qa_nil))) m_int) (q_c pe_int)) (q_op op_mulV m_mul (q_nm (pv 1)) (q_c pe_int))) (q_c pe_int)) (qa_nil))) m_int) (q_c pe_int))) sc_law_mix.nd rfl (Or.inl rfl)) (l_cons (s_set (i := 2) (v_cp (q_op op_mod m_mod (q_cb (pe_callTy call_int1 (by rfl) B.m_int boot_int (qa_cons (q_op op_addA m_add (q_op op_addA m_add (q_op op_mulV m_mul (q_nm (pv 2)) (q_nm (pv 2))) (q_op op_mulV m_mul (q_nm (pv 1)) (q_c pe_int))) (q_c pe_int)) (qa_nil))) m_int) (q_c pe_int))) sc_law_mix.nd rfl (Or.inl rfl)) (l_one (s_ret (v_cp (q_op op_mod m_mod (q_op op_fdivW m_fdiv (q_nm (pv 2)) (q_c pe_int)) (q_c pe_int))))))
/-! ### _law_draws -/
abbrev s_law_draws : Stmt := top 17
theorem sc_law_draws : FnScope ["script", "draws", "k", "cell", "place"] ["script"] (defScope s_law_draws) := ⟨rfl, rfl, rfl, by decide +kernel, rfl, by decide +kernel, by decide +kernel⟩
noncomputable def b_law_draws : SF := sSeq (sAsg (vLst (aNil)) (gSet 1)) (sSeq (sFor (iArg kRng1 (aCons (cp (qA kMin (lCons (qC (.int 63)) (lCons (qA kLen (lCons (qVar 0) (lNil))) (lNil))))) (aNil))) (gSet 2) (sSeq (sAsg (cp (qA kInt (lCons (q2 kIx (qVar 0) (qVar 2)) (lNil)))) (gSet 3)) (sIf (qB (q2 kLt (qVar 3) (q2 kPow (qC (.int 10)) (qC (.int 18))))) (sDrop (vMut kAppend 1 (aCons (vCall F_law_mix [] (aCons (cp (qVar 3)) (aCons (cp (qVar 2)) (aNil)))) (aNil)))) (sFor (iArg kRng1 (aCons (cp (qC (.int 60))) (aNil))) (gSet 4) (sIf (qB (q2 kGt (qVar 3) (qC (.int 0)))) (sSeq (sDrop (vMut kAppend 1 (aCons (cp (q2 kMod (qA kInt (lCons (qVar 3) (lNil))) (qC (.int 9973)))) (aNil)))) (sAsg (cp (q2 kFdiv (qVar 3) (qC (.int 9973)))) (gSet 3))) (sPass)))))) (sRet (vMove 1)))
noncomputable def F_law_draws : DF := fnN 1 (fnD [1, 2, 3, 4] 5 b_law_draws)
theorem ok_law_draws {f : Addr} {fd : FuncData} (F : Fun K "_law_draws" "_law_draws" s_law_draws f fd) (hm : mg "_law_draws" = some (.ref f)) (B : Blt mg) (c_law_mix : Cal P w0 K mg base cl "_law_mix" 2 1 F_law_mix) : Cal P w0 K mg base cl "_law_draws" 1 2 F_law_draws := by
  refine ⟨⟨f, fd, ["script"], rfl, hm, F.kp, F.binds (fun _ _ _ _ _ _ us hl => match us, hl with | [_], _ => rfl), ?_⟩, fnN_len⟩
  refine (fn_ok (k := 1) (w := [1, 2, 3, 4]) (body := b_law_draws) F sc_law_draws fun cdv A outer s H E hr => ?_).imp fun vs H Q E h => spD_fnN vs H Q E h
  have xl : XL (cxOf (L2.CX P w0) P w0 K mg base ["script", "draws", "k", "cell", "place"] "_law_draws" (defScope s_law_draws) f cdv A outer s H E) cl (fun e _ G' H' _ _ => ∀ c od, XR K cl e c od G' H' → E c od H') (fun c od _ H' => E c od H') := ⟨takes_of rfl rfl rfl rfl, fun _ _ _ _ _ _ c od h x => h c od x⟩
  exact l_cons (s_set (i := 1) (v_lst (a_nil)) sc_law_draws.nd rfl (Or.inl rfl)) (l_cons (s_for (passes_of rfl) rfl (i_rng1 (pi_range1 rfl B.m_range (a_cons (v_cp (q_cb (pe_callB (call_min2 rfl) (by rfl) B.m_min boot_min (qa_cons (q_c pe_int) (qa_cons (q_cb (pe_callB call_lenA (by rfl) B.m_len boot_len (qa_cons (q_nm (pv 0)) (qa_nil))) m_len) (qa_nil)))) m_min)) (a_nil)))) (g_nm (pg_name (i := 2) sc_law_draws.nd rfl (Or.inl rfl))) (l_cons (s_set (i := 3) (v_cp (q_cb (pe_callTy call_int1 (by rfl) B.m_int boot_int (qa_cons (q_ix ix_seq m_ix (q_nm (pv 0)) (q_nm (pv 2)) (fun _ _ => rfl)) (qa_nil))) m_int)) sc_law_draws.nd rfl (Or.inl rfl)) (l_one (s_if (b_qcmp op_lt m_lt (q_nm (pv 3)) (q_op op_pow m_pow (q_c pe_int) (q_c pe_int)) (nomark _)) (l_one (s_expr (v_mut (pe_bm PySem.F.plainAttrs_list PySem.F.slot_list_append PySem.F.type_list_append mt_append (pv 1) (a_cons (v_cal xl c_law_mix (hr.mono (by first | decide | omega)) (by rfl) (c_val (v_cp (q_nm (pv 3))) (c_val (v_cp (q_nm (pv 2))) (c_nil)))) (a_nil))) mm_append))) (l_one (s_for (passes_of rfl) rfl (i_rng1 (pi_range1 rfl B.m_range (a_cons (v_cp (q_c pe_int)) (a_nil)))) (g_nm (pg_name (i := 4) sc_law_draws.nd rfl (Or.inl rfl))) (l_one (s_if (b_qcmp op_gt m_gt (q_nm (pv 3)) (q_c pe_int) (nomark _)) (l_cons (s_expr (v_mut (pe_bm PySem.F.plainAttrs_list PySem.F.slot_list_append PySem.F.type_list_append mt_append (pv 1) (a_cons (v_cp (q_op op_mod m_mod (q_cb (pe_callTy call_int1 (by rfl) B.m_int boot_int (qa_cons (q_nm (pv 3)) (qa_nil))) m_int) (q_c pe_int))) (a_nil))) mm_append)) (l_one (s_set (i := 3) (v_cp (q_op op_fdivW m_fdiv (q_nm (pv 3)) (q_c pe_int))) sc_law_draws.nd rfl (Or.inl rfl)))) (l_nil))))))))) (l_one (s_ret (v_move (pv 1)))))
/-! ### _law_at -/
abbrev s_law_at : Stmt := top 18
theorem sc_law_at : FnScope ["draws", "index"] ["draws", "index"] (defScope s_law_at) := ⟨rfl, rfl, rfl, by decide +kernel, rfl, by decide +kernel, by decide +kernel⟩
noncomputable def b_law_at : SF := sSeq (sIf (qB (q2 kLt (qVar 1) (qA kLen (lCons (qVar 0) (lNil))))) (sRet (cp (q2 kIx (qVar 0) (qVar 1)))) (sPass)) (sSeq (sIf (qB (q2 kEq (qA kLen (lCons (qVar 0) (lNil))) (qC (.int 0)))) (sRet (vCall F_law_mix [] (aCons (cp (qVar 1)) (aCons (cp (qC (.int 77))) (aNil))))) (sPass)) (sRet (vCall F_law_mix [] (aCons (cp (q2 kAdd (q2 kIx (qVar 0) (q2 kMod (qA kInt (lCons (qVar 1) (lNil))) (qA kLen (lCons (qVar 0) (lNil))))) (q2 kMul (qVar 1) (qC (.int 131))))) (aCons (cp (qVar 1)) (aNil))))))
noncomputable def F_law_at : DF := fnN 2 (fnD [] 2 b_law_at)
theorem ok_law_at {f : Addr} {fd : FuncData} (F : Fun K "_law_at" "_law_at" s_law_at f fd) (hm : mg "_law_at" = some (.ref f)) (B : Blt mg) (c_law_mix : Cal P w0 K mg base cl "_law_mix" 2 1 F_law_mix) : Cal P w0 K mg base cl "_law_at" 2 2 F_law_at := by
  refine ⟨⟨f, fd, ["draws", "index"], rfl, hm, F.kp, F.binds (fun _ _ _ _ _ _ us hl => match us, hl with | [_, _], _ => rfl), ?_⟩, fnN_len⟩
  refine (fn_ok (k := 1) (w := []) (body := b_law_at) F sc_law_at fun cdv A outer s H E hr => ?_).imp fun vs H Q E h => spD_fnN vs H Q E h
  have xl : XL (cxOf (L2.CX P w0) P w0 K mg base ["draws", "index"] "_law_at" (defScope s_law_at) f cdv A outer s H E) cl (fun e _ G' H' _ _ => ∀ c od, XR K cl e c od G' H' → E c od H') (fun c od _ H' => E c od H') := ⟨takes_of rfl rfl rfl rfl, fun _ _ _ _ _ _ c od h x => h c od x⟩
  exact l_cons (s_if (b_qcmp op_lt m_lt (q_nm (pv 1)) (q_cb (pe_callB call_lenA (by rfl) B.m_len boot_len (qa_cons (q_nm (pv 0)) (qa_nil))) m_len) (nomark _)) (l_one (s_ret (v_cp (q_ix ix_seq m_ix (q_nm (pv 0)) (q_nm (pv 1)) (fun _ _ => rfl))))) (l_nil)) (l_cons (s_if (b_qcmp (op_eqD hr.units) m_eq (q_cb (pe_callB call_lenA (by rfl) B.m_len boot_len (qa_cons (q_nm (pv 0)) (qa_nil))) m_len) (q_c pe_int) (nomark _)) (l_one (s_ret (v_cal xl c_law_mix (hr.mono (by first | decide | omega)) (by rfl) (c_val (v_cp (q_nm (pv 1))) (c_val (v_cp (q_c pe_int)) (c_nil)))))) (l_nil)) (l_one (s_ret (v_cal xl c_law_mix (hr.mono (by first | decide | omega)) (by rfl) (c_val (v_cp (q_op op_addA m_add (q_ix ix_seq m_ix (q_nm (pv 0)) (q_op op_mod m_mod (q_cb (pe_callTy call_int1 (by rfl) B.m_int boot_int (qa_cons (q_nm (pv 1)) (qa_nil))) m_int) (q_cb (pe_callB call_lenA (by rfl) B.m_len boot_len (qa_cons (q_nm (pv 0)) (qa_nil))) m_len)) (fun _ _ => rfl)) (q_op op_mulV m_mul (q_nm (pv 1)) (q_c pe_int)))) (c_val (v_cp (q_nm (pv 1))) (c_nil)))))))
/-! ### _law_is_integer -/
abbrev s_law_is_integer : Stmt := top 19
theorem sc_law_is_integer : FnScope ["actual"] ["actual"] (defScope s_law_is_integer) := ⟨rfl, rfl, rfl, by decide +kernel, rfl, by decide +kernel, by decide +kernel⟩
noncomputable def b_law_is_integer : SF := sRet (vAnd (cp (qA kIsi (lCons (qVar 0) (lCons (qC (.ty "int")) (lNil))))) (vNot (cp (qA kIsi (lCons (qVar 0) (lCons (qC (.ty "bool")) (lNil)))))))
noncomputable def F_law_is_integer : DF := fnN 1 (fnD [] 1 b_law_is_integer)
theorem ok_law_is_integer {f : Addr} {fd : FuncData} (F : Fun K "_law_is_integer" "_law_is_integer" s_law_is_integer f fd) (hm : mg "_law_is_integer" = some (.ref f)) (B : Blt mg)  : Cal P w0 K mg base cl "_law_is_integer" 1 1 F_law_is_integer := by
  refine ⟨⟨f, fd, ["actual"], rfl, hm, F.kp, F.binds (fun _ _ _ _ _ _ us hl => match us, hl with | [_], _ => rfl), ?_⟩, fnN_len⟩
  refine (fn_ok (k := 0) (w := []) (body := b_law_is_integer) F sc_law_is_integer fun cdv A outer s H E hr => ?_).imp fun vs H Q E h => spD_fnN vs H Q E h
  have xl : XL (cxOf (L2.CX P w0) P w0 K mg base ["actual"] "_law_is_integer" (defScope s_law_is_integer) f cdv A outer s H E) cl (fun e _ G' H' _ _ => ∀ c od, XR K cl e c od G' H' → E c od H') (fun c od _ H' => E c od H') := ⟨takes_of rfl rfl rfl rfl, fun _ _ _ _ _ _ c od h x => h c od x⟩
  exact l_one (s_ret (v_and (v_cp (q_cb (pe_callB call_isi (by rfl) B.m_isinstance boot_isinstance (qa_cons (q_nm (pv 0)) (qa_cons (q_c (pe_bltn rfl B.m_int boot_int rfl)) (qa_nil)))) m_isi)) (v_one (v_not (v_cp (q_cb (pe_callB call_isi (by rfl) B.m_isinstance boot_isinstance (qa_cons (q_nm (pv 0)) (qa_cons (q_c (pe_bltn rfl B.m_bool boot_bool rfl)) (qa_nil)))) m_isi))))))
/-! ### _law_same -/
abbrev s_law_same : Stmt := top 20
theorem sc_law_same : FnScope ["actual", "expected", "k"] ["actual", "expected"] (defScope s_law_same) := ⟨rfl, rfl, rfl, by decide +kernel, rfl, by decide +kernel, by decide +kernel⟩
noncomputable def b_law_same (G : DF) : SF := sSeq (sIf (vB (vA kIsi2 (aCons (cp (qVar 1)) (aCons (vTup (aCons (cp (qC (.ty "list"))) (aCons (cp (qC (.ty "tuple"))) (aNil)))) (aNil))))) (sSeq (sIf (bOr (qB (q2 kNe (qA kIsi (lCons (qVar 1) (lCons (qC (.ty "list")) (lNil)))) (qA kIsi (lCons (qVar 0) (lCons (qC (.ty "list")) (lNil)))))) (qB (q2 kNe (qA kIsi (lCons (qVar 1) (lCons (qC (.ty "tuple")) (lNil)))) (qA kIsi (lCons (qVar 0) (lCons (qC (.ty "tuple")) (lNil))))))) (sRet (cp (qC (.bl false)))) (sPass)) (sSeq (sIf (qB (q2 kNe (qA kLen (lCons (qVar 0) (lNil))) (qA kLen (lCons (qVar 1) (lNil))))) (sRet (cp (qC (.bl false)))) (sPass)) (sSeq (sFor (iArg kRng1 (aCons (cp (qA kLen (lCons (qVar 1) (lNil)))) (aNil))) (gSet 2) (sIf (bNot (vB (vCallW G (lCons (q2 kIx (qVar 0) (qVar 2)) (lCons (q2 kIx (qVar 1) (qVar 2)) (lNil)))))) (sRet (cp (qC (.bl false)))) (sPass))) (sRet (cp (qC (.bl true))))))) (sPass)) (sSeq (sIf (qB (q2 kIsN (qVar 1) (qC .non))) (sRet (cp (q2 kIsN (qVar 0) (qC .non)))) (sPass)) (sSeq (sIf (qB (qA kIsi (lCons (qVar 1) (lCons (qC (.ty "bool")) (lNil))))) (sRet (vAnd (cp (qA kIsi (lCons (qVar 0) (lCons (qC (.ty "bool")) (lNil))))) (cp (q2 kEq (qVar 0) (qVar 1))))) (sPass)) (sSeq (sIf (qB (qA kIsi (lCons (qVar 1) (lCons (qC (.ty "int")) (lNil))))) (sRet (vAnd (vCall F_law_is_integer [] (aCons (cp (qVar 0)) (aNil))) (cp (q2 kEq (qVar 0) (qVar 1))))) (sPass)) (sRet (vAnd (cp (qA kIsi (lCons (qVar 0) (lCons (qC (.ty "str")) (lNil))))) (cp (q2 kEq (qVar 0) (qVar 1))))))))
noncomputable def F_law_same : Nat → DF
  | 0 => fun _ => none
  | n + 1 => fnN 2 (fnD [2] 3 (b_law_same (F_law_same n)))
theorem ok_law_same {f : Addr} {fd : FuncData} (F : Fun K "_law_same" "_law_same" s_law_same f fd) (hm : mg "_law_same" = some (.ref f)) (B : Blt mg) (c_law_is_integer : Cal P w0 K mg base cl "_law_is_integer" 1 1 F_law_is_integer) : ∀ n : Nat, Cal P w0 K mg base cl "_law_same" 2 (1 + n) (F_law_same n)
  | 0 => ⟨⟨f, fd, ["actual", "expected"], rfl, hm, F.kp, F.binds (fun _ _ _ _ _ _ us hl => match us, hl with | [_, _], _ => rfl), FnOk.none⟩, fun _ _ h => nomatch h⟩
  | n + 1 => by
    have c_law_same := ok_law_same F hm B c_law_is_integer n
    refine ⟨⟨f, fd, ["actual", "expected"], rfl, hm, F.kp, F.binds (fun _ _ _ _ _ _ us hl => match us, hl with | [_, _], _ => rfl), ?_⟩, fnN_len⟩
    refine (fn_ok (k := 1 + n) (w := [2]) (body := b_law_same (F_law_same n)) F sc_law_same fun cdv A outer s H E hr => ?_).imp fun vs H Q E h => spD_fnN vs H Q E h
    have xl : XL (cxOf (L2.CX P w0) P w0 K mg base ["actual", "expected", "k"] "_law_same" (defScope s_law_same) f cdv A outer s H E) cl (fun e _ G' H' _ _ => ∀ c od, XR K cl e c od G' H' → E c od H') (fun c od _ H' => E c od H') := ⟨takes_of rfl rfl rfl rfl, fun _ _ _ _ _ _ c od h x => h c od x⟩
    exact l_cons (s_if (b_v (v_cb (pe_callB call_isiA (by rfl) B.m_isinstance boot_isinstance (a_cons (v_cp (q_nm (pv 1))) (a_cons (v_tup (a_cons (v_cp (q_c (pe_bltn rfl B.m_list boot_list rfl))) (a_cons (v_cp (q_c (pe_bltn rfl B.m_tuple boot_tuple rfl))) (a_nil)))) (a_nil)))) m_isi2)) (l_cons (s_if (b_w (w_or (b_qcmp (op_neD hr.units) m_ne (q_cb (pe_callB call_isi (by rfl) B.m_isinstance boot_isinstance (qa_cons (q_nm (pv 1)) (qa_cons (q_c (pe_bltn rfl B.m_list boot_list rfl)) (qa_nil)))) m_isi) (q_cb (pe_callB call_isi (by rfl) B.m_isinstance boot_isinstance (qa_cons (q_nm (pv 0)) (qa_cons (q_c (pe_bltn rfl B.m_list boot_list rfl)) (qa_nil)))) m_isi) (nomark _)) (w_or1 (b_qcmp (op_neD hr.units) m_ne (q_cb (pe_callB call_isi (by rfl) B.m_isinstance boot_isinstance (qa_cons (q_nm (pv 1)) (qa_cons (q_c (pe_bltn rfl B.m_tuple boot_tuple rfl)) (qa_nil)))) m_isi) (q_cb (pe_callB call_isi (by rfl) B.m_isinstance boot_isinstance (qa_cons (q_nm (pv 0)) (qa_cons (q_c (pe_bltn rfl B.m_tuple boot_tuple rfl)) (qa_nil)))) m_isi) (nomark _))))) (l_one (s_ret (v_cp (q_c pe_bl)))) (l_nil)) (l_cons (s_if (b_qcmp (op_neD hr.units) m_ne (q_cb (pe_callB call_lenA (by rfl) B.m_len boot_len (qa_cons (q_nm (pv 0)) (qa_nil))) m_len) (q_cb (pe_callB call_lenA (by rfl) B.m_len boot_len (qa_cons (q_nm (pv 1)) (qa_nil))) m_len) (nomark _)) (l_one (s_ret (v_cp (q_c pe_bl)))) (l_nil)) (l_cons (s_for (passes_of rfl) rfl (i_rng1 (pi_range1 rfl B.m_range (a_cons (v_cp (q_cb (pe_callB call_lenA (by rfl) B.m_len boot_len (qa_cons (q_nm (pv 1)) (qa_nil))) m_len)) (a_nil)))) (g_nm (pg_name (i := 2) sc_law_same.nd rfl (Or.inl rfl))) (l_one (s_if (b_not (b_v (v_calW c_law_same hr (by rfl) (qa_cons (q_ix ix_seq m_ix (q_nm (pv 0)) (q_nm (pv 2)) (fun _ _ => rfl)) (qa_cons (q_ix ix_seq m_ix (q_nm (pv 1)) (q_nm (pv 2)) (fun _ _ => rfl)) (qa_nil)))))) (l_one (s_ret (v_cp (q_c pe_bl)))) (l_nil)))) (l_one (s_ret (v_cp (q_c pe_bl))))))) (l_nil)) (l_cons (s_if (b_qcmp op_isN m_isN (q_nm (pv 1)) (q_c pe_non) (nomark _)) (l_one (s_ret (v_cp (q_cmp op_isN m_isN (q_nm (pv 0)) (q_c pe_non) (nomark _))))) (l_nil)) (l_cons (s_if (b_q (q_cb (pe_callB call_isi (by rfl) B.m_isinstance boot_isinstance (qa_cons (q_nm (pv 1)) (qa_cons (q_c (pe_bltn rfl B.m_bool boot_bool rfl)) (qa_nil)))) m_isi)) (l_one (s_ret (v_and (v_cp (q_cb (pe_callB call_isi (by rfl) B.m_isinstance boot_isinstance (qa_cons (q_nm (pv 0)) (qa_cons (q_c (pe_bltn rfl B.m_bool boot_bool rfl)) (qa_nil)))) m_isi)) (v_one (v_cp (q_cmp (op_eqD hr.units) m_eq (q_nm (pv 0)) (q_nm (pv 1)) (nomark _))))))) (l_nil)) (l_cons (s_if (b_q (q_cb (pe_callB call_isi (by rfl) B.m_isinstance boot_isinstance (qa_cons (q_nm (pv 1)) (qa_cons (q_c (pe_bltn rfl B.m_int boot_int rfl)) (qa_nil)))) m_isi)) (l_one (s_ret (v_and (v_cal xl c_law_is_integer (hr.mono (by first | decide | omega)) (by rfl) (c_val (v_cp (q_nm (pv 0))) (c_nil))) (v_one (v_cp (q_cmp (op_eqD hr.units) m_eq (q_nm (pv 0)) (q_nm (pv 1)) (nomark _))))))) (l_nil)) (l_one (s_ret (v_and (v_cp (q_cb (pe_callB call_isi (by rfl) B.m_isinstance boot_isinstance (qa_cons (q_nm (pv 0)) (qa_cons (q_c (pe_bltn rfl B.m_str boot_str rfl)) (qa_nil)))) m_isi)) (v_one (v_cp (q_cmp (op_eqD hr.units) m_eq (q_nm (pv 0)) (q_nm (pv 1)) (nomark _))))))))))
/-! ### _law_next -/
abbrev s_law_next : Stmt := top 21
theorem sc_law_next : FnScope ["state", "limit"] ["state", "limit"] (defScope s_law_next) := ⟨rfl, rfl, rfl, by decide +kernel, rfl, by decide +kernel, by decide +kernel⟩
noncomputable def b_law_next : SF := sSeq (sAugI 0 (qC (.int 1)) kIAdd (qC (.int 1))) (sRet (v2 kMod (vCallW F_law_at (lCons (q2 kIx (qVar 0) (qC (.int 0))) (lCons (q2 kIx (qVar 0) (qC (.int 1))) (lNil)))) (cp (qVar 1))))
noncomputable def F_law_next : DF := fnN 2 (fnD [] 2 b_law_next)
theorem ok_law_next {f : Addr} {fd : FuncData} (F : Fun K "_law_next" "_law_next" s_law_next f fd) (hm : mg "_law_next" = some (.ref f)) (B : Blt mg) (c_law_at : Cal P w0 K mg base cl "_law_at" 2 2 F_law_at) : Cal P w0 K mg base cl "_law_next" 2 3 F_law_next := by
  refine ⟨⟨f, fd, ["state", "limit"], rfl, hm, F.kp, F.binds (fun _ _ _ _ _ _ us hl => match us, hl with | [_, _], _ => rfl), ?_⟩, fnN_len⟩
  refine (fn_ok (k := 2) (w := []) (body := b_law_next) F sc_law_next fun cdv A outer s H E hr => ?_).imp fun vs H Q E h => spD_fnN vs H Q E h
  have xl : XL (cxOf (L2.CX P w0) P w0 K mg base ["state", "limit"] "_law_next" (defScope s_law_next) f cdv A outer s H E) cl (fun e _ G' H' _ _ => ∀ c od, XR K cl e c od G' H' → E c od H') (fun c od _ H' => E c od H') := ⟨takes_of rfl rfl rfl rfl, fun _ _ _ _ _ _ c od h x => h c od x⟩
  exact l_cons (s_augI (ps_augS (pv 0) (q_c pe_int) get_list (q_c pe_int) iop_add set_list) m_iadd) (l_one (s_ret (v_op op_mod m_mod (v_calW c_law_at (hr.mono (by first | decide | omega)) (by rfl) (qa_cons (q_ix ix_seq m_ix (q_nm (pv 0)) (q_c pe_int) (fun _ _ => rfl)) (qa_cons (q_ix ix_seq m_ix (q_nm (pv 0)) (q_c pe_int) (fun _ _ => rfl)) (qa_nil)))) (v_cp (q_nm (pv 1))))))
/-! ### _law_number -/
abbrev s_law_number : Stmt := top 22
theorem sc_law_number : FnScope ["number", "data"] ["number"] (defScope s_law_number) := ⟨rfl, rfl, rfl, by decide +kernel, rfl, by decide +kernel, by decide +kernel⟩
noncomputable def b_law_number : SF := sSeq (sAsg (vLst (aNil)) (gSet 1)) (sSeq (sWhile (qB (q2 kGt (qVar 0) (qC (.int 127)))) (sSeq (sDrop (vMut kAppend 1 (aCons (cp (q2 kAdd (qC (.int 128)) (q2 kMod (qVar 0) (qC (.int 128))))) (aNil)))) (sAsg (cp (q2 kFdiv (qVar 0) (qC (.int 128)))) (gSet 0)))) (sRet (v2 kAdd (vShare 1) (vLst (aCons (cp (qVar 0)) (aNil))))))
noncomputable def F_law_number : DF := fnN 1 (fnD [0, 1] 2 b_law_number)
theorem ok_law_number {f : Addr} {fd : FuncData} (F : Fun K "_law_number" "_law_number" s_law_number f fd) (hm : mg "_law_number" = some (.ref f)) (B : Blt mg)  : Cal P w0 K mg base cl "_law_number" 1 1 F_law_number := by
  refine ⟨⟨f, fd, ["number"], rfl, hm, F.kp, F.binds (fun _ _ _ _ _ _ us hl => match us, hl with | [_], _ => rfl), ?_⟩, fnN_len⟩
  refine (fn_ok (k := 0) (w := [0, 1]) (body := b_law_number) F sc_law_number fun cdv A outer s H E hr => ?_).imp fun vs H Q E h => spD_fnN vs H Q E h
  have xl : XL (cxOf (L2.CX P w0) P w0 K mg base ["number", "data"] "_law_number" (defScope s_law_number) f cdv A outer s H E) cl (fun e _ G' H' _ _ => ∀ c od, XR K cl e c od G' H' → E c od H') (fun c od _ H' => E c od H') := ⟨takes_of rfl rfl rfl rfl, fun _ _ _ _ _ _ c od h x => h c od x⟩
  exact l_cons (s_set (i := 1) (v_lst (a_nil)) sc_law_number.nd rfl (Or.inl rfl)) (l_cons (s_while (passes_of rfl) (b_qcmp op_gt m_gt (q_nm (pv 0)) (q_c pe_int) (nomark _)) (l_cons (s_expr (v_mut (pe_bm PySem.F.plainAttrs_list PySem.F.slot_list_append PySem.F.type_list_append mt_append (pv 1) (a_cons (v_cp (q_op op_addA m_add (q_c pe_int) (q_op op_mod m_mod (q_nm (pv 0)) (q_c pe_int)))) (a_nil))) mm_append)) (l_one (s_set (i := 0) (v_cp (q_op op_fdivW m_fdiv (q_nm (pv 0)) (q_c pe_int))) sc_law_number.nd rfl (Or.inl rfl))))) (l_one (s_ret (v_op op_addA m_add (v_share (pv 1)) (v_lst (a_cons (v_cp (q_nm (pv 0))) (a_nil)))))))
/-! ### _law_checksum -/
abbrev s_law_checksum : Stmt := top 23
theorem sc_law_checksum : FnScope ["data", "total", "byte"] ["data"] (defScope s_law_checksum) := ⟨rfl, rfl, rfl, by decide +kernel, rfl, by decide +kernel, by decide +kernel⟩
noncomputable def b_law_checksum : SF := sSeq (sAsg (cp (qC (.int 7))) (gSet 1)) (sSeq (sFor (rb (vShare 0) fun d => rp (kItL d)) (gSet 2) (sAsg (cp (q2 kMod (q2 kAdd (q2 kAdd (q2 kMul (qC (.int 31)) (qVar 1)) (qVar 2)) (qC (.int 1))) (qC (.int 4294967296)))) (gSet 1))) (sRet (vMove 1)))
noncomputable def F_law_checksum : DF := fnN 1 (fnD [1, 2] 3 b_law_checksum)
theorem ok_law_checksum {f : Addr} {fd : FuncData} (F : Fun K "_law_checksum" "_law_checksum" s_law_checksum f fd) (hm : mg "_law_checksum" = some (.ref f)) (B : Blt mg)  : Cal P w0 K mg base cl "_law_checksum" 1 1 F_law_checksum := by
  refine ⟨⟨f, fd, ["data"], rfl, hm, F.kp, F.binds (fun _ _ _ _ _ _ us hl => match us, hl with | [_], _ => rfl), ?_⟩, fnN_len⟩
  refine (fn_ok (k := 0) (w := [1, 2]) (body := b_law_checksum) F sc_law_checksum fun cdv A outer s H E hr => ?_).imp fun vs H Q E h => spD_fnN vs H Q E h
  have xl : XL (cxOf (L2.CX P w0) P w0 K mg base ["data", "total", "byte"] "_law_checksum" (defScope s_law_checksum) f cdv A outer s H E) cl (fun e _ G' H' _ _ => ∀ c od, XR K cl e c od G' H' → E c od H') (fun c od _ H' => E c od H') := ⟨takes_of rfl rfl rfl rfl, fun _ _ _ _ _ _ c od h x => h c od x⟩
  exact l_cons (s_set (i := 1) (v_cp (q_c pe_int)) sc_law_checksum.nd rfl (Or.inl rfl)) (l_cons (s_for (passes_of rfl) rfl (i_lst (v_share (pv 0))) (g_nm (pg_name (i := 2) sc_law_checksum.nd rfl (Or.inl rfl))) (l_one (s_set (i := 1) (v_cp (q_op op_mod m_mod (q_op op_addA m_add (q_op op_addA m_add (q_op op_mulV m_mul (q_c pe_int) (q_nm (pv 1))) (q_nm (pv 2))) (q_c pe_int)) (q_c pe_int))) sc_law_checksum.nd rfl (Or.inl rfl)))) (l_one (s_ret (v_move (pv 1)))))
/-! ### _law_record -/
abbrev s_law_record : Stmt := top 24
theorem sc_law_record : FnScope ["data", "total"] ["data"] (defScope s_law_record) := ⟨rfl, rfl, rfl, by decide +kernel, rfl, by decide +kernel, by decide +kernel⟩
noncomputable def b_law_record : SF := sSeq (sAsg (vCallW F_law_checksum (lCons (qVar 0) (lNil))) (gSet 1)) (sRet (v2 kAdd (v2 kAdd (vCall F_law_number [] (aCons (cp (qA kLen (lCons (qVar 0) (lNil)))) (aNil))) (cp (qVar 0))) (vLst (aCons (cp (q2 kFdiv (qVar 1) (qC (.int 16777216)))) (aCons (cp (q2 kMod (q2 kFdiv (qVar 1) (qC (.int 65536))) (qC (.int 256)))) (aCons (cp (q2 kMod (q2 kFdiv (qVar 1) (qC (.int 256))) (qC (.int 256)))) (aCons (cp (q2 kMod (qVar 1) (qC (.int 256)))) (aNil))))))))
noncomputable def F_law_record : DF := fnN 1 (fnD [1] 2 b_law_record)
theorem ok_law_record {f : Addr} {fd : FuncData} (F : Fun K "_law_record" "_law_record" s_law_record f fd) (hm : mg "_law_record" = some (.ref f)) (B : Blt mg) (c_law_checksum : Cal P w0 K mg base cl "_law_checksum" 1 1 F_law_checksum) (c_law_number : Cal P w0 K mg base cl "_law_number" 1 1 F_law_number) : Cal P w0 K mg base cl "_law_record" 1 2 F_law_record := by
  refine ⟨⟨f, fd, ["data"], rfl, hm, F.kp, F.binds (fun _ _ _ _ _ _ us hl => match us, hl with | [_], _ => rfl), ?_⟩, fnN_len⟩
  refine (fn_ok (k := 1) (w := [1]) (body := b_law_record) F sc_law_record fun cdv A outer s H E hr => ?_).imp fun vs H Q E h => spD_fnN vs H Q E h
  have xl : XL (cxOf (L2.CX P w0) P w0 K mg base ["data", "total"] "_law_record" (defScope s_law_record) f cdv A outer s H E) cl (fun e _ G' H' _ _ => ∀ c od, XR K cl e c od G' H' → E c od H') (fun c od _ H' => E c od H') := ⟨takes_of rfl rfl rfl rfl, fun _ _ _ _ _ _ c od h x => h c od x⟩
  exact l_cons (s_set (i := 1) (v_calW c_law_checksum (hr.mono (by first | decide | omega)) (by rfl) (qa_cons (q_nm (pv 0)) (qa_nil))) sc_law_record.nd rfl (Or.inl rfl)) (l_one (s_ret (v_op op_addA m_add (v_op op_addA m_add (v_cal xl c_law_number (hr.mono (by first | decide | omega)) (by rfl) (c_val (v_cp (q_cb (pe_callB call_lenA (by rfl) B.m_len boot_len (qa_cons (q_nm (pv 0)) (qa_nil))) m_len)) (c_nil))) (v_cp (q_nm (pv 0)))) (v_lst (a_cons (v_cp (q_op op_fdivW m_fdiv (q_nm (pv 1)) (q_c pe_int))) (a_cons (v_cp (q_op op_mod m_mod (q_op op_fdivW m_fdiv (q_nm (pv 1)) (q_c pe_int)) (q_c pe_int))) (a_cons (v_cp (q_op op_mod m_mod (q_op op_fdivW m_fdiv (q_nm (pv 1)) (q_c pe_int)) (q_c pe_int))) (a_cons (v_cp (q_op op_mod m_mod (q_nm (pv 1)) (q_c pe_int))) (a_nil)))))))))
/-! ### _law_bytes -/
abbrev s_law_bytes : Stmt := top 25
theorem sc_law_bytes : FnScope ["state", "count", "pick", "start", "k"] ["state"] (defScope s_law_bytes) := ⟨rfl, rfl, rfl, by decide +kernel, rfl, by decide +kernel, by decide +kernel⟩
noncomputable def b_law_bytes : SF := sSeq (sAsg (vCall F_law_next [(0, 0)] (aIo 0 (aCons (cp (qC (.int 6))) (aNil)))) (gSet 1)) (sSeq (sAsg (vCall F_law_next [(0, 0)] (aIo 0 (aCons (cp (qC (.int 24))) (aNil)))) (gSet 2)) (sSeq (sIf (qB (q2 kLt (qVar 2) (qC (.int 6)))) (sAsg (v2 kAdd (cp (qC (.int 120))) (vCall F_law_next [(0, 0)] (aIo 0 (aCons (cp (qC (.int 181))) (aNil))))) (gSet 1)) (sIf (qB (q2 kLt (qVar 2) (qC (.int 10)))) (sAsg (v2 kAdd (cp (qC (.int 6))) (vCall F_law_next [(0, 0)] (aIo 0 (aCons (cp (qC (.int 114))) (aNil))))) (gSet 1)) (sIf (qB (q2 kEq (qVar 2) (qC (.int 10)))) (sAsg (v2 kAdd (cp (qC (.int 301))) (vCall F_law_next [(0, 0)] (aIo 0 (aCons (cp (qC (.int 1700))) (aNil))))) (gSet 1)) (sPass)))) (sSeq (sAsg (vCall F_law_next [(0, 0)] (aIo 0 (aCons (cp (qC (.int 256))) (aNil)))) (gSet 3)) (sRet (vLc (iArg kRng1 (aCons (cp (qVar 1)) (aNil))) (gSet 4) (bYes) (cp (q2 kMod (q2 kAdd (qVar 3) (q2 kMul (q2 kMul (qC (.int 41)) (qVar 4)) (qVar 4))) (qC (.int 256)))) [4])))))
noncomputable def F_law_bytes : DF := fnN 1 (fnD [1, 2, 3] 5 b_law_bytes)
theorem ok_law_bytes {f : Addr} {fd : FuncData} (F : Fun K "_law_bytes" "_law_bytes" s_law_bytes f fd) (hm : mg "_law_bytes" = some (.ref f)) (B : Blt mg) (c_law_next : Cal P w0 K mg base cl "_law_next" 2 3 F_law_next) : Cal P w0 K mg base cl "_law_bytes" 1 4 F_law_bytes := by
  refine ⟨⟨f, fd, ["state"], rfl, hm, F.kp, F.binds (fun _ _ _ _ _ _ us hl => match us, hl with | [_], _ => rfl), ?_⟩, fnN_len⟩
  refine (fn_ok (k := 3) (w := [1, 2, 3]) (body := b_law_bytes) F sc_law_bytes fun cdv A outer s H E hr => ?_).imp fun vs H Q E h => spD_fnN vs H Q E h
  have xl : XL (cxOf (L2.CX P w0) P w0 K mg base ["state", "count", "pick", "start", "k"] "_law_bytes" (defScope s_law_bytes) f cdv A outer s H E) cl (fun e _ G' H' _ _ => ∀ c od, XR K cl e c od G' H' → E c od H') (fun c od _ H' => E c od H') := ⟨takes_of rfl rfl rfl rfl, fun _ _ _ _ _ _ c od h x => h c od x⟩
  exact l_cons (s_set (i := 1) (v_cal xl c_law_next (hr.mono (by first | decide | omega)) (by rfl) (c_io (pv 0) (c_val (v_cp (q_c pe_int)) (c_nil)))) sc_law_bytes.nd rfl (Or.inl rfl)) (l_cons (s_set (i := 2) (v_cal xl c_law_next (hr.mono (by first | decide | omega)) (by rfl) (c_io (pv 0) (c_val (v_cp (q_c pe_int)) (c_nil)))) sc_law_bytes.nd rfl (Or.inl rfl)) (l_cons (s_if (b_qcmp op_lt m_lt (q_nm (pv 2)) (q_c pe_int) (nomark _)) (l_one (s_set (i := 1) (v_op op_addA m_add (v_cp (q_c pe_int)) (v_cal xl c_law_next (hr.mono (by first | decide | omega)) (by rfl) (c_io (pv 0) (c_val (v_cp (q_c pe_int)) (c_nil))))) sc_law_bytes.nd rfl (Or.inl rfl))) (l_one (s_if (b_qcmp op_lt m_lt (q_nm (pv 2)) (q_c pe_int) (nomark _)) (l_one (s_set (i := 1) (v_op op_addA m_add (v_cp (q_c pe_int)) (v_cal xl c_law_next (hr.mono (by first | decide | omega)) (by rfl) (c_io (pv 0) (c_val (v_cp (q_c pe_int)) (c_nil))))) sc_law_bytes.nd rfl (Or.inl rfl))) (l_one (s_if (b_qcmp (op_eqD hr.units) m_eq (q_nm (pv 2)) (q_c pe_int) (nomark _)) (l_one (s_set (i := 1) (v_op op_addA m_add (v_cp (q_c pe_int)) (v_cal xl c_law_next (hr.mono (by first | decide | omega)) (by rfl) (c_io (pv 0) (c_val (v_cp (q_c pe_int)) (c_nil))))) sc_law_bytes.nd rfl (Or.inl rfl))) (l_nil)))))) (l_cons (s_set (i := 3) (v_cal xl c_law_next (hr.mono (by first | decide | omega)) (by rfl) (c_io (pv 0) (c_val (v_cp (q_c pe_int)) (c_nil)))) sc_law_bytes.nd rfl (Or.inr rfl)) (l_one (s_ret (v_lc (own := [("k", 4)]) rfl sc_law_bytes.nd (i_rng1 (pi_range1 rfl B.m_range (a_cons (v_cp (q_nm (pv 1))) (a_nil)))) (blkOk_by (N := ["state", "count", "pick", "start", "k"]) (sc := defScope s_law_bytes) (by decide +kernel)) (fun _ _ _ _ _ => g_nm (pg_name (i := 4) sc_law_bytes.nd rfl (Or.inl rfl))) (fun _ _ _ _ _ => ts_nil) (fun _ _ _ _ _ => v_cp (q_op op_mod m_mod (q_op op_addA m_add (q_nm (pv 3)) (q_op op_mulV m_mul (q_op op_mulV m_mul (q_c pe_int) (q_nm (pv 4))) (q_nm (pv 4)))) (q_c pe_int)))))))))
/-! ### _law_behind -/
abbrev s_law_behind : Stmt := top 26
theorem sc_law_behind : FnScope ["state", "data", "record", "further", "pick", "at", "size", "needless"] ["state"] (defScope s_law_behind) := ⟨rfl, rfl, rfl, by decide +kernel, rfl, by decide +kernel, by decide +kernel⟩
noncomputable def b_law_behind : SF := sSeq (sAsg (vCall F_law_bytes [(0, 0)] (aIo 0 (aNil))) (gSet 1)) (sSeq (sAsg (vCallW F_law_record (lCons (qVar 1) (lNil))) (gSet 2)) (sSeq (sAsg (v2 kIx (vLst (aCons (vLst (aNil)) (aCons (v2 kAdd (vCall F_law_record [] (aCons (vFrz (vLst (aCons (cp (qC (.int 1))) (aCons (cp (qC (.int 2))) (aCons (cp (qC (.int 3))) (aNil)))))) (aNil))) (vCall F_law_record [] (aCons (vFrz (vLst (aNil))) (aNil)))) (aNil)))) (vCall F_law_next [(0, 0)] (aIo 0 (aCons (cp (qC (.int 2))) (aNil))))) (gSet 3)) (sSeq (sAsg (vCall F_law_next [(0, 0)] (aIo 0 (aCons (cp (qC (.int 5))) (aNil)))) (gSet 4)) (sSeq (sIf (qB (q2 kEq (qVar 4) (qC (.int 0)))) (sRet (vLst (aNil))) (sPass)) (sSeq (sIf (qB (q2 kEq (qVar 4) (qC (.int 1)))) (sRet (vSlN 2 (vCall F_law_next [(0, 0)] (aIo 0 (aCons (cp (qA kLen (lCons (qVar 2) (lNil)))) (aNil)))))) (sPass)) (sSeq (sIf (qB (q2 kEq (qVar 4) (qC (.int 2)))) (sSeq (sAsg (v2 kSub (cp (q2 kSub (qA kLen (lCons (qVar 2) (lNil))) (qC (.int 1)))) (vCall F_law_next [(0, 0)] (aIo 0 (aCons (cp (qC (.int 4))) (aNil))))) (gSet 5)) (sRet (v2 kAdd (v2 kAdd (v2 kAdd (mk (qSl (qVar 2) (oNone) (oSome (qVar 5)))) (vLst (aCons (v2 kMod (v2 kAdd (cp (q2 kAdd (q2 kIx (qVar 2) (qVar 5)) (qC (.int 1)))) (vCall F_law_next [(0, 0)] (aIo 0 (aCons (cp (qC (.int 255))) (aNil))))) (cp (qC (.int 256)))) (aNil)))) (mk (qSl (qVar 2) (oSome (q2 kAdd (qVar 5) (qC (.int 1)))) (oNone)))) (vShare 3)))) (sPass)) (sSeq (sIf (bAnd (qB (q2 kEq (qVar 4) (qC (.int 3)))) (qB (q2 kGt (qA kLen (lCons (qVar 1) (lNil))) (qC (.int 0))))) (sSeq (sAsg (v2 kSub (cp (q2 kSub (qA kLen (lCons (qVar 2) (lNil))) (qC (.int 5)))) (vCall F_law_next [(0, 0)] (aIo 0 (aCons (cp (qA kLen (lCons (qVar 1) (lNil)))) (aNil))))) (gSet 5)) (sRet (v2 kAdd (v2 kAdd (v2 kAdd (mk (qSl (qVar 2) (oNone) (oSome (qVar 5)))) (vLst (aCons (v2 kMod (v2 kAdd (cp (q2 kAdd (q2 kIx (qVar 2) (qVar 5)) (qC (.int 1)))) (vCall F_law_next [(0, 0)] (aIo 0 (aCons (cp (qC (.int 255))) (aNil))))) (cp (qC (.int 256)))) (aNil)))) (mk (qSl (qVar 2) (oSome (q2 kAdd (qVar 5) (qC (.int 1)))) (oNone)))) (vShare 3)))) (sPass)) (sSeq (sAsg (vCall F_law_number [] (aCons (cp (qA kLen (lCons (qVar 1) (lNil)))) (aNil))) (gSet 6)) (sSeq (sAsg (v2 kAdd (v2 kAdd (vLst (aCons (cp (q2 kAdd (q2 kIx (qVar 6) (q2 kSub (qA kLen (lCons (qVar 6) (lNil))) (qC (.int 1)))) (qC (.int 128)))) (aNil))) (v2 kRep (vLst (aCons (cp (qC (.int 128))) (aNil))) (vCall F_law_next [(0, 0)] (aIo 0 (aCons (cp (qC (.int 3))) (aNil)))))) (vLst (aCons (cp (qC (.int 0))) (aNil)))) (gSet 7)) (sRet (v2 kAdd (v2 kAdd (v2 kAdd (mk (qSl (qVar 6) (oNone) (oSome (q2 kSub (qA kLen (lCons (qVar 6) (lNil))) (qC (.int 1)))))) (vShare 7)) (mk (qSl (qVar 2) (oSome (qA kLen (lCons (qVar 6) (lNil)))) (oNone)))) (vShare 3))))))))))))
noncomputable def F_law_behind : DF := fnN 1 (fnD [1, 2, 3, 4, 5, 6, 7] 8 b_law_behind)
theorem ok_law_behind {f : Addr} {fd : FuncData} (F : Fun K "_law_behind" "_law_behind" s_law_behind f fd) (hm : mg "_law_behind" = some (.ref f)) (B : Blt mg) (c_law_bytes : Cal P w0 K mg base cl "_law_bytes" 1 4 F_law_bytes) (c_law_record : Cal P w0 K mg base cl "_law_record" 1 2 F_law_record) (c_law_next : Cal P w0 K mg base cl "_law_next" 2 3 F_law_next) (c_law_number : Cal P w0 K mg base cl "_law_number" 1 1 F_law_number) : Cal P w0 K mg base cl "_law_behind" 1 5 F_law_behind := by
  refine ⟨⟨f, fd, ["state"], rfl, hm, F.kp, F.binds (fun _ _ _ _ _ _ us hl => match us, hl with | [_], _ => rfl), ?_⟩, fnN_len⟩
  refine (fn_ok (k := 4) (w := [1, 2, 3, 4, 5, 6, 7]) (body := b_law_behind) F sc_law_behind fun cdv A outer s H E hr => ?_).imp fun vs H Q E h => spD_fnN vs H Q E h
  have xl : XL (cxOf (L2.CX P w0) P w0 K mg base ["state", "data", "record", "further", "pick", "at", "size", "needless"] "_law_behind" (defScope s_law_behind) f cdv A outer s H E) cl (fun e _ G' H' _ _ => ∀ c od, XR K cl e c od G' H' → E c od H') (fun c od _ H' => E c od H') := ⟨takes_of rfl rfl rfl rfl, fun _ _ _ _ _ _ c od h x => h c od x⟩
  exact l_cons (s_set (i := 1) (v_cal xl c_law_bytes (hr.mono (by first | decide | omega)) (by rfl) (c_io (pv 0) (c_nil))) sc_law_behind.nd rfl (Or.inl rfl)) (l_cons (s_set (i := 2) (v_calW c_law_record (hr.mono (by first | decide | omega)) (by rfl) (qa_cons (q_nm (pv 1)) (qa_nil))) sc_law_behind.nd rfl (Or.inl rfl)) (l_cons (s_set (i := 3) (v_ix ix_seq m_ix (v_lst (a_cons (v_lst (a_nil)) (a_cons (v_op op_addA m_add (v_cal xl c_law_record (hr.mono (by first | decide | omega)) (by rfl) (c_val (v_frz (v_lst (a_cons (v_cp (q_c pe_int)) (a_cons (v_cp (q_c pe_int)) (a_cons (v_cp (q_c pe_int)) (a_nil)))))) (c_nil))) (v_cal xl c_law_record (hr.mono (by first | decide | omega)) (by rfl) (c_val (v_frz (v_lst (a_nil))) (c_nil)))) (a_nil)))) (v_cal xl c_law_next (hr.mono (by first | decide | omega)) (by rfl) (c_io (pv 0) (c_val (v_cp (q_c pe_int)) (c_nil)))) (fun _ _ => rfl)) sc_law_behind.nd rfl (Or.inl rfl)) (l_cons (s_set (i := 4) (v_cal xl c_law_next (hr.mono (by first | decide | omega)) (by rfl) (c_io (pv 0) (c_val (v_cp (q_c pe_int)) (c_nil)))) sc_law_behind.nd rfl (Or.inl rfl)) (l_cons (s_if (b_qcmp (op_eqD hr.units) m_eq (q_nm (pv 4)) (q_c pe_int) (nomark _)) (l_one (s_ret (v_lst (a_nil)))) (l_nil)) (l_cons (s_if (b_qcmp (op_eqD hr.units) m_eq (q_nm (pv 4)) (q_c pe_int) (nomark _)) (l_one (s_ret (v_slN (pv 2) (v_cal xl c_law_next (hr.mono (by first | decide | omega)) (by rfl) (c_io (pv 0) (c_val (v_cp (q_cb (pe_callB call_lenA (by rfl) B.m_len boot_len (qa_cons (q_nm (pv 2)) (qa_nil))) m_len)) (c_nil))))))) (l_nil)) (l_cons (s_if (b_qcmp (op_eqD hr.units) m_eq (q_nm (pv 4)) (q_c pe_int) (nomark _)) (l_cons (s_set (i := 5) (v_op op_sub m_sub (v_cp (q_op op_sub m_sub (q_cb (pe_callB call_lenA (by rfl) B.m_len boot_len (qa_cons (q_nm (pv 2)) (qa_nil))) m_len) (q_c pe_int))) (v_cal xl c_law_next (hr.mono (by first | decide | omega)) (by rfl) (c_io (pv 0) (c_val (v_cp (q_c pe_int)) (c_nil))))) sc_law_behind.nd rfl (Or.inl rfl)) (l_one (s_ret (v_op op_addA m_add (v_op op_addA m_add (v_op op_addA m_add (m_slice (q_nm (pv 2)) (o_none) (o_some (q_nm (pv 5)))) (v_lst (a_cons (v_op op_mod m_mod (v_op op_addA m_add (v_cp (q_op op_addA m_add (q_ix ix_seq m_ix (q_nm (pv 2)) (q_nm (pv 5)) (fun _ _ => rfl)) (q_c pe_int))) (v_cal xl c_law_next (hr.mono (by first | decide | omega)) (by rfl) (c_io (pv 0) (c_val (v_cp (q_c pe_int)) (c_nil))))) (v_cp (q_c pe_int))) (a_nil)))) (m_slice (q_nm (pv 2)) (o_some (q_op op_addA m_add (q_nm (pv 5)) (q_c pe_int))) (o_none))) (v_share (pv 3)))))) (l_nil)) (l_cons (s_if (b_w (w_and (b_qcmp (op_eqD hr.units) m_eq (q_nm (pv 4)) (q_c pe_int) (nomark _)) (w_and1 (b_qcmp op_gt m_gt (q_cb (pe_callB call_lenA (by rfl) B.m_len boot_len (qa_cons (q_nm (pv 1)) (qa_nil))) m_len) (q_c pe_int) (nomark _))))) (l_cons (s_set (i := 5) (v_op op_sub m_sub (v_cp (q_op op_sub m_sub (q_cb (pe_callB call_lenA (by rfl) B.m_len boot_len (qa_cons (q_nm (pv 2)) (qa_nil))) m_len) (q_c pe_int))) (v_cal xl c_law_next (hr.mono (by first | decide | omega)) (by rfl) (c_io (pv 0) (c_val (v_cp (q_cb (pe_callB call_lenA (by rfl) B.m_len boot_len (qa_cons (q_nm (pv 1)) (qa_nil))) m_len)) (c_nil))))) sc_law_behind.nd rfl (Or.inl rfl)) (l_one (s_ret (v_op op_addA m_add (v_op op_addA m_add (v_op op_addA m_add (m_slice (q_nm (pv 2)) (o_none) (o_some (q_nm (pv 5)))) (v_lst (a_cons (v_op op_mod m_mod (v_op op_addA m_add (v_cp (q_op op_addA m_add (q_ix ix_seq m_ix (q_nm (pv 2)) (q_nm (pv 5)) (fun _ _ => rfl)) (q_c pe_int))) (v_cal xl c_law_next (hr.mono (by first | decide | omega)) (by rfl) (c_io (pv 0) (c_val (v_cp (q_c pe_int)) (c_nil))))) (v_cp (q_c pe_int))) (a_nil)))) (m_slice (q_nm (pv 2)) (o_some (q_op op_addA m_add (q_nm (pv 5)) (q_c pe_int))) (o_none))) (v_share (pv 3)))))) (l_nil)) (l_cons (s_set (i := 6) (v_cal xl c_law_number (hr.mono (by first | decide | omega)) (by rfl) (c_val (v_cp (q_cb (pe_callB call_lenA (by rfl) B.m_len boot_len (qa_cons (q_nm (pv 1)) (qa_nil))) m_len)) (c_nil))) sc_law_behind.nd rfl (Or.inl rfl)) (l_cons (s_set (i := 7) (v_op op_addA m_add (v_op op_addA m_add (v_lst (a_cons (v_cp (q_op op_addA m_add (q_ix ix_seq m_ix (q_nm (pv 6)) (q_op op_sub m_sub (q_cb (pe_callB call_lenA (by rfl) B.m_len boot_len (qa_cons (q_nm (pv 6)) (qa_nil))) m_len) (q_c pe_int)) (fun _ _ => rfl)) (q_c pe_int))) (a_nil))) (v_op op_rep m_rep (v_lst (a_cons (v_cp (q_c pe_int)) (a_nil))) (v_cal xl c_law_next (hr.mono (by first | decide | omega)) (by rfl) (c_io (pv 0) (c_val (v_cp (q_c pe_int)) (c_nil)))))) (v_lst (a_cons (v_cp (q_c pe_int)) (a_nil)))) sc_law_behind.nd rfl (Or.inl rfl)) (l_one (s_ret (v_op op_addA m_add (v_op op_addA m_add (v_op op_addA m_add (m_slice (q_nm (pv 6)) (o_none) (o_some (q_op op_sub m_sub (q_cb (pe_callB call_lenA (by rfl) B.m_len boot_len (qa_cons (q_nm (pv 6)) (qa_nil))) m_len) (q_c pe_int)))) (v_share (pv 7))) (m_slice (q_nm (pv 2)) (o_some (q_cb (pe_callB call_lenA (by rfl) B.m_len boot_len (qa_cons (q_nm (pv 6)) (qa_nil))) m_len)) (o_none))) (v_share (pv 3))))))))))))))
/-! ### law -/
abbrev s_law : Stmt := top 27
theorem sc_law : FnScope ["script", "state", "records", "k", "data", "sizes", "record", "passed", "whole", "end", "count", "size"] ["script"] (defScope s_law) := ⟨rfl, rfl, rfl, by decide +kernel, rfl, by decide +kernel, by decide +kernel⟩
noncomputable def b_law : SF := sSeq (sAsg (vLst (aCons (vCall F_law_draws [] (aCons (cp (qVar 0)) (aNil))) (aCons (cp (qC (.int 20))) (aNil)))) (gSet 1)) (sSeq (sAsg (vLc (iArg kRng1 (aCons (vCall F_law_next [(0, 1)] (aIo 1 (aCons (cp (qC (.int 11))) (aNil)))) (aNil))) (gSet 3) (bYes) (vCall F_law_bytes [(0, 1)] (aIo 1 (aNil))) [3]) (gSet 2)) (sSeq (sAsg (vLst (aNil)) (gSet 4)) (sSeq (sAsg (vLst (aCons (cp (qC (.int 0))) (aNil))) (gSet 5)) (sSeq (sFor (rb (vShare 2) fun d => rp (kItL d)) (gSet 6) (sSeq (sAsg (mk (qA kList (lCons (qVar 6) (lNil)))) (gSet 7)) (sSeq (sIf (bOr (bNot (vB (vCall (F_law_same 5) [] (aCons (vFrz (vCallW F_checksum (lCons (qVar 7) (lNil)))) (aCons (vFrz (vCallW F_law_checksum (lCons (qVar 6) (lNil)))) (aNil)))))) (bNot (vB (vCall (F_law_same 5) [] (aCons (vFrz (vCallW F_write_record (lCons (qVar 7) (lNil)))) (aCons (vFrz (vCallW F_law_record (lCons (qVar 6) (lNil)))) (aNil))))))) (sRet (cp (qC (.bl false)))) (sPass)) (sSeq (sIf (qB (q2 kNe (qVar 7) (qVar 6))) (sRet (cp (qC (.bl false)))) (sPass)) (sSeq (sAsg (v2 kAdd (vShare 4) (vCallW F_law_record (lCons (qVar 6) (lNil)))) (gSet 4)) (sDrop (vMut kAppend 5 (aCons (cp (qA kLen (lCons (qVar 4) (lNil)))) (aNil))))))))) (sSeq (sAsg (v2 kAdd (vShare 4) (vCall F_law_behind [(0, 1)] (aIo 1 (aNil)))) (gSet 8)) (sSeq (sAsg (mk (qA kList (lCons (qVar 8) (lNil)))) (gSet 7)) (sSeq (sIf (bOr (bNot (vB (vCall (F_law_same 5) [] (aCons (vFrz (vCallW F_read_records (lCons (qVar 7) (lNil)))) (aCons (vFrz (vTup (aCons (vShare 2) (aCons (cp (qA kLen (lCons (qVar 4) (lNil)))) (aNil))))) (aNil)))))) (qB (q2 kNe (qVar 7) (qVar 8)))) (sRet (cp (qC (.bl false)))) (sPass)) (sSeq (sFor (iArg kRng1 (aCons (cp (qC (.int 4))) (aNil))) (gSet 3) (sSeq (sAsg (vCall F_law_next [(0, 1)] (aIo 1 (aCons (cp (q2 kAdd (qA kLen (lCons (qVar 4) (lNil))) (qC (.int 1)))) (aNil)))) (gSet 9)) (sSeq (sAsg (v2 kSub (vA kLen (aCons (vLc (rb (vShare 5) fun d => rp (kItL d)) (gSet 11) (qB (q2 kLe (qVar 11) (qVar 9))) (cp (qVar 11)) [11]) (aNil))) (cp (qC (.int 1)))) (gSet 10)) (sSeq (sAsg (mk (qSl (qVar 4) (oNone) (oSome (qVar 9)))) (gSet 7)) (sIf (bOr (bNot (vB (vCall (F_law_same 5) [] (aCons (vFrz (vCallW F_read_records (lCons (qVar 7) (lNil)))) (aCons (vFrz (vTup (aCons (mk (qSl (qVar 2) (oNone) (oSome (qVar 10)))) (aCons (cp (q2 kIx (qVar 5) (qVar 10))) (aNil))))) (aNil)))))) (qB (q2 kNe (qVar 7) (qSl (qVar 4) (oNone) (oSome (qVar 9)))))) (sRet (cp (qC (.bl false)))) (sPass)))))) (sRet (vAnd (vCall (F_law_same 5) [] (aCons (vFrz (vCall F_read_records [] (aCons (vFrz (vLst (aNil))) (aNil)))) (aCons (vFrz (vTup (aCons (vLst (aNil)) (aCons (cp (qC (.int 0))) (aNil))))) (aNil)))) (vCall (F_law_same 5) [] (aCons (vFrz (vCall F_write_record [] (aCons (vFrz (vLst (aNil))) (aNil)))) (aCons (vFrz (vLst (aCons (cp (qC (.int 0))) (aCons (cp (qC (.int 0))) (aCons (cp (qC (.int 0))) (aCons (cp (qC (.int 0))) (aCons (cp (qC (.int 7))) (aNil)))))))) (aNil))))))))))))))
noncomputable def F_law : DF := fnN 1 (fnD [1, 2, 3, 4, 5, 6, 7, 8, 9, 10] 12 b_law)
theorem ok_law {f : Addr} {fd : FuncData} (F : Fun K "law" "law" s_law f fd) (B : Blt mg) (c_law_draws : Cal P w0 K mg base cl "_law_draws" 1 2 F_law_draws) (c_law_next : Cal P w0 K mg base cl "_law_next" 2 3 F_law_next) (c_law_bytes : Cal P w0 K mg base cl "_law_bytes" 1 4 F_law_bytes) (c_law_same : Cal P w0 K mg base cl "_law_same" 2 6 (F_law_same 5)) (c_law_checksum : Cal P w0 K mg base cl "_law_checksum" 1 1 F_law_checksum) (c_checksum : Cal P w0 K mg base cl "checksum" 1 1 F_checksum) (c_law_record : Cal P w0 K mg base cl "_law_record" 1 2 F_law_record) (c_write_record : Cal P w0 K mg base cl "write_record" 1 2 F_write_record) (c_law_behind : Cal P w0 K mg base cl "_law_behind" 1 5 F_law_behind) (c_read_records : Cal P w0 K mg base cl "read_records" 1 4 F_read_records) : FnOk P w0 K mg base (L2.CX P w0) 7 f fd ["script"] (spD K cl 1 F_law) := by
  refine (fn_ok (k := 6) (w := [1, 2, 3, 4, 5, 6, 7, 8, 9, 10]) (body := b_law) F sc_law fun cdv A outer s H E hr => ?_).imp fun vs H Q E h => spD_fnN vs H Q E h
  have xl : XL (cxOf (L2.CX P w0) P w0 K mg base ["script", "state", "records", "k", "data", "sizes", "record", "passed", "whole", "end", "count", "size"] "law" (defScope s_law) f cdv A outer s H E) cl (fun e _ G' H' _ _ => ∀ c od, XR K cl e c od G' H' → E c od H') (fun c od _ H' => E c od H') := ⟨takes_of rfl rfl rfl rfl, fun _ _ _ _ _ _ c od h x => h c od x⟩
  exact l_cons (s_set (i := 1) (v_lst (a_cons (v_cal xl c_law_draws (hr.mono (by first | decide | omega)) (by rfl) (c_val (v_cp (q_nm (pv 0))) (c_nil))) (a_cons (v_cp (q_c pe_int)) (a_nil)))) sc_law.nd rfl (Or.inr rfl)) (l_cons (s_setLc (i := 2) (own := [("k", 3)]) rfl sc_law.nd rfl rfl (sw_true rfl rfl rfl (by decide +kernel)) (i_rng1 (pi_range1 rfl B.m_range (a_cons (v_cal xl c_law_next (hr.mono (by first | decide | omega)) (by rfl) (c_io (pv 1) (c_val (v_cp (q_c pe_int)) (c_nil)))) (a_nil)))) (blkOk_by (N := ["script", "state", "records", "k", "data", "sizes", "record", "passed", "whole", "end", "count", "size"]) (sc := defScope s_law) (by decide +kernel)) (fun _ _ _ _ _ => g_nm (pg_name (i := 3) sc_law.nd rfl (Or.inl rfl))) (fun _ _ _ _ _ => ts_nil) (fun _ _ _ _ _ => v_cal xl0 c_law_bytes (hr.mono (by first | decide | omega)) (by rfl) (c_io (pv 1) (c_nil)))) (l_cons (s_set (i := 4) (v_lst (a_nil)) sc_law.nd rfl (Or.inl rfl)) (l_cons (s_set (i := 5) (v_lst (a_cons (v_cp (q_c pe_int)) (a_nil))) sc_law.nd rfl (Or.inl rfl)) (l_cons (s_for (passes_of rfl) rfl (i_lst (v_share (pv 2))) (g_nm (pg_name (i := 6) sc_law.nd rfl (Or.inl rfl))) (l_cons (s_set (i := 7) (m_cb (pe_callTy call_list_of (by rfl) B.m_list boot_list (qa_cons (q_nm (pv 6)) (qa_nil))) m_list) sc_law.nd rfl (Or.inl rfl)) (l_cons (s_if (b_w (w_or (b_not (b_v (v_cal xl c_law_same (hr.mono (by first | decide | omega)) (by rfl) (c_val (v_frz (v_calW c_checksum (hr.mono (by first | decide | omega)) (by rfl) (qa_cons (q_nm (pv 7)) (qa_nil)))) (c_val (v_frz (v_calW c_law_checksum (hr.mono (by first | decide | omega)) (by rfl) (qa_cons (q_nm (pv 6)) (qa_nil)))) (c_nil)))))) (w_or1 (b_not (b_v (v_cal xl c_law_same (hr.mono (by first | decide | omega)) (by rfl) (c_val (v_frz (v_calW c_write_record (hr.mono (by first | decide | omega)) (by rfl) (qa_cons (q_nm (pv 7)) (qa_nil)))) (c_val (v_frz (v_calW c_law_record (hr.mono (by first | decide | omega)) (by rfl) (qa_cons (q_nm (pv 6)) (qa_nil)))) (c_nil))))))))) (l_one (s_ret (v_cp (q_c pe_bl)))) (l_nil)) (l_cons (s_if (b_qcmp (op_neD hr.units) m_ne (q_nm (pv 7)) (q_nm (pv 6)) (nomark _)) (l_one (s_ret (v_cp (q_c pe_bl)))) (l_nil)) (l_cons (s_set (i := 4) (v_op op_addA m_add (v_share (pv 4)) (v_calW c_law_record (hr.mono (by first | decide | omega)) (by rfl) (qa_cons (q_nm (pv 6)) (qa_nil)))) sc_law.nd rfl (Or.inl rfl)) (l_one (s_expr (v_mut (pe_bm PySem.F.plainAttrs_list PySem.F.slot_list_append PySem.F.type_list_append mt_append (pv 5) (a_cons (v_cp (q_cb (pe_callB call_lenA (by rfl) B.m_len boot_len (qa_cons (q_nm (pv 4)) (qa_nil))) m_len)) (a_nil))) mm_append)))))))) (l_cons (s_set (i := 8) (v_op op_addA m_add (v_share (pv 4)) (v_cal xl c_law_behind (hr.mono (by first | decide | omega)) (by rfl) (c_io (pv 1) (c_nil)))) sc_law.nd rfl (Or.inl rfl)) (l_cons (s_set (i := 7) (m_cb (pe_callTy call_list_of (by rfl) B.m_list boot_list (qa_cons (q_nm (pv 8)) (qa_nil))) m_list) sc_law.nd rfl (Or.inl rfl)) (l_cons (s_if (b_w (w_or (b_not (b_v (v_cal xl c_law_same (hr.mono (by first | decide | omega)) (by rfl) (c_val (v_frz (v_calW c_read_records (hr.mono (by first | decide | omega)) (by rfl) (qa_cons (q_nm (pv 7)) (qa_nil)))) (c_val (v_frz (v_tup (a_cons (v_share (pv 2)) (a_cons (v_cp (q_cb (pe_callB call_lenA (by rfl) B.m_len boot_len (qa_cons (q_nm (pv 4)) (qa_nil))) m_len)) (a_nil))))) (c_nil)))))) (w_or1 (b_qcmp (op_neD hr.units) m_ne (q_nm (pv 7)) (q_nm (pv 8)) (nomark _))))) (l_one (s_ret (v_cp (q_c pe_bl)))) (l_nil)) (l_cons (s_for (passes_of rfl) rfl (i_rng1 (pi_range1 rfl B.m_range (a_cons (v_cp (q_c pe_int)) (a_nil)))) (g_nm (pg_name (i := 3) sc_law.nd rfl (Or.inl rfl))) (l_cons (s_set (i := 9) (v_cal xl c_law_next (hr.mono (by first | decide | omega)) (by rfl) (c_io (pv 1) (c_val (v_cp (q_op op_addA m_add (q_cb (pe_callB call_lenA (by rfl) B.m_len boot_len (qa_cons (q_nm (pv 4)) (qa_nil))) m_len) (q_c pe_int))) (c_nil)))) sc_law.nd rfl (Or.inr rfl)) (l_cons (s_set (i := 10) (v_op op_sub m_sub (v_cb (pe_callB call_lenA (by rfl) B.m_len boot_len (a_cons (v_lc (own := [("size", 11)]) rfl sc_law.nd (i_lst (v_share (pv 5))) (blkOk_by (N := ["script", "state", "records", "k", "data", "sizes", "record", "passed", "whole", "end", "count", "size"]) (sc := defScope s_law) (by decide +kernel)) (fun _ _ _ _ _ => g_nm (pg_name (i := 11) sc_law.nd rfl (Or.inl rfl))) (fun _ _ _ _ _ => ts_one (b_qcmp op_le m_le (q_nm (pv 11)) (q_nm (pv 9)) (nomark _))) (fun _ _ _ _ _ => v_cp (q_nm (pv 11)))) (a_nil))) m_len) (v_cp (q_c pe_int))) sc_law.nd rfl (Or.inl rfl)) (l_cons (s_set (i := 7) (m_slice (q_nm (pv 4)) (o_none) (o_some (q_nm (pv 9)))) sc_law.nd rfl (Or.inl rfl)) (l_one (s_if (b_w (w_or (b_not (b_v (v_cal xl c_law_same (hr.mono (by first | decide | omega)) (by rfl) (c_val (v_frz (v_calW c_read_records (hr.mono (by first | decide | omega)) (by rfl) (qa_cons (q_nm (pv 7)) (qa_nil)))) (c_val (v_frz (v_tup (a_cons (m_slice (q_nm (pv 2)) (o_none) (o_some (q_nm (pv 10)))) (a_cons (v_cp (q_ix ix_seq m_ix (q_nm (pv 5)) (q_nm (pv 10)) (fun _ _ => rfl))) (a_nil))))) (c_nil)))))) (w_or1 (b_qcmp (op_neD hr.units) m_ne (q_nm (pv 7)) (q_sl (q_nm (pv 4)) (o_none) (o_some (q_nm (pv 9)))) (nomark _))))) (l_one (s_ret (v_cp (q_c pe_bl)))) (l_nil))))))) (l_one (s_ret (v_and (v_cal xl c_law_same (hr.mono (by first | decide | omega)) (by rfl) (c_val (v_frz (v_cal xl c_read_records (hr.mono (by first | decide | omega)) (by rfl) (c_val (v_frz (v_lst (a_nil))) (c_nil)))) (c_val (v_frz (v_tup (a_cons (v_lst (a_nil)) (a_cons (v_cp (q_c pe_int)) (a_nil))))) (c_nil)))) (v_one (v_cal xl c_law_same (hr.mono (by first | decide | omega)) (by rfl) (c_val (v_frz (v_cal xl c_write_record (hr.mono (by first | decide | omega)) (by rfl) (c_val (v_frz (v_lst (a_nil))) (c_nil)))) (c_val (v_frz (v_lst (a_cons (v_cp (q_c pe_int)) (a_cons (v_cp (q_c pe_int)) (a_cons (v_cp (q_c pe_int)) (a_cons (v_cp (q_c pe_int)) (a_cons (v_cp (q_c pe_int)) (a_nil)))))))) (c_nil))))))))))))))))
end
end K11

set_option maxRecDepth 100000
set_option maxHeartbeats 4000000
namespace K11
open PySem L2 DL PyProof.Rows
theorem kGt_int {i j : Int} : kGt (.at (.int i)) (.at (.int j)) = some (.at (.bl (decide (i > j)))) := rfl
theorem kLt_int {i j : Int} : kLt (.at (.int i)) (.at (.int j)) = some (.at (.bl (decide (i < j)))) := rfl
theorem kSub_int {i j : Int} : kSub (.at (.int i)) (.at (.int j)) = some (.at (.int (i - j))) := rfl
theorem kMul_int {i j : Int} : kMul (.at (.int i)) (.at (.int j)) = if cMul i j = true then some (.at (.int (i * j))) else none := rfl
theorem kFdiv_int {i j : Int} : kFdiv (.at (.int i)) (.at (.int j)) = if cFdiv i j = true then some (.at (.int (i / j))) else none := rfl
def big (c : Int) : Prop := c.natAbs.log2 < 2000001
theorem cMul_big {a b : Int} (ha : big a) (h0 : 0 ≤ b) (h1 : b < 2147483648) : cMul a b = true := by
  have g : a.natAbs.log2 < 2000001 := ha
  have g2 : b.natAbs.log2 < 9000 := by
    by_cases h0 : b.natAbs = 0
    · rw [h0]; decide
    · have : b.natAbs < 2 ^ 31 := by omega
      have := PySem.Flt.log2_lt_of (by decide) this
      omega
  unfold cMul
  exact decide_eq_true (by omega)
theorem mix_ok {c k : Int} (hc : big c) (h0 : 0 ≤ k) (h1 : k < 2147483648) : wD (F_law_mix [.at (.int c), .at (.int k)]) (fun d as => ∃ v : Int, d = .at (.int v) ∧ 0 ≤ v ∧ v < 9973) fun _ _ => False := by
  refine wD_fn rfl ?_
  unfold b_law_mix
  simp only [ws_seq, ws_asg, ws_ret, ws_retN, ws_drop, ws_pass, ws_bk, ws_ct, ws_if, ws_aug, ws_augI, ws_for, wv_cp, wv_mk, wv_share, wv_move, wv_1, wv_2, wv_A, wa_nil, wa_cons, wa_io, wv_tup, wv_lst, wv_call, wv_if, wv_sl, wv_ixN, wv_mt, wv_mut, wv_and, wv_or, wv_not, wv_lc, wi_arg, wb_q, wb_t, wb_v, wb_and, wb_or, wb_not, wb_yes, wq_var, wq_c, wq_2, wq_1, wq_A, wq_lNil, wq_lCons, wq_sl, wo_none, wo_some, wg_item, wg_set, wg_tup, wg_cons, wg_nil, wR_rb, wR_rp, wO_some, wO_none, wO_bind, wO_map, wO_iteN, look_zero, look_succ, Ed.turn, kIx_lst, kIx_tup, kIx_T, atI_0, atI_1, atI_2, atI_3, atI_4, atI_5, atI_6, atI_cast, ixN_0, ixN_1, ixN_2, ixN_3, asI_int, asB_bl, asS_str, oI_int, cT_true, kAdd_int, kAdd_T, kAdd_lst, kAdd_tup, kInt_int, kInt_bl, kMin_int, kMax_int, kLen_lst, kLen_tup, kLen_T, nOw_at, nOw_tup, nOw_lstF, nOw_own, nOws_nil, nOws_cons, nOws_append, nOws_ints, kEq_int, kNe_int, kEq_T, kNe_T, kEq_bl, kIsN_at, kNotN_at, kIsN_nd, kNotN_nd, kList_lst, kList_tup, kTuple_lst, kAppend_one, kSl_lst, kSl_T, kSl_tup, kRng1_int, kRng2_int, isL_own, frz_at, fok_at, frz_lst, fok_lst, frz_tup, fok_tup, kItL_lst, kItT_tup, kItS_T, kZip_lst, kEnum_lst, hole_none, hole_succ, putB_nil, putB_cons, finD_nil, finD_cons, lowE_nil, lowE_cons, lowS_some, lowS_none, wipeE_nil, wipeE_cons, backE_nil, backE_cons, kMod_int, kGe_int, kIn_T, List.map_cons, List.map_nil, List.length_cons, List.length_nil, List.length_map, List.length_set, List.cons_append, List.nil_append, Nat.reduceAdd, Nat.reduceSub, Nat.reduceLT, Nat.reduceLeDiff, Nat.zero_add, List.replicate_succ, List.replicate_zero, List.set_cons_zero, List.set_cons_succ, List.getElem?_cons_zero, List.getElem?_cons_succ, List.getElem?_nil, true_and, and_true, and_self, if_true, if_false, Bool.false_eq_true, reduceIte, List.mem_cons, List.not_mem_nil, or_false, false_or, reduceCtorEq, Nat.reduceEqDiff, or_self, or_true, true_or, Option.map_some, Option.getD_some, Option.isSome_some, Bool.not_true, Bool.not_false, Bool.and_true, Bool.true_and, Bool.and_eq_true, decide_eq_true_eq, Nat.zero_lt_succ, Nat.lt_add_one, Nat.succ_ne_self, Nat.add_one_ne_zero, not_true_eq_false, not_false_eq_true, kMul_int, kFdiv_int]
  have a0 := Int.emod_nonneg (c * 48271 + k * 69621 + 12345) (by decide : (2147483647 : Int) ≠ 0)
  have a1 := Int.emod_lt_of_pos (c * 48271 + k * 69621 + 12345) (by decide : (0 : Int) < 2147483647)
  exact ⟨cMul_big hc (by decide) (by decide), cMul_small h0 h1 (by decide) (by decide), cMod_of (by decide), cMul_small a0 (by omega) a0 (by omega), cMul_small h0 h1 (by decide) (by decide), cMod_of (by decide), cFdiv_of (by decide) (by decide), cMod_of (by decide), _, rfl, Int.emod_nonneg _ (by decide), Int.emod_lt_of_pos _ (by decide)⟩
theorem big_of {c : Int} (h0 : -1000000000000000000000 ≤ c) (h1 : c ≤ 1000000000000000000000) : big c := by
  have h : c.natAbs < 2 ^ 100 := by omega
  unfold big
  by_cases hz : c.natAbs = 0
  · rw [hz]; decide
  · have := PySem.Flt.log2_lt_of (by decide) h
    omega
abbrev I (l : List Int) : List D := l.map fun i => D.at (.int i)
def DrOk (dr : List Int) : Prop := dr.length ≤ 3780 ∧ ∀ x ∈ dr, 0 ≤ x ∧ x < 9973
theorem at_ok {dr : List Int} {i : Int} (hd : DrOk dr) (h0 : 0 ≤ i) (h1 : i < 1000000) : wD (F_law_at [.lst (I dr), .at (.int i)]) (fun d as => ∃ v : Int, d = .at (.int v) ∧ 0 ≤ v ∧ v < 9973) fun _ _ => False := by
  refine wD_fn rfl ?_
  unfold b_law_at
  refine ws_mid (fun ρ => ρ = [some (.lst (I dr)), some (.at (.int i))] ∧ (dr.length : Int) ≤ i) ?_ ?_
  · simp only [ws_seq, ws_asg, ws_ret, ws_retN, ws_drop, ws_pass, ws_bk, ws_ct, ws_if, ws_aug, ws_augI, ws_for, wv_cp, wv_mk, wv_share, wv_move, wv_1, wv_2, wv_A, wa_nil, wa_cons, wa_io, wv_tup, wv_lst, wv_call, wv_if, wv_sl, wv_ixN, wv_mt, wv_mut, wv_and, wv_or, wv_not, wv_lc, wi_arg, wb_q, wb_t, wb_v, wb_and, wb_or, wb_not, wb_yes, wq_var, wq_c, wq_2, wq_1, wq_A, wq_lNil, wq_lCons, wq_sl, wo_none, wo_some, wg_item, wg_set, wg_tup, wg_cons, wg_nil, wR_rb, wR_rp, wO_some, wO_none, wO_bind, wO_map, wO_iteN, look_zero, look_succ, Ed.turn, kIx_lst, kIx_tup, kIx_T, atI_0, atI_1, atI_2, atI_3, atI_4, atI_5, atI_6, atI_cast, ixN_0, ixN_1, ixN_2, ixN_3, asI_int, asB_bl, asS_str, oI_int, cT_true, kAdd_int, kAdd_T, kAdd_lst, kAdd_tup, kInt_int, kInt_bl, kMin_int, kMax_int, kLen_lst, kLen_tup, kLen_T, nOw_at, nOw_tup, nOw_lstF, nOw_own, nOws_nil, nOws_cons, nOws_append, nOws_ints, kEq_int, kNe_int, kEq_T, kNe_T, kEq_bl, kIsN_at, kNotN_at, kIsN_nd, kNotN_nd, kList_lst, kList_tup, kTuple_lst, kAppend_one, kSl_lst, kSl_T, kSl_tup, kRng1_int, kRng2_int, isL_own, frz_at, fok_at, frz_lst, fok_lst, frz_tup, fok_tup, kItL_lst, kItT_tup, kItS_T, kZip_lst, kEnum_lst, hole_none, hole_succ, putB_nil, putB_cons, finD_nil, finD_cons, lowE_nil, lowE_cons, lowS_some, lowS_none, wipeE_nil, wipeE_cons, backE_nil, backE_cons, kMod_int, kGe_int, kIn_T, List.map_cons, List.map_nil, List.length_cons, List.length_nil, List.length_map, List.length_set, List.cons_append, List.nil_append, Nat.reduceAdd, Nat.reduceSub, Nat.reduceLT, Nat.reduceLeDiff, Nat.zero_add, List.replicate_succ, List.replicate_zero, List.set_cons_zero, List.set_cons_succ, List.getElem?_cons_zero, List.getElem?_cons_succ, List.getElem?_nil, true_and, and_true, and_self, if_true, if_false, Bool.false_eq_true, reduceIte, List.mem_cons, List.not_mem_nil, or_false, false_or, reduceCtorEq, Nat.reduceEqDiff, or_self, or_true, true_or, Option.map_some, Option.getD_some, Option.isSome_some, Bool.not_true, Bool.not_false, Bool.and_true, Bool.true_and, Bool.and_eq_true, decide_eq_true_eq, Nat.zero_lt_succ, Nat.lt_add_one, Nat.succ_ne_self, Nat.add_one_ne_zero, not_true_eq_false, not_false_eq_true, kLt_int]
    split
    · rename_i h
      have hi : i.toNat < dr.length := by omega
      rw [atI_pos h0, List.getElem?_map, List.getElem?_eq_getElem hi]
      simp only [ws_seq, ws_asg, ws_ret, ws_retN, ws_drop, ws_pass, ws_bk, ws_ct, ws_if, ws_aug, ws_augI, ws_for, wv_cp, wv_mk, wv_share, wv_move, wv_1, wv_2, wv_A, wa_nil, wa_cons, wa_io, wv_tup, wv_lst, wv_call, wv_if, wv_sl, wv_ixN, wv_mt, wv_mut, wv_and, wv_or, wv_not, wv_lc, wi_arg, wb_q, wb_t, wb_v, wb_and, wb_or, wb_not, wb_yes, wq_var, wq_c, wq_2, wq_1, wq_A, wq_lNil, wq_lCons, wq_sl, wo_none, wo_some, wg_item, wg_set, wg_tup, wg_cons, wg_nil, wR_rb, wR_rp, wO_some, wO_none, wO_bind, wO_map, wO_iteN, look_zero, look_succ, Ed.turn, kIx_lst, kIx_tup, kIx_T, atI_0, atI_1, atI_2, atI_3, atI_4, atI_5, atI_6, atI_cast, ixN_0, ixN_1, ixN_2, ixN_3, asI_int, asB_bl, asS_str, oI_int, cT_true, kAdd_int, kAdd_T, kAdd_lst, kAdd_tup, kInt_int, kInt_bl, kMin_int, kMax_int, kLen_lst, kLen_tup, kLen_T, nOw_at, nOw_tup, nOw_lstF, nOw_own, nOws_nil, nOws_cons, nOws_append, nOws_ints, kEq_int, kNe_int, kEq_T, kNe_T, kEq_bl, kIsN_at, kNotN_at, kIsN_nd, kNotN_nd, kList_lst, kList_tup, kTuple_lst, kAppend_one, kSl_lst, kSl_T, kSl_tup, kRng1_int, kRng2_int, isL_own, frz_at, fok_at, frz_lst, fok_lst, frz_tup, fok_tup, kItL_lst, kItT_tup, kItS_T, kZip_lst, kEnum_lst, hole_none, hole_succ, putB_nil, putB_cons, finD_nil, finD_cons, lowE_nil, lowE_cons, lowS_some, lowS_none, wipeE_nil, wipeE_cons, backE_nil, backE_cons, kMod_int, kGe_int, kIn_T, List.map_cons, List.map_nil, List.length_cons, List.length_nil, List.length_map, List.length_set, List.cons_append, List.nil_append, Nat.reduceAdd, Nat.reduceSub, Nat.reduceLT, Nat.reduceLeDiff, Nat.zero_add, List.replicate_succ, List.replicate_zero, List.set_cons_zero, List.set_cons_succ, List.getElem?_cons_zero, List.getElem?_cons_succ, List.getElem?_nil, true_and, and_true, and_self, if_true, if_false, Bool.false_eq_true, reduceIte, List.mem_cons, List.not_mem_nil, or_false, false_or, reduceCtorEq, Nat.reduceEqDiff, or_self, or_true, true_or, Option.map_some, Option.getD_some, Option.isSome_some, Bool.not_true, Bool.not_false, Bool.and_true, Bool.true_and, Bool.and_eq_true, decide_eq_true_eq, Nat.zero_lt_succ, Nat.lt_add_one, Nat.succ_ne_self, Nat.add_one_ne_zero, not_true_eq_false, not_false_eq_true]
      exact ⟨_, rfl, hd.2 _ (List.getElem_mem hi)⟩
    · omega
  · rintro ρ ⟨rfl, hle⟩
    refine ws_mid (fun ρ => ρ = [some (.lst (I dr)), some (.at (.int i))] ∧ 0 < dr.length) ?_ ?_
    · simp only [ws_seq, ws_asg, ws_ret, ws_retN, ws_drop, ws_pass, ws_bk, ws_ct, ws_if, ws_aug, ws_augI, ws_for, wv_cp, wv_mk, wv_share, wv_move, wv_1, wv_2, wv_A, wa_nil, wa_cons, wa_io, wv_tup, wv_lst, wv_call, wv_if, wv_sl, wv_ixN, wv_mt, wv_mut, wv_and, wv_or, wv_not, wv_lc, wi_arg, wb_q, wb_t, wb_v, wb_and, wb_or, wb_not, wb_yes, wq_var, wq_c, wq_2, wq_1, wq_A, wq_lNil, wq_lCons, wq_sl, wo_none, wo_some, wg_item, wg_set, wg_tup, wg_cons, wg_nil, wR_rb, wR_rp, wO_some, wO_none, wO_bind, wO_map, wO_iteN, look_zero, look_succ, Ed.turn, kIx_lst, kIx_tup, kIx_T, atI_0, atI_1, atI_2, atI_3, atI_4, atI_5, atI_6, atI_cast, ixN_0, ixN_1, ixN_2, ixN_3, asI_int, asB_bl, asS_str, oI_int, cT_true, kAdd_int, kAdd_T, kAdd_lst, kAdd_tup, kInt_int, kInt_bl, kMin_int, kMax_int, kLen_lst, kLen_tup, kLen_T, nOw_at, nOw_tup, nOw_lstF, nOw_own, nOws_nil, nOws_cons, nOws_append, nOws_ints, kEq_int, kNe_int, kEq_T, kNe_T, kEq_bl, kIsN_at, kNotN_at, kIsN_nd, kNotN_nd, kList_lst, kList_tup, kTuple_lst, kAppend_one, kSl_lst, kSl_T, kSl_tup, kRng1_int, kRng2_int, isL_own, frz_at, fok_at, frz_lst, fok_lst, frz_tup, fok_tup, kItL_lst, kItT_tup, kItS_T, kZip_lst, kEnum_lst, hole_none, hole_succ, putB_nil, putB_cons, finD_nil, finD_cons, lowE_nil, lowE_cons, lowS_some, lowS_none, wipeE_nil, wipeE_cons, backE_nil, backE_cons, kMod_int, kGe_int, kIn_T, List.map_cons, List.map_nil, List.length_cons, List.length_nil, List.length_map, List.length_set, List.cons_append, List.nil_append, Nat.reduceAdd, Nat.reduceSub, Nat.reduceLT, Nat.reduceLeDiff, Nat.zero_add, List.replicate_succ, List.replicate_zero, List.set_cons_zero, List.set_cons_succ, List.getElem?_cons_zero, List.getElem?_cons_succ, List.getElem?_nil, true_and, and_true, and_self, if_true, if_false, Bool.false_eq_true, reduceIte, List.mem_cons, List.not_mem_nil, or_false, false_or, reduceCtorEq, Nat.reduceEqDiff, or_self, or_true, true_or, Option.map_some, Option.getD_some, Option.isSome_some, Bool.not_true, Bool.not_false, Bool.and_true, Bool.true_and, Bool.and_eq_true, decide_eq_true_eq, Nat.zero_lt_succ, Nat.lt_add_one, Nat.succ_ne_self, Nat.add_one_ne_zero, not_true_eq_false, not_false_eq_true]
      split
      · refine wD_mono (mix_ok (big_of (by omega) (by omega)) (by decide) (by decide)) ?_ fun _ _ h => h.elim
        rintro d as ⟨v, rfl, h⟩
        exact ⟨v, rfl, h⟩
      · rename_i h
        have : (dr.length : Int) ≠ 0 := by simpa using h
        omega
    · rintro ρ ⟨rfl, hp⟩
      have e0 := Int.emod_nonneg i (by omega : (dr.length : Int) ≠ 0)
      have e1 := Int.emod_lt_of_pos i (by omega : (0 : Int) < dr.length)
      simp only [ws_seq, ws_asg, ws_ret, ws_retN, ws_drop, ws_pass, ws_bk, ws_ct, ws_if, ws_aug, ws_augI, ws_for, wv_cp, wv_mk, wv_share, wv_move, wv_1, wv_2, wv_A, wa_nil, wa_cons, wa_io, wv_tup, wv_lst, wv_call, wv_if, wv_sl, wv_ixN, wv_mt, wv_mut, wv_and, wv_or, wv_not, wv_lc, wi_arg, wb_q, wb_t, wb_v, wb_and, wb_or, wb_not, wb_yes, wq_var, wq_c, wq_2, wq_1, wq_A, wq_lNil, wq_lCons, wq_sl, wo_none, wo_some, wg_item, wg_set, wg_tup, wg_cons, wg_nil, wR_rb, wR_rp, wO_some, wO_none, wO_bind, wO_map, wO_iteN, look_zero, look_succ, Ed.turn, kIx_lst, kIx_tup, kIx_T, atI_0, atI_1, atI_2, atI_3, atI_4, atI_5, atI_6, atI_cast, ixN_0, ixN_1, ixN_2, ixN_3, asI_int, asB_bl, asS_str, oI_int, cT_true, kAdd_int, kAdd_T, kAdd_lst, kAdd_tup, kInt_int, kInt_bl, kMin_int, kMax_int, kLen_lst, kLen_tup, kLen_T, nOw_at, nOw_tup, nOw_lstF, nOw_own, nOws_nil, nOws_cons, nOws_append, nOws_ints, kEq_int, kNe_int, kEq_T, kNe_T, kEq_bl, kIsN_at, kNotN_at, kIsN_nd, kNotN_nd, kList_lst, kList_tup, kTuple_lst, kAppend_one, kSl_lst, kSl_T, kSl_tup, kRng1_int, kRng2_int, isL_own, frz_at, fok_at, frz_lst, fok_lst, frz_tup, fok_tup, kItL_lst, kItT_tup, kItS_T, kZip_lst, kEnum_lst, hole_none, hole_succ, putB_nil, putB_cons, finD_nil, finD_cons, lowE_nil, lowE_cons, lowS_some, lowS_none, wipeE_nil, wipeE_cons, backE_nil, backE_cons, kMod_int, kGe_int, kIn_T, List.map_cons, List.map_nil, List.length_cons, List.length_nil, List.length_map, List.length_set, List.cons_append, List.nil_append, Nat.reduceAdd, Nat.reduceSub, Nat.reduceLT, Nat.reduceLeDiff, Nat.zero_add, List.replicate_succ, List.replicate_zero, List.set_cons_zero, List.set_cons_succ, List.getElem?_cons_zero, List.getElem?_cons_succ, List.getElem?_nil, true_and, and_true, and_self, if_true, if_false, Bool.false_eq_true, reduceIte, List.mem_cons, List.not_mem_nil, or_false, false_or, reduceCtorEq, Nat.reduceEqDiff, or_self, or_true, true_or, Option.map_some, Option.getD_some, Option.isSome_some, Bool.not_true, Bool.not_false, Bool.and_true, Bool.true_and, Bool.and_eq_true, decide_eq_true_eq, Nat.zero_lt_succ, Nat.lt_add_one, Nat.succ_ne_self, Nat.add_one_ne_zero, not_true_eq_false, not_false_eq_true, kMul_int]
      have hi : (i % dr.length).toNat < dr.length := by omega
      rw [atI_pos e0, List.getElem?_map, List.getElem?_eq_getElem hi]
      have hx := hd.2 _ (List.getElem_mem hi)
      simp only [ws_seq, ws_asg, ws_ret, ws_retN, ws_drop, ws_pass, ws_bk, ws_ct, ws_if, ws_aug, ws_augI, ws_for, wv_cp, wv_mk, wv_share, wv_move, wv_1, wv_2, wv_A, wa_nil, wa_cons, wa_io, wv_tup, wv_lst, wv_call, wv_if, wv_sl, wv_ixN, wv_mt, wv_mut, wv_and, wv_or, wv_not, wv_lc, wi_arg, wb_q, wb_t, wb_v, wb_and, wb_or, wb_not, wb_yes, wq_var, wq_c, wq_2, wq_1, wq_A, wq_lNil, wq_lCons, wq_sl, wo_none, wo_some, wg_item, wg_set, wg_tup, wg_cons, wg_nil, wR_rb, wR_rp, wO_some, wO_none, wO_bind, wO_map, wO_iteN, look_zero, look_succ, Ed.turn, kIx_lst, kIx_tup, kIx_T, atI_0, atI_1, atI_2, atI_3, atI_4, atI_5, atI_6, atI_cast, ixN_0, ixN_1, ixN_2, ixN_3, asI_int, asB_bl, asS_str, oI_int, cT_true, kAdd_int, kAdd_T, kAdd_lst, kAdd_tup, kInt_int, kInt_bl, kMin_int, kMax_int, kLen_lst, kLen_tup, kLen_T, nOw_at, nOw_tup, nOw_lstF, nOw_own, nOws_nil, nOws_cons, nOws_append, nOws_ints, kEq_int, kNe_int, kEq_T, kNe_T, kEq_bl, kIsN_at, kNotN_at, kIsN_nd, kNotN_nd, kList_lst, kList_tup, kTuple_lst, kAppend_one, kSl_lst, kSl_T, kSl_tup, kRng1_int, kRng2_int, isL_own, frz_at, fok_at, frz_lst, fok_lst, frz_tup, fok_tup, kItL_lst, kItT_tup, kItS_T, kZip_lst, kEnum_lst, hole_none, hole_succ, putB_nil, putB_cons, finD_nil, finD_cons, lowE_nil, lowE_cons, lowS_some, lowS_none, wipeE_nil, wipeE_cons, backE_nil, backE_cons, kMod_int, kGe_int, kIn_T, List.map_cons, List.map_nil, List.length_cons, List.length_nil, List.length_map, List.length_set, List.cons_append, List.nil_append, Nat.reduceAdd, Nat.reduceSub, Nat.reduceLT, Nat.reduceLeDiff, Nat.zero_add, List.replicate_succ, List.replicate_zero, List.set_cons_zero, List.set_cons_succ, List.getElem?_cons_zero, List.getElem?_cons_succ, List.getElem?_nil, true_and, and_true, and_self, if_true, if_false, Bool.false_eq_true, reduceIte, List.mem_cons, List.not_mem_nil, or_false, false_or, reduceCtorEq, Nat.reduceEqDiff, or_self, or_true, true_or, Option.map_some, Option.getD_some, Option.isSome_some, Bool.not_true, Bool.not_false, Bool.and_true, Bool.true_and, Bool.and_eq_true, decide_eq_true_eq, Nat.zero_lt_succ, Nat.lt_add_one, Nat.succ_ne_self, Nat.add_one_ne_zero, not_true_eq_false, not_false_eq_true, kMul_int]
      refine ⟨cMod_of (by omega), cMul_small h0 (by omega) (by decide) (by decide), ?_⟩
      refine wD_mono (mix_ok (big_of (by omega) (by omega)) h0 (by omega)) ?_ fun _ _ h => h.elim
      rintro d as ⟨v, rfl, h⟩
      exact ⟨v, rfl, h⟩
def encN (dr : List Int) (i : Int) : D := .own [.own (I dr), .at (.int i)]
theorem nOws_I {l : List Int} : (nOws (I l) = true) = True := nOws_ints
theorem frzs_I {l : List Int} : frzs (I l) = I l := frzs_of (of_eq_true nOws_I)
theorem foks_I {l : List Int} : (foks (I l) = true) = True := eq_true (foks_of (of_eq_true nOws_I))
theorem I_snoc {l : List Int} {v : Int} : I l ++ [D.at (.int v)] = I (l ++ [v]) := by simp
theorem bares_I {l : List Int} : (bares (I l) = true) = True := eq_true (by
  rw [bares_all, List.all_map]
  exact List.all_eq_true.mpr fun _ _ => by show bare (D.at _) = true; unfold bare; rfl)
theorem next_ok {dr : List Int} {i lim : Int} (hd : DrOk dr) (h0 : 0 ≤ i) (h1 : i < 900000) (hl : 0 < lim) : wD (F_law_next [encN dr i, .at (.int lim)]) (fun d as => ∃ v : Int, d = .at (.int v) ∧ as = [encN dr (i + 1), .at (.int lim)] ∧ 0 ≤ v ∧ v < lim) fun _ _ => False := by
  refine wD_fn rfl ?_
  unfold b_law_next encN
  simp only [ws_seq, ws_asg, ws_ret, ws_retN, ws_drop, ws_pass, ws_bk, ws_ct, ws_if, ws_aug, ws_augI, ws_for, wv_cp, wv_mk, wv_share, wv_move, wv_1, wv_2, wv_A, wa_nil, wa_cons, wa_io, wv_tup, wv_lst, wv_call, wv_if, wv_sl, wv_ixN, wv_mt, wv_mut, wv_and, wv_or, wv_not, wv_lc, wi_arg, wb_q, wb_t, wb_v, wb_and, wb_or, wb_not, wb_yes, wq_var, wq_c, wq_2, wq_1, wq_A, wq_lNil, wq_lCons, wq_sl, wo_none, wo_some, wg_item, wg_set, wg_tup, wg_cons, wg_nil, wR_rb, wR_rp, wO_some, wO_none, wO_bind, wO_map, wO_iteN, look_zero, look_succ, Ed.turn, kIx_lst, kIx_tup, kIx_T, atI_0, atI_1, atI_2, atI_3, atI_4, atI_5, atI_6, atI_cast, ixN_0, ixN_1, ixN_2, ixN_3, asI_int, asB_bl, asS_str, oI_int, cT_true, kAdd_int, kAdd_T, kAdd_lst, kAdd_tup, kInt_int, kInt_bl, kMin_int, kMax_int, kLen_lst, kLen_tup, kLen_T, nOw_at, nOw_tup, nOw_lstF, nOw_own, nOws_nil, nOws_cons, nOws_append, nOws_ints, kEq_int, kNe_int, kEq_T, kNe_T, kEq_bl, kIsN_at, kNotN_at, kIsN_nd, kNotN_nd, kList_lst, kList_tup, kTuple_lst, kAppend_one, kSl_lst, kSl_T, kSl_tup, kRng1_int, kRng2_int, isL_own, frz_at, fok_at, frz_lst, fok_lst, frz_tup, fok_tup, kItL_lst, kItT_tup, kItS_T, kZip_lst, kEnum_lst, hole_none, hole_succ, putB_nil, putB_cons, finD_nil, finD_cons, lowE_nil, lowE_cons, lowS_some, lowS_none, wipeE_nil, wipeE_cons, backE_nil, backE_cons, kMod_int, kGe_int, kIn_T, List.map_cons, List.map_nil, List.length_cons, List.length_nil, List.length_map, List.length_set, List.cons_append, List.nil_append, Nat.reduceAdd, Nat.reduceSub, Nat.reduceLT, Nat.reduceLeDiff, Nat.zero_add, List.replicate_succ, List.replicate_zero, List.set_cons_zero, List.set_cons_succ, List.getElem?_cons_zero, List.getElem?_cons_succ, List.getElem?_nil, true_and, and_true, and_self, if_true, if_false, Bool.false_eq_true, reduceIte, List.mem_cons, List.not_mem_nil, or_false, false_or, reduceCtorEq, Nat.reduceEqDiff, or_self, or_true, true_or, Option.map_some, Option.getD_some, Option.isSome_some, Bool.not_true, Bool.not_false, Bool.and_true, Bool.true_and, Bool.and_eq_true, decide_eq_true_eq, Nat.zero_lt_succ, Nat.lt_add_one, Nat.succ_ne_self, Nat.add_one_ne_zero, not_true_eq_false, not_false_eq_true, wv_frz, shift_nil, shift_cons, Option.bind_some, wv_mutF, wv_mutV, wv_meth, wv_make, wv_callW, ws_setF, wg_un, kFld_obj, setO_obj, mutO_obj, hasL_obj, isO_obj, asL_own, bare_at, frzs_nil, frzs_cons, foks_nil, foks_cons, foks_I, frzs_I]
  refine wD_mono (at_ok hd (i := i + 1) (by omega) (by omega)) ?_ fun _ _ h => h.elim
  rintro d as ⟨v, rfl, v0, v1⟩
  simp only [ws_seq, ws_asg, ws_ret, ws_retN, ws_drop, ws_pass, ws_bk, ws_ct, ws_if, ws_aug, ws_augI, ws_for, wv_cp, wv_mk, wv_share, wv_move, wv_1, wv_2, wv_A, wa_nil, wa_cons, wa_io, wv_tup, wv_lst, wv_call, wv_if, wv_sl, wv_ixN, wv_mt, wv_mut, wv_and, wv_or, wv_not, wv_lc, wi_arg, wb_q, wb_t, wb_v, wb_and, wb_or, wb_not, wb_yes, wq_var, wq_c, wq_2, wq_1, wq_A, wq_lNil, wq_lCons, wq_sl, wo_none, wo_some, wg_item, wg_set, wg_tup, wg_cons, wg_nil, wR_rb, wR_rp, wO_some, wO_none, wO_bind, wO_map, wO_iteN, look_zero, look_succ, Ed.turn, kIx_lst, kIx_tup, kIx_T, atI_0, atI_1, atI_2, atI_3, atI_4, atI_5, atI_6, atI_cast, ixN_0, ixN_1, ixN_2, ixN_3, asI_int, asB_bl, asS_str, oI_int, cT_true, kAdd_int, kAdd_T, kAdd_lst, kAdd_tup, kInt_int, kInt_bl, kMin_int, kMax_int, kLen_lst, kLen_tup, kLen_T, nOw_at, nOw_tup, nOw_lstF, nOw_own, nOws_nil, nOws_cons, nOws_append, nOws_ints, kEq_int, kNe_int, kEq_T, kNe_T, kEq_bl, kIsN_at, kNotN_at, kIsN_nd, kNotN_nd, kList_lst, kList_tup, kTuple_lst, kAppend_one, kSl_lst, kSl_T, kSl_tup, kRng1_int, kRng2_int, isL_own, frz_at, fok_at, frz_lst, fok_lst, frz_tup, fok_tup, kItL_lst, kItT_tup, kItS_T, kZip_lst, kEnum_lst, hole_none, hole_succ, putB_nil, putB_cons, finD_nil, finD_cons, lowE_nil, lowE_cons, lowS_some, lowS_none, wipeE_nil, wipeE_cons, backE_nil, backE_cons, kMod_int, kGe_int, kIn_T, List.map_cons, List.map_nil, List.length_cons, List.length_nil, List.length_map, List.length_set, List.cons_append, List.nil_append, Nat.reduceAdd, Nat.reduceSub, Nat.reduceLT, Nat.reduceLeDiff, Nat.zero_add, List.replicate_succ, List.replicate_zero, List.set_cons_zero, List.set_cons_succ, List.getElem?_cons_zero, List.getElem?_cons_succ, List.getElem?_nil, true_and, and_true, and_self, if_true, if_false, Bool.false_eq_true, reduceIte, List.mem_cons, List.not_mem_nil, or_false, false_or, reduceCtorEq, Nat.reduceEqDiff, or_self, or_true, true_or, Option.map_some, Option.getD_some, Option.isSome_some, Bool.not_true, Bool.not_false, Bool.and_true, Bool.true_and, Bool.and_eq_true, decide_eq_true_eq, Nat.zero_lt_succ, Nat.lt_add_one, Nat.succ_ne_self, Nat.add_one_ne_zero, not_true_eq_false, not_false_eq_true, wv_frz, shift_nil, shift_cons, Option.bind_some, wv_mutF, wv_mutV, wv_meth, wv_make, wv_callW, ws_setF, wg_un, kFld_obj, setO_obj, mutO_obj, hasL_obj, isO_obj, asL_own, bare_at, frzs_nil, frzs_cons, foks_nil, foks_cons]
  exact ⟨cMod_of hl, _, rfl, Int.emod_nonneg _ (by omega), Int.emod_lt_of_pos _ hl⟩
theorem draws_ok (ns : List Int) (hb : ∀ z ∈ ns, big z) : wD (F_law_draws [.lst (I ns)]) (fun d as => ∃ dr, d = .own (I dr) ∧ DrOk dr) fun _ _ => False := by
  refine wD_fn rfl ?_
  unfold b_law_draws
  refine ws_mid (fun ρ => ρ = [some (.lst (I ns)), some (.own (I [])), none, none, none]) ?_ ?_
  · simp only [ws_seq, ws_asg, ws_ret, ws_retN, ws_drop, ws_pass, ws_bk, ws_ct, ws_if, ws_aug, ws_augI, ws_for, wv_cp, wv_mk, wv_share, wv_move, wv_1, wv_2, wv_A, wa_nil, wa_cons, wa_io, wv_tup, wv_lst, wv_call, wv_if, wv_sl, wv_ixN, wv_mt, wv_mut, wv_and, wv_or, wv_not, wv_lc, wi_arg, wb_q, wb_t, wb_v, wb_and, wb_or, wb_not, wb_yes, wq_var, wq_c, wq_2, wq_1, wq_A, wq_lNil, wq_lCons, wq_sl, wo_none, wo_some, wg_item, wg_set, wg_tup, wg_cons, wg_nil, wR_rb, wR_rp, wO_some, wO_none, wO_bind, wO_map, wO_iteN, look_zero, look_succ, Ed.turn, kIx_lst, kIx_tup, kIx_T, atI_0, atI_1, atI_2, atI_3, atI_4, atI_5, atI_6, atI_cast, ixN_0, ixN_1, ixN_2, ixN_3, asI_int, asB_bl, asS_str, oI_int, cT_true, kAdd_int, kAdd_T, kAdd_lst, kAdd_tup, kInt_int, kInt_bl, kMin_int, kMax_int, kLen_lst, kLen_tup, kLen_T, nOw_at, nOw_tup, nOw_lstF, nOw_own, nOws_nil, nOws_cons, nOws_append, nOws_ints, kEq_int, kNe_int, kEq_T, kNe_T, kEq_bl, kIsN_at, kNotN_at, kIsN_nd, kNotN_nd, kList_lst, kList_tup, kTuple_lst, kAppend_one, kSl_lst, kSl_T, kSl_tup, kRng1_int, kRng2_int, isL_own, frz_at, fok_at, frz_lst, fok_lst, frz_tup, fok_tup, kItL_lst, kItT_tup, kItS_T, kZip_lst, kEnum_lst, hole_none, hole_succ, putB_nil, putB_cons, finD_nil, finD_cons, lowE_nil, lowE_cons, lowS_some, lowS_none, wipeE_nil, wipeE_cons, backE_nil, backE_cons, kMod_int, kGe_int, kIn_T, List.map_cons, List.map_nil, List.length_cons, List.length_nil, List.length_map, List.length_set, List.cons_append, List.nil_append, Nat.reduceAdd, Nat.reduceSub, Nat.reduceLT, Nat.reduceLeDiff, Nat.zero_add, List.replicate_succ, List.replicate_zero, List.set_cons_zero, List.set_cons_succ, List.getElem?_cons_zero, List.getElem?_cons_succ, List.getElem?_nil, true_and, and_true, and_self, if_true, if_false, Bool.false_eq_true, reduceIte, List.mem_cons, List.not_mem_nil, or_false, false_or, reduceCtorEq, Nat.reduceEqDiff, or_self, or_true, true_or, Option.map_some, Option.getD_some, Option.isSome_some, Bool.not_true, Bool.not_false, Bool.and_true, Bool.true_and, Bool.and_eq_true, decide_eq_true_eq, Nat.zero_lt_succ, Nat.lt_add_one, Nat.succ_ne_self, Nat.add_one_ne_zero, not_true_eq_false, not_false_eq_true, wv_frz, shift_nil, shift_cons, Option.bind_some, wv_mutF, wv_mutV, wv_meth, wv_make, wv_callW, ws_setF, wg_un, kFld_obj, setO_obj, mutO_obj, hasL_obj, isO_obj, asL_own, bare_at, frzs_nil, frzs_cons, foks_nil, foks_cons]
    decide
  rintro ρ rfl
  refine ws_mid (fun ρ => ∃ dr x y z, DrOk dr ∧ ρ = [some (.lst (I ns)), some (.own (I dr)), x, y, z]) ?_ ?_
  · simp only [ws_seq, ws_asg, ws_ret, ws_retN, ws_drop, ws_pass, ws_bk, ws_ct, ws_if, ws_aug, ws_augI, ws_for, wv_cp, wv_mk, wv_share, wv_move, wv_1, wv_2, wv_A, wa_nil, wa_cons, wa_io, wv_tup, wv_lst, wv_call, wv_if, wv_sl, wv_ixN, wv_mt, wv_mut, wv_and, wv_or, wv_not, wv_lc, wi_arg, wb_q, wb_t, wb_v, wb_and, wb_or, wb_not, wb_yes, wq_var, wq_c, wq_2, wq_1, wq_A, wq_lNil, wq_lCons, wq_sl, wo_none, wo_some, wg_item, wg_set, wg_tup, wg_cons, wg_nil, wR_rb, wR_rp, wO_some, wO_none, wO_bind, wO_map, wO_iteN, look_zero, look_succ, Ed.turn, kIx_lst, kIx_tup, kIx_T, atI_0, atI_1, atI_2, atI_3, atI_4, atI_5, atI_6, atI_cast, ixN_0, ixN_1, ixN_2, ixN_3, asI_int, asB_bl, asS_str, oI_int, cT_true, kAdd_int, kAdd_T, kAdd_lst, kAdd_tup, kInt_int, kInt_bl, kMin_int, kMax_int, kLen_lst, kLen_tup, kLen_T, nOw_at, nOw_tup, nOw_lstF, nOw_own, nOws_nil, nOws_cons, nOws_append, nOws_ints, kEq_int, kNe_int, kEq_T, kNe_T, kEq_bl, kIsN_at, kNotN_at, kIsN_nd, kNotN_nd, kList_lst, kList_tup, kTuple_lst, kAppend_one, kSl_lst, kSl_T, kSl_tup, kRng1_int, kRng2_int, isL_own, frz_at, fok_at, frz_lst, fok_lst, frz_tup, fok_tup, kItL_lst, kItT_tup, kItS_T, kZip_lst, kEnum_lst, hole_none, hole_succ, putB_nil, putB_cons, finD_nil, finD_cons, lowE_nil, lowE_cons, lowS_some, lowS_none, wipeE_nil, wipeE_cons, backE_nil, backE_cons, kMod_int, kGe_int, kIn_T, List.map_cons, List.map_nil, List.length_cons, List.length_nil, List.length_map, List.length_set, List.cons_append, List.nil_append, Nat.reduceAdd, Nat.reduceSub, Nat.reduceLT, Nat.reduceLeDiff, Nat.zero_add, List.replicate_succ, List.replicate_zero, List.set_cons_zero, List.set_cons_succ, List.getElem?_cons_zero, List.getElem?_cons_succ, List.getElem?_nil, true_and, and_true, and_self, if_true, if_false, Bool.false_eq_true, reduceIte, List.mem_cons, List.not_mem_nil, or_false, false_or, reduceCtorEq, Nat.reduceEqDiff, or_self, or_true, true_or, Option.map_some, Option.getD_some, Option.isSome_some, Bool.not_true, Bool.not_false, Bool.and_true, Bool.true_and, Bool.and_eq_true, decide_eq_true_eq, Nat.zero_lt_succ, Nat.lt_add_one, Nat.succ_ne_self, Nat.add_one_ne_zero, not_true_eq_false, not_false_eq_true, wv_frz, shift_nil, shift_cons, Option.bind_some, wv_mutF, wv_mutV, wv_meth, wv_make, wv_callW, ws_setF, wg_un, kFld_obj, setO_obj, mutO_obj, hasL_obj, isO_obj, asL_own, bare_at, frzs_nil, frzs_cons, foks_nil, foks_cons, kMin_int]
    refine ⟨by split <;> omega, w_for (fun n ρ => ∃ dr x y z, dr.length ≤ 60 * n ∧ (∀ x ∈ dr, 0 ≤ x ∧ x < 9973) ∧ ρ = [some (.lst (I ns)), some (.own (I dr)), x, y, z]) ⟨[], none, none, none, by simp, (fun _ h => nomatch h), rfl⟩ ?_ ?_⟩
    · rintro n d ρ hd ⟨dr, x, y, z, hl, hr, rfl⟩
      obtain ⟨hn, rfl⟩ := rngD_get hd
      have hn1 : n < 63 ∧ n < ns.length := by
        split at hn <;> omega
      simp only [wg_set]
      refine ⟨by simp, ws_mid (fun ρ => ∃ c, big c ∧ ρ = [some (.lst (I ns)), some (.own (I dr)), some (.at (.int n)), some (.at (.int c)), z]) ?_ ?_⟩
      · simp only [ws_seq, ws_asg, ws_ret, ws_retN, ws_drop, ws_pass, ws_bk, ws_ct, ws_if, ws_aug, ws_augI, ws_for, wv_cp, wv_mk, wv_share, wv_move, wv_1, wv_2, wv_A, wa_nil, wa_cons, wa_io, wv_tup, wv_lst, wv_call, wv_if, wv_sl, wv_ixN, wv_mt, wv_mut, wv_and, wv_or, wv_not, wv_lc, wi_arg, wb_q, wb_t, wb_v, wb_and, wb_or, wb_not, wb_yes, wq_var, wq_c, wq_2, wq_1, wq_A, wq_lNil, wq_lCons, wq_sl, wo_none, wo_some, wg_item, wg_set, wg_tup, wg_cons, wg_nil, wR_rb, wR_rp, wO_some, wO_none, wO_bind, wO_map, wO_iteN, look_zero, look_succ, Ed.turn, kIx_lst, kIx_tup, kIx_T, atI_0, atI_1, atI_2, atI_3, atI_4, atI_5, atI_6, atI_cast, ixN_0, ixN_1, ixN_2, ixN_3, asI_int, asB_bl, asS_str, oI_int, cT_true, kAdd_int, kAdd_T, kAdd_lst, kAdd_tup, kInt_int, kInt_bl, kMin_int, kMax_int, kLen_lst, kLen_tup, kLen_T, nOw_at, nOw_tup, nOw_lstF, nOw_own, nOws_nil, nOws_cons, nOws_append, nOws_ints, kEq_int, kNe_int, kEq_T, kNe_T, kEq_bl, kIsN_at, kNotN_at, kIsN_nd, kNotN_nd, kList_lst, kList_tup, kTuple_lst, kAppend_one, kSl_lst, kSl_T, kSl_tup, kRng1_int, kRng2_int, isL_own, frz_at, fok_at, frz_lst, fok_lst, frz_tup, fok_tup, kItL_lst, kItT_tup, kItS_T, kZip_lst, kEnum_lst, hole_none, hole_succ, putB_nil, putB_cons, finD_nil, finD_cons, lowE_nil, lowE_cons, lowS_some, lowS_none, wipeE_nil, wipeE_cons, backE_nil, backE_cons, kMod_int, kGe_int, kIn_T, List.map_cons, List.map_nil, List.length_cons, List.length_nil, List.length_map, List.length_set, List.cons_append, List.nil_append, Nat.reduceAdd, Nat.reduceSub, Nat.reduceLT, Nat.reduceLeDiff, Nat.zero_add, List.replicate_succ, List.replicate_zero, List.set_cons_zero, List.set_cons_succ, List.getElem?_cons_zero, List.getElem?_cons_succ, List.getElem?_nil, true_and, and_true, and_self, if_true, if_false, Bool.false_eq_true, reduceIte, List.mem_cons, List.not_mem_nil, or_false, false_or, reduceCtorEq, Nat.reduceEqDiff, or_self, or_true, true_or, Option.map_some, Option.getD_some, Option.isSome_some, Bool.not_true, Bool.not_false, Bool.and_true, Bool.true_and, Bool.and_eq_true, decide_eq_true_eq, Nat.zero_lt_succ, Nat.lt_add_one, Nat.succ_ne_self, Nat.add_one_ne_zero, not_true_eq_false, not_false_eq_true, wv_frz, shift_nil, shift_cons, Option.bind_some, wv_mutF, wv_mutV, wv_meth, wv_make, wv_callW, ws_setF, wg_un, kFld_obj, setO_obj, mutO_obj, hasL_obj, isO_obj, asL_own, bare_at, frzs_nil, frzs_cons, foks_nil, foks_cons]
        rw [atI_pos (by omega), Int.zero_add, Int.toNat_natCast, List.getElem?_map, List.getElem?_eq_getElem hn1.2]
        simp only [ws_seq, ws_asg, ws_ret, ws_retN, ws_drop, ws_pass, ws_bk, ws_ct, ws_if, ws_aug, ws_augI, ws_for, wv_cp, wv_mk, wv_share, wv_move, wv_1, wv_2, wv_A, wa_nil, wa_cons, wa_io, wv_tup, wv_lst, wv_call, wv_if, wv_sl, wv_ixN, wv_mt, wv_mut, wv_and, wv_or, wv_not, wv_lc, wi_arg, wb_q, wb_t, wb_v, wb_and, wb_or, wb_not, wb_yes, wq_var, wq_c, wq_2, wq_1, wq_A, wq_lNil, wq_lCons, wq_sl, wo_none, wo_some, wg_item, wg_set, wg_tup, wg_cons, wg_nil, wR_rb, wR_rp, wO_some, wO_none, wO_bind, wO_map, wO_iteN, look_zero, look_succ, Ed.turn, kIx_lst, kIx_tup, kIx_T, atI_0, atI_1, atI_2, atI_3, atI_4, atI_5, atI_6, atI_cast, ixN_0, ixN_1, ixN_2, ixN_3, asI_int, asB_bl, asS_str, oI_int, cT_true, kAdd_int, kAdd_T, kAdd_lst, kAdd_tup, kInt_int, kInt_bl, kMin_int, kMax_int, kLen_lst, kLen_tup, kLen_T, nOw_at, nOw_tup, nOw_lstF, nOw_own, nOws_nil, nOws_cons, nOws_append, nOws_ints, kEq_int, kNe_int, kEq_T, kNe_T, kEq_bl, kIsN_at, kNotN_at, kIsN_nd, kNotN_nd, kList_lst, kList_tup, kTuple_lst, kAppend_one, kSl_lst, kSl_T, kSl_tup, kRng1_int, kRng2_int, isL_own, frz_at, fok_at, frz_lst, fok_lst, frz_tup, fok_tup, kItL_lst, kItT_tup, kItS_T, kZip_lst, kEnum_lst, hole_none, hole_succ, putB_nil, putB_cons, finD_nil, finD_cons, lowE_nil, lowE_cons, lowS_some, lowS_none, wipeE_nil, wipeE_cons, backE_nil, backE_cons, kMod_int, kGe_int, kIn_T, List.map_cons, List.map_nil, List.length_cons, List.length_nil, List.length_map, List.length_set, List.cons_append, List.nil_append, Nat.reduceAdd, Nat.reduceSub, Nat.reduceLT, Nat.reduceLeDiff, Nat.zero_add, List.replicate_succ, List.replicate_zero, List.set_cons_zero, List.set_cons_succ, List.getElem?_cons_zero, List.getElem?_cons_succ, List.getElem?_nil, true_and, and_true, and_self, if_true, if_false, Bool.false_eq_true, reduceIte, List.mem_cons, List.not_mem_nil, or_false, false_or, reduceCtorEq, Nat.reduceEqDiff, or_self, or_true, true_or, Option.map_some, Option.getD_some, Option.isSome_some, Bool.not_true, Bool.not_false, Bool.and_true, Bool.true_and, Bool.and_eq_true, decide_eq_true_eq, Nat.zero_lt_succ, Nat.lt_add_one, Nat.succ_ne_self, Nat.add_one_ne_zero, not_true_eq_false, not_false_eq_true, wv_frz, shift_nil, shift_cons, Option.bind_some, wv_mutF, wv_mutV, wv_meth, wv_make, wv_callW, ws_setF, wg_un, kFld_obj, setO_obj, mutO_obj, hasL_obj, isO_obj, asL_own, bare_at, frzs_nil, frzs_cons, foks_nil, foks_cons]
        exact ⟨_, hb _ (List.getElem_mem hn1.2), rfl⟩
      · rintro ρ ⟨c, hc, rfl⟩
        simp only [ws_seq, ws_asg, ws_ret, ws_retN, ws_drop, ws_pass, ws_bk, ws_ct, ws_if, ws_aug, ws_augI, ws_for, wv_cp, wv_mk, wv_share, wv_move, wv_1, wv_2, wv_A, wa_nil, wa_cons, wa_io, wv_tup, wv_lst, wv_call, wv_if, wv_sl, wv_ixN, wv_mt, wv_mut, wv_and, wv_or, wv_not, wv_lc, wi_arg, wb_q, wb_t, wb_v, wb_and, wb_or, wb_not, wb_yes, wq_var, wq_c, wq_2, wq_1, wq_A, wq_lNil, wq_lCons, wq_sl, wo_none, wo_some, wg_item, wg_set, wg_tup, wg_cons, wg_nil, wR_rb, wR_rp, wO_some, wO_none, wO_bind, wO_map, wO_iteN, look_zero, look_succ, Ed.turn, kIx_lst, kIx_tup, kIx_T, atI_0, atI_1, atI_2, atI_3, atI_4, atI_5, atI_6, atI_cast, ixN_0, ixN_1, ixN_2, ixN_3, asI_int, asB_bl, asS_str, oI_int, cT_true, kAdd_int, kAdd_T, kAdd_lst, kAdd_tup, kInt_int, kInt_bl, kMin_int, kMax_int, kLen_lst, kLen_tup, kLen_T, nOw_at, nOw_tup, nOw_lstF, nOw_own, nOws_nil, nOws_cons, nOws_append, nOws_ints, kEq_int, kNe_int, kEq_T, kNe_T, kEq_bl, kIsN_at, kNotN_at, kIsN_nd, kNotN_nd, kList_lst, kList_tup, kTuple_lst, kAppend_one, kSl_lst, kSl_T, kSl_tup, kRng1_int, kRng2_int, isL_own, frz_at, fok_at, frz_lst, fok_lst, frz_tup, fok_tup, kItL_lst, kItT_tup, kItS_T, kZip_lst, kEnum_lst, hole_none, hole_succ, putB_nil, putB_cons, finD_nil, finD_cons, lowE_nil, lowE_cons, lowS_some, lowS_none, wipeE_nil, wipeE_cons, backE_nil, backE_cons, kMod_int, kGe_int, kIn_T, List.map_cons, List.map_nil, List.length_cons, List.length_nil, List.length_map, List.length_set, List.cons_append, List.nil_append, Nat.reduceAdd, Nat.reduceSub, Nat.reduceLT, Nat.reduceLeDiff, Nat.zero_add, List.replicate_succ, List.replicate_zero, List.set_cons_zero, List.set_cons_succ, List.getElem?_cons_zero, List.getElem?_cons_succ, List.getElem?_nil, true_and, and_true, and_self, if_true, if_false, Bool.false_eq_true, reduceIte, List.mem_cons, List.not_mem_nil, or_false, false_or, reduceCtorEq, Nat.reduceEqDiff, or_self, or_true, true_or, Option.map_some, Option.getD_some, Option.isSome_some, Bool.not_true, Bool.not_false, Bool.and_true, Bool.true_and, Bool.and_eq_true, decide_eq_true_eq, Nat.zero_lt_succ, Nat.lt_add_one, Nat.succ_ne_self, Nat.add_one_ne_zero, not_true_eq_false, not_false_eq_true, wv_frz, shift_nil, shift_cons, Option.bind_some, wv_mutF, wv_mutV, wv_meth, wv_make, wv_callW, ws_setF, wg_un, kFld_obj, setO_obj, mutO_obj, hasL_obj, isO_obj, asL_own, bare_at, frzs_nil, frzs_cons, foks_nil, foks_cons, kLt_int]
        refine ⟨by decide, ?_⟩
        split
        · refine wD_mono (mix_ok hc (by omega) (by omega)) ?_ fun _ _ h => h.elim
          rintro d as ⟨v, rfl, v0, v1⟩
          refine ⟨by simp only [sizeLine]; omega, dr ++ [v], _, _, _, by simp; omega, ?_, by rw [I_snoc]⟩
          intro w hw
          rcases List.mem_append.mp hw with hw | hw
          · exact hr w hw
          · cases List.mem_singleton.mp hw; exact ⟨v0, v1⟩
        · refine ⟨by decide, w_for (fun m ρ => ∃ (dr : List Int) (c : Int) (z : Option D), dr.length ≤ 60 * n + m ∧ (∀ x ∈ dr, 0 ≤ x ∧ x < 9973) ∧ ρ = [some (.lst (I ns)), some (.own (I dr)), some (.at (.int n)), some (.at (.int c)), z]) ⟨dr, c, z, by omega, hr, rfl⟩ ?_ ?_⟩
          · rintro m d ρ hd ⟨dr, c, z, hl, hr, rfl⟩
            obtain ⟨hm, rfl⟩ := rngD_get hd
            have hm : m < 60 := hm
            simp only [ws_seq, ws_asg, ws_ret, ws_retN, ws_drop, ws_pass, ws_bk, ws_ct, ws_if, ws_aug, ws_augI, ws_for, wv_cp, wv_mk, wv_share, wv_move, wv_1, wv_2, wv_A, wa_nil, wa_cons, wa_io, wv_tup, wv_lst, wv_call, wv_if, wv_sl, wv_ixN, wv_mt, wv_mut, wv_and, wv_or, wv_not, wv_lc, wi_arg, wb_q, wb_t, wb_v, wb_and, wb_or, wb_not, wb_yes, wq_var, wq_c, wq_2, wq_1, wq_A, wq_lNil, wq_lCons, wq_sl, wo_none, wo_some, wg_item, wg_set, wg_tup, wg_cons, wg_nil, wR_rb, wR_rp, wO_some, wO_none, wO_bind, wO_map, wO_iteN, look_zero, look_succ, Ed.turn, kIx_lst, kIx_tup, kIx_T, atI_0, atI_1, atI_2, atI_3, atI_4, atI_5, atI_6, atI_cast, ixN_0, ixN_1, ixN_2, ixN_3, asI_int, asB_bl, asS_str, oI_int, cT_true, kAdd_int, kAdd_T, kAdd_lst, kAdd_tup, kInt_int, kInt_bl, kMin_int, kMax_int, kLen_lst, kLen_tup, kLen_T, nOw_at, nOw_tup, nOw_lstF, nOw_own, nOws_nil, nOws_cons, nOws_append, nOws_ints, kEq_int, kNe_int, kEq_T, kNe_T, kEq_bl, kIsN_at, kNotN_at, kIsN_nd, kNotN_nd, kList_lst, kList_tup, kTuple_lst, kAppend_one, kSl_lst, kSl_T, kSl_tup, kRng1_int, kRng2_int, isL_own, frz_at, fok_at, frz_lst, fok_lst, frz_tup, fok_tup, kItL_lst, kItT_tup, kItS_T, kZip_lst, kEnum_lst, hole_none, hole_succ, putB_nil, putB_cons, finD_nil, finD_cons, lowE_nil, lowE_cons, lowS_some, lowS_none, wipeE_nil, wipeE_cons, backE_nil, backE_cons, kMod_int, kGe_int, kIn_T, List.map_cons, List.map_nil, List.length_cons, List.length_nil, List.length_map, List.length_set, List.cons_append, List.nil_append, Nat.reduceAdd, Nat.reduceSub, Nat.reduceLT, Nat.reduceLeDiff, Nat.zero_add, List.replicate_succ, List.replicate_zero, List.set_cons_zero, List.set_cons_succ, List.getElem?_cons_zero, List.getElem?_cons_succ, List.getElem?_nil, true_and, and_true, and_self, if_true, if_false, Bool.false_eq_true, reduceIte, List.mem_cons, List.not_mem_nil, or_false, false_or, reduceCtorEq, Nat.reduceEqDiff, or_self, or_true, true_or, Option.map_some, Option.getD_some, Option.isSome_some, Bool.not_true, Bool.not_false, Bool.and_true, Bool.true_and, Bool.and_eq_true, decide_eq_true_eq, Nat.zero_lt_succ, Nat.lt_add_one, Nat.succ_ne_self, Nat.add_one_ne_zero, not_true_eq_false, not_false_eq_true, wv_frz, shift_nil, shift_cons, Option.bind_some, wv_mutF, wv_mutV, wv_meth, wv_make, wv_callW, ws_setF, wg_un, kFld_obj, setO_obj, mutO_obj, hasL_obj, isO_obj, asL_own, bare_at, frzs_nil, frzs_cons, foks_nil, foks_cons, kGt_int]
            split
            · refine ⟨cMod_of (by decide), by simp only [sizeLine]; omega, cFdiv_of (by decide) (by decide), dr ++ [c % 9973], _, _, by simp; omega, ?_, by rw [I_snoc]⟩
              intro w hw
              rcases List.mem_append.mp hw with hw | hw
              · exact hr w hw
              · cases List.mem_singleton.mp hw; exact ⟨Int.emod_nonneg _ (by decide), Int.emod_lt_of_pos _ (by decide)⟩
            · exact ⟨dr, c, _, by omega, hr, rfl⟩
          · rintro ρ ⟨dr, c, z, hl, hr, rfl⟩
            rw [rngD_length] at hl
            have : (Int.toNat 60) = 60 := rfl
            exact ⟨dr, _, _, _, by omega, hr, rfl⟩
    · rintro ρ ⟨dr, x, y, z, hl, hr, rfl⟩
      rw [rngD_length] at hl
      have : (if (ns.length : Int) < 63 then (ns.length : Int) else 63).toNat ≤ 63 := by split <;> omega
      exact ⟨dr, x, y, z, ⟨by omega, hr⟩, rfl⟩
  · rintro ρ ⟨dr, x, y, z, hd, rfl⟩
    simp only [ws_seq, ws_asg, ws_ret, ws_retN, ws_drop, ws_pass, ws_bk, ws_ct, ws_if, ws_aug, ws_augI, ws_for, wv_cp, wv_mk, wv_share, wv_move, wv_1, wv_2, wv_A, wa_nil, wa_cons, wa_io, wv_tup, wv_lst, wv_call, wv_if, wv_sl, wv_ixN, wv_mt, wv_mut, wv_and, wv_or, wv_not, wv_lc, wi_arg, wb_q, wb_t, wb_v, wb_and, wb_or, wb_not, wb_yes, wq_var, wq_c, wq_2, wq_1, wq_A, wq_lNil, wq_lCons, wq_sl, wo_none, wo_some, wg_item, wg_set, wg_tup, wg_cons, wg_nil, wR_rb, wR_rp, wO_some, wO_none, wO_bind, wO_map, wO_iteN, look_zero, look_succ, Ed.turn, kIx_lst, kIx_tup, kIx_T, atI_0, atI_1, atI_2, atI_3, atI_4, atI_5, atI_6, atI_cast, ixN_0, ixN_1, ixN_2, ixN_3, asI_int, asB_bl, asS_str, oI_int, cT_true, kAdd_int, kAdd_T, kAdd_lst, kAdd_tup, kInt_int, kInt_bl, kMin_int, kMax_int, kLen_lst, kLen_tup, kLen_T, nOw_at, nOw_tup, nOw_lstF, nOw_own, nOws_nil, nOws_cons, nOws_append, nOws_ints, kEq_int, kNe_int, kEq_T, kNe_T, kEq_bl, kIsN_at, kNotN_at, kIsN_nd, kNotN_nd, kList_lst, kList_tup, kTuple_lst, kAppend_one, kSl_lst, kSl_T, kSl_tup, kRng1_int, kRng2_int, isL_own, frz_at, fok_at, frz_lst, fok_lst, frz_tup, fok_tup, kItL_lst, kItT_tup, kItS_T, kZip_lst, kEnum_lst, hole_none, hole_succ, putB_nil, putB_cons, finD_nil, finD_cons, lowE_nil, lowE_cons, lowS_some, lowS_none, wipeE_nil, wipeE_cons, backE_nil, backE_cons, kMod_int, kGe_int, kIn_T, List.map_cons, List.map_nil, List.length_cons, List.length_nil, List.length_map, List.length_set, List.cons_append, List.nil_append, Nat.reduceAdd, Nat.reduceSub, Nat.reduceLT, Nat.reduceLeDiff, Nat.zero_add, List.replicate_succ, List.replicate_zero, List.set_cons_zero, List.set_cons_succ, List.getElem?_cons_zero, List.getElem?_cons_succ, List.getElem?_nil, true_and, and_true, and_self, if_true, if_false, Bool.false_eq_true, reduceIte, List.mem_cons, List.not_mem_nil, or_false, false_or, reduceCtorEq, Nat.reduceEqDiff, or_self, or_true, true_or, Option.map_some, Option.getD_some, Option.isSome_some, Bool.not_true, Bool.not_false, Bool.and_true, Bool.true_and, Bool.and_eq_true, decide_eq_true_eq, Nat.zero_lt_succ, Nat.lt_add_one, Nat.succ_ne_self, Nat.add_one_ne_zero, not_true_eq_false, not_false_eq_true, wv_frz, shift_nil, shift_cons, Option.bind_some, wv_mutF, wv_mutV, wv_meth, wv_make, wv_callW, ws_setF, wg_un, kFld_obj, setO_obj, mutO_obj, hasL_obj, isO_obj, asL_own, bare_at, frzs_nil, frzs_cons, foks_nil, foks_cons]
    exact ⟨dr, rfl, hd⟩
theorem isint_ok {i : Int} : wD (F_law_is_integer [.at (.int i)]) (fun d as => d = .at (.bl true) ∧ as = [.at (.int i)]) fun _ _ => False := by
  refine wD_fn rfl ?_
  unfold b_law_is_integer
  simp only [ws_seq, ws_asg, ws_ret, ws_retN, ws_drop, ws_pass, ws_bk, ws_ct, ws_if, ws_aug, ws_augI, ws_for, wv_cp, wv_mk, wv_share, wv_move, wv_1, wv_2, wv_A, wa_nil, wa_cons, wa_io, wv_tup, wv_lst, wv_call, wv_if, wv_sl, wv_ixN, wv_mt, wv_mut, wv_and, wv_or, wv_not, wv_lc, wi_arg, wb_q, wb_t, wb_v, wb_and, wb_or, wb_not, wb_yes, wq_var, wq_c, wq_2, wq_1, wq_A, wq_lNil, wq_lCons, wq_sl, wo_none, wo_some, wg_item, wg_set, wg_tup, wg_cons, wg_nil, wR_rb, wR_rp, wO_some, wO_none, wO_bind, wO_map, wO_iteN, look_zero, look_succ, Ed.turn, kIx_lst, kIx_tup, kIx_T, atI_0, atI_1, atI_2, atI_3, atI_4, atI_5, atI_6, atI_cast, ixN_0, ixN_1, ixN_2, ixN_3, asI_int, asB_bl, asS_str, oI_int, cT_true, kAdd_int, kAdd_T, kAdd_lst, kAdd_tup, kInt_int, kInt_bl, kMin_int, kMax_int, kLen_lst, kLen_tup, kLen_T, nOw_at, nOw_tup, nOw_lstF, nOw_own, nOws_nil, nOws_cons, nOws_append, nOws_ints, kEq_int, kNe_int, kEq_T, kNe_T, kEq_bl, kIsN_at, kNotN_at, kIsN_nd, kNotN_nd, kList_lst, kList_tup, kTuple_lst, kAppend_one, kSl_lst, kSl_T, kSl_tup, kRng1_int, kRng2_int, isL_own, frz_at, fok_at, frz_lst, fok_lst, frz_tup, fok_tup, kItL_lst, kItT_tup, kItS_T, kZip_lst, kEnum_lst, hole_none, hole_succ, putB_nil, putB_cons, finD_nil, finD_cons, lowE_nil, lowE_cons, lowS_some, lowS_none, wipeE_nil, wipeE_cons, backE_nil, backE_cons, kMod_int, kGe_int, kIn_T, List.map_cons, List.map_nil, List.length_cons, List.length_nil, List.length_map, List.length_set, List.cons_append, List.nil_append, Nat.reduceAdd, Nat.reduceSub, Nat.reduceLT, Nat.reduceLeDiff, Nat.zero_add, List.replicate_succ, List.replicate_zero, List.set_cons_zero, List.set_cons_succ, List.getElem?_cons_zero, List.getElem?_cons_succ, List.getElem?_nil, true_and, and_true, and_self, if_true, if_false, Bool.false_eq_true, reduceIte, List.mem_cons, List.not_mem_nil, or_false, false_or, reduceCtorEq, Nat.reduceEqDiff, or_self, or_true, true_or, Option.map_some, Option.getD_some, Option.isSome_some, Bool.not_true, Bool.not_false, Bool.and_true, Bool.true_and, Bool.and_eq_true, decide_eq_true_eq, Nat.zero_lt_succ, Nat.lt_add_one, Nat.succ_ne_self, Nat.add_one_ne_zero, not_true_eq_false, not_false_eq_true, wv_frz, shift_nil, shift_cons, Option.bind_some, wv_mutF, wv_mutV, wv_meth, wv_make, wv_callW, ws_setF, wg_un, kFld_obj, setO_obj, mutO_obj, hasL_obj, isO_obj, asL_own, bare_at, frzs_nil, frzs_cons, foks_nil, foks_cons, isi_ii, isi_ib]
theorem kNe_bl {c d : Bool} : kNe (.at (.bl c)) (.at (.bl d)) = some (.at (.bl (!(c == d)))) := rfl
theorem same_ok : ∀ {n : Nat} {d : D}, Pl n d → wD (F_law_same n [d, d]) (fun r as => r = .at (.bl true)) fun _ _ => False := by
  intro n d h
  induction h with
  | non =>
    refine wD_fn rfl ?_
    unfold b_law_same
    simp only [ws_seq, ws_asg, ws_ret, ws_retN, ws_drop, ws_pass, ws_bk, ws_ct, ws_if, ws_aug, ws_augI, ws_for, wv_cp, wv_mk, wv_share, wv_move, wv_1, wv_2, wv_A, wa_nil, wa_cons, wa_io, wv_tup, wv_lst, wv_call, wv_if, wv_sl, wv_ixN, wv_mt, wv_mut, wv_and, wv_or, wv_not, wv_lc, wi_arg, wb_q, wb_t, wb_v, wb_and, wb_or, wb_not, wb_yes, wq_var, wq_c, wq_2, wq_1, wq_A, wq_lNil, wq_lCons, wq_sl, wo_none, wo_some, wg_item, wg_set, wg_tup, wg_cons, wg_nil, wR_rb, wR_rp, wO_some, wO_none, wO_bind, wO_map, wO_iteN, look_zero, look_succ, Ed.turn, kIx_lst, kIx_tup, kIx_T, atI_0, atI_1, atI_2, atI_3, atI_4, atI_5, atI_6, atI_cast, ixN_0, ixN_1, ixN_2, ixN_3, asI_int, asB_bl, asS_str, oI_int, cT_true, kAdd_int, kAdd_T, kAdd_lst, kAdd_tup, kInt_int, kInt_bl, kMin_int, kMax_int, kLen_lst, kLen_tup, kLen_T, nOw_at, nOw_tup, nOw_lstF, nOw_own, nOws_nil, nOws_cons, nOws_append, nOws_ints, kEq_int, kNe_int, kEq_T, kNe_T, kEq_bl, kIsN_at, kNotN_at, kIsN_nd, kNotN_nd, kList_lst, kList_tup, kTuple_lst, kAppend_one, kSl_lst, kSl_T, kSl_tup, kRng1_int, kRng2_int, isL_own, frz_at, fok_at, frz_lst, fok_lst, frz_tup, fok_tup, kItL_lst, kItT_tup, kItS_T, kZip_lst, kEnum_lst, hole_none, hole_succ, putB_nil, putB_cons, finD_nil, finD_cons, lowE_nil, lowE_cons, lowS_some, lowS_none, wipeE_nil, wipeE_cons, backE_nil, backE_cons, kMod_int, kGe_int, kIn_T, List.map_cons, List.map_nil, List.length_cons, List.length_nil, List.length_map, List.length_set, List.cons_append, List.nil_append, Nat.reduceAdd, Nat.reduceSub, Nat.reduceLT, Nat.reduceLeDiff, Nat.zero_add, List.replicate_succ, List.replicate_zero, List.set_cons_zero, List.set_cons_succ, List.getElem?_cons_zero, List.getElem?_cons_succ, List.getElem?_nil, true_and, and_true, and_self, if_true, if_false, Bool.false_eq_true, reduceIte, List.mem_cons, List.not_mem_nil, or_false, false_or, reduceCtorEq, Nat.reduceEqDiff, or_self, or_true, true_or, Option.map_some, Option.getD_some, Option.isSome_some, Bool.not_true, Bool.not_false, Bool.and_true, Bool.true_and, Bool.and_eq_true, decide_eq_true_eq, Nat.zero_lt_succ, Nat.lt_add_one, Nat.succ_ne_self, Nat.add_one_ne_zero, not_true_eq_false, not_false_eq_true, wv_frz, shift_nil, shift_cons, Option.bind_some, wv_mutF, wv_mutV, wv_meth, wv_make, wv_callW, ws_setF, wg_un, kFld_obj, setO_obj, mutO_obj, hasL_obj, isO_obj, asL_own, bare_at, frzs_nil, frzs_cons, foks_nil, foks_cons, isi2_n]
    simp [sizeLine]
  | int =>
    refine wD_fn rfl ?_
    unfold b_law_same
    simp only [ws_seq, ws_asg, ws_ret, ws_retN, ws_drop, ws_pass, ws_bk, ws_ct, ws_if, ws_aug, ws_augI, ws_for, wv_cp, wv_mk, wv_share, wv_move, wv_1, wv_2, wv_A, wa_nil, wa_cons, wa_io, wv_tup, wv_lst, wv_call, wv_if, wv_sl, wv_ixN, wv_mt, wv_mut, wv_and, wv_or, wv_not, wv_lc, wi_arg, wb_q, wb_t, wb_v, wb_and, wb_or, wb_not, wb_yes, wq_var, wq_c, wq_2, wq_1, wq_A, wq_lNil, wq_lCons, wq_sl, wo_none, wo_some, wg_item, wg_set, wg_tup, wg_cons, wg_nil, wR_rb, wR_rp, wO_some, wO_none, wO_bind, wO_map, wO_iteN, look_zero, look_succ, Ed.turn, kIx_lst, kIx_tup, kIx_T, atI_0, atI_1, atI_2, atI_3, atI_4, atI_5, atI_6, atI_cast, ixN_0, ixN_1, ixN_2, ixN_3, asI_int, asB_bl, asS_str, oI_int, cT_true, kAdd_int, kAdd_T, kAdd_lst, kAdd_tup, kInt_int, kInt_bl, kMin_int, kMax_int, kLen_lst, kLen_tup, kLen_T, nOw_at, nOw_tup, nOw_lstF, nOw_own, nOws_nil, nOws_cons, nOws_append, nOws_ints, kEq_int, kNe_int, kEq_T, kNe_T, kEq_bl, kIsN_at, kNotN_at, kIsN_nd, kNotN_nd, kList_lst, kList_tup, kTuple_lst, kAppend_one, kSl_lst, kSl_T, kSl_tup, kRng1_int, kRng2_int, isL_own, frz_at, fok_at, frz_lst, fok_lst, frz_tup, fok_tup, kItL_lst, kItT_tup, kItS_T, kZip_lst, kEnum_lst, hole_none, hole_succ, putB_nil, putB_cons, finD_nil, finD_cons, lowE_nil, lowE_cons, lowS_some, lowS_none, wipeE_nil, wipeE_cons, backE_nil, backE_cons, kMod_int, kGe_int, kIn_T, List.map_cons, List.map_nil, List.length_cons, List.length_nil, List.length_map, List.length_set, List.cons_append, List.nil_append, Nat.reduceAdd, Nat.reduceSub, Nat.reduceLT, Nat.reduceLeDiff, Nat.zero_add, List.replicate_succ, List.replicate_zero, List.set_cons_zero, List.set_cons_succ, List.getElem?_cons_zero, List.getElem?_cons_succ, List.getElem?_nil, true_and, and_true, and_self, if_true, if_false, Bool.false_eq_true, reduceIte, List.mem_cons, List.not_mem_nil, or_false, false_or, reduceCtorEq, Nat.reduceEqDiff, or_self, or_true, true_or, Option.map_some, Option.getD_some, Option.isSome_some, Bool.not_true, Bool.not_false, Bool.and_true, Bool.true_and, Bool.and_eq_true, decide_eq_true_eq, Nat.zero_lt_succ, Nat.lt_add_one, Nat.succ_ne_self, Nat.add_one_ne_zero, not_true_eq_false, not_false_eq_true, wv_frz, shift_nil, shift_cons, Option.bind_some, wv_mutF, wv_mutV, wv_meth, wv_make, wv_callW, ws_setF, wg_un, kFld_obj, setO_obj, mutO_obj, hasL_obj, isO_obj, asL_own, bare_at, frzs_nil, frzs_cons, foks_nil, foks_cons, isi2_i, isi_ib, isi_ii]
    refine ⟨by decide, wD_mono isint_ok ?_ fun _ _ h => h.elim⟩
    rintro d as ⟨rfl, rfl⟩
    simp only [ws_seq, ws_asg, ws_ret, ws_retN, ws_drop, ws_pass, ws_bk, ws_ct, ws_if, ws_aug, ws_augI, ws_for, wv_cp, wv_mk, wv_share, wv_move, wv_1, wv_2, wv_A, wa_nil, wa_cons, wa_io, wv_tup, wv_lst, wv_call, wv_if, wv_sl, wv_ixN, wv_mt, wv_mut, wv_and, wv_or, wv_not, wv_lc, wi_arg, wb_q, wb_t, wb_v, wb_and, wb_or, wb_not, wb_yes, wq_var, wq_c, wq_2, wq_1, wq_A, wq_lNil, wq_lCons, wq_sl, wo_none, wo_some, wg_item, wg_set, wg_tup, wg_cons, wg_nil, wR_rb, wR_rp, wO_some, wO_none, wO_bind, wO_map, wO_iteN, look_zero, look_succ, Ed.turn, kIx_lst, kIx_tup, kIx_T, atI_0, atI_1, atI_2, atI_3, atI_4, atI_5, atI_6, atI_cast, ixN_0, ixN_1, ixN_2, ixN_3, asI_int, asB_bl, asS_str, oI_int, cT_true, kAdd_int, kAdd_T, kAdd_lst, kAdd_tup, kInt_int, kInt_bl, kMin_int, kMax_int, kLen_lst, kLen_tup, kLen_T, nOw_at, nOw_tup, nOw_lstF, nOw_own, nOws_nil, nOws_cons, nOws_append, nOws_ints, kEq_int, kNe_int, kEq_T, kNe_T, kEq_bl, kIsN_at, kNotN_at, kIsN_nd, kNotN_nd, kList_lst, kList_tup, kTuple_lst, kAppend_one, kSl_lst, kSl_T, kSl_tup, kRng1_int, kRng2_int, isL_own, frz_at, fok_at, frz_lst, fok_lst, frz_tup, fok_tup, kItL_lst, kItT_tup, kItS_T, kZip_lst, kEnum_lst, hole_none, hole_succ, putB_nil, putB_cons, finD_nil, finD_cons, lowE_nil, lowE_cons, lowS_some, lowS_none, wipeE_nil, wipeE_cons, backE_nil, backE_cons, kMod_int, kGe_int, kIn_T, List.map_cons, List.map_nil, List.length_cons, List.length_nil, List.length_map, List.length_set, List.cons_append, List.nil_append, Nat.reduceAdd, Nat.reduceSub, Nat.reduceLT, Nat.reduceLeDiff, Nat.zero_add, List.replicate_succ, List.replicate_zero, List.set_cons_zero, List.set_cons_succ, List.getElem?_cons_zero, List.getElem?_cons_succ, List.getElem?_nil, true_and, and_true, and_self, if_true, if_false, Bool.false_eq_true, reduceIte, List.mem_cons, List.not_mem_nil, or_false, false_or, reduceCtorEq, Nat.reduceEqDiff, or_self, or_true, true_or, Option.map_some, Option.getD_some, Option.isSome_some, Bool.not_true, Bool.not_false, Bool.and_true, Bool.true_and, Bool.and_eq_true, decide_eq_true_eq, Nat.zero_lt_succ, Nat.lt_add_one, Nat.succ_ne_self, Nat.add_one_ne_zero, not_true_eq_false, not_false_eq_true, wv_frz, shift_nil, shift_cons, Option.bind_some, wv_mutF, wv_mutV, wv_meth, wv_make, wv_callW, ws_setF, wg_un, kFld_obj, setO_obj, mutO_obj, hasL_obj, isO_obj, asL_own, bare_at, frzs_nil, frzs_cons, foks_nil, foks_cons]
    simp
  | bl =>
    refine wD_fn rfl ?_
    unfold b_law_same
    simp only [ws_seq, ws_asg, ws_ret, ws_retN, ws_drop, ws_pass, ws_bk, ws_ct, ws_if, ws_aug, ws_augI, ws_for, wv_cp, wv_mk, wv_share, wv_move, wv_1, wv_2, wv_A, wa_nil, wa_cons, wa_io, wv_tup, wv_lst, wv_call, wv_if, wv_sl, wv_ixN, wv_mt, wv_mut, wv_and, wv_or, wv_not, wv_lc, wi_arg, wb_q, wb_t, wb_v, wb_and, wb_or, wb_not, wb_yes, wq_var, wq_c, wq_2, wq_1, wq_A, wq_lNil, wq_lCons, wq_sl, wo_none, wo_some, wg_item, wg_set, wg_tup, wg_cons, wg_nil, wR_rb, wR_rp, wO_some, wO_none, wO_bind, wO_map, wO_iteN, look_zero, look_succ, Ed.turn, kIx_lst, kIx_tup, kIx_T, atI_0, atI_1, atI_2, atI_3, atI_4, atI_5, atI_6, atI_cast, ixN_0, ixN_1, ixN_2, ixN_3, asI_int, asB_bl, asS_str, oI_int, cT_true, kAdd_int, kAdd_T, kAdd_lst, kAdd_tup, kInt_int, kInt_bl, kMin_int, kMax_int, kLen_lst, kLen_tup, kLen_T, nOw_at, nOw_tup, nOw_lstF, nOw_own, nOws_nil, nOws_cons, nOws_append, nOws_ints, kEq_int, kNe_int, kEq_T, kNe_T, kEq_bl, kIsN_at, kNotN_at, kIsN_nd, kNotN_nd, kList_lst, kList_tup, kTuple_lst, kAppend_one, kSl_lst, kSl_T, kSl_tup, kRng1_int, kRng2_int, isL_own, frz_at, fok_at, frz_lst, fok_lst, frz_tup, fok_tup, kItL_lst, kItT_tup, kItS_T, kZip_lst, kEnum_lst, hole_none, hole_succ, putB_nil, putB_cons, finD_nil, finD_cons, lowE_nil, lowE_cons, lowS_some, lowS_none, wipeE_nil, wipeE_cons, backE_nil, backE_cons, kMod_int, kGe_int, kIn_T, List.map_cons, List.map_nil, List.length_cons, List.length_nil, List.length_map, List.length_set, List.cons_append, List.nil_append, Nat.reduceAdd, Nat.reduceSub, Nat.reduceLT, Nat.reduceLeDiff, Nat.zero_add, List.replicate_succ, List.replicate_zero, List.set_cons_zero, List.set_cons_succ, List.getElem?_cons_zero, List.getElem?_cons_succ, List.getElem?_nil, true_and, and_true, and_self, if_true, if_false, Bool.false_eq_true, reduceIte, List.mem_cons, List.not_mem_nil, or_false, false_or, reduceCtorEq, Nat.reduceEqDiff, or_self, or_true, true_or, Option.map_some, Option.getD_some, Option.isSome_some, Bool.not_true, Bool.not_false, Bool.and_true, Bool.true_and, Bool.and_eq_true, decide_eq_true_eq, Nat.zero_lt_succ, Nat.lt_add_one, Nat.succ_ne_self, Nat.add_one_ne_zero, not_true_eq_false, not_false_eq_true, wv_frz, shift_nil, shift_cons, Option.bind_some, wv_mutF, wv_mutV, wv_meth, wv_make, wv_callW, ws_setF, wg_un, kFld_obj, setO_obj, mutO_obj, hasL_obj, isO_obj, asL_own, bare_at, frzs_nil, frzs_cons, foks_nil, foks_cons, isi2_b, isi_bb]
    simp [sizeLine]
  | str h =>
    refine wD_fn rfl ?_
    unfold b_law_same
    simp only [ws_seq, ws_asg, ws_ret, ws_retN, ws_drop, ws_pass, ws_bk, ws_ct, ws_if, ws_aug, ws_augI, ws_for, wv_cp, wv_mk, wv_share, wv_move, wv_1, wv_2, wv_A, wa_nil, wa_cons, wa_io, wv_tup, wv_lst, wv_call, wv_if, wv_sl, wv_ixN, wv_mt, wv_mut, wv_and, wv_or, wv_not, wv_lc, wi_arg, wb_q, wb_t, wb_v, wb_and, wb_or, wb_not, wb_yes, wq_var, wq_c, wq_2, wq_1, wq_A, wq_lNil, wq_lCons, wq_sl, wo_none, wo_some, wg_item, wg_set, wg_tup, wg_cons, wg_nil, wR_rb, wR_rp, wO_some, wO_none, wO_bind, wO_map, wO_iteN, look_zero, look_succ, Ed.turn, kIx_lst, kIx_tup, kIx_T, atI_0, atI_1, atI_2, atI_3, atI_4, atI_5, atI_6, atI_cast, ixN_0, ixN_1, ixN_2, ixN_3, asI_int, asB_bl, asS_str, oI_int, cT_true, kAdd_int, kAdd_T, kAdd_lst, kAdd_tup, kInt_int, kInt_bl, kMin_int, kMax_int, kLen_lst, kLen_tup, kLen_T, nOw_at, nOw_tup, nOw_lstF, nOw_own, nOws_nil, nOws_cons, nOws_append, nOws_ints, kEq_int, kNe_int, kEq_T, kNe_T, kEq_bl, kIsN_at, kNotN_at, kIsN_nd, kNotN_nd, kList_lst, kList_tup, kTuple_lst, kAppend_one, kSl_lst, kSl_T, kSl_tup, kRng1_int, kRng2_int, isL_own, frz_at, fok_at, frz_lst, fok_lst, frz_tup, fok_tup, kItL_lst, kItT_tup, kItS_T, kZip_lst, kEnum_lst, hole_none, hole_succ, putB_nil, putB_cons, finD_nil, finD_cons, lowE_nil, lowE_cons, lowS_some, lowS_none, wipeE_nil, wipeE_cons, backE_nil, backE_cons, kMod_int, kGe_int, kIn_T, List.map_cons, List.map_nil, List.length_cons, List.length_nil, List.length_map, List.length_set, List.cons_append, List.nil_append, Nat.reduceAdd, Nat.reduceSub, Nat.reduceLT, Nat.reduceLeDiff, Nat.zero_add, List.replicate_succ, List.replicate_zero, List.set_cons_zero, List.set_cons_succ, List.getElem?_cons_zero, List.getElem?_cons_succ, List.getElem?_nil, true_and, and_true, and_self, if_true, if_false, Bool.false_eq_true, reduceIte, List.mem_cons, List.not_mem_nil, or_false, false_or, reduceCtorEq, Nat.reduceEqDiff, or_self, or_true, true_or, Option.map_some, Option.getD_some, Option.isSome_some, Bool.not_true, Bool.not_false, Bool.and_true, Bool.true_and, Bool.and_eq_true, decide_eq_true_eq, Nat.zero_lt_succ, Nat.lt_add_one, Nat.succ_ne_self, Nat.add_one_ne_zero, not_true_eq_false, not_false_eq_true, wv_frz, shift_nil, shift_cons, Option.bind_some, wv_mutF, wv_mutV, wv_meth, wv_make, wv_callW, ws_setF, wg_un, kFld_obj, setO_obj, mutO_obj, hasL_obj, isO_obj, asL_own, bare_at, frzs_nil, frzs_cons, foks_nil, foks_cons, isi2_s, isi_sb, isi_si, isi_ss, h]
    simp [sizeLine]
  | @tup n ds h hl ih =>
    have hw := (Pl.tup h hl).nOw
    refine wD_fn rfl ?_
    unfold b_law_same
    simp only [ws_seq, ws_asg, ws_ret, ws_retN, ws_drop, ws_pass, ws_bk, ws_ct, ws_if, ws_aug, ws_augI, ws_for, wv_cp, wv_mk, wv_share, wv_move, wv_1, wv_2, wv_A, wa_nil, wa_cons, wa_io, wv_tup, wv_lst, wv_call, wv_if, wv_sl, wv_ixN, wv_mt, wv_mut, wv_and, wv_or, wv_not, wv_lc, wi_arg, wb_q, wb_t, wb_v, wb_and, wb_or, wb_not, wb_yes, wq_var, wq_c, wq_2, wq_1, wq_A, wq_lNil, wq_lCons, wq_sl, wo_none, wo_some, wg_item, wg_set, wg_tup, wg_cons, wg_nil, wR_rb, wR_rp, wO_some, wO_none, wO_bind, wO_map, wO_iteN, look_zero, look_succ, Ed.turn, kIx_lst, kIx_tup, kIx_T, atI_0, atI_1, atI_2, atI_3, atI_4, atI_5, atI_6, atI_cast, ixN_0, ixN_1, ixN_2, ixN_3, asI_int, asB_bl, asS_str, oI_int, cT_true, kAdd_int, kAdd_T, kAdd_lst, kAdd_tup, kInt_int, kInt_bl, kMin_int, kMax_int, kLen_lst, kLen_tup, kLen_T, nOw_at, nOw_tup, nOw_lstF, nOw_own, nOws_nil, nOws_cons, nOws_append, nOws_ints, kEq_int, kNe_int, kEq_T, kNe_T, kEq_bl, kIsN_at, kNotN_at, kIsN_nd, kNotN_nd, kList_lst, kList_tup, kTuple_lst, kAppend_one, kSl_lst, kSl_T, kSl_tup, kRng1_int, kRng2_int, isL_own, frz_at, fok_at, frz_lst, fok_lst, frz_tup, fok_tup, kItL_lst, kItT_tup, kItS_T, kZip_lst, kEnum_lst, hole_none, hole_succ, putB_nil, putB_cons, finD_nil, finD_cons, lowE_nil, lowE_cons, lowS_some, lowS_none, wipeE_nil, wipeE_cons, backE_nil, backE_cons, kMod_int, kGe_int, kIn_T, List.map_cons, List.map_nil, List.length_cons, List.length_nil, List.length_map, List.length_set, List.cons_append, List.nil_append, Nat.reduceAdd, Nat.reduceSub, Nat.reduceLT, Nat.reduceLeDiff, Nat.zero_add, List.replicate_succ, List.replicate_zero, List.set_cons_zero, List.set_cons_succ, List.getElem?_cons_zero, List.getElem?_cons_succ, List.getElem?_nil, true_and, and_true, and_self, if_true, if_false, Bool.false_eq_true, reduceIte, List.mem_cons, List.not_mem_nil, or_false, false_or, reduceCtorEq, Nat.reduceEqDiff, or_self, or_true, true_or, Option.map_some, Option.getD_some, Option.isSome_some, Bool.not_true, Bool.not_false, Bool.and_true, Bool.true_and, Bool.and_eq_true, decide_eq_true_eq, Nat.zero_lt_succ, Nat.lt_add_one, Nat.succ_ne_self, Nat.add_one_ne_zero, not_true_eq_false, not_false_eq_true, wv_frz, shift_nil, shift_cons, Option.bind_some, wv_mutF, wv_mutV, wv_meth, wv_make, wv_callW, ws_setF, wg_un, kFld_obj, setO_obj, mutO_obj, hasL_obj, isO_obj, asL_own, bare_at, frzs_nil, frzs_cons, foks_nil, foks_cons, hw, isi2_t, isi_tt, isi_tl, kNe_bl]
    refine ⟨by decide, ?_⟩
    rw [if_neg (by decide), if_neg (by decide), if_neg (by simp)]
    refine ⟨by omega, w_for (fun _ ρ => ∃ x, ρ = [some (D.tup ds), some (D.tup ds), x]) ⟨none, rfl⟩ ?_ ?_⟩
    · rintro i d ρ hd ⟨x, rfl⟩
      obtain ⟨hi, rfl⟩ := rngD_get hd
      rw [Int.toNat_natCast] at hi
      have he := h _ (List.getElem_mem hi)
      simp only [ws_seq, ws_asg, ws_ret, ws_retN, ws_drop, ws_pass, ws_bk, ws_ct, ws_if, ws_aug, ws_augI, ws_for, wv_cp, wv_mk, wv_share, wv_move, wv_1, wv_2, wv_A, wa_nil, wa_cons, wa_io, wv_tup, wv_lst, wv_call, wv_if, wv_sl, wv_ixN, wv_mt, wv_mut, wv_and, wv_or, wv_not, wv_lc, wi_arg, wb_q, wb_t, wb_v, wb_and, wb_or, wb_not, wb_yes, wq_var, wq_c, wq_2, wq_1, wq_A, wq_lNil, wq_lCons, wq_sl, wo_none, wo_some, wg_item, wg_set, wg_tup, wg_cons, wg_nil, wR_rb, wR_rp, wO_some, wO_none, wO_bind, wO_map, wO_iteN, look_zero, look_succ, Ed.turn, kIx_lst, kIx_tup, kIx_T, atI_0, atI_1, atI_2, atI_3, atI_4, atI_5, atI_6, atI_cast, ixN_0, ixN_1, ixN_2, ixN_3, asI_int, asB_bl, asS_str, oI_int, cT_true, kAdd_int, kAdd_T, kAdd_lst, kAdd_tup, kInt_int, kInt_bl, kMin_int, kMax_int, kLen_lst, kLen_tup, kLen_T, nOw_at, nOw_tup, nOw_lstF, nOw_own, nOws_nil, nOws_cons, nOws_append, nOws_ints, kEq_int, kNe_int, kEq_T, kNe_T, kEq_bl, kIsN_at, kNotN_at, kIsN_nd, kNotN_nd, kList_lst, kList_tup, kTuple_lst, kAppend_one, kSl_lst, kSl_T, kSl_tup, kRng1_int, kRng2_int, isL_own, frz_at, fok_at, frz_lst, fok_lst, frz_tup, fok_tup, kItL_lst, kItT_tup, kItS_T, kZip_lst, kEnum_lst, hole_none, hole_succ, putB_nil, putB_cons, finD_nil, finD_cons, lowE_nil, lowE_cons, lowS_some, lowS_none, wipeE_nil, wipeE_cons, backE_nil, backE_cons, kMod_int, kGe_int, kIn_T, List.map_cons, List.map_nil, List.length_cons, List.length_nil, List.length_map, List.length_set, List.cons_append, List.nil_append, Nat.reduceAdd, Nat.reduceSub, Nat.reduceLT, Nat.reduceLeDiff, Nat.zero_add, List.replicate_succ, List.replicate_zero, List.set_cons_zero, List.set_cons_succ, List.getElem?_cons_zero, List.getElem?_cons_succ, List.getElem?_nil, true_and, and_true, and_self, if_true, if_false, Bool.false_eq_true, reduceIte, List.mem_cons, List.not_mem_nil, or_false, false_or, reduceCtorEq, Nat.reduceEqDiff, or_self, or_true, true_or, Option.map_some, Option.getD_some, Option.isSome_some, Bool.not_true, Bool.not_false, Bool.and_true, Bool.true_and, Bool.and_eq_true, decide_eq_true_eq, Nat.zero_lt_succ, Nat.lt_add_one, Nat.succ_ne_self, Nat.add_one_ne_zero, not_true_eq_false, not_false_eq_true, wv_frz, shift_nil, shift_cons, Option.bind_some, wv_mutF, wv_mutV, wv_meth, wv_make, wv_callW, ws_setF, wg_un, kFld_obj, setO_obj, mutO_obj, hasL_obj, isO_obj, asL_own, bare_at, frzs_nil, frzs_cons, foks_nil, foks_cons]
      rw [atI_pos (by omega), show (0 + (i : Int)).toNat = i by omega, List.getElem?_eq_getElem hi]
      simp only [ws_seq, ws_asg, ws_ret, ws_retN, ws_drop, ws_pass, ws_bk, ws_ct, ws_if, ws_aug, ws_augI, ws_for, wv_cp, wv_mk, wv_share, wv_move, wv_1, wv_2, wv_A, wa_nil, wa_cons, wa_io, wv_tup, wv_lst, wv_call, wv_if, wv_sl, wv_ixN, wv_mt, wv_mut, wv_and, wv_or, wv_not, wv_lc, wi_arg, wb_q, wb_t, wb_v, wb_and, wb_or, wb_not, wb_yes, wq_var, wq_c, wq_2, wq_1, wq_A, wq_lNil, wq_lCons, wq_sl, wo_none, wo_some, wg_item, wg_set, wg_tup, wg_cons, wg_nil, wR_rb, wR_rp, wO_some, wO_none, wO_bind, wO_map, wO_iteN, look_zero, look_succ, Ed.turn, kIx_lst, kIx_tup, kIx_T, atI_0, atI_1, atI_2, atI_3, atI_4, atI_5, atI_6, atI_cast, ixN_0, ixN_1, ixN_2, ixN_3, asI_int, asB_bl, asS_str, oI_int, cT_true, kAdd_int, kAdd_T, kAdd_lst, kAdd_tup, kInt_int, kInt_bl, kMin_int, kMax_int, kLen_lst, kLen_tup, kLen_T, nOw_at, nOw_tup, nOw_lstF, nOw_own, nOws_nil, nOws_cons, nOws_append, nOws_ints, kEq_int, kNe_int, kEq_T, kNe_T, kEq_bl, kIsN_at, kNotN_at, kIsN_nd, kNotN_nd, kList_lst, kList_tup, kTuple_lst, kAppend_one, kSl_lst, kSl_T, kSl_tup, kRng1_int, kRng2_int, isL_own, frz_at, fok_at, frz_lst, fok_lst, frz_tup, fok_tup, kItL_lst, kItT_tup, kItS_T, kZip_lst, kEnum_lst, hole_none, hole_succ, putB_nil, putB_cons, finD_nil, finD_cons, lowE_nil, lowE_cons, lowS_some, lowS_none, wipeE_nil, wipeE_cons, backE_nil, backE_cons, kMod_int, kGe_int, kIn_T, List.map_cons, List.map_nil, List.length_cons, List.length_nil, List.length_map, List.length_set, List.cons_append, List.nil_append, Nat.reduceAdd, Nat.reduceSub, Nat.reduceLT, Nat.reduceLeDiff, Nat.zero_add, List.replicate_succ, List.replicate_zero, List.set_cons_zero, List.set_cons_succ, List.getElem?_cons_zero, List.getElem?_cons_succ, List.getElem?_nil, true_and, and_true, and_self, if_true, if_false, Bool.false_eq_true, reduceIte, List.mem_cons, List.not_mem_nil, or_false, false_or, reduceCtorEq, Nat.reduceEqDiff, or_self, or_true, true_or, Option.map_some, Option.getD_some, Option.isSome_some, Bool.not_true, Bool.not_false, Bool.and_true, Bool.true_and, Bool.and_eq_true, decide_eq_true_eq, Nat.zero_lt_succ, Nat.lt_add_one, Nat.succ_ne_self, Nat.add_one_ne_zero, not_true_eq_false, not_false_eq_true, wv_frz, shift_nil, shift_cons, Option.bind_some, wv_mutF, wv_mutV, wv_meth, wv_make, wv_callW, ws_setF, wg_un, kFld_obj, setO_obj, mutO_obj, hasL_obj, isO_obj, asL_own, bare_at, frzs_nil, frzs_cons, foks_nil, foks_cons, fok_of he.nOw, frz_of he.nOw]
      refine wD_mono (ih _ (List.getElem_mem hi)) ?_ fun _ _ h => h.elim
      rintro d as rfl
      simp only [ws_seq, ws_asg, ws_ret, ws_retN, ws_drop, ws_pass, ws_bk, ws_ct, ws_if, ws_aug, ws_augI, ws_for, wv_cp, wv_mk, wv_share, wv_move, wv_1, wv_2, wv_A, wa_nil, wa_cons, wa_io, wv_tup, wv_lst, wv_call, wv_if, wv_sl, wv_ixN, wv_mt, wv_mut, wv_and, wv_or, wv_not, wv_lc, wi_arg, wb_q, wb_t, wb_v, wb_and, wb_or, wb_not, wb_yes, wq_var, wq_c, wq_2, wq_1, wq_A, wq_lNil, wq_lCons, wq_sl, wo_none, wo_some, wg_item, wg_set, wg_tup, wg_cons, wg_nil, wR_rb, wR_rp, wO_some, wO_none, wO_bind, wO_map, wO_iteN, look_zero, look_succ, Ed.turn, kIx_lst, kIx_tup, kIx_T, atI_0, atI_1, atI_2, atI_3, atI_4, atI_5, atI_6, atI_cast, ixN_0, ixN_1, ixN_2, ixN_3, asI_int, asB_bl, asS_str, oI_int, cT_true, kAdd_int, kAdd_T, kAdd_lst, kAdd_tup, kInt_int, kInt_bl, kMin_int, kMax_int, kLen_lst, kLen_tup, kLen_T, nOw_at, nOw_tup, nOw_lstF, nOw_own, nOws_nil, nOws_cons, nOws_append, nOws_ints, kEq_int, kNe_int, kEq_T, kNe_T, kEq_bl, kIsN_at, kNotN_at, kIsN_nd, kNotN_nd, kList_lst, kList_tup, kTuple_lst, kAppend_one, kSl_lst, kSl_T, kSl_tup, kRng1_int, kRng2_int, isL_own, frz_at, fok_at, frz_lst, fok_lst, frz_tup, fok_tup, kItL_lst, kItT_tup, kItS_T, kZip_lst, kEnum_lst, hole_none, hole_succ, putB_nil, putB_cons, finD_nil, finD_cons, lowE_nil, lowE_cons, lowS_some, lowS_none, wipeE_nil, wipeE_cons, backE_nil, backE_cons, kMod_int, kGe_int, kIn_T, List.map_cons, List.map_nil, List.length_cons, List.length_nil, List.length_map, List.length_set, List.cons_append, List.nil_append, Nat.reduceAdd, Nat.reduceSub, Nat.reduceLT, Nat.reduceLeDiff, Nat.zero_add, List.replicate_succ, List.replicate_zero, List.set_cons_zero, List.set_cons_succ, List.getElem?_cons_zero, List.getElem?_cons_succ, List.getElem?_nil, true_and, and_true, and_self, if_true, if_false, Bool.false_eq_true, reduceIte, List.mem_cons, List.not_mem_nil, or_false, false_or, reduceCtorEq, Nat.reduceEqDiff, or_self, or_true, true_or, Option.map_some, Option.getD_some, Option.isSome_some, Bool.not_true, Bool.not_false, Bool.and_true, Bool.true_and, Bool.and_eq_true, decide_eq_true_eq, Nat.zero_lt_succ, Nat.lt_add_one, Nat.succ_ne_self, Nat.add_one_ne_zero, not_true_eq_false, not_false_eq_true, wv_frz, shift_nil, shift_cons, Option.bind_some, wv_mutF, wv_mutV, wv_meth, wv_make, wv_callW, ws_setF, wg_un, kFld_obj, setO_obj, mutO_obj, hasL_obj, isO_obj, asL_own, bare_at, frzs_nil, frzs_cons, foks_nil, foks_cons]
      exact ⟨_, rfl⟩
    · rintro ρ ⟨x, rfl⟩
      simp only [ws_seq, ws_asg, ws_ret, ws_retN, ws_drop, ws_pass, ws_bk, ws_ct, ws_if, ws_aug, ws_augI, ws_for, wv_cp, wv_mk, wv_share, wv_move, wv_1, wv_2, wv_A, wa_nil, wa_cons, wa_io, wv_tup, wv_lst, wv_call, wv_if, wv_sl, wv_ixN, wv_mt, wv_mut, wv_and, wv_or, wv_not, wv_lc, wi_arg, wb_q, wb_t, wb_v, wb_and, wb_or, wb_not, wb_yes, wq_var, wq_c, wq_2, wq_1, wq_A, wq_lNil, wq_lCons, wq_sl, wo_none, wo_some, wg_item, wg_set, wg_tup, wg_cons, wg_nil, wR_rb, wR_rp, wO_some, wO_none, wO_bind, wO_map, wO_iteN, look_zero, look_succ, Ed.turn, kIx_lst, kIx_tup, kIx_T, atI_0, atI_1, atI_2, atI_3, atI_4, atI_5, atI_6, atI_cast, ixN_0, ixN_1, ixN_2, ixN_3, asI_int, asB_bl, asS_str, oI_int, cT_true, kAdd_int, kAdd_T, kAdd_lst, kAdd_tup, kInt_int, kInt_bl, kMin_int, kMax_int, kLen_lst, kLen_tup, kLen_T, nOw_at, nOw_tup, nOw_lstF, nOw_own, nOws_nil, nOws_cons, nOws_append, nOws_ints, kEq_int, kNe_int, kEq_T, kNe_T, kEq_bl, kIsN_at, kNotN_at, kIsN_nd, kNotN_nd, kList_lst, kList_tup, kTuple_lst, kAppend_one, kSl_lst, kSl_T, kSl_tup, kRng1_int, kRng2_int, isL_own, frz_at, fok_at, frz_lst, fok_lst, frz_tup, fok_tup, kItL_lst, kItT_tup, kItS_T, kZip_lst, kEnum_lst, hole_none, hole_succ, putB_nil, putB_cons, finD_nil, finD_cons, lowE_nil, lowE_cons, lowS_some, lowS_none, wipeE_nil, wipeE_cons, backE_nil, backE_cons, kMod_int, kGe_int, kIn_T, List.map_cons, List.map_nil, List.length_cons, List.length_nil, List.length_map, List.length_set, List.cons_append, List.nil_append, Nat.reduceAdd, Nat.reduceSub, Nat.reduceLT, Nat.reduceLeDiff, Nat.zero_add, List.replicate_succ, List.replicate_zero, List.set_cons_zero, List.set_cons_succ, List.getElem?_cons_zero, List.getElem?_cons_succ, List.getElem?_nil, true_and, and_true, and_self, if_true, if_false, Bool.false_eq_true, reduceIte, List.mem_cons, List.not_mem_nil, or_false, false_or, reduceCtorEq, Nat.reduceEqDiff, or_self, or_true, true_or, Option.map_some, Option.getD_some, Option.isSome_some, Bool.not_true, Bool.not_false, Bool.and_true, Bool.true_and, Bool.and_eq_true, decide_eq_true_eq, Nat.zero_lt_succ, Nat.lt_add_one, Nat.succ_ne_self, Nat.add_one_ne_zero, not_true_eq_false, not_false_eq_true, wv_frz, shift_nil, shift_cons, Option.bind_some, wv_mutF, wv_mutV, wv_meth, wv_make, wv_callW, ws_setF, wg_un, kFld_obj, setO_obj, mutO_obj, hasL_obj, isO_obj, asL_own, bare_at, frzs_nil, frzs_cons, foks_nil, foks_cons, hw]
  | @lst n ds h hl ih =>
    have hw := (Pl.lst h hl).nOw
    refine wD_fn rfl ?_
    unfold b_law_same
    simp only [ws_seq, ws_asg, ws_ret, ws_retN, ws_drop, ws_pass, ws_bk, ws_ct, ws_if, ws_aug, ws_augI, ws_for, wv_cp, wv_mk, wv_share, wv_move, wv_1, wv_2, wv_A, wa_nil, wa_cons, wa_io, wv_tup, wv_lst, wv_call, wv_if, wv_sl, wv_ixN, wv_mt, wv_mut, wv_and, wv_or, wv_not, wv_lc, wi_arg, wb_q, wb_t, wb_v, wb_and, wb_or, wb_not, wb_yes, wq_var, wq_c, wq_2, wq_1, wq_A, wq_lNil, wq_lCons, wq_sl, wo_none, wo_some, wg_item, wg_set, wg_tup, wg_cons, wg_nil, wR_rb, wR_rp, wO_some, wO_none, wO_bind, wO_map, wO_iteN, look_zero, look_succ, Ed.turn, kIx_lst, kIx_tup, kIx_T, atI_0, atI_1, atI_2, atI_3, atI_4, atI_5, atI_6, atI_cast, ixN_0, ixN_1, ixN_2, ixN_3, asI_int, asB_bl, asS_str, oI_int, cT_true, kAdd_int, kAdd_T, kAdd_lst, kAdd_tup, kInt_int, kInt_bl, kMin_int, kMax_int, kLen_lst, kLen_tup, kLen_T, nOw_at, nOw_tup, nOw_lstF, nOw_own, nOws_nil, nOws_cons, nOws_append, nOws_ints, kEq_int, kNe_int, kEq_T, kNe_T, kEq_bl, kIsN_at, kNotN_at, kIsN_nd, kNotN_nd, kList_lst, kList_tup, kTuple_lst, kAppend_one, kSl_lst, kSl_T, kSl_tup, kRng1_int, kRng2_int, isL_own, frz_at, fok_at, frz_lst, fok_lst, frz_tup, fok_tup, kItL_lst, kItT_tup, kItS_T, kZip_lst, kEnum_lst, hole_none, hole_succ, putB_nil, putB_cons, finD_nil, finD_cons, lowE_nil, lowE_cons, lowS_some, lowS_none, wipeE_nil, wipeE_cons, backE_nil, backE_cons, kMod_int, kGe_int, kIn_T, List.map_cons, List.map_nil, List.length_cons, List.length_nil, List.length_map, List.length_set, List.cons_append, List.nil_append, Nat.reduceAdd, Nat.reduceSub, Nat.reduceLT, Nat.reduceLeDiff, Nat.zero_add, List.replicate_succ, List.replicate_zero, List.set_cons_zero, List.set_cons_succ, List.getElem?_cons_zero, List.getElem?_cons_succ, List.getElem?_nil, true_and, and_true, and_self, if_true, if_false, Bool.false_eq_true, reduceIte, List.mem_cons, List.not_mem_nil, or_false, false_or, reduceCtorEq, Nat.reduceEqDiff, or_self, or_true, true_or, Option.map_some, Option.getD_some, Option.isSome_some, Bool.not_true, Bool.not_false, Bool.and_true, Bool.true_and, Bool.and_eq_true, decide_eq_true_eq, Nat.zero_lt_succ, Nat.lt_add_one, Nat.succ_ne_self, Nat.add_one_ne_zero, not_true_eq_false, not_false_eq_true, wv_frz, shift_nil, shift_cons, Option.bind_some, wv_mutF, wv_mutV, wv_meth, wv_make, wv_callW, ws_setF, wg_un, kFld_obj, setO_obj, mutO_obj, hasL_obj, isO_obj, asL_own, bare_at, frzs_nil, frzs_cons, foks_nil, foks_cons, hw, isi2_l, isi_lt, isi_ll, kNe_bl]
    refine ⟨by decide, ?_⟩
    rw [if_neg (by decide), if_neg (by decide), if_neg (by simp)]
    refine ⟨by omega, w_for (fun _ ρ => ∃ x, ρ = [some (D.lst ds), some (D.lst ds), x]) ⟨none, rfl⟩ ?_ ?_⟩
    · rintro i d ρ hd ⟨x, rfl⟩
      obtain ⟨hi, rfl⟩ := rngD_get hd
      rw [Int.toNat_natCast] at hi
      have he := h _ (List.getElem_mem hi)
      simp only [ws_seq, ws_asg, ws_ret, ws_retN, ws_drop, ws_pass, ws_bk, ws_ct, ws_if, ws_aug, ws_augI, ws_for, wv_cp, wv_mk, wv_share, wv_move, wv_1, wv_2, wv_A, wa_nil, wa_cons, wa_io, wv_tup, wv_lst, wv_call, wv_if, wv_sl, wv_ixN, wv_mt, wv_mut, wv_and, wv_or, wv_not, wv_lc, wi_arg, wb_q, wb_t, wb_v, wb_and, wb_or, wb_not, wb_yes, wq_var, wq_c, wq_2, wq_1, wq_A, wq_lNil, wq_lCons, wq_sl, wo_none, wo_some, wg_item, wg_set, wg_tup, wg_cons, wg_nil, wR_rb, wR_rp, wO_some, wO_none, wO_bind, wO_map, wO_iteN, look_zero, look_succ, Ed.turn, kIx_lst, kIx_tup, kIx_T, atI_0, atI_1, atI_2, atI_3, atI_4, atI_5, atI_6, atI_cast, ixN_0, ixN_1, ixN_2, ixN_3, asI_int, asB_bl, asS_str, oI_int, cT_true, kAdd_int, kAdd_T, kAdd_lst, kAdd_tup, kInt_int, kInt_bl, kMin_int, kMax_int, kLen_lst, kLen_tup, kLen_T, nOw_at, nOw_tup, nOw_lstF, nOw_own, nOws_nil, nOws_cons, nOws_append, nOws_ints, kEq_int, kNe_int, kEq_T, kNe_T, kEq_bl, kIsN_at, kNotN_at, kIsN_nd, kNotN_nd, kList_lst, kList_tup, kTuple_lst, kAppend_one, kSl_lst, kSl_T, kSl_tup, kRng1_int, kRng2_int, isL_own, frz_at, fok_at, frz_lst, fok_lst, frz_tup, fok_tup, kItL_lst, kItT_tup, kItS_T, kZip_lst, kEnum_lst, hole_none, hole_succ, putB_nil, putB_cons, finD_nil, finD_cons, lowE_nil, lowE_cons, lowS_some, lowS_none, wipeE_nil, wipeE_cons, backE_nil, backE_cons, kMod_int, kGe_int, kIn_T, List.map_cons, List.map_nil, List.length_cons, List.length_nil, List.length_map, List.length_set, List.cons_append, List.nil_append, Nat.reduceAdd, Nat.reduceSub, Nat.reduceLT, Nat.reduceLeDiff, Nat.zero_add, List.replicate_succ, List.replicate_zero, List.set_cons_zero, List.set_cons_succ, List.getElem?_cons_zero, List.getElem?_cons_succ, List.getElem?_nil, true_and, and_true, and_self, if_true, if_false, Bool.false_eq_true, reduceIte, List.mem_cons, List.not_mem_nil, or_false, false_or, reduceCtorEq, Nat.reduceEqDiff, or_self, or_true, true_or, Option.map_some, Option.getD_some, Option.isSome_some, Bool.not_true, Bool.not_false, Bool.and_true, Bool.true_and, Bool.and_eq_true, decide_eq_true_eq, Nat.zero_lt_succ, Nat.lt_add_one, Nat.succ_ne_self, Nat.add_one_ne_zero, not_true_eq_false, not_false_eq_true, wv_frz, shift_nil, shift_cons, Option.bind_some, wv_mutF, wv_mutV, wv_meth, wv_make, wv_callW, ws_setF, wg_un, kFld_obj, setO_obj, mutO_obj, hasL_obj, isO_obj, asL_own, bare_at, frzs_nil, frzs_cons, foks_nil, foks_cons]
      rw [atI_pos (by omega), show (0 + (i : Int)).toNat = i by omega, List.getElem?_eq_getElem hi]
      simp only [ws_seq, ws_asg, ws_ret, ws_retN, ws_drop, ws_pass, ws_bk, ws_ct, ws_if, ws_aug, ws_augI, ws_for, wv_cp, wv_mk, wv_share, wv_move, wv_1, wv_2, wv_A, wa_nil, wa_cons, wa_io, wv_tup, wv_lst, wv_call, wv_if, wv_sl, wv_ixN, wv_mt, wv_mut, wv_and, wv_or, wv_not, wv_lc, wi_arg, wb_q, wb_t, wb_v, wb_and, wb_or, wb_not, wb_yes, wq_var, wq_c, wq_2, wq_1, wq_A, wq_lNil, wq_lCons, wq_sl, wo_none, wo_some, wg_item, wg_set, wg_tup, wg_cons, wg_nil, wR_rb, wR_rp, wO_some, wO_none, wO_bind, wO_map, wO_iteN, look_zero, look_succ, Ed.turn, kIx_lst, kIx_tup, kIx_T, atI_0, atI_1, atI_2, atI_3, atI_4, atI_5, atI_6, atI_cast, ixN_0, ixN_1, ixN_2, ixN_3, asI_int, asB_bl, asS_str, oI_int, cT_true, kAdd_int, kAdd_T, kAdd_lst, kAdd_tup, kInt_int, kInt_bl, kMin_int, kMax_int, kLen_lst, kLen_tup, kLen_T, nOw_at, nOw_tup, nOw_lstF, nOw_own, nOws_nil, nOws_cons, nOws_append, nOws_ints, kEq_int, kNe_int, kEq_T, kNe_T, kEq_bl, kIsN_at, kNotN_at, kIsN_nd, kNotN_nd, kList_lst, kList_tup, kTuple_lst, kAppend_one, kSl_lst, kSl_T, kSl_tup, kRng1_int, kRng2_int, isL_own, frz_at, fok_at, frz_lst, fok_lst, frz_tup, fok_tup, kItL_lst, kItT_tup, kItS_T, kZip_lst, kEnum_lst, hole_none, hole_succ, putB_nil, putB_cons, finD_nil, finD_cons, lowE_nil, lowE_cons, lowS_some, lowS_none, wipeE_nil, wipeE_cons, backE_nil, backE_cons, kMod_int, kGe_int, kIn_T, List.map_cons, List.map_nil, List.length_cons, List.length_nil, List.length_map, List.length_set, List.cons_append, List.nil_append, Nat.reduceAdd, Nat.reduceSub, Nat.reduceLT, Nat.reduceLeDiff, Nat.zero_add, List.replicate_succ, List.replicate_zero, List.set_cons_zero, List.set_cons_succ, List.getElem?_cons_zero, List.getElem?_cons_succ, List.getElem?_nil, true_and, and_true, and_self, if_true, if_false, Bool.false_eq_true, reduceIte, List.mem_cons, List.not_mem_nil, or_false, false_or, reduceCtorEq, Nat.reduceEqDiff, or_self, or_true, true_or, Option.map_some, Option.getD_some, Option.isSome_some, Bool.not_true, Bool.not_false, Bool.and_true, Bool.true_and, Bool.and_eq_true, decide_eq_true_eq, Nat.zero_lt_succ, Nat.lt_add_one, Nat.succ_ne_self, Nat.add_one_ne_zero, not_true_eq_false, not_false_eq_true, wv_frz, shift_nil, shift_cons, Option.bind_some, wv_mutF, wv_mutV, wv_meth, wv_make, wv_callW, ws_setF, wg_un, kFld_obj, setO_obj, mutO_obj, hasL_obj, isO_obj, asL_own, bare_at, frzs_nil, frzs_cons, foks_nil, foks_cons, fok_of he.nOw, frz_of he.nOw]
      refine wD_mono (ih _ (List.getElem_mem hi)) ?_ fun _ _ h => h.elim
      rintro d as rfl
      simp only [ws_seq, ws_asg, ws_ret, ws_retN, ws_drop, ws_pass, ws_bk, ws_ct, ws_if, ws_aug, ws_augI, ws_for, wv_cp, wv_mk, wv_share, wv_move, wv_1, wv_2, wv_A, wa_nil, wa_cons, wa_io, wv_tup, wv_lst, wv_call, wv_if, wv_sl, wv_ixN, wv_mt, wv_mut, wv_and, wv_or, wv_not, wv_lc, wi_arg, wb_q, wb_t, wb_v, wb_and, wb_or, wb_not, wb_yes, wq_var, wq_c, wq_2, wq_1, wq_A, wq_lNil, wq_lCons, wq_sl, wo_none, wo_some, wg_item, wg_set, wg_tup, wg_cons, wg_nil, wR_rb, wR_rp, wO_some, wO_none, wO_bind, wO_map, wO_iteN, look_zero, look_succ, Ed.turn, kIx_lst, kIx_tup, kIx_T, atI_0, atI_1, atI_2, atI_3, atI_4, atI_5, atI_6, atI_cast, ixN_0, ixN_1, ixN_2, ixN_3, asI_int, asB_bl, asS_str, oI_int, cT_true, kAdd_int, kAdd_T, kAdd_lst, kAdd_tup, kInt_int, kInt_bl, kMin_int, kMax_int, kLen_lst, kLen_tup, kLen_T, nOw_at, nOw_tup, nOw_lstF, nOw_own, nOws_nil, nOws_cons, nOws_append, nOws_ints, kEq_int, kNe_int, kEq_T, kNe_T, kEq_bl, kIsN_at, kNotN_at, kIsN_nd, kNotN_nd, kList_lst, kList_tup, kTuple_lst, kAppend_one, kSl_lst, kSl_T, kSl_tup, kRng1_int, kRng2_int, isL_own, frz_at, fok_at, frz_lst, fok_lst, frz_tup, fok_tup, kItL_lst, kItT_tup, kItS_T, kZip_lst, kEnum_lst, hole_none, hole_succ, putB_nil, putB_cons, finD_nil, finD_cons, lowE_nil, lowE_cons, lowS_some, lowS_none, wipeE_nil, wipeE_cons, backE_nil, backE_cons, kMod_int, kGe_int, kIn_T, List.map_cons, List.map_nil, List.length_cons, List.length_nil, List.length_map, List.length_set, List.cons_append, List.nil_append, Nat.reduceAdd, Nat.reduceSub, Nat.reduceLT, Nat.reduceLeDiff, Nat.zero_add, List.replicate_succ, List.replicate_zero, List.set_cons_zero, List.set_cons_succ, List.getElem?_cons_zero, List.getElem?_cons_succ, List.getElem?_nil, true_and, and_true, and_self, if_true, if_false, Bool.false_eq_true, reduceIte, List.mem_cons, List.not_mem_nil, or_false, false_or, reduceCtorEq, Nat.reduceEqDiff, or_self, or_true, true_or, Option.map_some, Option.getD_some, Option.isSome_some, Bool.not_true, Bool.not_false, Bool.and_true, Bool.true_and, Bool.and_eq_true, decide_eq_true_eq, Nat.zero_lt_succ, Nat.lt_add_one, Nat.succ_ne_self, Nat.add_one_ne_zero, not_true_eq_false, not_false_eq_true, wv_frz, shift_nil, shift_cons, Option.bind_some, wv_mutF, wv_mutV, wv_meth, wv_make, wv_callW, ws_setF, wg_un, kFld_obj, setO_obj, mutO_obj, hasL_obj, isO_obj, asL_own, bare_at, frzs_nil, frzs_cons, foks_nil, foks_cons]
      exact ⟨_, rfl⟩
    · rintro ρ ⟨x, rfl⟩
      simp only [ws_seq, ws_asg, ws_ret, ws_retN, ws_drop, ws_pass, ws_bk, ws_ct, ws_if, ws_aug, ws_augI, ws_for, wv_cp, wv_mk, wv_share, wv_move, wv_1, wv_2, wv_A, wa_nil, wa_cons, wa_io, wv_tup, wv_lst, wv_call, wv_if, wv_sl, wv_ixN, wv_mt, wv_mut, wv_and, wv_or, wv_not, wv_lc, wi_arg, wb_q, wb_t, wb_v, wb_and, wb_or, wb_not, wb_yes, wq_var, wq_c, wq_2, wq_1, wq_A, wq_lNil, wq_lCons, wq_sl, wo_none, wo_some, wg_item, wg_set, wg_tup, wg_cons, wg_nil, wR_rb, wR_rp, wO_some, wO_none, wO_bind, wO_map, wO_iteN, look_zero, look_succ, Ed.turn, kIx_lst, kIx_tup, kIx_T, atI_0, atI_1, atI_2, atI_3, atI_4, atI_5, atI_6, atI_cast, ixN_0, ixN_1, ixN_2, ixN_3, asI_int, asB_bl, asS_str, oI_int, cT_true, kAdd_int, kAdd_T, kAdd_lst, kAdd_tup, kInt_int, kInt_bl, kMin_int, kMax_int, kLen_lst, kLen_tup, kLen_T, nOw_at, nOw_tup, nOw_lstF, nOw_own, nOws_nil, nOws_cons, nOws_append, nOws_ints, kEq_int, kNe_int, kEq_T, kNe_T, kEq_bl, kIsN_at, kNotN_at, kIsN_nd, kNotN_nd, kList_lst, kList_tup, kTuple_lst, kAppend_one, kSl_lst, kSl_T, kSl_tup, kRng1_int, kRng2_int, isL_own, frz_at, fok_at, frz_lst, fok_lst, frz_tup, fok_tup, kItL_lst, kItT_tup, kItS_T, kZip_lst, kEnum_lst, hole_none, hole_succ, putB_nil, putB_cons, finD_nil, finD_cons, lowE_nil, lowE_cons, lowS_some, lowS_none, wipeE_nil, wipeE_cons, backE_nil, backE_cons, kMod_int, kGe_int, kIn_T, List.map_cons, List.map_nil, List.length_cons, List.length_nil, List.length_map, List.length_set, List.cons_append, List.nil_append, Nat.reduceAdd, Nat.reduceSub, Nat.reduceLT, Nat.reduceLeDiff, Nat.zero_add, List.replicate_succ, List.replicate_zero, List.set_cons_zero, List.set_cons_succ, List.getElem?_cons_zero, List.getElem?_cons_succ, List.getElem?_nil, true_and, and_true, and_self, if_true, if_false, Bool.false_eq_true, reduceIte, List.mem_cons, List.not_mem_nil, or_false, false_or, reduceCtorEq, Nat.reduceEqDiff, or_self, or_true, true_or, Option.map_some, Option.getD_some, Option.isSome_some, Bool.not_true, Bool.not_false, Bool.and_true, Bool.true_and, Bool.and_eq_true, decide_eq_true_eq, Nat.zero_lt_succ, Nat.lt_add_one, Nat.succ_ne_self, Nat.add_one_ne_zero, not_true_eq_false, not_false_eq_true, wv_frz, shift_nil, shift_cons, Option.bind_some, wv_mutF, wv_mutV, wv_meth, wv_make, wv_callW, ws_setF, wg_un, kFld_obj, setO_obj, mutO_obj, hasL_obj, isO_obj, asL_own, bare_at, frzs_nil, frzs_cons, foks_nil, foks_cons, hw]
theorem plI {l : List Int} (h : l.length < 2 ^ 60) : Pl 2 (.lst (I l)) := .lst (fun d hd => by
  obtain ⟨x, _, rfl⟩ := List.mem_map.mp hd
  exact .int) (by rw [List.length_map]; exact h)
theorem toPys_I {l : List Int} : toPys (I l) = some (l.map PyData.int) := by
  induction l with
  | nil => rfl
  | cons a l ih =>
    show toPys (D.at (.int a) :: I l) = _
    conv => lhs; unfold toPys
    rw [ih]
    rfl
theorem lay_I {l : List Int} : PyData.canLayAll0 (l.map PyData.int) = true ∧ PyData.depthAll (l.map PyData.int) = 0 := by
  induction l with
  | nil => exact ⟨rfl, rfl⟩
  | cons a l ih =>
    rw [List.map_cons]
    unfold PyData.canLayAll0 PyData.depthAll
    rw [ih.1, ih.2]
    exact ⟨rfl, rfl⟩
theorem py2_I {k : PyData → PyData → Option Bool} {o o2 : Bool} {l m : List Int} : py2 k (.nd (.lst o) (I l)) (.nd (.lst o2) (I m)) = (k (.list (l.map PyData.int)) (.list (m.map PyData.int))).map fun c => .at (.bl c) := by
  have e : ∀ (o : Bool) (l : List Int), toPy (.nd (.lst o) (I l)) = some (.list (l.map PyData.int)) := fun o l => by
    unfold toPy
    rw [toPys_I]
    rfl
  have sh : ∀ l : List Int, SeqAt.shaped (.list (l.map PyData.int)) = true := fun l => by
    unfold SeqAt.shaped PyData.canLay0 PyData.depth
    rw [lay_I.1, lay_I.2]
    rfl
  unfold py2
  rw [e, Option.bind_some, e, Option.bind_some, if_pos ⟨sh l, sh m⟩]
theorem kNe_I {o o2 : Bool} {l : List Int} : kNe (.nd (.lst o) (I l)) (.nd (.lst o2) (I l)) = some (.at (.bl false)) := by
  unfold kNe
  rw [py2_I, SeqAt.eqv_refl _ (by unfold PyData.canLay0; exact lay_I.1)]
  rfl
end K11

set_option maxRecDepth 100000
set_option maxHeartbeats 4000000
namespace K11
open PySem L2 DL PyProof.Rows
/-! numbers in bytes -/
def wn (n : Nat) : List Int := if h : n < 128 then [(n : Int)] else ((n % 128 + 128 : Nat) : Int) :: wn (n / 128)
theorem wn_small {n : Nat} (h : n < 128) : wn n = [(n : Int)] := by
  unfold wn
  rw [dif_pos h]
theorem wn_big {n : Nat} (h : ¬ n < 128) : wn n = ((n % 128 + 128 : Nat) : Int) :: wn (n / 128) := by
  conv => lhs; unfold wn
  rw [dif_neg h]
theorem wn_pos (n : Nat) : 0 < (wn n).length := by
  by_cases h : n < 128
  · rw [wn_small h]; simp
  · rw [wn_big h]; simp
theorem wn_len {n : Nat} : ∀ {k : Nat}, n < 128 ^ (k + 1) → (wn n).length ≤ k + 1
  | 0, h => by rw [wn_small (by simpa using h)]; simp
  | k + 1, h => by
    by_cases hs : n < 128
    · rw [wn_small hs]; simp
    · rw [wn_big hs, List.length_cons]
      have := wn_len (n := n / 128) (k := k) (Nat.div_lt_of_lt_mul (by rw [Nat.pow_succ] at h; omega))
      omega
termination_by k => k
def cs (l : List Int) : Int := l.foldl (fun t b => (31 * t + b + 1) % 4294967296) 7
theorem csb (l : List Int) (t : Int) (h0 : 0 ≤ t) (h1 : t < 4294967296) : 0 ≤ l.foldl (fun t b => (31 * t + b + 1) % 4294967296) t ∧ l.foldl (fun t b => (31 * t + b + 1) % 4294967296) t < 4294967296 := by
  induction l generalizing t with
  | nil => exact ⟨h0, h1⟩
  | cons b l ih => exact ih _ (Int.emod_nonneg _ (by decide)) (Int.emod_lt_of_pos _ (by decide))
def tl4 (t : Int) : List Int := [t / 16777216, t / 65536 % 256, t / 256 % 256, t % 256]
def rcd (l : List Int) : List Int := wn l.length ++ l ++ tl4 (cs l)
def ByteL (l : List Int) : Prop := ∀ x ∈ l, 0 ≤ x ∧ x < 256
theorem checksum_ok {l : List Int} (hl : l.length ≤ 100000) (hb : ByteL l) : wD (F_checksum [.lst (I l)]) (fun d as => d = .at (.int (cs l))) fun _ _ => False := by
  refine wD_fn rfl ?_
  unfold b_checksum
  refine ws_mid (fun ρ => ρ = [some (.lst (I l)), some (.at (.int 7)), none]) ?_ ?_
  · simp only [ws_asg, ws_ret, ws_retN, ws_drop, ws_pass, ws_bk, ws_ct, ws_if, ws_aug, ws_augI, ws_for, wv_cp, wv_mk, wv_share, wv_move, wv_1, wv_2, wv_A, wa_nil, wa_cons, wa_io, wv_tup, wv_lst, wv_call, wv_if, wv_sl, wv_ixN, wv_mt, wv_mut, wv_and, wv_or, wv_not, wv_lc, wi_arg, wb_q, wb_t, wb_v, wb_and, wb_or, wb_not, wb_yes, wq_var, wq_c, wq_2, wq_1, wq_A, wq_lNil, wq_lCons, wq_sl, wo_none, wo_some, wg_item, wg_set, wg_tup, wg_cons, wg_nil, wR_rb, wR_rp, wO_some, wO_none, wO_bind, wO_map, wO_iteN, look_zero, look_succ, Ed.turn, kIx_lst, kIx_tup, kIx_T, atI_0, atI_1, atI_2, atI_3, atI_4, atI_5, atI_6, atI_cast, ixN_0, ixN_1, ixN_2, ixN_3, asI_int, asB_bl, asS_str, oI_int, cT_true, kAdd_int, kAdd_T, kAdd_lst, kAdd_tup, kInt_int, kInt_bl, kMin_int, kMax_int, kLen_lst, kLen_tup, kLen_T, nOw_at, nOw_tup, nOw_lstF, nOw_own, nOws_nil, nOws_cons, nOws_append, nOws_ints, kEq_int, kNe_int, kEq_T, kNe_T, kEq_bl, kIsN_at, kNotN_at, kIsN_nd, kNotN_nd, kList_lst, kList_tup, kTuple_lst, kAppend_one, kSl_lst, kSl_T, kSl_tup, kRng1_int, kRng2_int, isL_own, frz_at, fok_at, frz_lst, fok_lst, frz_tup, fok_tup, kItL_lst, kItT_tup, kItS_T, kZip_lst, kEnum_lst, hole_none, hole_succ, putB_nil, putB_cons, finD_nil, finD_cons, lowE_nil, lowE_cons, lowS_some, lowS_none, wipeE_nil, wipeE_cons, backE_nil, backE_cons, kMod_int, kGe_int, kIn_T, List.map_cons, List.map_nil, List.length_cons, List.length_nil, List.length_map, List.length_set, List.cons_append, List.nil_append, Nat.reduceAdd, Nat.reduceSub, Nat.reduceLT, Nat.reduceLeDiff, Nat.zero_add, List.replicate_succ, List.replicate_zero, List.set_cons_zero, List.set_cons_succ, List.getElem?_cons_zero, List.getElem?_cons_succ, List.getElem?_nil, true_and, and_true, and_self, if_true, if_false, Bool.false_eq_true, reduceIte, List.mem_cons, List.not_mem_nil, or_false, false_or, reduceCtorEq, Nat.reduceEqDiff, or_self, or_true, true_or, Option.map_some, Option.getD_some, Option.isSome_some, Bool.not_true, Bool.not_false, Bool.and_true, Bool.true_and, Bool.and_eq_true, decide_eq_true_eq, Nat.zero_lt_succ, Nat.lt_add_one, Nat.succ_ne_self, Nat.add_one_ne_zero, not_true_eq_false, not_false_eq_true, wv_frz, shift_nil, shift_cons, Option.bind_some, wv_mutF, wv_mutV, wv_meth, wv_make, wv_callW, ws_setF, wg_un, kFld_obj, setO_obj, mutO_obj, hasL_obj, isO_obj, asL_own, bare_at, frzs_nil, frzs_cons, foks_nil, foks_cons]
  rintro ρ rfl
  refine ws_mid (fun ρ => ∃ x, ρ = [some (.lst (I l)), some (.at (.int (cs l))), x]) ?_ ?_
  · simp only [ws_asg, ws_ret, ws_retN, ws_drop, ws_pass, ws_bk, ws_ct, ws_if, ws_aug, ws_augI, ws_for, wv_cp, wv_mk, wv_share, wv_move, wv_1, wv_2, wv_A, wa_nil, wa_cons, wa_io, wv_tup, wv_lst, wv_call, wv_if, wv_sl, wv_ixN, wv_mt, wv_mut, wv_and, wv_or, wv_not, wv_lc, wi_arg, wb_q, wb_t, wb_v, wb_and, wb_or, wb_not, wb_yes, wq_var, wq_c, wq_2, wq_1, wq_A, wq_lNil, wq_lCons, wq_sl, wo_none, wo_some, wg_item, wg_set, wg_tup, wg_cons, wg_nil, wR_rb, wR_rp, wO_some, wO_none, wO_bind, wO_map, wO_iteN, look_zero, look_succ, Ed.turn, kIx_lst, kIx_tup, kIx_T, atI_0, atI_1, atI_2, atI_3, atI_4, atI_5, atI_6, atI_cast, ixN_0, ixN_1, ixN_2, ixN_3, asI_int, asB_bl, asS_str, oI_int, cT_true, kAdd_int, kAdd_T, kAdd_lst, kAdd_tup, kInt_int, kInt_bl, kMin_int, kMax_int, kLen_lst, kLen_tup, kLen_T, nOw_at, nOw_tup, nOw_lstF, nOw_own, nOws_nil, nOws_cons, nOws_append, nOws_ints, kEq_int, kNe_int, kEq_T, kNe_T, kEq_bl, kIsN_at, kNotN_at, kIsN_nd, kNotN_nd, kList_lst, kList_tup, kTuple_lst, kAppend_one, kSl_lst, kSl_T, kSl_tup, kRng1_int, kRng2_int, isL_own, frz_at, fok_at, frz_lst, fok_lst, frz_tup, fok_tup, kItL_lst, kItT_tup, kItS_T, kZip_lst, kEnum_lst, hole_none, hole_succ, putB_nil, putB_cons, finD_nil, finD_cons, lowE_nil, lowE_cons, lowS_some, lowS_none, wipeE_nil, wipeE_cons, backE_nil, backE_cons, kMod_int, kGe_int, kIn_T, List.map_cons, List.map_nil, List.length_cons, List.length_nil, List.length_map, List.length_set, List.cons_append, List.nil_append, Nat.reduceAdd, Nat.reduceSub, Nat.reduceLT, Nat.reduceLeDiff, Nat.zero_add, List.replicate_succ, List.replicate_zero, List.set_cons_zero, List.set_cons_succ, List.getElem?_cons_zero, List.getElem?_cons_succ, List.getElem?_nil, true_and, and_true, and_self, if_true, if_false, Bool.false_eq_true, reduceIte, List.mem_cons, List.not_mem_nil, or_false, false_or, reduceCtorEq, Nat.reduceEqDiff, or_self, or_true, true_or, Option.map_some, Option.getD_some, Option.isSome_some, Bool.not_true, Bool.not_false, Bool.and_true, Bool.true_and, Bool.and_eq_true, decide_eq_true_eq, Nat.zero_lt_succ, Nat.lt_add_one, Nat.succ_ne_self, Nat.add_one_ne_zero, not_true_eq_false, not_false_eq_true, wv_frz, shift_nil, shift_cons, Option.bind_some, wv_mutF, wv_mutV, wv_meth, wv_make, wv_callW, ws_setF, wg_un, kFld_obj, setO_obj, mutO_obj, hasL_obj, isO_obj, asL_own, bare_at, frzs_nil, frzs_cons, foks_nil, foks_cons, foks_I, frzs_I]
    refine w_for (fun n ρ => ∃ x, ρ = [some (.lst (I l)), some (.at (.int (cs (l.take n)))), x]) ⟨none, rfl⟩ ?_ ?_
    · rintro n d ρ hd ⟨x, rfl⟩
      rw [List.getElem?_map] at hd
      obtain ⟨b, hbn, rfl⟩ := Option.map_eq_some_iff.mp hd
      have hc := csb (l.take n) 7 (by decide) (by decide)
      have hc : 0 ≤ cs (l.take n) ∧ cs (l.take n) < 4294967296 := hc
      simp only [ws_asg, ws_ret, ws_retN, ws_drop, ws_pass, ws_bk, ws_ct, ws_if, ws_aug, ws_augI, ws_for, wv_cp, wv_mk, wv_share, wv_move, wv_1, wv_2, wv_A, wa_nil, wa_cons, wa_io, wv_tup, wv_lst, wv_call, wv_if, wv_sl, wv_ixN, wv_mt, wv_mut, wv_and, wv_or, wv_not, wv_lc, wi_arg, wb_q, wb_t, wb_v, wb_and, wb_or, wb_not, wb_yes, wq_var, wq_c, wq_2, wq_1, wq_A, wq_lNil, wq_lCons, wq_sl, wo_none, wo_some, wg_item, wg_set, wg_tup, wg_cons, wg_nil, wR_rb, wR_rp, wO_some, wO_none, wO_bind, wO_map, wO_iteN, look_zero, look_succ, Ed.turn, kIx_lst, kIx_tup, kIx_T, atI_0, atI_1, atI_2, atI_3, atI_4, atI_5, atI_6, atI_cast, ixN_0, ixN_1, ixN_2, ixN_3, asI_int, asB_bl, asS_str, oI_int, cT_true, kAdd_int, kAdd_T, kAdd_lst, kAdd_tup, kInt_int, kInt_bl, kMin_int, kMax_int, kLen_lst, kLen_tup, kLen_T, nOw_at, nOw_tup, nOw_lstF, nOw_own, nOws_nil, nOws_cons, nOws_append, nOws_ints, kEq_int, kNe_int, kEq_T, kNe_T, kEq_bl, kIsN_at, kNotN_at, kIsN_nd, kNotN_nd, kList_lst, kList_tup, kTuple_lst, kAppend_one, kSl_lst, kSl_T, kSl_tup, kRng1_int, kRng2_int, isL_own, frz_at, fok_at, frz_lst, fok_lst, frz_tup, fok_tup, kItL_lst, kItT_tup, kItS_T, kZip_lst, kEnum_lst, hole_none, hole_succ, putB_nil, putB_cons, finD_nil, finD_cons, lowE_nil, lowE_cons, lowS_some, lowS_none, wipeE_nil, wipeE_cons, backE_nil, backE_cons, kMod_int, kGe_int, kIn_T, List.map_cons, List.map_nil, List.length_cons, List.length_nil, List.length_map, List.length_set, List.cons_append, List.nil_append, Nat.reduceAdd, Nat.reduceSub, Nat.reduceLT, Nat.reduceLeDiff, Nat.zero_add, List.replicate_succ, List.replicate_zero, List.set_cons_zero, List.set_cons_succ, List.getElem?_cons_zero, List.getElem?_cons_succ, List.getElem?_nil, true_and, and_true, and_self, if_true, if_false, Bool.false_eq_true, reduceIte, List.mem_cons, List.not_mem_nil, or_false, false_or, reduceCtorEq, Nat.reduceEqDiff, or_self, or_true, true_or, Option.map_some, Option.getD_some, Option.isSome_some, Bool.not_true, Bool.not_false, Bool.and_true, Bool.true_and, Bool.and_eq_true, decide_eq_true_eq, Nat.zero_lt_succ, Nat.lt_add_one, Nat.succ_ne_self, Nat.add_one_ne_zero, not_true_eq_false, not_false_eq_true, wv_frz, shift_nil, shift_cons, Option.bind_some, wv_mutF, wv_mutV, wv_meth, wv_make, wv_callW, ws_setF, wg_un, kFld_obj, setO_obj, mutO_obj, hasL_obj, isO_obj, asL_own, bare_at, frzs_nil, frzs_cons, foks_nil, foks_cons, kMul_int]
      refine ⟨cMul_of (by decide +kernel) (Nat.lt_of_lt_of_le (show (cs (l.take n)).natAbs < 2 ^ 40 by omega) (Nat.pow_le_pow_right (by decide) (by decide))), cMod_of (by decide), some (.at (.int b)), ?_⟩
      rw [List.take_succ, hbn]
      simp [cs, List.foldl_append]
    · rintro ρ ⟨x, rfl⟩
      rw [List.length_map, List.take_length]
      exact ⟨x, rfl⟩
  · rintro ρ ⟨x, rfl⟩
    simp only [ws_asg, ws_ret, ws_retN, ws_drop, ws_pass, ws_bk, ws_ct, ws_if, ws_aug, ws_augI, ws_for, wv_cp, wv_mk, wv_share, wv_move, wv_1, wv_2, wv_A, wa_nil, wa_cons, wa_io, wv_tup, wv_lst, wv_call, wv_if, wv_sl, wv_ixN, wv_mt, wv_mut, wv_and, wv_or, wv_not, wv_lc, wi_arg, wb_q, wb_t, wb_v, wb_and, wb_or, wb_not, wb_yes, wq_var, wq_c, wq_2, wq_1, wq_A, wq_lNil, wq_lCons, wq_sl, wo_none, wo_some, wg_item, wg_set, wg_tup, wg_cons, wg_nil, wR_rb, wR_rp, wO_some, wO_none, wO_bind, wO_map, wO_iteN, look_zero, look_succ, Ed.turn, kIx_lst, kIx_tup, kIx_T, atI_0, atI_1, atI_2, atI_3, atI_4, atI_5, atI_6, atI_cast, ixN_0, ixN_1, ixN_2, ixN_3, asI_int, asB_bl, asS_str, oI_int, cT_true, kAdd_int, kAdd_T, kAdd_lst, kAdd_tup, kInt_int, kInt_bl, kMin_int, kMax_int, kLen_lst, kLen_tup, kLen_T, nOw_at, nOw_tup, nOw_lstF, nOw_own, nOws_nil, nOws_cons, nOws_append, nOws_ints, kEq_int, kNe_int, kEq_T, kNe_T, kEq_bl, kIsN_at, kNotN_at, kIsN_nd, kNotN_nd, kList_lst, kList_tup, kTuple_lst, kAppend_one, kSl_lst, kSl_T, kSl_tup, kRng1_int, kRng2_int, isL_own, frz_at, fok_at, frz_lst, fok_lst, frz_tup, fok_tup, kItL_lst, kItT_tup, kItS_T, kZip_lst, kEnum_lst, hole_none, hole_succ, putB_nil, putB_cons, finD_nil, finD_cons, lowE_nil, lowE_cons, lowS_some, lowS_none, wipeE_nil, wipeE_cons, backE_nil, backE_cons, kMod_int, kGe_int, kIn_T, List.map_cons, List.map_nil, List.length_cons, List.length_nil, List.length_map, List.length_set, List.cons_append, List.nil_append, Nat.reduceAdd, Nat.reduceSub, Nat.reduceLT, Nat.reduceLeDiff, Nat.zero_add, List.replicate_succ, List.replicate_zero, List.set_cons_zero, List.set_cons_succ, List.getElem?_cons_zero, List.getElem?_cons_succ, List.getElem?_nil, true_and, and_true, and_self, if_true, if_false, Bool.false_eq_true, reduceIte, List.mem_cons, List.not_mem_nil, or_false, false_or, reduceCtorEq, Nat.reduceEqDiff, or_self, or_true, true_or, Option.map_some, Option.getD_some, Option.isSome_some, Bool.not_true, Bool.not_false, Bool.and_true, Bool.true_and, Bool.and_eq_true, decide_eq_true_eq, Nat.zero_lt_succ, Nat.lt_add_one, Nat.succ_ne_self, Nat.add_one_ne_zero, not_true_eq_false, not_false_eq_true, wv_frz, shift_nil, shift_cons, Option.bind_some, wv_mutF, wv_mutV, wv_meth, wv_make, wv_callW, ws_setF, wg_un, kFld_obj, setO_obj, mutO_obj, hasL_obj, isO_obj, asL_own, bare_at, frzs_nil, frzs_cons, foks_nil, foks_cons]
theorem write_number_ok {n : Nat} (hn : n < 128 ^ 20) : wD (F_write_number [.at (.int n)]) (fun d as => d = .own (I (wn n))) fun _ _ => False := by
  refine wD_fn rfl ?_
  unfold b_write_number
  refine ws_mid (fun ρ => ρ = [some (.at (.int n)), some (.own (I []))]) ?_ ?_
  · simp only [ws_asg, ws_ret, ws_retN, ws_drop, ws_pass, ws_bk, ws_ct, ws_if, ws_aug, ws_augI, ws_for, wv_cp, wv_mk, wv_share, wv_move, wv_1, wv_2, wv_A, wa_nil, wa_cons, wa_io, wv_tup, wv_lst, wv_call, wv_if, wv_sl, wv_ixN, wv_mt, wv_mut, wv_and, wv_or, wv_not, wv_lc, wi_arg, wb_q, wb_t, wb_v, wb_and, wb_or, wb_not, wb_yes, wq_var, wq_c, wq_2, wq_1, wq_A, wq_lNil, wq_lCons, wq_sl, wo_none, wo_some, wg_item, wg_set, wg_tup, wg_cons, wg_nil, wR_rb, wR_rp, wO_some, wO_none, wO_bind, wO_map, wO_iteN, look_zero, look_succ, Ed.turn, kIx_lst, kIx_tup, kIx_T, atI_0, atI_1, atI_2, atI_3, atI_4, atI_5, atI_6, atI_cast, ixN_0, ixN_1, ixN_2, ixN_3, asI_int, asB_bl, asS_str, oI_int, cT_true, kAdd_int, kAdd_T, kAdd_lst, kAdd_tup, kInt_int, kInt_bl, kMin_int, kMax_int, kLen_lst, kLen_tup, kLen_T, nOw_at, nOw_tup, nOw_lstF, nOw_own, nOws_nil, nOws_cons, nOws_append, nOws_ints, kEq_int, kNe_int, kEq_T, kNe_T, kEq_bl, kIsN_at, kNotN_at, kIsN_nd, kNotN_nd, kList_lst, kList_tup, kTuple_lst, kAppend_one, kSl_lst, kSl_T, kSl_tup, kRng1_int, kRng2_int, isL_own, frz_at, fok_at, frz_lst, fok_lst, frz_tup, fok_tup, kItL_lst, kItT_tup, kItS_T, kZip_lst, kEnum_lst, hole_none, hole_succ, putB_nil, putB_cons, finD_nil, finD_cons, lowE_nil, lowE_cons, lowS_some, lowS_none, wipeE_nil, wipeE_cons, backE_nil, backE_cons, kMod_int, kGe_int, kIn_T, List.map_cons, List.map_nil, List.length_cons, List.length_nil, List.length_map, List.length_set, List.cons_append, List.nil_append, Nat.reduceAdd, Nat.reduceSub, Nat.reduceLT, Nat.reduceLeDiff, Nat.zero_add, List.replicate_succ, List.replicate_zero, List.set_cons_zero, List.set_cons_succ, List.getElem?_cons_zero, List.getElem?_cons_succ, List.getElem?_nil, true_and, and_true, and_self, if_true, if_false, Bool.false_eq_true, reduceIte, List.mem_cons, List.not_mem_nil, or_false, false_or, reduceCtorEq, Nat.reduceEqDiff, or_self, or_true, true_or, Option.map_some, Option.getD_some, Option.isSome_some, Bool.not_true, Bool.not_false, Bool.and_true, Bool.true_and, Bool.and_eq_true, decide_eq_true_eq, Nat.zero_lt_succ, Nat.lt_add_one, Nat.succ_ne_self, Nat.add_one_ne_zero, not_true_eq_false, not_false_eq_true, wv_frz, shift_nil, shift_cons, Option.bind_some, wv_mutF, wv_mutV, wv_meth, wv_make, wv_callW, ws_setF, wg_un, kFld_obj, setO_obj, mutO_obj, hasL_obj, isO_obj, asL_own, bare_at, frzs_nil, frzs_cons, foks_nil, foks_cons]
    decide
  rintro ρ rfl
  refine ws_mid (fun ρ => ∃ (pre : List Int) (m : Nat), m < 128 ∧ pre ++ [(m : Int)] = wn n ∧ ρ = [some (.at (.int m)), some (.own (I pre))]) ?_ ?_
  · refine w_while (fun k ρ => ∃ (pre : List Int) (m : Nat), k = m ∧ m ≤ n ∧ pre ++ wn m = wn n ∧ ρ = [some (.at (.int m)), some (.own (I pre))]) ⟨[], n, rfl, Nat.le_refl _, rfl, rfl⟩ ?_
    rintro m ρ ⟨pre, m', rfl, hm, hp, rfl⟩
    have hl : (wn n).length ≤ 20 := wn_len (k := 19) hn
    have hw := wn_pos m
    have hpl : pre.length ≤ 20 := by rw [← hp, List.length_append] at hl; omega
    simp only [ws_asg, ws_ret, ws_retN, ws_drop, ws_pass, ws_bk, ws_ct, ws_if, ws_aug, ws_augI, ws_for, wv_cp, wv_mk, wv_share, wv_move, wv_1, wv_2, wv_A, wa_nil, wa_cons, wa_io, wv_tup, wv_lst, wv_call, wv_if, wv_sl, wv_ixN, wv_mt, wv_mut, wv_and, wv_or, wv_not, wv_lc, wi_arg, wb_q, wb_t, wb_v, wb_and, wb_or, wb_not, wb_yes, wq_var, wq_c, wq_2, wq_1, wq_A, wq_lNil, wq_lCons, wq_sl, wo_none, wo_some, wg_item, wg_set, wg_tup, wg_cons, wg_nil, wR_rb, wR_rp, wO_some, wO_none, wO_bind, wO_map, wO_iteN, look_zero, look_succ, Ed.turn, kIx_lst, kIx_tup, kIx_T, atI_0, atI_1, atI_2, atI_3, atI_4, atI_5, atI_6, atI_cast, ixN_0, ixN_1, ixN_2, ixN_3, asI_int, asB_bl, asS_str, oI_int, cT_true, kAdd_int, kAdd_T, kAdd_lst, kAdd_tup, kInt_int, kInt_bl, kMin_int, kMax_int, kLen_lst, kLen_tup, kLen_T, nOw_at, nOw_tup, nOw_lstF, nOw_own, nOws_nil, nOws_cons, nOws_append, nOws_ints, kEq_int, kNe_int, kEq_T, kNe_T, kEq_bl, kIsN_at, kNotN_at, kIsN_nd, kNotN_nd, kList_lst, kList_tup, kTuple_lst, kAppend_one, kSl_lst, kSl_T, kSl_tup, kRng1_int, kRng2_int, isL_own, frz_at, fok_at, frz_lst, fok_lst, frz_tup, fok_tup, kItL_lst, kItT_tup, kItS_T, kZip_lst, kEnum_lst, hole_none, hole_succ, putB_nil, putB_cons, finD_nil, finD_cons, lowE_nil, lowE_cons, lowS_some, lowS_none, wipeE_nil, wipeE_cons, backE_nil, backE_cons, kMod_int, kGe_int, kIn_T, List.map_cons, List.map_nil, List.length_cons, List.length_nil, List.length_map, List.length_set, List.cons_append, List.nil_append, Nat.reduceAdd, Nat.reduceSub, Nat.reduceLT, Nat.reduceLeDiff, Nat.zero_add, List.replicate_succ, List.replicate_zero, List.set_cons_zero, List.set_cons_succ, List.getElem?_cons_zero, List.getElem?_cons_succ, List.getElem?_nil, true_and, and_true, and_self, if_true, if_false, Bool.false_eq_true, reduceIte, List.mem_cons, List.not_mem_nil, or_false, false_or, reduceCtorEq, Nat.reduceEqDiff, or_self, or_true, true_or, Option.map_some, Option.getD_some, Option.isSome_some, Bool.not_true, Bool.not_false, Bool.and_true, Bool.true_and, Bool.and_eq_true, decide_eq_true_eq, Nat.zero_lt_succ, Nat.lt_add_one, Nat.succ_ne_self, Nat.add_one_ne_zero, not_true_eq_false, not_false_eq_true, wv_frz, shift_nil, shift_cons, Option.bind_some, wv_mutF, wv_mutV, wv_meth, wv_make, wv_callW, ws_setF, wg_un, kFld_obj, setO_obj, mutO_obj, hasL_obj, isO_obj, asL_own, bare_at, frzs_nil, frzs_cons, foks_nil, foks_cons]
    split
    · rename_i hge
      have hge : ¬ m < 128 := by omega
      simp only [ws_seq, ws_asg, ws_ret, ws_retN, ws_drop, ws_pass, ws_bk, ws_ct, ws_if, ws_aug, ws_augI, ws_for, wv_cp, wv_mk, wv_share, wv_move, wv_1, wv_2, wv_A, wa_nil, wa_cons, wa_io, wv_tup, wv_lst, wv_call, wv_if, wv_sl, wv_ixN, wv_mt, wv_mut, wv_and, wv_or, wv_not, wv_lc, wi_arg, wb_q, wb_t, wb_v, wb_and, wb_or, wb_not, wb_yes, wq_var, wq_c, wq_2, wq_1, wq_A, wq_lNil, wq_lCons, wq_sl, wo_none, wo_some, wg_item, wg_set, wg_tup, wg_cons, wg_nil, wR_rb, wR_rp, wO_some, wO_none, wO_bind, wO_map, wO_iteN, look_zero, look_succ, Ed.turn, kIx_lst, kIx_tup, kIx_T, atI_0, atI_1, atI_2, atI_3, atI_4, atI_5, atI_6, atI_cast, ixN_0, ixN_1, ixN_2, ixN_3, asI_int, asB_bl, asS_str, oI_int, cT_true, kAdd_int, kAdd_T, kAdd_lst, kAdd_tup, kInt_int, kInt_bl, kMin_int, kMax_int, kLen_lst, kLen_tup, kLen_T, nOw_at, nOw_tup, nOw_lstF, nOw_own, nOws_nil, nOws_cons, nOws_append, nOws_ints, kEq_int, kNe_int, kEq_T, kNe_T, kEq_bl, kIsN_at, kNotN_at, kIsN_nd, kNotN_nd, kList_lst, kList_tup, kTuple_lst, kAppend_one, kSl_lst, kSl_T, kSl_tup, kRng1_int, kRng2_int, isL_own, frz_at, fok_at, frz_lst, fok_lst, frz_tup, fok_tup, kItL_lst, kItT_tup, kItS_T, kZip_lst, kEnum_lst, hole_none, hole_succ, putB_nil, putB_cons, finD_nil, finD_cons, lowE_nil, lowE_cons, lowS_some, lowS_none, wipeE_nil, wipeE_cons, backE_nil, backE_cons, kMod_int, kGe_int, kIn_T, List.map_cons, List.map_nil, List.length_cons, List.length_nil, List.length_map, List.length_set, List.cons_append, List.nil_append, Nat.reduceAdd, Nat.reduceSub, Nat.reduceLT, Nat.reduceLeDiff, Nat.zero_add, List.replicate_succ, List.replicate_zero, List.set_cons_zero, List.set_cons_succ, List.getElem?_cons_zero, List.getElem?_cons_succ, List.getElem?_nil, true_and, and_true, and_self, if_true, if_false, Bool.false_eq_true, reduceIte, List.mem_cons, List.not_mem_nil, or_false, false_or, reduceCtorEq, Nat.reduceEqDiff, or_self, or_true, true_or, Option.map_some, Option.getD_some, Option.isSome_some, Bool.not_true, Bool.not_false, Bool.and_true, Bool.true_and, Bool.and_eq_true, decide_eq_true_eq, Nat.zero_lt_succ, Nat.lt_add_one, Nat.succ_ne_self, Nat.add_one_ne_zero, not_true_eq_false, not_false_eq_true, wv_frz, shift_nil, shift_cons, Option.bind_some, wv_mutF, wv_mutV, wv_meth, wv_make, wv_callW, ws_setF, wg_un, kFld_obj, setO_obj, mutO_obj, hasL_obj, isO_obj, asL_own, bare_at, frzs_nil, frzs_cons, foks_nil, foks_cons]
      refine ⟨cMod_of (by decide), by simp only [sizeLine]; omega, cFdiv_of (by decide) (by decide), m / 128, by omega, pre ++ [((m % 128 + 128 : Nat) : Int)], m / 128, rfl, by omega, ?_, ?_⟩
      · rw [← hp, wn_big hge]; simp
      · rw [I_snoc]
        rfl
    · rename_i hlt
      have hlt : m < 128 := by omega
      exact ⟨pre, m, hlt, by rw [← hp, wn_small hlt], rfl⟩
  rintro ρ ⟨pre, m, hm, hp, rfl⟩
  have hl : (wn n).length ≤ 20 := wn_len (k := 19) hn
  have hpl : pre.length ≤ 20 := by rw [← hp, List.length_append] at hl; omega
  simp only [ws_asg, ws_ret, ws_retN, ws_drop, ws_pass, ws_bk, ws_ct, ws_if, ws_aug, ws_augI, ws_for, wv_cp, wv_mk, wv_share, wv_move, wv_1, wv_2, wv_A, wa_nil, wa_cons, wa_io, wv_tup, wv_lst, wv_call, wv_if, wv_sl, wv_ixN, wv_mt, wv_mut, wv_and, wv_or, wv_not, wv_lc, wi_arg, wb_q, wb_t, wb_v, wb_and, wb_or, wb_not, wb_yes, wq_var, wq_c, wq_2, wq_1, wq_A, wq_lNil, wq_lCons, wq_sl, wo_none, wo_some, wg_item, wg_set, wg_tup, wg_cons, wg_nil, wR_rb, wR_rp, wO_some, wO_none, wO_bind, wO_map, wO_iteN, look_zero, look_succ, Ed.turn, kIx_lst, kIx_tup, kIx_T, atI_0, atI_1, atI_2, atI_3, atI_4, atI_5, atI_6, atI_cast, ixN_0, ixN_1, ixN_2, ixN_3, asI_int, asB_bl, asS_str, oI_int, cT_true, kAdd_int, kAdd_T, kAdd_lst, kAdd_tup, kInt_int, kInt_bl, kMin_int, kMax_int, kLen_lst, kLen_tup, kLen_T, nOw_at, nOw_tup, nOw_lstF, nOw_own, nOws_nil, nOws_cons, nOws_append, nOws_ints, kEq_int, kNe_int, kEq_T, kNe_T, kEq_bl, kIsN_at, kNotN_at, kIsN_nd, kNotN_nd, kList_lst, kList_tup, kTuple_lst, kAppend_one, kSl_lst, kSl_T, kSl_tup, kRng1_int, kRng2_int, isL_own, frz_at, fok_at, frz_lst, fok_lst, frz_tup, fok_tup, kItL_lst, kItT_tup, kItS_T, kZip_lst, kEnum_lst, hole_none, hole_succ, putB_nil, putB_cons, finD_nil, finD_cons, lowE_nil, lowE_cons, lowS_some, lowS_none, wipeE_nil, wipeE_cons, backE_nil, backE_cons, kMod_int, kGe_int, kIn_T, List.map_cons, List.map_nil, List.length_cons, List.length_nil, List.length_map, List.length_set, List.cons_append, List.nil_append, Nat.reduceAdd, Nat.reduceSub, Nat.reduceLT, Nat.reduceLeDiff, Nat.zero_add, List.replicate_succ, List.replicate_zero, List.set_cons_zero, List.set_cons_succ, List.getElem?_cons_zero, List.getElem?_cons_succ, List.getElem?_nil, true_and, and_true, and_self, if_true, if_false, Bool.false_eq_true, reduceIte, List.mem_cons, List.not_mem_nil, or_false, false_or, reduceCtorEq, Nat.reduceEqDiff, or_self, or_true, true_or, Option.map_some, Option.getD_some, Option.isSome_some, Bool.not_true, Bool.not_false, Bool.and_true, Bool.true_and, Bool.and_eq_true, decide_eq_true_eq, Nat.zero_lt_succ, Nat.lt_add_one, Nat.succ_ne_self, Nat.add_one_ne_zero, not_true_eq_false, not_false_eq_true, wv_frz, shift_nil, shift_cons, Option.bind_some, wv_mutF, wv_mutV, wv_meth, wv_make, wv_callW, ws_setF, wg_un, kFld_obj, setO_obj, mutO_obj, hasL_obj, isO_obj, asL_own, bare_at, frzs_nil, frzs_cons, foks_nil, foks_cons, foks_I, frzs_I, nOws_I]
  exact ⟨by decide, by simp only [sizeLine]; omega, by rw [I_snoc, hp]⟩
theorem law_checksum_ok {l : List Int} (hl : l.length ≤ 100000) (hb : ByteL l) : wD (F_law_checksum [.lst (I l)]) (fun d as => d = .at (.int (cs l))) fun _ _ => False := by
  refine wD_fn rfl ?_
  unfold b_law_checksum
  refine ws_mid (fun ρ => ρ = [some (.lst (I l)), some (.at (.int 7)), none]) ?_ ?_
  · simp only [ws_asg, ws_ret, ws_retN, ws_drop, ws_pass, ws_bk, ws_ct, ws_if, ws_aug, ws_augI, ws_for, wv_cp, wv_mk, wv_share, wv_move, wv_1, wv_2, wv_A, wa_nil, wa_cons, wa_io, wv_tup, wv_lst, wv_call, wv_if, wv_sl, wv_ixN, wv_mt, wv_mut, wv_and, wv_or, wv_not, wv_lc, wi_arg, wb_q, wb_t, wb_v, wb_and, wb_or, wb_not, wb_yes, wq_var, wq_c, wq_2, wq_1, wq_A, wq_lNil, wq_lCons, wq_sl, wo_none, wo_some, wg_item, wg_set, wg_tup, wg_cons, wg_nil, wR_rb, wR_rp, wO_some, wO_none, wO_bind, wO_map, wO_iteN, look_zero, look_succ, Ed.turn, kIx_lst, kIx_tup, kIx_T, atI_0, atI_1, atI_2, atI_3, atI_4, atI_5, atI_6, atI_cast, ixN_0, ixN_1, ixN_2, ixN_3, asI_int, asB_bl, asS_str, oI_int, cT_true, kAdd_int, kAdd_T, kAdd_lst, kAdd_tup, kInt_int, kInt_bl, kMin_int, kMax_int, kLen_lst, kLen_tup, kLen_T, nOw_at, nOw_tup, nOw_lstF, nOw_own, nOws_nil, nOws_cons, nOws_append, nOws_ints, kEq_int, kNe_int, kEq_T, kNe_T, kEq_bl, kIsN_at, kNotN_at, kIsN_nd, kNotN_nd, kList_lst, kList_tup, kTuple_lst, kAppend_one, kSl_lst, kSl_T, kSl_tup, kRng1_int, kRng2_int, isL_own, frz_at, fok_at, frz_lst, fok_lst, frz_tup, fok_tup, kItL_lst, kItT_tup, kItS_T, kZip_lst, kEnum_lst, hole_none, hole_succ, putB_nil, putB_cons, finD_nil, finD_cons, lowE_nil, lowE_cons, lowS_some, lowS_none, wipeE_nil, wipeE_cons, backE_nil, backE_cons, kMod_int, kGe_int, kIn_T, List.map_cons, List.map_nil, List.length_cons, List.length_nil, List.length_map, List.length_set, List.cons_append, List.nil_append, Nat.reduceAdd, Nat.reduceSub, Nat.reduceLT, Nat.reduceLeDiff, Nat.zero_add, List.replicate_succ, List.replicate_zero, List.set_cons_zero, List.set_cons_succ, List.getElem?_cons_zero, List.getElem?_cons_succ, List.getElem?_nil, true_and, and_true, and_self, if_true, if_false, Bool.false_eq_true, reduceIte, List.mem_cons, List.not_mem_nil, or_false, false_or, reduceCtorEq, Nat.reduceEqDiff, or_self, or_true, true_or, Option.map_some, Option.getD_some, Option.isSome_some, Bool.not_true, Bool.not_false, Bool.and_true, Bool.true_and, Bool.and_eq_true, decide_eq_true_eq, Nat.zero_lt_succ, Nat.lt_add_one, Nat.succ_ne_self, Nat.add_one_ne_zero, not_true_eq_false, not_false_eq_true, wv_frz, shift_nil, shift_cons, Option.bind_some, wv_mutF, wv_mutV, wv_meth, wv_make, wv_callW, ws_setF, wg_un, kFld_obj, setO_obj, mutO_obj, hasL_obj, isO_obj, asL_own, bare_at, frzs_nil, frzs_cons, foks_nil, foks_cons]
  rintro ρ rfl
  refine ws_mid (fun ρ => ∃ x, ρ = [some (.lst (I l)), some (.at (.int (cs l))), x]) ?_ ?_
  · simp only [ws_asg, ws_ret, ws_retN, ws_drop, ws_pass, ws_bk, ws_ct, ws_if, ws_aug, ws_augI, ws_for, wv_cp, wv_mk, wv_share, wv_move, wv_1, wv_2, wv_A, wa_nil, wa_cons, wa_io, wv_tup, wv_lst, wv_call, wv_if, wv_sl, wv_ixN, wv_mt, wv_mut, wv_and, wv_or, wv_not, wv_lc, wi_arg, wb_q, wb_t, wb_v, wb_and, wb_or, wb_not, wb_yes, wq_var, wq_c, wq_2, wq_1, wq_A, wq_lNil, wq_lCons, wq_sl, wo_none, wo_some, wg_item, wg_set, wg_tup, wg_cons, wg_nil, wR_rb, wR_rp, wO_some, wO_none, wO_bind, wO_map, wO_iteN, look_zero, look_succ, Ed.turn, kIx_lst, kIx_tup, kIx_T, atI_0, atI_1, atI_2, atI_3, atI_4, atI_5, atI_6, atI_cast, ixN_0, ixN_1, ixN_2, ixN_3, asI_int, asB_bl, asS_str, oI_int, cT_true, kAdd_int, kAdd_T, kAdd_lst, kAdd_tup, kInt_int, kInt_bl, kMin_int, kMax_int, kLen_lst, kLen_tup, kLen_T, nOw_at, nOw_tup, nOw_lstF, nOw_own, nOws_nil, nOws_cons, nOws_append, nOws_ints, kEq_int, kNe_int, kEq_T, kNe_T, kEq_bl, kIsN_at, kNotN_at, kIsN_nd, kNotN_nd, kList_lst, kList_tup, kTuple_lst, kAppend_one, kSl_lst, kSl_T, kSl_tup, kRng1_int, kRng2_int, isL_own, frz_at, fok_at, frz_lst, fok_lst, frz_tup, fok_tup, kItL_lst, kItT_tup, kItS_T, kZip_lst, kEnum_lst, hole_none, hole_succ, putB_nil, putB_cons, finD_nil, finD_cons, lowE_nil, lowE_cons, lowS_some, lowS_none, wipeE_nil, wipeE_cons, backE_nil, backE_cons, kMod_int, kGe_int, kIn_T, List.map_cons, List.map_nil, List.length_cons, List.length_nil, List.length_map, List.length_set, List.cons_append, List.nil_append, Nat.reduceAdd, Nat.reduceSub, Nat.reduceLT, Nat.reduceLeDiff, Nat.zero_add, List.replicate_succ, List.replicate_zero, List.set_cons_zero, List.set_cons_succ, List.getElem?_cons_zero, List.getElem?_cons_succ, List.getElem?_nil, true_and, and_true, and_self, if_true, if_false, Bool.false_eq_true, reduceIte, List.mem_cons, List.not_mem_nil, or_false, false_or, reduceCtorEq, Nat.reduceEqDiff, or_self, or_true, true_or, Option.map_some, Option.getD_some, Option.isSome_some, Bool.not_true, Bool.not_false, Bool.and_true, Bool.true_and, Bool.and_eq_true, decide_eq_true_eq, Nat.zero_lt_succ, Nat.lt_add_one, Nat.succ_ne_self, Nat.add_one_ne_zero, not_true_eq_false, not_false_eq_true, wv_frz, shift_nil, shift_cons, Option.bind_some, wv_mutF, wv_mutV, wv_meth, wv_make, wv_callW, ws_setF, wg_un, kFld_obj, setO_obj, mutO_obj, hasL_obj, isO_obj, asL_own, bare_at, frzs_nil, frzs_cons, foks_nil, foks_cons, foks_I, frzs_I]
    refine w_for (fun n ρ => ∃ x, ρ = [some (.lst (I l)), some (.at (.int (cs (l.take n)))), x]) ⟨none, rfl⟩ ?_ ?_
    · rintro n d ρ hd ⟨x, rfl⟩
      rw [List.getElem?_map] at hd
      obtain ⟨b, hbn, rfl⟩ := Option.map_eq_some_iff.mp hd
      have hc := csb (l.take n) 7 (by decide) (by decide)
      have hc : 0 ≤ cs (l.take n) ∧ cs (l.take n) < 4294967296 := hc
      simp only [ws_asg, ws_ret, ws_retN, ws_drop, ws_pass, ws_bk, ws_ct, ws_if, ws_aug, ws_augI, ws_for, wv_cp, wv_mk, wv_share, wv_move, wv_1, wv_2, wv_A, wa_nil, wa_cons, wa_io, wv_tup, wv_lst, wv_call, wv_if, wv_sl, wv_ixN, wv_mt, wv_mut, wv_and, wv_or, wv_not, wv_lc, wi_arg, wb_q, wb_t, wb_v, wb_and, wb_or, wb_not, wb_yes, wq_var, wq_c, wq_2, wq_1, wq_A, wq_lNil, wq_lCons, wq_sl, wo_none, wo_some, wg_item, wg_set, wg_tup, wg_cons, wg_nil, wR_rb, wR_rp, wO_some, wO_none, wO_bind, wO_map, wO_iteN, look_zero, look_succ, Ed.turn, kIx_lst, kIx_tup, kIx_T, atI_0, atI_1, atI_2, atI_3, atI_4, atI_5, atI_6, atI_cast, ixN_0, ixN_1, ixN_2, ixN_3, asI_int, asB_bl, asS_str, oI_int, cT_true, kAdd_int, kAdd_T, kAdd_lst, kAdd_tup, kInt_int, kInt_bl, kMin_int, kMax_int, kLen_lst, kLen_tup, kLen_T, nOw_at, nOw_tup, nOw_lstF, nOw_own, nOws_nil, nOws_cons, nOws_append, nOws_ints, kEq_int, kNe_int, kEq_T, kNe_T, kEq_bl, kIsN_at, kNotN_at, kIsN_nd, kNotN_nd, kList_lst, kList_tup, kTuple_lst, kAppend_one, kSl_lst, kSl_T, kSl_tup, kRng1_int, kRng2_int, isL_own, frz_at, fok_at, frz_lst, fok_lst, frz_tup, fok_tup, kItL_lst, kItT_tup, kItS_T, kZip_lst, kEnum_lst, hole_none, hole_succ, putB_nil, putB_cons, finD_nil, finD_cons, lowE_nil, lowE_cons, lowS_some, lowS_none, wipeE_nil, wipeE_cons, backE_nil, backE_cons, kMod_int, kGe_int, kIn_T, List.map_cons, List.map_nil, List.length_cons, List.length_nil, List.length_map, List.length_set, List.cons_append, List.nil_append, Nat.reduceAdd, Nat.reduceSub, Nat.reduceLT, Nat.reduceLeDiff, Nat.zero_add, List.replicate_succ, List.replicate_zero, List.set_cons_zero, List.set_cons_succ, List.getElem?_cons_zero, List.getElem?_cons_succ, List.getElem?_nil, true_and, and_true, and_self, if_true, if_false, Bool.false_eq_true, reduceIte, List.mem_cons, List.not_mem_nil, or_false, false_or, reduceCtorEq, Nat.reduceEqDiff, or_self, or_true, true_or, Option.map_some, Option.getD_some, Option.isSome_some, Bool.not_true, Bool.not_false, Bool.and_true, Bool.true_and, Bool.and_eq_true, decide_eq_true_eq, Nat.zero_lt_succ, Nat.lt_add_one, Nat.succ_ne_self, Nat.add_one_ne_zero, not_true_eq_false, not_false_eq_true, wv_frz, shift_nil, shift_cons, Option.bind_some, wv_mutF, wv_mutV, wv_meth, wv_make, wv_callW, ws_setF, wg_un, kFld_obj, setO_obj, mutO_obj, hasL_obj, isO_obj, asL_own, bare_at, frzs_nil, frzs_cons, foks_nil, foks_cons, kMul_int]
      refine ⟨cMul_of (by decide +kernel) (Nat.lt_of_lt_of_le (show (cs (l.take n)).natAbs < 2 ^ 40 by omega) (Nat.pow_le_pow_right (by decide) (by decide))), cMod_of (by decide), some (.at (.int b)), ?_⟩
      rw [List.take_succ, hbn]
      simp [cs, List.foldl_append]
    · rintro ρ ⟨x, rfl⟩
      rw [List.length_map, List.take_length]
      exact ⟨x, rfl⟩
  · rintro ρ ⟨x, rfl⟩
    simp only [ws_asg, ws_ret, ws_retN, ws_drop, ws_pass, ws_bk, ws_ct, ws_if, ws_aug, ws_augI, ws_for, wv_cp, wv_mk, wv_share, wv_move, wv_1, wv_2, wv_A, wa_nil, wa_cons, wa_io, wv_tup, wv_lst, wv_call, wv_if, wv_sl, wv_ixN, wv_mt, wv_mut, wv_and, wv_or, wv_not, wv_lc, wi_arg, wb_q, wb_t, wb_v, wb_and, wb_or, wb_not, wb_yes, wq_var, wq_c, wq_2, wq_1, wq_A, wq_lNil, wq_lCons, wq_sl, wo_none, wo_some, wg_item, wg_set, wg_tup, wg_cons, wg_nil, wR_rb, wR_rp, wO_some, wO_none, wO_bind, wO_map, wO_iteN, look_zero, look_succ, Ed.turn, kIx_lst, kIx_tup, kIx_T, atI_0, atI_1, atI_2, atI_3, atI_4, atI_5, atI_6, atI_cast, ixN_0, ixN_1, ixN_2, ixN_3, asI_int, asB_bl, asS_str, oI_int, cT_true, kAdd_int, kAdd_T, kAdd_lst, kAdd_tup, kInt_int, kInt_bl, kMin_int, kMax_int, kLen_lst, kLen_tup, kLen_T, nOw_at, nOw_tup, nOw_lstF, nOw_own, nOws_nil, nOws_cons, nOws_append, nOws_ints, kEq_int, kNe_int, kEq_T, kNe_T, kEq_bl, kIsN_at, kNotN_at, kIsN_nd, kNotN_nd, kList_lst, kList_tup, kTuple_lst, kAppend_one, kSl_lst, kSl_T, kSl_tup, kRng1_int, kRng2_int, isL_own, frz_at, fok_at, frz_lst, fok_lst, frz_tup, fok_tup, kItL_lst, kItT_tup, kItS_T, kZip_lst, kEnum_lst, hole_none, hole_succ, putB_nil, putB_cons, finD_nil, finD_cons, lowE_nil, lowE_cons, lowS_some, lowS_none, wipeE_nil, wipeE_cons, backE_nil, backE_cons, kMod_int, kGe_int, kIn_T, List.map_cons, List.map_nil, List.length_cons, List.length_nil, List.length_map, List.length_set, List.cons_append, List.nil_append, Nat.reduceAdd, Nat.reduceSub, Nat.reduceLT, Nat.reduceLeDiff, Nat.zero_add, List.replicate_succ, List.replicate_zero, List.set_cons_zero, List.set_cons_succ, List.getElem?_cons_zero, List.getElem?_cons_succ, List.getElem?_nil, true_and, and_true, and_self, if_true, if_false, Bool.false_eq_true, reduceIte, List.mem_cons, List.not_mem_nil, or_false, false_or, reduceCtorEq, Nat.reduceEqDiff, or_self, or_true, true_or, Option.map_some, Option.getD_some, Option.isSome_some, Bool.not_true, Bool.not_false, Bool.and_true, Bool.true_and, Bool.and_eq_true, decide_eq_true_eq, Nat.zero_lt_succ, Nat.lt_add_one, Nat.succ_ne_self, Nat.add_one_ne_zero, not_true_eq_false, not_false_eq_true, wv_frz, shift_nil, shift_cons, Option.bind_some, wv_mutF, wv_mutV, wv_meth, wv_make, wv_callW, ws_setF, wg_un, kFld_obj, setO_obj, mutO_obj, hasL_obj, isO_obj, asL_own, bare_at, frzs_nil, frzs_cons, foks_nil, foks_cons]
theorem law_number_ok {n : Nat} (hn : n < 128 ^ 20) : wD (F_law_number [.at (.int n)]) (fun d as => d = .own (I (wn n))) fun _ _ => False := by
  refine wD_fn rfl ?_
  unfold b_law_number
  refine ws_mid (fun ρ => ρ = [some (.at (.int n)), some (.own (I []))]) ?_ ?_
  · simp only [ws_asg, ws_ret, ws_retN, ws_drop, ws_pass, ws_bk, ws_ct, ws_if, ws_aug, ws_augI, ws_for, wv_cp, wv_mk, wv_share, wv_move, wv_1, wv_2, wv_A, wa_nil, wa_cons, wa_io, wv_tup, wv_lst, wv_call, wv_if, wv_sl, wv_ixN, wv_mt, wv_mut, wv_and, wv_or, wv_not, wv_lc, wi_arg, wb_q, wb_t, wb_v, wb_and, wb_or, wb_not, wb_yes, wq_var, wq_c, wq_2, wq_1, wq_A, wq_lNil, wq_lCons, wq_sl, wo_none, wo_some, wg_item, wg_set, wg_tup, wg_cons, wg_nil, wR_rb, wR_rp, wO_some, wO_none, wO_bind, wO_map, wO_iteN, look_zero, look_succ, Ed.turn, kIx_lst, kIx_tup, kIx_T, atI_0, atI_1, atI_2, atI_3, atI_4, atI_5, atI_6, atI_cast, ixN_0, ixN_1, ixN_2, ixN_3, asI_int, asB_bl, asS_str, oI_int, cT_true, kAdd_int, kAdd_T, kAdd_lst, kAdd_tup, kInt_int, kInt_bl, kMin_int, kMax_int, kLen_lst, kLen_tup, kLen_T, nOw_at, nOw_tup, nOw_lstF, nOw_own, nOws_nil, nOws_cons, nOws_append, nOws_ints, kEq_int, kNe_int, kEq_T, kNe_T, kEq_bl, kIsN_at, kNotN_at, kIsN_nd, kNotN_nd, kList_lst, kList_tup, kTuple_lst, kAppend_one, kSl_lst, kSl_T, kSl_tup, kRng1_int, kRng2_int, isL_own, frz_at, fok_at, frz_lst, fok_lst, frz_tup, fok_tup, kItL_lst, kItT_tup, kItS_T, kZip_lst, kEnum_lst, hole_none, hole_succ, putB_nil, putB_cons, finD_nil, finD_cons, lowE_nil, lowE_cons, lowS_some, lowS_none, wipeE_nil, wipeE_cons, backE_nil, backE_cons, kMod_int, kGe_int, kIn_T, List.map_cons, List.map_nil, List.length_cons, List.length_nil, List.length_map, List.length_set, List.cons_append, List.nil_append, Nat.reduceAdd, Nat.reduceSub, Nat.reduceLT, Nat.reduceLeDiff, Nat.zero_add, List.replicate_succ, List.replicate_zero, List.set_cons_zero, List.set_cons_succ, List.getElem?_cons_zero, List.getElem?_cons_succ, List.getElem?_nil, true_and, and_true, and_self, if_true, if_false, Bool.false_eq_true, reduceIte, List.mem_cons, List.not_mem_nil, or_false, false_or, reduceCtorEq, Nat.reduceEqDiff, or_self, or_true, true_or, Option.map_some, Option.getD_some, Option.isSome_some, Bool.not_true, Bool.not_false, Bool.and_true, Bool.true_and, Bool.and_eq_true, decide_eq_true_eq, Nat.zero_lt_succ, Nat.lt_add_one, Nat.succ_ne_self, Nat.add_one_ne_zero, not_true_eq_false, not_false_eq_true, wv_frz, shift_nil, shift_cons, Option.bind_some, wv_mutF, wv_mutV, wv_meth, wv_make, wv_callW, ws_setF, wg_un, kFld_obj, setO_obj, mutO_obj, hasL_obj, isO_obj, asL_own, bare_at, frzs_nil, frzs_cons, foks_nil, foks_cons]
    decide
  rintro ρ rfl
  refine ws_mid (fun ρ => ∃ (pre : List Int) (m : Nat), m < 128 ∧ pre ++ [(m : Int)] = wn n ∧ ρ = [some (.at (.int m)), some (.own (I pre))]) ?_ ?_
  · refine w_while (fun k ρ => ∃ (pre : List Int) (m : Nat), k = m ∧ m ≤ n ∧ pre ++ wn m = wn n ∧ ρ = [some (.at (.int m)), some (.own (I pre))]) ⟨[], n, rfl, Nat.le_refl _, rfl, rfl⟩ ?_
    rintro m ρ ⟨pre, m', rfl, hm, hp, rfl⟩
    have hl : (wn n).length ≤ 20 := wn_len (k := 19) hn
    have hw := wn_pos m
    have hpl : pre.length ≤ 20 := by rw [← hp, List.length_append] at hl; omega
    simp only [ws_asg, ws_ret, ws_retN, ws_drop, ws_pass, ws_bk, ws_ct, ws_if, ws_aug, ws_augI, ws_for, wv_cp, wv_mk, wv_share, wv_move, wv_1, wv_2, wv_A, wa_nil, wa_cons, wa_io, wv_tup, wv_lst, wv_call, wv_if, wv_sl, wv_ixN, wv_mt, wv_mut, wv_and, wv_or, wv_not, wv_lc, wi_arg, wb_q, wb_t, wb_v, wb_and, wb_or, wb_not, wb_yes, wq_var, wq_c, wq_2, wq_1, wq_A, wq_lNil, wq_lCons, wq_sl, wo_none, wo_some, wg_item, wg_set, wg_tup, wg_cons, wg_nil, wR_rb, wR_rp, wO_some, wO_none, wO_bind, wO_map, wO_iteN, look_zero, look_succ, Ed.turn, kIx_lst, kIx_tup, kIx_T, atI_0, atI_1, atI_2, atI_3, atI_4, atI_5, atI_6, atI_cast, ixN_0, ixN_1, ixN_2, ixN_3, asI_int, asB_bl, asS_str, oI_int, cT_true, kAdd_int, kAdd_T, kAdd_lst, kAdd_tup, kInt_int, kInt_bl, kMin_int, kMax_int, kLen_lst, kLen_tup, kLen_T, nOw_at, nOw_tup, nOw_lstF, nOw_own, nOws_nil, nOws_cons, nOws_append, nOws_ints, kEq_int, kNe_int, kEq_T, kNe_T, kEq_bl, kIsN_at, kNotN_at, kIsN_nd, kNotN_nd, kList_lst, kList_tup, kTuple_lst, kAppend_one, kSl_lst, kSl_T, kSl_tup, kRng1_int, kRng2_int, isL_own, frz_at, fok_at, frz_lst, fok_lst, frz_tup, fok_tup, kItL_lst, kItT_tup, kItS_T, kZip_lst, kEnum_lst, hole_none, hole_succ, putB_nil, putB_cons, finD_nil, finD_cons, lowE_nil, lowE_cons, lowS_some, lowS_none, wipeE_nil, wipeE_cons, backE_nil, backE_cons, kMod_int, kGe_int, kIn_T, List.map_cons, List.map_nil, List.length_cons, List.length_nil, List.length_map, List.length_set, List.cons_append, List.nil_append, Nat.reduceAdd, Nat.reduceSub, Nat.reduceLT, Nat.reduceLeDiff, Nat.zero_add, List.replicate_succ, List.replicate_zero, List.set_cons_zero, List.set_cons_succ, List.getElem?_cons_zero, List.getElem?_cons_succ, List.getElem?_nil, true_and, and_true, and_self, if_true, if_false, Bool.false_eq_true, reduceIte, List.mem_cons, List.not_mem_nil, or_false, false_or, reduceCtorEq, Nat.reduceEqDiff, or_self, or_true, true_or, Option.map_some, Option.getD_some, Option.isSome_some, Bool.not_true, Bool.not_false, Bool.and_true, Bool.true_and, Bool.and_eq_true, decide_eq_true_eq, Nat.zero_lt_succ, Nat.lt_add_one, Nat.succ_ne_self, Nat.add_one_ne_zero, not_true_eq_false, not_false_eq_true, wv_frz, shift_nil, shift_cons, Option.bind_some, wv_mutF, wv_mutV, wv_meth, wv_make, wv_callW, ws_setF, wg_un, kFld_obj, setO_obj, mutO_obj, hasL_obj, isO_obj, asL_own, bare_at, frzs_nil, frzs_cons, foks_nil, foks_cons, kGt_int]
    split
    · rename_i hge
      have hge : ¬ m < 128 := by omega
      simp only [ws_seq, ws_asg, ws_ret, ws_retN, ws_drop, ws_pass, ws_bk, ws_ct, ws_if, ws_aug, ws_augI, ws_for, wv_cp, wv_mk, wv_share, wv_move, wv_1, wv_2, wv_A, wa_nil, wa_cons, wa_io, wv_tup, wv_lst, wv_call, wv_if, wv_sl, wv_ixN, wv_mt, wv_mut, wv_and, wv_or, wv_not, wv_lc, wi_arg, wb_q, wb_t, wb_v, wb_and, wb_or, wb_not, wb_yes, wq_var, wq_c, wq_2, wq_1, wq_A, wq_lNil, wq_lCons, wq_sl, wo_none, wo_some, wg_item, wg_set, wg_tup, wg_cons, wg_nil, wR_rb, wR_rp, wO_some, wO_none, wO_bind, wO_map, wO_iteN, look_zero, look_succ, Ed.turn, kIx_lst, kIx_tup, kIx_T, atI_0, atI_1, atI_2, atI_3, atI_4, atI_5, atI_6, atI_cast, ixN_0, ixN_1, ixN_2, ixN_3, asI_int, asB_bl, asS_str, oI_int, cT_true, kAdd_int, kAdd_T, kAdd_lst, kAdd_tup, kInt_int, kInt_bl, kMin_int, kMax_int, kLen_lst, kLen_tup, kLen_T, nOw_at, nOw_tup, nOw_lstF, nOw_own, nOws_nil, nOws_cons, nOws_append, nOws_ints, kEq_int, kNe_int, kEq_T, kNe_T, kEq_bl, kIsN_at, kNotN_at, kIsN_nd, kNotN_nd, kList_lst, kList_tup, kTuple_lst, kAppend_one, kSl_lst, kSl_T, kSl_tup, kRng1_int, kRng2_int, isL_own, frz_at, fok_at, frz_lst, fok_lst, frz_tup, fok_tup, kItL_lst, kItT_tup, kItS_T, kZip_lst, kEnum_lst, hole_none, hole_succ, putB_nil, putB_cons, finD_nil, finD_cons, lowE_nil, lowE_cons, lowS_some, lowS_none, wipeE_nil, wipeE_cons, backE_nil, backE_cons, kMod_int, kGe_int, kIn_T, List.map_cons, List.map_nil, List.length_cons, List.length_nil, List.length_map, List.length_set, List.cons_append, List.nil_append, Nat.reduceAdd, Nat.reduceSub, Nat.reduceLT, Nat.reduceLeDiff, Nat.zero_add, List.replicate_succ, List.replicate_zero, List.set_cons_zero, List.set_cons_succ, List.getElem?_cons_zero, List.getElem?_cons_succ, List.getElem?_nil, true_and, and_true, and_self, if_true, if_false, Bool.false_eq_true, reduceIte, List.mem_cons, List.not_mem_nil, or_false, false_or, reduceCtorEq, Nat.reduceEqDiff, or_self, or_true, true_or, Option.map_some, Option.getD_some, Option.isSome_some, Bool.not_true, Bool.not_false, Bool.and_true, Bool.true_and, Bool.and_eq_true, decide_eq_true_eq, Nat.zero_lt_succ, Nat.lt_add_one, Nat.succ_ne_self, Nat.add_one_ne_zero, not_true_eq_false, not_false_eq_true, wv_frz, shift_nil, shift_cons, Option.bind_some, wv_mutF, wv_mutV, wv_meth, wv_make, wv_callW, ws_setF, wg_un, kFld_obj, setO_obj, mutO_obj, hasL_obj, isO_obj, asL_own, bare_at, frzs_nil, frzs_cons, foks_nil, foks_cons]
      refine ⟨cMod_of (by decide), by simp only [sizeLine]; omega, cFdiv_of (by decide) (by decide), m / 128, by omega, pre ++ [((m % 128 + 128 : Nat) : Int)], m / 128, rfl, by omega, ?_, ?_⟩
      · rw [← hp, wn_big hge]; simp
      · rw [show (128 + (m : Int) % 128) = ((m % 128 + 128 : Nat) : Int) by omega, I_snoc]
        rfl
    · rename_i hlt
      have hlt : m < 128 := by omega
      exact ⟨pre, m, hlt, by rw [← hp, wn_small hlt], rfl⟩
  rintro ρ ⟨pre, m, hm, hp, rfl⟩
  have hl : (wn n).length ≤ 20 := wn_len (k := 19) hn
  have hpl : pre.length ≤ 20 := by rw [← hp, List.length_append] at hl; omega
  simp only [ws_asg, ws_ret, ws_retN, ws_drop, ws_pass, ws_bk, ws_ct, ws_if, ws_aug, ws_augI, ws_for, wv_cp, wv_mk, wv_share, wv_move, wv_1, wv_2, wv_A, wa_nil, wa_cons, wa_io, wv_tup, wv_lst, wv_call, wv_if, wv_sl, wv_ixN, wv_mt, wv_mut, wv_and, wv_or, wv_not, wv_lc, wi_arg, wb_q, wb_t, wb_v, wb_and, wb_or, wb_not, wb_yes, wq_var, wq_c, wq_2, wq_1, wq_A, wq_lNil, wq_lCons, wq_sl, wo_none, wo_some, wg_item, wg_set, wg_tup, wg_cons, wg_nil, wR_rb, wR_rp, wO_some, wO_none, wO_bind, wO_map, wO_iteN, look_zero, look_succ, Ed.turn, kIx_lst, kIx_tup, kIx_T, atI_0, atI_1, atI_2, atI_3, atI_4, atI_5, atI_6, atI_cast, ixN_0, ixN_1, ixN_2, ixN_3, asI_int, asB_bl, asS_str, oI_int, cT_true, kAdd_int, kAdd_T, kAdd_lst, kAdd_tup, kInt_int, kInt_bl, kMin_int, kMax_int, kLen_lst, kLen_tup, kLen_T, nOw_at, nOw_tup, nOw_lstF, nOw_own, nOws_nil, nOws_cons, nOws_append, nOws_ints, kEq_int, kNe_int, kEq_T, kNe_T, kEq_bl, kIsN_at, kNotN_at, kIsN_nd, kNotN_nd, kList_lst, kList_tup, kTuple_lst, kAppend_one, kSl_lst, kSl_T, kSl_tup, kRng1_int, kRng2_int, isL_own, frz_at, fok_at, frz_lst, fok_lst, frz_tup, fok_tup, kItL_lst, kItT_tup, kItS_T, kZip_lst, kEnum_lst, hole_none, hole_succ, putB_nil, putB_cons, finD_nil, finD_cons, lowE_nil, lowE_cons, lowS_some, lowS_none, wipeE_nil, wipeE_cons, backE_nil, backE_cons, kMod_int, kGe_int, kIn_T, List.map_cons, List.map_nil, List.length_cons, List.length_nil, List.length_map, List.length_set, List.cons_append, List.nil_append, Nat.reduceAdd, Nat.reduceSub, Nat.reduceLT, Nat.reduceLeDiff, Nat.zero_add, List.replicate_succ, List.replicate_zero, List.set_cons_zero, List.set_cons_succ, List.getElem?_cons_zero, List.getElem?_cons_succ, List.getElem?_nil, true_and, and_true, and_self, if_true, if_false, Bool.false_eq_true, reduceIte, List.mem_cons, List.not_mem_nil, or_false, false_or, reduceCtorEq, Nat.reduceEqDiff, or_self, or_true, true_or, Option.map_some, Option.getD_some, Option.isSome_some, Bool.not_true, Bool.not_false, Bool.and_true, Bool.true_and, Bool.and_eq_true, decide_eq_true_eq, Nat.zero_lt_succ, Nat.lt_add_one, Nat.succ_ne_self, Nat.add_one_ne_zero, not_true_eq_false, not_false_eq_true, wv_frz, shift_nil, shift_cons, Option.bind_some, wv_mutF, wv_mutV, wv_meth, wv_make, wv_callW, ws_setF, wg_un, kFld_obj, setO_obj, mutO_obj, hasL_obj, isO_obj, asL_own, bare_at, frzs_nil, frzs_cons, foks_nil, foks_cons, foks_I, frzs_I, nOws_I]
  exact ⟨by decide, by simp only [sizeLine]; omega, by rw [I_snoc, hp]⟩
theorem cs_b (l : List Int) : 0 ≤ cs l ∧ cs l < 4294967296 := csb l 7 (by decide) (by decide)
theorem write_record_ok {l : List Int} (hl : l.length ≤ 100000) (hb : ByteL l) : wD (F_write_record [.lst (I l)]) (fun d as => d = .own (I (rcd l))) fun _ _ => False := by
  have hwn : l.length < 128 ^ 20 := Nat.lt_of_lt_of_le (show l.length < 128 ^ 3 by omega) (Nat.pow_le_pow_right (by decide) (by decide))
  have hwl : (wn l.length).length ≤ 20 := wn_len (k := 19) hwn
  refine wD_fn rfl ?_
  unfold b_write_record
  refine ws_mid (fun ρ => ρ = [some (.lst (I l)), some (.at (.int (cs l))), none]) ?_ ?_
  · simp only [ws_asg, ws_ret, ws_retN, ws_drop, ws_pass, ws_bk, ws_ct, ws_if, ws_aug, ws_augI, ws_for, wv_cp, wv_mk, wv_share, wv_move, wv_1, wv_2, wv_A, wa_nil, wa_cons, wa_io, wv_tup, wv_lst, wv_call, wv_if, wv_sl, wv_ixN, wv_mt, wv_mut, wv_and, wv_or, wv_not, wv_lc, wi_arg, wb_q, wb_t, wb_v, wb_and, wb_or, wb_not, wb_yes, wq_var, wq_c, wq_2, wq_1, wq_A, wq_lNil, wq_lCons, wq_sl, wo_none, wo_some, wg_item, wg_set, wg_tup, wg_cons, wg_nil, wR_rb, wR_rp, wO_some, wO_none, wO_bind, wO_map, wO_iteN, look_zero, look_succ, Ed.turn, kIx_lst, kIx_tup, kIx_T, atI_0, atI_1, atI_2, atI_3, atI_4, atI_5, atI_6, atI_cast, ixN_0, ixN_1, ixN_2, ixN_3, asI_int, asB_bl, asS_str, oI_int, cT_true, kAdd_int, kAdd_T, kAdd_lst, kAdd_tup, kInt_int, kInt_bl, kMin_int, kMax_int, kLen_lst, kLen_tup, kLen_T, nOw_at, nOw_tup, nOw_lstF, nOw_own, nOws_nil, nOws_cons, nOws_append, nOws_ints, kEq_int, kNe_int, kEq_T, kNe_T, kEq_bl, kIsN_at, kNotN_at, kIsN_nd, kNotN_nd, kList_lst, kList_tup, kTuple_lst, kAppend_one, kSl_lst, kSl_T, kSl_tup, kRng1_int, kRng2_int, isL_own, frz_at, fok_at, frz_lst, fok_lst, frz_tup, fok_tup, kItL_lst, kItT_tup, kItS_T, kZip_lst, kEnum_lst, hole_none, hole_succ, putB_nil, putB_cons, finD_nil, finD_cons, lowE_nil, lowE_cons, lowS_some, lowS_none, wipeE_nil, wipeE_cons, backE_nil, backE_cons, kMod_int, kGe_int, kIn_T, List.map_cons, List.map_nil, List.length_cons, List.length_nil, List.length_map, List.length_set, List.cons_append, List.nil_append, Nat.reduceAdd, Nat.reduceSub, Nat.reduceLT, Nat.reduceLeDiff, Nat.zero_add, List.replicate_succ, List.replicate_zero, List.set_cons_zero, List.set_cons_succ, List.getElem?_cons_zero, List.getElem?_cons_succ, List.getElem?_nil, true_and, and_true, and_self, if_true, if_false, Bool.false_eq_true, reduceIte, List.mem_cons, List.not_mem_nil, or_false, false_or, reduceCtorEq, Nat.reduceEqDiff, or_self, or_true, true_or, Option.map_some, Option.getD_some, Option.isSome_some, Bool.not_true, Bool.not_false, Bool.and_true, Bool.true_and, Bool.and_eq_true, decide_eq_true_eq, Nat.zero_lt_succ, Nat.lt_add_one, Nat.succ_ne_self, Nat.add_one_ne_zero, not_true_eq_false, not_false_eq_true, wv_frz, shift_nil, shift_cons, Option.bind_some, wv_mutF, wv_mutV, wv_meth, wv_make, wv_callW, ws_setF, wg_un, kFld_obj, setO_obj, mutO_obj, hasL_obj, isO_obj, asL_own, bare_at, frzs_nil, frzs_cons, foks_nil, foks_cons, foks_I, frzs_I]
    refine wD_mono (checksum_ok hl hb) ?_ fun _ _ h => h.elim
    rintro d as rfl
    simp only [ws_asg, ws_ret, ws_retN, ws_drop, ws_pass, ws_bk, ws_ct, ws_if, ws_aug, ws_augI, ws_for, wv_cp, wv_mk, wv_share, wv_move, wv_1, wv_2, wv_A, wa_nil, wa_cons, wa_io, wv_tup, wv_lst, wv_call, wv_if, wv_sl, wv_ixN, wv_mt, wv_mut, wv_and, wv_or, wv_not, wv_lc, wi_arg, wb_q, wb_t, wb_v, wb_and, wb_or, wb_not, wb_yes, wq_var, wq_c, wq_2, wq_1, wq_A, wq_lNil, wq_lCons, wq_sl, wo_none, wo_some, wg_item, wg_set, wg_tup, wg_cons, wg_nil, wR_rb, wR_rp, wO_some, wO_none, wO_bind, wO_map, wO_iteN, look_zero, look_succ, Ed.turn, kIx_lst, kIx_tup, kIx_T, atI_0, atI_1, atI_2, atI_3, atI_4, atI_5, atI_6, atI_cast, ixN_0, ixN_1, ixN_2, ixN_3, asI_int, asB_bl, asS_str, oI_int, cT_true, kAdd_int, kAdd_T, kAdd_lst, kAdd_tup, kInt_int, kInt_bl, kMin_int, kMax_int, kLen_lst, kLen_tup, kLen_T, nOw_at, nOw_tup, nOw_lstF, nOw_own, nOws_nil, nOws_cons, nOws_append, nOws_ints, kEq_int, kNe_int, kEq_T, kNe_T, kEq_bl, kIsN_at, kNotN_at, kIsN_nd, kNotN_nd, kList_lst, kList_tup, kTuple_lst, kAppend_one, kSl_lst, kSl_T, kSl_tup, kRng1_int, kRng2_int, isL_own, frz_at, fok_at, frz_lst, fok_lst, frz_tup, fok_tup, kItL_lst, kItT_tup, kItS_T, kZip_lst, kEnum_lst, hole_none, hole_succ, putB_nil, putB_cons, finD_nil, finD_cons, lowE_nil, lowE_cons, lowS_some, lowS_none, wipeE_nil, wipeE_cons, backE_nil, backE_cons, kMod_int, kGe_int, kIn_T, List.map_cons, List.map_nil, List.length_cons, List.length_nil, List.length_map, List.length_set, List.cons_append, List.nil_append, Nat.reduceAdd, Nat.reduceSub, Nat.reduceLT, Nat.reduceLeDiff, Nat.zero_add, List.replicate_succ, List.replicate_zero, List.set_cons_zero, List.set_cons_succ, List.getElem?_cons_zero, List.getElem?_cons_succ, List.getElem?_nil, true_and, and_true, and_self, if_true, if_false, Bool.false_eq_true, reduceIte, List.mem_cons, List.not_mem_nil, or_false, false_or, reduceCtorEq, Nat.reduceEqDiff, or_self, or_true, true_or, Option.map_some, Option.getD_some, Option.isSome_some, Bool.not_true, Bool.not_false, Bool.and_true, Bool.true_and, Bool.and_eq_true, decide_eq_true_eq, Nat.zero_lt_succ, Nat.lt_add_one, Nat.succ_ne_self, Nat.add_one_ne_zero, not_true_eq_false, not_false_eq_true, wv_frz, shift_nil, shift_cons, Option.bind_some, wv_mutF, wv_mutV, wv_meth, wv_make, wv_callW, ws_setF, wg_un, kFld_obj, setO_obj, mutO_obj, hasL_obj, isO_obj, asL_own, bare_at, frzs_nil, frzs_cons, foks_nil, foks_cons]
  rintro ρ rfl
  refine ws_mid (fun ρ => ρ = [some (.lst (I l)), some (.at (.int (cs l))), some (.own (I (tl4 (cs l))))]) ?_ ?_
  · simp only [ws_asg, ws_ret, ws_retN, ws_drop, ws_pass, ws_bk, ws_ct, ws_if, ws_aug, ws_augI, ws_for, wv_cp, wv_mk, wv_share, wv_move, wv_1, wv_2, wv_A, wa_nil, wa_cons, wa_io, wv_tup, wv_lst, wv_call, wv_if, wv_sl, wv_ixN, wv_mt, wv_mut, wv_and, wv_or, wv_not, wv_lc, wi_arg, wb_q, wb_t, wb_v, wb_and, wb_or, wb_not, wb_yes, wq_var, wq_c, wq_2, wq_1, wq_A, wq_lNil, wq_lCons, wq_sl, wo_none, wo_some, wg_item, wg_set, wg_tup, wg_cons, wg_nil, wR_rb, wR_rp, wO_some, wO_none, wO_bind, wO_map, wO_iteN, look_zero, look_succ, Ed.turn, kIx_lst, kIx_tup, kIx_T, atI_0, atI_1, atI_2, atI_3, atI_4, atI_5, atI_6, atI_cast, ixN_0, ixN_1, ixN_2, ixN_3, asI_int, asB_bl, asS_str, oI_int, cT_true, kAdd_int, kAdd_T, kAdd_lst, kAdd_tup, kInt_int, kInt_bl, kMin_int, kMax_int, kLen_lst, kLen_tup, kLen_T, nOw_at, nOw_tup, nOw_lstF, nOw_own, nOws_nil, nOws_cons, nOws_append, nOws_ints, kEq_int, kNe_int, kEq_T, kNe_T, kEq_bl, kIsN_at, kNotN_at, kIsN_nd, kNotN_nd, kList_lst, kList_tup, kTuple_lst, kAppend_one, kSl_lst, kSl_T, kSl_tup, kRng1_int, kRng2_int, isL_own, frz_at, fok_at, frz_lst, fok_lst, frz_tup, fok_tup, kItL_lst, kItT_tup, kItS_T, kZip_lst, kEnum_lst, hole_none, hole_succ, putB_nil, putB_cons, finD_nil, finD_cons, lowE_nil, lowE_cons, lowS_some, lowS_none, wipeE_nil, wipeE_cons, backE_nil, backE_cons, kMod_int, kGe_int, kIn_T, List.map_cons, List.map_nil, List.length_cons, List.length_nil, List.length_map, List.length_set, List.cons_append, List.nil_append, Nat.reduceAdd, Nat.reduceSub, Nat.reduceLT, Nat.reduceLeDiff, Nat.zero_add, List.replicate_succ, List.replicate_zero, List.set_cons_zero, List.set_cons_succ, List.getElem?_cons_zero, List.getElem?_cons_succ, List.getElem?_nil, true_and, and_true, and_self, if_true, if_false, Bool.false_eq_true, reduceIte, List.mem_cons, List.not_mem_nil, or_false, false_or, reduceCtorEq, Nat.reduceEqDiff, or_self, or_true, true_or, Option.map_some, Option.getD_some, Option.isSome_some, Bool.not_true, Bool.not_false, Bool.and_true, Bool.true_and, Bool.and_eq_true, decide_eq_true_eq, Nat.zero_lt_succ, Nat.lt_add_one, Nat.succ_ne_self, Nat.add_one_ne_zero, not_true_eq_false, not_false_eq_true, wv_frz, shift_nil, shift_cons, Option.bind_some, wv_mutF, wv_mutV, wv_meth, wv_make, wv_callW, ws_setF, wg_un, kFld_obj, setO_obj, mutO_obj, hasL_obj, isO_obj, asL_own, bare_at, frzs_nil, frzs_cons, foks_nil, foks_cons, kFdiv_int]
    exact ⟨cFdiv_of (by decide) (by decide), cFdiv_of (by decide) (by decide), cMod_of (by decide), cFdiv_of (by decide) (by decide), cMod_of (by decide), cMod_of (by decide), by decide, rfl⟩
  rintro ρ rfl
  simp only [ws_asg, ws_ret, ws_retN, ws_drop, ws_pass, ws_bk, ws_ct, ws_if, ws_aug, ws_augI, ws_for, wv_cp, wv_mk, wv_share, wv_move, wv_1, wv_2, wv_A, wa_nil, wa_cons, wa_io, wv_tup, wv_lst, wv_call, wv_if, wv_sl, wv_ixN, wv_mt, wv_mut, wv_and, wv_or, wv_not, wv_lc, wi_arg, wb_q, wb_t, wb_v, wb_and, wb_or, wb_not, wb_yes, wq_var, wq_c, wq_2, wq_1, wq_A, wq_lNil, wq_lCons, wq_sl, wo_none, wo_some, wg_item, wg_set, wg_tup, wg_cons, wg_nil, wR_rb, wR_rp, wO_some, wO_none, wO_bind, wO_map, wO_iteN, look_zero, look_succ, Ed.turn, kIx_lst, kIx_tup, kIx_T, atI_0, atI_1, atI_2, atI_3, atI_4, atI_5, atI_6, atI_cast, ixN_0, ixN_1, ixN_2, ixN_3, asI_int, asB_bl, asS_str, oI_int, cT_true, kAdd_int, kAdd_T, kAdd_lst, kAdd_tup, kInt_int, kInt_bl, kMin_int, kMax_int, kLen_lst, kLen_tup, kLen_T, nOw_at, nOw_tup, nOw_lstF, nOw_own, nOws_nil, nOws_cons, nOws_append, nOws_ints, kEq_int, kNe_int, kEq_T, kNe_T, kEq_bl, kIsN_at, kNotN_at, kIsN_nd, kNotN_nd, kList_lst, kList_tup, kTuple_lst, kAppend_one, kSl_lst, kSl_T, kSl_tup, kRng1_int, kRng2_int, isL_own, frz_at, fok_at, frz_lst, fok_lst, frz_tup, fok_tup, kItL_lst, kItT_tup, kItS_T, kZip_lst, kEnum_lst, hole_none, hole_succ, putB_nil, putB_cons, finD_nil, finD_cons, lowE_nil, lowE_cons, lowS_some, lowS_none, wipeE_nil, wipeE_cons, backE_nil, backE_cons, kMod_int, kGe_int, kIn_T, List.map_cons, List.map_nil, List.length_cons, List.length_nil, List.length_map, List.length_set, List.cons_append, List.nil_append, Nat.reduceAdd, Nat.reduceSub, Nat.reduceLT, Nat.reduceLeDiff, Nat.zero_add, List.replicate_succ, List.replicate_zero, List.set_cons_zero, List.set_cons_succ, List.getElem?_cons_zero, List.getElem?_cons_succ, List.getElem?_nil, true_and, and_true, and_self, if_true, if_false, Bool.false_eq_true, reduceIte, List.mem_cons, List.not_mem_nil, or_false, false_or, reduceCtorEq, Nat.reduceEqDiff, or_self, or_true, true_or, Option.map_some, Option.getD_some, Option.isSome_some, Bool.not_true, Bool.not_false, Bool.and_true, Bool.true_and, Bool.and_eq_true, decide_eq_true_eq, Nat.zero_lt_succ, Nat.lt_add_one, Nat.succ_ne_self, Nat.add_one_ne_zero, not_true_eq_false, not_false_eq_true, wv_frz, shift_nil, shift_cons, Option.bind_some, wv_mutF, wv_mutV, wv_meth, wv_make, wv_callW, ws_setF, wg_un, kFld_obj, setO_obj, mutO_obj, hasL_obj, isO_obj, asL_own, bare_at, frzs_nil, frzs_cons, foks_nil, foks_cons, nOws_I]
  refine wD_mono (write_number_ok hwn) ?_ fun _ _ h => h.elim
  rintro d as rfl
  simp only [ws_asg, ws_ret, ws_retN, ws_drop, ws_pass, ws_bk, ws_ct, ws_if, ws_aug, ws_augI, ws_for, wv_cp, wv_mk, wv_share, wv_move, wv_1, wv_2, wv_A, wa_nil, wa_cons, wa_io, wv_tup, wv_lst, wv_call, wv_if, wv_sl, wv_ixN, wv_mt, wv_mut, wv_and, wv_or, wv_not, wv_lc, wi_arg, wb_q, wb_t, wb_v, wb_and, wb_or, wb_not, wb_yes, wq_var, wq_c, wq_2, wq_1, wq_A, wq_lNil, wq_lCons, wq_sl, wo_none, wo_some, wg_item, wg_set, wg_tup, wg_cons, wg_nil, wR_rb, wR_rp, wO_some, wO_none, wO_bind, wO_map, wO_iteN, look_zero, look_succ, Ed.turn, kIx_lst, kIx_tup, kIx_T, atI_0, atI_1, atI_2, atI_3, atI_4, atI_5, atI_6, atI_cast, ixN_0, ixN_1, ixN_2, ixN_3, asI_int, asB_bl, asS_str, oI_int, cT_true, kAdd_int, kAdd_T, kAdd_lst, kAdd_tup, kInt_int, kInt_bl, kMin_int, kMax_int, kLen_lst, kLen_tup, kLen_T, nOw_at, nOw_tup, nOw_lstF, nOw_own, nOws_nil, nOws_cons, nOws_append, nOws_ints, kEq_int, kNe_int, kEq_T, kNe_T, kEq_bl, kIsN_at, kNotN_at, kIsN_nd, kNotN_nd, kList_lst, kList_tup, kTuple_lst, kAppend_one, kSl_lst, kSl_T, kSl_tup, kRng1_int, kRng2_int, isL_own, frz_at, fok_at, frz_lst, fok_lst, frz_tup, fok_tup, kItL_lst, kItT_tup, kItS_T, kZip_lst, kEnum_lst, hole_none, hole_succ, putB_nil, putB_cons, finD_nil, finD_cons, lowE_nil, lowE_cons, lowS_some, lowS_none, wipeE_nil, wipeE_cons, backE_nil, backE_cons, kMod_int, kGe_int, kIn_T, List.map_cons, List.map_nil, List.length_cons, List.length_nil, List.length_map, List.length_set, List.cons_append, List.nil_append, Nat.reduceAdd, Nat.reduceSub, Nat.reduceLT, Nat.reduceLeDiff, Nat.zero_add, List.replicate_succ, List.replicate_zero, List.set_cons_zero, List.set_cons_succ, List.getElem?_cons_zero, List.getElem?_cons_succ, List.getElem?_nil, true_and, and_true, and_self, if_true, if_false, Bool.false_eq_true, reduceIte, List.mem_cons, List.not_mem_nil, or_false, false_or, reduceCtorEq, Nat.reduceEqDiff, or_self, or_true, true_or, Option.map_some, Option.getD_some, Option.isSome_some, Bool.not_true, Bool.not_false, Bool.and_true, Bool.true_and, Bool.and_eq_true, decide_eq_true_eq, Nat.zero_lt_succ, Nat.lt_add_one, Nat.succ_ne_self, Nat.add_one_ne_zero, not_true_eq_false, not_false_eq_true, wv_frz, shift_nil, shift_cons, Option.bind_some, wv_mutF, wv_mutV, wv_meth, wv_make, wv_callW, ws_setF, wg_un, kFld_obj, setO_obj, mutO_obj, hasL_obj, isO_obj, asL_own, bare_at, frzs_nil, frzs_cons, foks_nil, foks_cons, nOws_I, foks_I, frzs_I]
  exact ⟨by simp only [sizeLine]; omega, by simp [sizeLine, tl4]; omega, by simp [rcd]⟩
theorem law_record_ok {l : List Int} (hl : l.length ≤ 100000) (hb : ByteL l) : wD (F_law_record [.lst (I l)]) (fun d as => d = .own (I (rcd l))) fun _ _ => False := by
  have hwn : l.length < 128 ^ 20 := Nat.lt_of_lt_of_le (show l.length < 128 ^ 3 by omega) (Nat.pow_le_pow_right (by decide) (by decide))
  have hwl : (wn l.length).length ≤ 20 := wn_len (k := 19) hwn
  refine wD_fn rfl ?_
  unfold b_law_record
  refine ws_mid (fun ρ => ρ = [some (.lst (I l)), some (.at (.int (cs l)))]) ?_ ?_
  · simp only [ws_asg, ws_ret, ws_retN, ws_drop, ws_pass, ws_bk, ws_ct, ws_if, ws_aug, ws_augI, ws_for, wv_cp, wv_mk, wv_share, wv_move, wv_1, wv_2, wv_A, wa_nil, wa_cons, wa_io, wv_tup, wv_lst, wv_call, wv_if, wv_sl, wv_ixN, wv_mt, wv_mut, wv_and, wv_or, wv_not, wv_lc, wi_arg, wb_q, wb_t, wb_v, wb_and, wb_or, wb_not, wb_yes, wq_var, wq_c, wq_2, wq_1, wq_A, wq_lNil, wq_lCons, wq_sl, wo_none, wo_some, wg_item, wg_set, wg_tup, wg_cons, wg_nil, wR_rb, wR_rp, wO_some, wO_none, wO_bind, wO_map, wO_iteN, look_zero, look_succ, Ed.turn, kIx_lst, kIx_tup, kIx_T, atI_0, atI_1, atI_2, atI_3, atI_4, atI_5, atI_6, atI_cast, ixN_0, ixN_1, ixN_2, ixN_3, asI_int, asB_bl, asS_str, oI_int, cT_true, kAdd_int, kAdd_T, kAdd_lst, kAdd_tup, kInt_int, kInt_bl, kMin_int, kMax_int, kLen_lst, kLen_tup, kLen_T, nOw_at, nOw_tup, nOw_lstF, nOw_own, nOws_nil, nOws_cons, nOws_append, nOws_ints, kEq_int, kNe_int, kEq_T, kNe_T, kEq_bl, kIsN_at, kNotN_at, kIsN_nd, kNotN_nd, kList_lst, kList_tup, kTuple_lst, kAppend_one, kSl_lst, kSl_T, kSl_tup, kRng1_int, kRng2_int, isL_own, frz_at, fok_at, frz_lst, fok_lst, frz_tup, fok_tup, kItL_lst, kItT_tup, kItS_T, kZip_lst, kEnum_lst, hole_none, hole_succ, putB_nil, putB_cons, finD_nil, finD_cons, lowE_nil, lowE_cons, lowS_some, lowS_none, wipeE_nil, wipeE_cons, backE_nil, backE_cons, kMod_int, kGe_int, kIn_T, List.map_cons, List.map_nil, List.length_cons, List.length_nil, List.length_map, List.length_set, List.cons_append, List.nil_append, Nat.reduceAdd, Nat.reduceSub, Nat.reduceLT, Nat.reduceLeDiff, Nat.zero_add, List.replicate_succ, List.replicate_zero, List.set_cons_zero, List.set_cons_succ, List.getElem?_cons_zero, List.getElem?_cons_succ, List.getElem?_nil, true_and, and_true, and_self, if_true, if_false, Bool.false_eq_true, reduceIte, List.mem_cons, List.not_mem_nil, or_false, false_or, reduceCtorEq, Nat.reduceEqDiff, or_self, or_true, true_or, Option.map_some, Option.getD_some, Option.isSome_some, Bool.not_true, Bool.not_false, Bool.and_true, Bool.true_and, Bool.and_eq_true, decide_eq_true_eq, Nat.zero_lt_succ, Nat.lt_add_one, Nat.succ_ne_self, Nat.add_one_ne_zero, not_true_eq_false, not_false_eq_true, wv_frz, shift_nil, shift_cons, Option.bind_some, wv_mutF, wv_mutV, wv_meth, wv_make, wv_callW, ws_setF, wg_un, kFld_obj, setO_obj, mutO_obj, hasL_obj, isO_obj, asL_own, bare_at, frzs_nil, frzs_cons, foks_nil, foks_cons, foks_I, frzs_I]
    refine wD_mono (law_checksum_ok hl hb) ?_ fun _ _ h => h.elim
    rintro d as rfl
    simp only [ws_asg, ws_ret, ws_retN, ws_drop, ws_pass, ws_bk, ws_ct, ws_if, ws_aug, ws_augI, ws_for, wv_cp, wv_mk, wv_share, wv_move, wv_1, wv_2, wv_A, wa_nil, wa_cons, wa_io, wv_tup, wv_lst, wv_call, wv_if, wv_sl, wv_ixN, wv_mt, wv_mut, wv_and, wv_or, wv_not, wv_lc, wi_arg, wb_q, wb_t, wb_v, wb_and, wb_or, wb_not, wb_yes, wq_var, wq_c, wq_2, wq_1, wq_A, wq_lNil, wq_lCons, wq_sl, wo_none, wo_some, wg_item, wg_set, wg_tup, wg_cons, wg_nil, wR_rb, wR_rp, wO_some, wO_none, wO_bind, wO_map, wO_iteN, look_zero, look_succ, Ed.turn, kIx_lst, kIx_tup, kIx_T, atI_0, atI_1, atI_2, atI_3, atI_4, atI_5, atI_6, atI_cast, ixN_0, ixN_1, ixN_2, ixN_3, asI_int, asB_bl, asS_str, oI_int, cT_true, kAdd_int, kAdd_T, kAdd_lst, kAdd_tup, kInt_int, kInt_bl, kMin_int, kMax_int, kLen_lst, kLen_tup, kLen_T, nOw_at, nOw_tup, nOw_lstF, nOw_own, nOws_nil, nOws_cons, nOws_append, nOws_ints, kEq_int, kNe_int, kEq_T, kNe_T, kEq_bl, kIsN_at, kNotN_at, kIsN_nd, kNotN_nd, kList_lst, kList_tup, kTuple_lst, kAppend_one, kSl_lst, kSl_T, kSl_tup, kRng1_int, kRng2_int, isL_own, frz_at, fok_at, frz_lst, fok_lst, frz_tup, fok_tup, kItL_lst, kItT_tup, kItS_T, kZip_lst, kEnum_lst, hole_none, hole_succ, putB_nil, putB_cons, finD_nil, finD_cons, lowE_nil, lowE_cons, lowS_some, lowS_none, wipeE_nil, wipeE_cons, backE_nil, backE_cons, kMod_int, kGe_int, kIn_T, List.map_cons, List.map_nil, List.length_cons, List.length_nil, List.length_map, List.length_set, List.cons_append, List.nil_append, Nat.reduceAdd, Nat.reduceSub, Nat.reduceLT, Nat.reduceLeDiff, Nat.zero_add, List.replicate_succ, List.replicate_zero, List.set_cons_zero, List.set_cons_succ, List.getElem?_cons_zero, List.getElem?_cons_succ, List.getElem?_nil, true_and, and_true, and_self, if_true, if_false, Bool.false_eq_true, reduceIte, List.mem_cons, List.not_mem_nil, or_false, false_or, reduceCtorEq, Nat.reduceEqDiff, or_self, or_true, true_or, Option.map_some, Option.getD_some, Option.isSome_some, Bool.not_true, Bool.not_false, Bool.and_true, Bool.true_and, Bool.and_eq_true, decide_eq_true_eq, Nat.zero_lt_succ, Nat.lt_add_one, Nat.succ_ne_self, Nat.add_one_ne_zero, not_true_eq_false, not_false_eq_true, wv_frz, shift_nil, shift_cons, Option.bind_some, wv_mutF, wv_mutV, wv_meth, wv_make, wv_callW, ws_setF, wg_un, kFld_obj, setO_obj, mutO_obj, hasL_obj, isO_obj, asL_own, bare_at, frzs_nil, frzs_cons, foks_nil, foks_cons]
  rintro ρ rfl
  simp only [ws_asg, ws_ret, ws_retN, ws_drop, ws_pass, ws_bk, ws_ct, ws_if, ws_aug, ws_augI, ws_for, wv_cp, wv_mk, wv_share, wv_move, wv_1, wv_2, wv_A, wa_nil, wa_cons, wa_io, wv_tup, wv_lst, wv_call, wv_if, wv_sl, wv_ixN, wv_mt, wv_mut, wv_and, wv_or, wv_not, wv_lc, wi_arg, wb_q, wb_t, wb_v, wb_and, wb_or, wb_not, wb_yes, wq_var, wq_c, wq_2, wq_1, wq_A, wq_lNil, wq_lCons, wq_sl, wo_none, wo_some, wg_item, wg_set, wg_tup, wg_cons, wg_nil, wR_rb, wR_rp, wO_some, wO_none, wO_bind, wO_map, wO_iteN, look_zero, look_succ, Ed.turn, kIx_lst, kIx_tup, kIx_T, atI_0, atI_1, atI_2, atI_3, atI_4, atI_5, atI_6, atI_cast, ixN_0, ixN_1, ixN_2, ixN_3, asI_int, asB_bl, asS_str, oI_int, cT_true, kAdd_int, kAdd_T, kAdd_lst, kAdd_tup, kInt_int, kInt_bl, kMin_int, kMax_int, kLen_lst, kLen_tup, kLen_T, nOw_at, nOw_tup, nOw_lstF, nOw_own, nOws_nil, nOws_cons, nOws_append, nOws_ints, kEq_int, kNe_int, kEq_T, kNe_T, kEq_bl, kIsN_at, kNotN_at, kIsN_nd, kNotN_nd, kList_lst, kList_tup, kTuple_lst, kAppend_one, kSl_lst, kSl_T, kSl_tup, kRng1_int, kRng2_int, isL_own, frz_at, fok_at, frz_lst, fok_lst, frz_tup, fok_tup, kItL_lst, kItT_tup, kItS_T, kZip_lst, kEnum_lst, hole_none, hole_succ, putB_nil, putB_cons, finD_nil, finD_cons, lowE_nil, lowE_cons, lowS_some, lowS_none, wipeE_nil, wipeE_cons, backE_nil, backE_cons, kMod_int, kGe_int, kIn_T, List.map_cons, List.map_nil, List.length_cons, List.length_nil, List.length_map, List.length_set, List.cons_append, List.nil_append, Nat.reduceAdd, Nat.reduceSub, Nat.reduceLT, Nat.reduceLeDiff, Nat.zero_add, List.replicate_succ, List.replicate_zero, List.set_cons_zero, List.set_cons_succ, List.getElem?_cons_zero, List.getElem?_cons_succ, List.getElem?_nil, true_and, and_true, and_self, if_true, if_false, Bool.false_eq_true, reduceIte, List.mem_cons, List.not_mem_nil, or_false, false_or, reduceCtorEq, Nat.reduceEqDiff, or_self, or_true, true_or, Option.map_some, Option.getD_some, Option.isSome_some, Bool.not_true, Bool.not_false, Bool.and_true, Bool.true_and, Bool.and_eq_true, decide_eq_true_eq, Nat.zero_lt_succ, Nat.lt_add_one, Nat.succ_ne_self, Nat.add_one_ne_zero, not_true_eq_false, not_false_eq_true, wv_frz, shift_nil, shift_cons, Option.bind_some, wv_mutF, wv_mutV, wv_meth, wv_make, wv_callW, ws_setF, wg_un, kFld_obj, setO_obj, mutO_obj, hasL_obj, isO_obj, asL_own, bare_at, frzs_nil, frzs_cons, foks_nil, foks_cons, nOws_I]
  refine wD_mono (law_number_ok hwn) ?_ fun _ _ h => h.elim
  rintro d as rfl
  simp only [ws_asg, ws_ret, ws_retN, ws_drop, ws_pass, ws_bk, ws_ct, ws_if, ws_aug, ws_augI, ws_for, wv_cp, wv_mk, wv_share, wv_move, wv_1, wv_2, wv_A, wa_nil, wa_cons, wa_io, wv_tup, wv_lst, wv_call, wv_if, wv_sl, wv_ixN, wv_mt, wv_mut, wv_and, wv_or, wv_not, wv_lc, wi_arg, wb_q, wb_t, wb_v, wb_and, wb_or, wb_not, wb_yes, wq_var, wq_c, wq_2, wq_1, wq_A, wq_lNil, wq_lCons, wq_sl, wo_none, wo_some, wg_item, wg_set, wg_tup, wg_cons, wg_nil, wR_rb, wR_rp, wO_some, wO_none, wO_bind, wO_map, wO_iteN, look_zero, look_succ, Ed.turn, kIx_lst, kIx_tup, kIx_T, atI_0, atI_1, atI_2, atI_3, atI_4, atI_5, atI_6, atI_cast, ixN_0, ixN_1, ixN_2, ixN_3, asI_int, asB_bl, asS_str, oI_int, cT_true, kAdd_int, kAdd_T, kAdd_lst, kAdd_tup, kInt_int, kInt_bl, kMin_int, kMax_int, kLen_lst, kLen_tup, kLen_T, nOw_at, nOw_tup, nOw_lstF, nOw_own, nOws_nil, nOws_cons, nOws_append, nOws_ints, kEq_int, kNe_int, kEq_T, kNe_T, kEq_bl, kIsN_at, kNotN_at, kIsN_nd, kNotN_nd, kList_lst, kList_tup, kTuple_lst, kAppend_one, kSl_lst, kSl_T, kSl_tup, kRng1_int, kRng2_int, isL_own, frz_at, fok_at, frz_lst, fok_lst, frz_tup, fok_tup, kItL_lst, kItT_tup, kItS_T, kZip_lst, kEnum_lst, hole_none, hole_succ, putB_nil, putB_cons, finD_nil, finD_cons, lowE_nil, lowE_cons, lowS_some, lowS_none, wipeE_nil, wipeE_cons, backE_nil, backE_cons, kMod_int, kGe_int, kIn_T, List.map_cons, List.map_nil, List.length_cons, List.length_nil, List.length_map, List.length_set, List.cons_append, List.nil_append, Nat.reduceAdd, Nat.reduceSub, Nat.reduceLT, Nat.reduceLeDiff, Nat.zero_add, List.replicate_succ, List.replicate_zero, List.set_cons_zero, List.set_cons_succ, List.getElem?_cons_zero, List.getElem?_cons_succ, List.getElem?_nil, true_and, and_true, and_self, if_true, if_false, Bool.false_eq_true, reduceIte, List.mem_cons, List.not_mem_nil, or_false, false_or, reduceCtorEq, Nat.reduceEqDiff, or_self, or_true, true_or, Option.map_some, Option.getD_some, Option.isSome_some, Bool.not_true, Bool.not_false, Bool.and_true, Bool.true_and, Bool.and_eq_true, decide_eq_true_eq, Nat.zero_lt_succ, Nat.lt_add_one, Nat.succ_ne_self, Nat.add_one_ne_zero, not_true_eq_false, not_false_eq_true, wv_frz, shift_nil, shift_cons, Option.bind_some, wv_mutF, wv_mutV, wv_meth, wv_make, wv_callW, ws_setF, wg_un, kFld_obj, setO_obj, mutO_obj, hasL_obj, isO_obj, asL_own, bare_at, frzs_nil, frzs_cons, foks_nil, foks_cons, nOws_I, nOw_lstF, kFdiv_int]
  exact ⟨by simp only [sizeLine]; omega, cFdiv_of (by decide) (by decide), cFdiv_of (by decide) (by decide), cMod_of (by decide), cFdiv_of (by decide) (by decide), cMod_of (by decide), cMod_of (by decide), by decide, by simp [sizeLine]; omega, by simp [rcd, tl4]⟩
abbrev RS : List Str := ["data", "at"]
theorem rx_d : ixF "data" RS = some 0 := by decide +kernel
theorem rx_a : ixF "at" RS = some 1 := by decide +kernel
theorem rx_b : ixF "read_byte" RS = none := by decide +kernel
theorem rx_n : ixF "read_number" RS = none := by decide +kernel
def encR (d : List Int) (a : Nat) : D := .nd (.obj "Reader" RS) [.own (I d), .at (.int a)]
def Dam (e : Exn) : Prop := e = ⟨"DamagedPacket", []⟩
theorem byte_ok {d : List Int} {a : Nat} : wD (F_Reader_read_byte [encR d a]) (fun v as => ∃ b, d[a]? = some b ∧ v = .at (.int b) ∧ as = [encR d (a + 1)]) fun e as => Dam e ∧ as = [encR d a] ∧ d.length ≤ a := by
  refine wD_fn rfl ?_
  unfold b_Reader_read_byte
  refine ws_mid (fun ρ => a < d.length ∧ ρ = [some (encR d a)]) ?_ ?_
  · unfold encR
    simp only [ws_seq, ws_asg, ws_ret, ws_retN, ws_drop, ws_pass, ws_bk, ws_ct, ws_if, ws_aug, ws_augI, ws_for, wv_cp, wv_mk, wv_share, wv_move, wv_1, wv_2, wv_A, wa_nil, wa_cons, wa_io, wv_tup, wv_lst, wv_call, wv_if, wv_sl, wv_ixN, wv_mt, wv_mut, wv_and, wv_or, wv_not, wv_lc, wi_arg, wb_q, wb_t, wb_v, wb_and, wb_or, wb_not, wb_yes, wq_var, wq_c, wq_2, wq_1, wq_A, wq_lNil, wq_lCons, wq_sl, wo_none, wo_some, wg_item, wg_set, wg_tup, wg_cons, wg_nil, wR_rb, wR_rp, wO_some, wO_none, wO_bind, wO_map, wO_iteN, look_zero, look_succ, Ed.turn, kIx_lst, kIx_tup, kIx_T, atI_0, atI_1, atI_2, atI_3, atI_4, atI_5, atI_6, atI_cast, ixN_0, ixN_1, ixN_2, ixN_3, asI_int, asB_bl, asS_str, oI_int, cT_true, kAdd_int, kAdd_T, kAdd_lst, kAdd_tup, kInt_int, kInt_bl, kMin_int, kMax_int, kLen_lst, kLen_tup, kLen_T, nOw_at, nOw_tup, nOw_lstF, nOw_own, nOws_nil, nOws_cons, nOws_append, nOws_ints, kEq_int, kNe_int, kEq_T, kNe_T, kEq_bl, kIsN_at, kNotN_at, kIsN_nd, kNotN_nd, kList_lst, kList_tup, kTuple_lst, kAppend_one, kSl_lst, kSl_T, kSl_tup, kRng1_int, kRng2_int, isL_own, frz_at, fok_at, frz_lst, fok_lst, frz_tup, fok_tup, kItL_lst, kItT_tup, kItS_T, kZip_lst, kEnum_lst, hole_none, hole_succ, putB_nil, putB_cons, finD_nil, finD_cons, lowE_nil, lowE_cons, lowS_some, lowS_none, wipeE_nil, wipeE_cons, backE_nil, backE_cons, kMod_int, kGe_int, kIn_T, List.map_cons, List.map_nil, List.length_cons, List.length_nil, List.length_map, List.length_set, List.cons_append, List.nil_append, Nat.reduceAdd, Nat.reduceSub, Nat.reduceLT, Nat.reduceLeDiff, Nat.zero_add, List.replicate_succ, List.replicate_zero, List.set_cons_zero, List.set_cons_succ, List.getElem?_cons_zero, List.getElem?_cons_succ, List.getElem?_nil, true_and, and_true, and_self, if_true, if_false, Bool.false_eq_true, reduceIte, List.mem_cons, List.not_mem_nil, or_false, false_or, reduceCtorEq, Nat.reduceEqDiff, or_self, or_true, true_or, Option.map_some, Option.getD_some, Option.isSome_some, Bool.not_true, Bool.not_false, Bool.and_true, Bool.true_and, Bool.and_eq_true, decide_eq_true_eq, Nat.zero_lt_succ, Nat.lt_add_one, Nat.succ_ne_self, Nat.add_one_ne_zero, not_true_eq_false, not_false_eq_true, wv_frz, shift_nil, shift_cons, Option.bind_some, wv_mutF, wv_mutV, wv_meth, wv_make, wv_callW, ws_setF, wg_un, kFld_obj, setO_obj, mutO_obj, hasL_obj, isO_obj, asL_own, bare_at, frzs_nil, frzs_cons, foks_nil, foks_cons, rx_d, rx_a, ws_raise]
    split
    · rename_i h
      exact ⟨rfl, by omega⟩
    · omega
  rintro ρ ⟨h, rfl⟩
  unfold encR
  simp only [ws_seq, ws_asg, ws_ret, ws_retN, ws_drop, ws_pass, ws_bk, ws_ct, ws_if, ws_aug, ws_augI, ws_for, wv_cp, wv_mk, wv_share, wv_move, wv_1, wv_2, wv_A, wa_nil, wa_cons, wa_io, wv_tup, wv_lst, wv_call, wv_if, wv_sl, wv_ixN, wv_mt, wv_mut, wv_and, wv_or, wv_not, wv_lc, wi_arg, wb_q, wb_t, wb_v, wb_and, wb_or, wb_not, wb_yes, wq_var, wq_c, wq_2, wq_1, wq_A, wq_lNil, wq_lCons, wq_sl, wo_none, wo_some, wg_item, wg_set, wg_tup, wg_cons, wg_nil, wR_rb, wR_rp, wO_some, wO_none, wO_bind, wO_map, wO_iteN, look_zero, look_succ, Ed.turn, kIx_lst, kIx_tup, kIx_T, atI_0, atI_1, atI_2, atI_3, atI_4, atI_5, atI_6, atI_cast, ixN_0, ixN_1, ixN_2, ixN_3, asI_int, asB_bl, asS_str, oI_int, cT_true, kAdd_int, kAdd_T, kAdd_lst, kAdd_tup, kInt_int, kInt_bl, kMin_int, kMax_int, kLen_lst, kLen_tup, kLen_T, nOw_at, nOw_tup, nOw_lstF, nOw_own, nOws_nil, nOws_cons, nOws_append, nOws_ints, kEq_int, kNe_int, kEq_T, kNe_T, kEq_bl, kIsN_at, kNotN_at, kIsN_nd, kNotN_nd, kList_lst, kList_tup, kTuple_lst, kAppend_one, kSl_lst, kSl_T, kSl_tup, kRng1_int, kRng2_int, isL_own, frz_at, fok_at, frz_lst, fok_lst, frz_tup, fok_tup, kItL_lst, kItT_tup, kItS_T, kZip_lst, kEnum_lst, hole_none, hole_succ, putB_nil, putB_cons, finD_nil, finD_cons, lowE_nil, lowE_cons, lowS_some, lowS_none, wipeE_nil, wipeE_cons, backE_nil, backE_cons, kMod_int, kGe_int, kIn_T, List.map_cons, List.map_nil, List.length_cons, List.length_nil, List.length_map, List.length_set, List.cons_append, List.nil_append, Nat.reduceAdd, Nat.reduceSub, Nat.reduceLT, Nat.reduceLeDiff, Nat.zero_add, List.replicate_succ, List.replicate_zero, List.set_cons_zero, List.set_cons_succ, List.getElem?_cons_zero, List.getElem?_cons_succ, List.getElem?_nil, true_and, and_true, and_self, if_true, if_false, Bool.false_eq_true, reduceIte, List.mem_cons, List.not_mem_nil, or_false, false_or, reduceCtorEq, Nat.reduceEqDiff, or_self, or_true, true_or, Option.map_some, Option.getD_some, Option.isSome_some, Bool.not_true, Bool.not_false, Bool.and_true, Bool.true_and, Bool.and_eq_true, decide_eq_true_eq, Nat.zero_lt_succ, Nat.lt_add_one, Nat.succ_ne_self, Nat.add_one_ne_zero, not_true_eq_false, not_false_eq_true, wv_frz, shift_nil, shift_cons, Option.bind_some, wv_mutF, wv_mutV, wv_meth, wv_make, wv_callW, ws_setF, wg_un, kFld_obj, setO_obj, mutO_obj, hasL_obj, isO_obj, asL_own, bare_at, frzs_nil, frzs_cons, foks_nil, foks_cons, rx_d, rx_a, ws_augF, putD, kSub_int]
  rw [atI_pos (by omega), show ((a : Int) + 1 - 1).toNat = a by omega, List.getElem?_map, List.getElem?_eq_getElem h]
  simp only [ws_seq, ws_asg, ws_ret, ws_retN, ws_drop, ws_pass, ws_bk, ws_ct, ws_if, ws_aug, ws_augI, ws_for, wv_cp, wv_mk, wv_share, wv_move, wv_1, wv_2, wv_A, wa_nil, wa_cons, wa_io, wv_tup, wv_lst, wv_call, wv_if, wv_sl, wv_ixN, wv_mt, wv_mut, wv_and, wv_or, wv_not, wv_lc, wi_arg, wb_q, wb_t, wb_v, wb_and, wb_or, wb_not, wb_yes, wq_var, wq_c, wq_2, wq_1, wq_A, wq_lNil, wq_lCons, wq_sl, wo_none, wo_some, wg_item, wg_set, wg_tup, wg_cons, wg_nil, wR_rb, wR_rp, wO_some, wO_none, wO_bind, wO_map, wO_iteN, look_zero, look_succ, Ed.turn, kIx_lst, kIx_tup, kIx_T, atI_0, atI_1, atI_2, atI_3, atI_4, atI_5, atI_6, atI_cast, ixN_0, ixN_1, ixN_2, ixN_3, asI_int, asB_bl, asS_str, oI_int, cT_true, kAdd_int, kAdd_T, kAdd_lst, kAdd_tup, kInt_int, kInt_bl, kMin_int, kMax_int, kLen_lst, kLen_tup, kLen_T, nOw_at, nOw_tup, nOw_lstF, nOw_own, nOws_nil, nOws_cons, nOws_append, nOws_ints, kEq_int, kNe_int, kEq_T, kNe_T, kEq_bl, kIsN_at, kNotN_at, kIsN_nd, kNotN_nd, kList_lst, kList_tup, kTuple_lst, kAppend_one, kSl_lst, kSl_T, kSl_tup, kRng1_int, kRng2_int, isL_own, frz_at, fok_at, frz_lst, fok_lst, frz_tup, fok_tup, kItL_lst, kItT_tup, kItS_T, kZip_lst, kEnum_lst, hole_none, hole_succ, putB_nil, putB_cons, finD_nil, finD_cons, lowE_nil, lowE_cons, lowS_some, lowS_none, wipeE_nil, wipeE_cons, backE_nil, backE_cons, kMod_int, kGe_int, kIn_T, List.map_cons, List.map_nil, List.length_cons, List.length_nil, List.length_map, List.length_set, List.cons_append, List.nil_append, Nat.reduceAdd, Nat.reduceSub, Nat.reduceLT, Nat.reduceLeDiff, Nat.zero_add, List.replicate_succ, List.replicate_zero, List.set_cons_zero, List.set_cons_succ, List.getElem?_cons_zero, List.getElem?_cons_succ, List.getElem?_nil, true_and, and_true, and_self, if_true, if_false, Bool.false_eq_true, reduceIte, List.mem_cons, List.not_mem_nil, or_false, false_or, reduceCtorEq, Nat.reduceEqDiff, or_self, or_true, true_or, Option.map_some, Option.getD_some, Option.isSome_some, Bool.not_true, Bool.not_false, Bool.and_true, Bool.true_and, Bool.and_eq_true, decide_eq_true_eq, Nat.zero_lt_succ, Nat.lt_add_one, Nat.succ_ne_self, Nat.add_one_ne_zero, not_true_eq_false, not_false_eq_true, wv_frz, shift_nil, shift_cons, Option.bind_some, wv_mutF, wv_mutV, wv_meth, wv_make, wv_callW, ws_setF, wg_un, kFld_obj, setO_obj, mutO_obj, hasL_obj, isO_obj, asL_own, bare_at, frzs_nil, frzs_cons, foks_nil, foks_cons]
  exact ⟨_, rfl, rfl, rfl⟩
/-- the number that the bytes tell, and how many -/
def rnG : Nat → Nat → Int → Int → List Int → Option (Int × Nat)
  | 0, _, _, _, _ => none
  | _ + 1, _, _, _, [] => none
  | k + 1, idx, tot, fac, b :: r => if b < 128 then (if b = 0 ∧ 0 < idx then none else some (tot + b % 128 * fac, 1)) else (rnG k (idx + 1) (tot + b % 128 * fac) (fac * 128) r).map fun p => (p.1, p.2 + 1)
theorem rnG_wn : ∀ (k n idx : Nat) (tot fac : Int) (rest : List Int), (wn n).length ≤ k → (n ≠ 0 ∨ idx = 0) → rnG k idx tot fac (wn n ++ rest) = some (tot + n * fac, (wn n).length)
  | 0, n, _, _, _, _, h, _ => by have := wn_pos n; omega
  | k + 1, n, idx, tot, fac, rest, h, h0 => by
    by_cases hs : n < 128
    · rw [wn_small hs]
      show (if (n : Int) < 128 then _ else _) = _
      rw [if_pos (by omega), if_neg (by omega), show (n : Int) % 128 = n by omega]
      rfl
    · rw [wn_big hs]
      show (if ((n % 128 + 128 : Nat) : Int) < 128 then _ else (rnG k (idx + 1) (tot + ((n % 128 + 128 : Nat) : Int) % 128 * fac) (fac * 128) (wn (n / 128) ++ rest)).map fun p => (p.1, p.2 + 1)) = _
      rw [if_neg (by omega), rnG_wn k (n / 128) (idx + 1) _ _ rest (by rw [wn_big hs, List.length_cons] at h; omega) (.inl (by omega))]
      rw [Option.map_some]
      congr 2
      have e1 : ((n % 128 + 128 : Nat) : Int) % 128 = ((n % 128 : Nat) : Int) := by omega
      have e2 : (n : Int) = ((n / 128 : Nat) : Int) * 128 + ((n % 128 : Nat) : Int) := by omega
      rw [e1, e2]
      generalize ((n / 128 : Nat) : Int) = q
      generalize ((n % 128 : Nat) : Int) = r
      rw [Int.add_mul, Int.mul_comm fac 128, ← Int.mul_assoc]
      omega
theorem number_ok {d : List Int} {a : Nat} : wD (F_Reader_read_number [encR d a]) (fun v as => ∃ n c, rnG 60 0 0 1 (d.drop a) = some (n, c) ∧ v = .at (.int n) ∧ as = [encR d (a + c)]) fun e as => Dam e ∧ rnG 60 0 0 1 (d.drop a) = none ∧ ∃ q, as = [q] := by
  refine wD_fn rfl ?_
  unfold b_Reader_read_number
  refine ws_mid (fun ρ => ρ = [some (encR d a), some (.at (.int 0)), none, none, none]) ?_ ?_
  · simp only [ws_asg, ws_ret, ws_retN, ws_drop, ws_pass, ws_bk, ws_ct, ws_if, ws_aug, ws_augI, ws_for, wv_cp, wv_mk, wv_share, wv_move, wv_1, wv_2, wv_A, wa_nil, wa_cons, wa_io, wv_tup, wv_lst, wv_call, wv_if, wv_sl, wv_ixN, wv_mt, wv_mut, wv_and, wv_or, wv_not, wv_lc, wi_arg, wb_q, wb_t, wb_v, wb_and, wb_or, wb_not, wb_yes, wq_var, wq_c, wq_2, wq_1, wq_A, wq_lNil, wq_lCons, wq_sl, wo_none, wo_some, wg_item, wg_set, wg_tup, wg_cons, wg_nil, wR_rb, wR_rp, wO_some, wO_none, wO_bind, wO_map, wO_iteN, look_zero, look_succ, Ed.turn, kIx_lst, kIx_tup, kIx_T, atI_0, atI_1, atI_2, atI_3, atI_4, atI_5, atI_6, atI_cast, ixN_0, ixN_1, ixN_2, ixN_3, asI_int, asB_bl, asS_str, oI_int, cT_true, kAdd_int, kAdd_T, kAdd_lst, kAdd_tup, kInt_int, kInt_bl, kMin_int, kMax_int, kLen_lst, kLen_tup, kLen_T, nOw_at, nOw_tup, nOw_lstF, nOw_own, nOws_nil, nOws_cons, nOws_append, nOws_ints, kEq_int, kNe_int, kEq_T, kNe_T, kEq_bl, kIsN_at, kNotN_at, kIsN_nd, kNotN_nd, kList_lst, kList_tup, kTuple_lst, kAppend_one, kSl_lst, kSl_T, kSl_tup, kRng1_int, kRng2_int, isL_own, frz_at, fok_at, frz_lst, fok_lst, frz_tup, fok_tup, kItL_lst, kItT_tup, kItS_T, kZip_lst, kEnum_lst, hole_none, hole_succ, putB_nil, putB_cons, finD_nil, finD_cons, lowE_nil, lowE_cons, lowS_some, lowS_none, wipeE_nil, wipeE_cons, backE_nil, backE_cons, kMod_int, kGe_int, kIn_T, List.map_cons, List.map_nil, List.length_cons, List.length_nil, List.length_map, List.length_set, List.cons_append, List.nil_append, Nat.reduceAdd, Nat.reduceSub, Nat.reduceLT, Nat.reduceLeDiff, Nat.zero_add, List.replicate_succ, List.replicate_zero, List.set_cons_zero, List.set_cons_succ, List.getElem?_cons_zero, List.getElem?_cons_succ, List.getElem?_nil, true_and, and_true, and_self, if_true, if_false, Bool.false_eq_true, reduceIte, List.mem_cons, List.not_mem_nil, or_false, false_or, reduceCtorEq, Nat.reduceEqDiff, or_self, or_true, true_or, Option.map_some, Option.getD_some, Option.isSome_some, Bool.not_true, Bool.not_false, Bool.and_true, Bool.true_and, Bool.and_eq_true, decide_eq_true_eq, Nat.zero_lt_succ, Nat.lt_add_one, Nat.succ_ne_self, Nat.add_one_ne_zero, not_true_eq_false, not_false_eq_true, wv_frz, shift_nil, shift_cons, Option.bind_some, wv_mutF, wv_mutV, wv_meth, wv_make, wv_callW, ws_setF, wg_un, kFld_obj, setO_obj, mutO_obj, hasL_obj, isO_obj, asL_own, bare_at, frzs_nil, frzs_cons, foks_nil, foks_cons]
  rintro ρ rfl
  refine ws_mid (fun ρ => ρ = [some (encR d a), some (.at (.int 0)), some (.at (.int 1)), none, none]) ?_ ?_
  · simp only [ws_asg, ws_ret, ws_retN, ws_drop, ws_pass, ws_bk, ws_ct, ws_if, ws_aug, ws_augI, ws_for, wv_cp, wv_mk, wv_share, wv_move, wv_1, wv_2, wv_A, wa_nil, wa_cons, wa_io, wv_tup, wv_lst, wv_call, wv_if, wv_sl, wv_ixN, wv_mt, wv_mut, wv_and, wv_or, wv_not, wv_lc, wi_arg, wb_q, wb_t, wb_v, wb_and, wb_or, wb_not, wb_yes, wq_var, wq_c, wq_2, wq_1, wq_A, wq_lNil, wq_lCons, wq_sl, wo_none, wo_some, wg_item, wg_set, wg_tup, wg_cons, wg_nil, wR_rb, wR_rp, wO_some, wO_none, wO_bind, wO_map, wO_iteN, look_zero, look_succ, Ed.turn, kIx_lst, kIx_tup, kIx_T, atI_0, atI_1, atI_2, atI_3, atI_4, atI_5, atI_6, atI_cast, ixN_0, ixN_1, ixN_2, ixN_3, asI_int, asB_bl, asS_str, oI_int, cT_true, kAdd_int, kAdd_T, kAdd_lst, kAdd_tup, kInt_int, kInt_bl, kMin_int, kMax_int, kLen_lst, kLen_tup, kLen_T, nOw_at, nOw_tup, nOw_lstF, nOw_own, nOws_nil, nOws_cons, nOws_append, nOws_ints, kEq_int, kNe_int, kEq_T, kNe_T, kEq_bl, kIsN_at, kNotN_at, kIsN_nd, kNotN_nd, kList_lst, kList_tup, kTuple_lst, kAppend_one, kSl_lst, kSl_T, kSl_tup, kRng1_int, kRng2_int, isL_own, frz_at, fok_at, frz_lst, fok_lst, frz_tup, fok_tup, kItL_lst, kItT_tup, kItS_T, kZip_lst, kEnum_lst, hole_none, hole_succ, putB_nil, putB_cons, finD_nil, finD_cons, lowE_nil, lowE_cons, lowS_some, lowS_none, wipeE_nil, wipeE_cons, backE_nil, backE_cons, kMod_int, kGe_int, kIn_T, List.map_cons, List.map_nil, List.length_cons, List.length_nil, List.length_map, List.length_set, List.cons_append, List.nil_append, Nat.reduceAdd, Nat.reduceSub, Nat.reduceLT, Nat.reduceLeDiff, Nat.zero_add, List.replicate_succ, List.replicate_zero, List.set_cons_zero, List.set_cons_succ, List.getElem?_cons_zero, List.getElem?_cons_succ, List.getElem?_nil, true_and, and_true, and_self, if_true, if_false, Bool.false_eq_true, reduceIte, List.mem_cons, List.not_mem_nil, or_false, false_or, reduceCtorEq, Nat.reduceEqDiff, or_self, or_true, true_or, Option.map_some, Option.getD_some, Option.isSome_some, Bool.not_true, Bool.not_false, Bool.and_true, Bool.true_and, Bool.and_eq_true, decide_eq_true_eq, Nat.zero_lt_succ, Nat.lt_add_one, Nat.succ_ne_self, Nat.add_one_ne_zero, not_true_eq_false, not_false_eq_true, wv_frz, shift_nil, shift_cons, Option.bind_some, wv_mutF, wv_mutV, wv_meth, wv_make, wv_callW, ws_setF, wg_un, kFld_obj, setO_obj, mutO_obj, hasL_obj, isO_obj, asL_own, bare_at, frzs_nil, frzs_cons, foks_nil, foks_cons]
  rintro ρ rfl
  refine ws_mid (fun ρ => rnG 60 0 0 1 (d.drop a) = none ∧ ∃ q x y z w, ρ = [some q, x, y, z, w]) ?_ ?_
  · simp only [ws_asg, ws_ret, ws_retN, ws_drop, ws_pass, ws_bk, ws_ct, ws_if, ws_aug, ws_augI, ws_for, wv_cp, wv_mk, wv_share, wv_move, wv_1, wv_2, wv_A, wa_nil, wa_cons, wa_io, wv_tup, wv_lst, wv_call, wv_if, wv_sl, wv_ixN, wv_mt, wv_mut, wv_and, wv_or, wv_not, wv_lc, wi_arg, wb_q, wb_t, wb_v, wb_and, wb_or, wb_not, wb_yes, wq_var, wq_c, wq_2, wq_1, wq_A, wq_lNil, wq_lCons, wq_sl, wo_none, wo_some, wg_item, wg_set, wg_tup, wg_cons, wg_nil, wR_rb, wR_rp, wO_some, wO_none, wO_bind, wO_map, wO_iteN, look_zero, look_succ, Ed.turn, kIx_lst, kIx_tup, kIx_T, atI_0, atI_1, atI_2, atI_3, atI_4, atI_5, atI_6, atI_cast, ixN_0, ixN_1, ixN_2, ixN_3, asI_int, asB_bl, asS_str, oI_int, cT_true, kAdd_int, kAdd_T, kAdd_lst, kAdd_tup, kInt_int, kInt_bl, kMin_int, kMax_int, kLen_lst, kLen_tup, kLen_T, nOw_at, nOw_tup, nOw_lstF, nOw_own, nOws_nil, nOws_cons, nOws_append, nOws_ints, kEq_int, kNe_int, kEq_T, kNe_T, kEq_bl, kIsN_at, kNotN_at, kIsN_nd, kNotN_nd, kList_lst, kList_tup, kTuple_lst, kAppend_one, kSl_lst, kSl_T, kSl_tup, kRng1_int, kRng2_int, isL_own, frz_at, fok_at, frz_lst, fok_lst, frz_tup, fok_tup, kItL_lst, kItT_tup, kItS_T, kZip_lst, kEnum_lst, hole_none, hole_succ, putB_nil, putB_cons, finD_nil, finD_cons, lowE_nil, lowE_cons, lowS_some, lowS_none, wipeE_nil, wipeE_cons, backE_nil, backE_cons, kMod_int, kGe_int, kIn_T, List.map_cons, List.map_nil, List.length_cons, List.length_nil, List.length_map, List.length_set, List.cons_append, List.nil_append, Nat.reduceAdd, Nat.reduceSub, Nat.reduceLT, Nat.reduceLeDiff, Nat.zero_add, List.replicate_succ, List.replicate_zero, List.set_cons_zero, List.set_cons_succ, List.getElem?_cons_zero, List.getElem?_cons_succ, List.getElem?_nil, true_and, and_true, and_self, if_true, if_false, Bool.false_eq_true, reduceIte, List.mem_cons, List.not_mem_nil, or_false, false_or, reduceCtorEq, Nat.reduceEqDiff, or_self, or_true, true_or, Option.map_some, Option.getD_some, Option.isSome_some, Bool.not_true, Bool.not_false, Bool.and_true, Bool.true_and, Bool.and_eq_true, decide_eq_true_eq, Nat.zero_lt_succ, Nat.lt_add_one, Nat.succ_ne_self, Nat.add_one_ne_zero, not_true_eq_false, not_false_eq_true, wv_frz, shift_nil, shift_cons, Option.bind_some, wv_mutF, wv_mutV, wv_meth, wv_make, wv_callW, ws_setF, wg_un, kFld_obj, setO_obj, mutO_obj, hasL_obj, isO_obj, asL_own, bare_at, frzs_nil, frzs_cons, foks_nil, foks_cons]
    refine ⟨by decide, w_for (fun i ρ => ∃ (tot : Int) (x y : Option D), rnG 60 0 0 1 (d.drop a) = (rnG (60 - i) i tot (128 ^ i) (d.drop (a + i))).map (fun p => (p.1, p.2 + i)) ∧ ρ = [some (encR d (a + i)), some (.at (.int tot)), some (.at (.int (128 ^ i))), x, y]) ⟨0, none, none, by simp, rfl⟩ ?_ ?_⟩
    · rintro i e ρ hd ⟨tot, x, y, hr, rfl⟩
      obtain ⟨hi, rfl⟩ := rngD_get hd
      have hi : i < 60 := hi
      simp only [wg_set]
      refine ⟨by simp, ?_⟩
      refine ws_mid (fun ρ => ∃ b, d[a + i]? = some b ∧ ρ = [some (encR d (a + i + 1)), some (.at (.int tot)), some (.at (.int (128 ^ i))), some (.at (.int i)), some (.at (.int b))]) ?_ ?_
      · simp only [ws_asg, ws_ret, ws_retN, ws_drop, ws_pass, ws_bk, ws_ct, ws_if, ws_aug, ws_augI, ws_for, wv_cp, wv_mk, wv_share, wv_move, wv_1, wv_2, wv_A, wa_nil, wa_cons, wa_io, wv_tup, wv_lst, wv_call, wv_if, wv_sl, wv_ixN, wv_mt, wv_mut, wv_and, wv_or, wv_not, wv_lc, wi_arg, wb_q, wb_t, wb_v, wb_and, wb_or, wb_not, wb_yes, wq_var, wq_c, wq_2, wq_1, wq_A, wq_lNil, wq_lCons, wq_sl, wo_none, wo_some, wg_item, wg_set, wg_tup, wg_cons, wg_nil, wR_rb, wR_rp, wO_some, wO_none, wO_bind, wO_map, wO_iteN, look_zero, look_succ, Ed.turn, kIx_lst, kIx_tup, kIx_T, atI_0, atI_1, atI_2, atI_3, atI_4, atI_5, atI_6, atI_cast, ixN_0, ixN_1, ixN_2, ixN_3, asI_int, asB_bl, asS_str, oI_int, cT_true, kAdd_int, kAdd_T, kAdd_lst, kAdd_tup, kInt_int, kInt_bl, kMin_int, kMax_int, kLen_lst, kLen_tup, kLen_T, nOw_at, nOw_tup, nOw_lstF, nOw_own, nOws_nil, nOws_cons, nOws_append, nOws_ints, kEq_int, kNe_int, kEq_T, kNe_T, kEq_bl, kIsN_at, kNotN_at, kIsN_nd, kNotN_nd, kList_lst, kList_tup, kTuple_lst, kAppend_one, kSl_lst, kSl_T, kSl_tup, kRng1_int, kRng2_int, isL_own, frz_at, fok_at, frz_lst, fok_lst, frz_tup, fok_tup, kItL_lst, kItT_tup, kItS_T, kZip_lst, kEnum_lst, hole_none, hole_succ, putB_nil, putB_cons, finD_nil, finD_cons, lowE_nil, lowE_cons, lowS_some, lowS_none, wipeE_nil, wipeE_cons, backE_nil, backE_cons, kMod_int, kGe_int, kIn_T, List.map_cons, List.map_nil, List.length_cons, List.length_nil, List.length_map, List.length_set, List.cons_append, List.nil_append, Nat.reduceAdd, Nat.reduceSub, Nat.reduceLT, Nat.reduceLeDiff, Nat.zero_add, List.replicate_succ, List.replicate_zero, List.set_cons_zero, List.set_cons_succ, List.getElem?_cons_zero, List.getElem?_cons_succ, List.getElem?_nil, true_and, and_true, and_self, if_true, if_false, Bool.false_eq_true, reduceIte, List.mem_cons, List.not_mem_nil, or_false, false_or, reduceCtorEq, Nat.reduceEqDiff, or_self, or_true, true_or, Option.map_some, Option.getD_some, Option.isSome_some, Bool.not_true, Bool.not_false, Bool.and_true, Bool.true_and, Bool.and_eq_true, decide_eq_true_eq, Nat.zero_lt_succ, Nat.lt_add_one, Nat.succ_ne_self, Nat.add_one_ne_zero, not_true_eq_false, not_false_eq_true, wv_frz, shift_nil, shift_cons, Option.bind_some, wv_mutF, wv_mutV, wv_meth, wv_make, wv_callW, ws_setF, wg_un, kFld_obj, setO_obj, mutO_obj, hasL_obj, isO_obj, asL_own, bare_at, frzs_nil, frzs_cons, foks_nil, foks_cons, encR, rx_b]
        refine ⟨rfl, wD_mono (byte_ok (d := d) (a := a + i)) ?_ ?_⟩
        · rintro v as ⟨b, hb, rfl, rfl⟩
          simp only [ws_asg, ws_ret, ws_retN, ws_drop, ws_pass, ws_bk, ws_ct, ws_if, ws_aug, ws_augI, ws_for, wv_cp, wv_mk, wv_share, wv_move, wv_1, wv_2, wv_A, wa_nil, wa_cons, wa_io, wv_tup, wv_lst, wv_call, wv_if, wv_sl, wv_ixN, wv_mt, wv_mut, wv_and, wv_or, wv_not, wv_lc, wi_arg, wb_q, wb_t, wb_v, wb_and, wb_or, wb_not, wb_yes, wq_var, wq_c, wq_2, wq_1, wq_A, wq_lNil, wq_lCons, wq_sl, wo_none, wo_some, wg_item, wg_set, wg_tup, wg_cons, wg_nil, wR_rb, wR_rp, wO_some, wO_none, wO_bind, wO_map, wO_iteN, look_zero, look_succ, Ed.turn, kIx_lst, kIx_tup, kIx_T, atI_0, atI_1, atI_2, atI_3, atI_4, atI_5, atI_6, atI_cast, ixN_0, ixN_1, ixN_2, ixN_3, asI_int, asB_bl, asS_str, oI_int, cT_true, kAdd_int, kAdd_T, kAdd_lst, kAdd_tup, kInt_int, kInt_bl, kMin_int, kMax_int, kLen_lst, kLen_tup, kLen_T, nOw_at, nOw_tup, nOw_lstF, nOw_own, nOws_nil, nOws_cons, nOws_append, nOws_ints, kEq_int, kNe_int, kEq_T, kNe_T, kEq_bl, kIsN_at, kNotN_at, kIsN_nd, kNotN_nd, kList_lst, kList_tup, kTuple_lst, kAppend_one, kSl_lst, kSl_T, kSl_tup, kRng1_int, kRng2_int, isL_own, frz_at, fok_at, frz_lst, fok_lst, frz_tup, fok_tup, kItL_lst, kItT_tup, kItS_T, kZip_lst, kEnum_lst, hole_none, hole_succ, putB_nil, putB_cons, finD_nil, finD_cons, lowE_nil, lowE_cons, lowS_some, lowS_none, wipeE_nil, wipeE_cons, backE_nil, backE_cons, kMod_int, kGe_int, kIn_T, List.map_cons, List.map_nil, List.length_cons, List.length_nil, List.length_map, List.length_set, List.cons_append, List.nil_append, Nat.reduceAdd, Nat.reduceSub, Nat.reduceLT, Nat.reduceLeDiff, Nat.zero_add, List.replicate_succ, List.replicate_zero, List.set_cons_zero, List.set_cons_succ, List.getElem?_cons_zero, List.getElem?_cons_succ, List.getElem?_nil, true_and, and_true, and_self, if_true, if_false, Bool.false_eq_true, reduceIte, List.mem_cons, List.not_mem_nil, or_false, false_or, reduceCtorEq, Nat.reduceEqDiff, or_self, or_true, true_or, Option.map_some, Option.getD_some, Option.isSome_some, Bool.not_true, Bool.not_false, Bool.and_true, Bool.true_and, Bool.and_eq_true, decide_eq_true_eq, Nat.zero_lt_succ, Nat.lt_add_one, Nat.succ_ne_self, Nat.add_one_ne_zero, not_true_eq_false, not_false_eq_true, wv_frz, shift_nil, shift_cons, Option.bind_some, wv_mutF, wv_mutV, wv_meth, wv_make, wv_callW, ws_setF, wg_un, kFld_obj, setO_obj, mutO_obj, hasL_obj, isO_obj, asL_own, bare_at, frzs_nil, frzs_cons, foks_nil, foks_cons]
          exact ⟨b, hb, by rw [Int.zero_add]; rfl⟩
        · rintro e as ⟨he, rfl, hle⟩
          simp only [ws_asg, ws_ret, ws_retN, ws_drop, ws_pass, ws_bk, ws_ct, ws_if, ws_aug, ws_augI, ws_for, wv_cp, wv_mk, wv_share, wv_move, wv_1, wv_2, wv_A, wa_nil, wa_cons, wa_io, wv_tup, wv_lst, wv_call, wv_if, wv_sl, wv_ixN, wv_mt, wv_mut, wv_and, wv_or, wv_not, wv_lc, wi_arg, wb_q, wb_t, wb_v, wb_and, wb_or, wb_not, wb_yes, wq_var, wq_c, wq_2, wq_1, wq_A, wq_lNil, wq_lCons, wq_sl, wo_none, wo_some, wg_item, wg_set, wg_tup, wg_cons, wg_nil, wR_rb, wR_rp, wO_some, wO_none, wO_bind, wO_map, wO_iteN, look_zero, look_succ, Ed.turn, kIx_lst, kIx_tup, kIx_T, atI_0, atI_1, atI_2, atI_3, atI_4, atI_5, atI_6, atI_cast, ixN_0, ixN_1, ixN_2, ixN_3, asI_int, asB_bl, asS_str, oI_int, cT_true, kAdd_int, kAdd_T, kAdd_lst, kAdd_tup, kInt_int, kInt_bl, kMin_int, kMax_int, kLen_lst, kLen_tup, kLen_T, nOw_at, nOw_tup, nOw_lstF, nOw_own, nOws_nil, nOws_cons, nOws_append, nOws_ints, kEq_int, kNe_int, kEq_T, kNe_T, kEq_bl, kIsN_at, kNotN_at, kIsN_nd, kNotN_nd, kList_lst, kList_tup, kTuple_lst, kAppend_one, kSl_lst, kSl_T, kSl_tup, kRng1_int, kRng2_int, isL_own, frz_at, fok_at, frz_lst, fok_lst, frz_tup, fok_tup, kItL_lst, kItT_tup, kItS_T, kZip_lst, kEnum_lst, hole_none, hole_succ, putB_nil, putB_cons, finD_nil, finD_cons, lowE_nil, lowE_cons, lowS_some, lowS_none, wipeE_nil, wipeE_cons, backE_nil, backE_cons, kMod_int, kGe_int, kIn_T, List.map_cons, List.map_nil, List.length_cons, List.length_nil, List.length_map, List.length_set, List.cons_append, List.nil_append, Nat.reduceAdd, Nat.reduceSub, Nat.reduceLT, Nat.reduceLeDiff, Nat.zero_add, List.replicate_succ, List.replicate_zero, List.set_cons_zero, List.set_cons_succ, List.getElem?_cons_zero, List.getElem?_cons_succ, List.getElem?_nil, true_and, and_true, and_self, if_true, if_false, Bool.false_eq_true, reduceIte, List.mem_cons, List.not_mem_nil, or_false, false_or, reduceCtorEq, Nat.reduceEqDiff, or_self, or_true, true_or, Option.map_some, Option.getD_some, Option.isSome_some, Bool.not_true, Bool.not_false, Bool.and_true, Bool.true_and, Bool.and_eq_true, decide_eq_true_eq, Nat.zero_lt_succ, Nat.lt_add_one, Nat.succ_ne_self, Nat.add_one_ne_zero, not_true_eq_false, not_false_eq_true, wv_frz, shift_nil, shift_cons, Option.bind_some, wv_mutF, wv_mutV, wv_meth, wv_make, wv_callW, ws_setF, wg_un, kFld_obj, setO_obj, mutO_obj, hasL_obj, isO_obj, asL_own, bare_at, frzs_nil, frzs_cons, foks_nil, foks_cons]
          refine ⟨he, ?_, _, rfl⟩
          rw [hr, List.drop_eq_nil_of_le hle, show 60 - i = (59 - i) + 1 by omega]
          rfl
      rintro ρ ⟨b, hb, rfl⟩
      have hdr : d.drop (a + i) = b :: d.drop (a + i + 1) := by
        obtain ⟨hlt, hx⟩ := List.getElem?_eq_some_iff.mp hb
        rw [List.drop_eq_getElem_cons hlt, hx]
      have hr2 : rnG 60 0 0 1 (d.drop a) = (if b < 128 then (if b = 0 ∧ 0 < i then none else some (tot + b % 128 * 128 ^ i, 1)) else (rnG (59 - i) (i + 1) (tot + b % 128 * 128 ^ i) (128 ^ i * 128) (d.drop (a + i + 1))).map fun p => (p.1, p.2 + 1)).map fun p => (p.1, p.2 + i) := by
        rw [hr, hdr, show 60 - i = (59 - i) + 1 by omega]
        rfl
      have hpw : ((128 : Int) ^ i).natAbs < 2 ^ 1000 := by
        rw [Int.natAbs_pow]
        exact Nat.lt_of_le_of_lt (Nat.pow_le_pow_right (by decide) (show i ≤ 60 by omega)) (by decide +kernel)
      have hb1 := Int.emod_nonneg b (by decide : (128 : Int) ≠ 0)
      have hb2 := Int.emod_lt_of_pos b (by decide : (0 : Int) < 128)
      refine ws_mid (fun ρ => ρ = [some (encR d (a + i + 1)), some (.at (.int (tot + b % 128 * 128 ^ i))), some (.at (.int (128 ^ i))), some (.at (.int i)), some (.at (.int b))]) ?_ ?_
      · simp only [ws_asg, ws_ret, ws_retN, ws_drop, ws_pass, ws_bk, ws_ct, ws_if, ws_aug, ws_augI, ws_for, wv_cp, wv_mk, wv_share, wv_move, wv_1, wv_2, wv_A, wa_nil, wa_cons, wa_io, wv_tup, wv_lst, wv_call, wv_if, wv_sl, wv_ixN, wv_mt, wv_mut, wv_and, wv_or, wv_not, wv_lc, wi_arg, wb_q, wb_t, wb_v, wb_and, wb_or, wb_not, wb_yes, wq_var, wq_c, wq_2, wq_1, wq_A, wq_lNil, wq_lCons, wq_sl, wo_none, wo_some, wg_item, wg_set, wg_tup, wg_cons, wg_nil, wR_rb, wR_rp, wO_some, wO_none, wO_bind, wO_map, wO_iteN, look_zero, look_succ, Ed.turn, kIx_lst, kIx_tup, kIx_T, atI_0, atI_1, atI_2, atI_3, atI_4, atI_5, atI_6, atI_cast, ixN_0, ixN_1, ixN_2, ixN_3, asI_int, asB_bl, asS_str, oI_int, cT_true, kAdd_int, kAdd_T, kAdd_lst, kAdd_tup, kInt_int, kInt_bl, kMin_int, kMax_int, kLen_lst, kLen_tup, kLen_T, nOw_at, nOw_tup, nOw_lstF, nOw_own, nOws_nil, nOws_cons, nOws_append, nOws_ints, kEq_int, kNe_int, kEq_T, kNe_T, kEq_bl, kIsN_at, kNotN_at, kIsN_nd, kNotN_nd, kList_lst, kList_tup, kTuple_lst, kAppend_one, kSl_lst, kSl_T, kSl_tup, kRng1_int, kRng2_int, isL_own, frz_at, fok_at, frz_lst, fok_lst, frz_tup, fok_tup, kItL_lst, kItT_tup, kItS_T, kZip_lst, kEnum_lst, hole_none, hole_succ, putB_nil, putB_cons, finD_nil, finD_cons, lowE_nil, lowE_cons, lowS_some, lowS_none, wipeE_nil, wipeE_cons, backE_nil, backE_cons, kMod_int, kGe_int, kIn_T, List.map_cons, List.map_nil, List.length_cons, List.length_nil, List.length_map, List.length_set, List.cons_append, List.nil_append, Nat.reduceAdd, Nat.reduceSub, Nat.reduceLT, Nat.reduceLeDiff, Nat.zero_add, List.replicate_succ, List.replicate_zero, List.set_cons_zero, List.set_cons_succ, List.getElem?_cons_zero, List.getElem?_cons_succ, List.getElem?_nil, true_and, and_true, and_self, if_true, if_false, Bool.false_eq_true, reduceIte, List.mem_cons, List.not_mem_nil, or_false, false_or, reduceCtorEq, Nat.reduceEqDiff, or_self, or_true, true_or, Option.map_some, Option.getD_some, Option.isSome_some, Bool.not_true, Bool.not_false, Bool.and_true, Bool.true_and, Bool.and_eq_true, decide_eq_true_eq, Nat.zero_lt_succ, Nat.lt_add_one, Nat.succ_ne_self, Nat.add_one_ne_zero, not_true_eq_false, not_false_eq_true, wv_frz, shift_nil, shift_cons, Option.bind_some, wv_mutF, wv_mutV, wv_meth, wv_make, wv_callW, ws_setF, wg_un, kFld_obj, setO_obj, mutO_obj, hasL_obj, isO_obj, asL_own, bare_at, frzs_nil, frzs_cons, foks_nil, foks_cons, kMul_int]
        exact ⟨cMod_of (by decide), cMul_of (small hb1 (by omega)) hpw⟩
      rintro ρ rfl
      refine ws_mid (fun ρ => ¬ b < 128 ∧ ρ = [some (encR d (a + i + 1)), some (.at (.int (tot + b % 128 * 128 ^ i))), some (.at (.int (128 ^ i))), some (.at (.int i)), some (.at (.int b))]) ?_ ?_
      · simp only [ws_asg, ws_ret, ws_retN, ws_drop, ws_pass, ws_bk, ws_ct, ws_if, ws_aug, ws_augI, ws_for, wv_cp, wv_mk, wv_share, wv_move, wv_1, wv_2, wv_A, wa_nil, wa_cons, wa_io, wv_tup, wv_lst, wv_call, wv_if, wv_sl, wv_ixN, wv_mt, wv_mut, wv_and, wv_or, wv_not, wv_lc, wi_arg, wb_q, wb_t, wb_v, wb_and, wb_or, wb_not, wb_yes, wq_var, wq_c, wq_2, wq_1, wq_A, wq_lNil, wq_lCons, wq_sl, wo_none, wo_some, wg_item, wg_set, wg_tup, wg_cons, wg_nil, wR_rb, wR_rp, wO_some, wO_none, wO_bind, wO_map, wO_iteN, look_zero, look_succ, Ed.turn, kIx_lst, kIx_tup, kIx_T, atI_0, atI_1, atI_2, atI_3, atI_4, atI_5, atI_6, atI_cast, ixN_0, ixN_1, ixN_2, ixN_3, asI_int, asB_bl, asS_str, oI_int, cT_true, kAdd_int, kAdd_T, kAdd_lst, kAdd_tup, kInt_int, kInt_bl, kMin_int, kMax_int, kLen_lst, kLen_tup, kLen_T, nOw_at, nOw_tup, nOw_lstF, nOw_own, nOws_nil, nOws_cons, nOws_append, nOws_ints, kEq_int, kNe_int, kEq_T, kNe_T, kEq_bl, kIsN_at, kNotN_at, kIsN_nd, kNotN_nd, kList_lst, kList_tup, kTuple_lst, kAppend_one, kSl_lst, kSl_T, kSl_tup, kRng1_int, kRng2_int, isL_own, frz_at, fok_at, frz_lst, fok_lst, frz_tup, fok_tup, kItL_lst, kItT_tup, kItS_T, kZip_lst, kEnum_lst, hole_none, hole_succ, putB_nil, putB_cons, finD_nil, finD_cons, lowE_nil, lowE_cons, lowS_some, lowS_none, wipeE_nil, wipeE_cons, backE_nil, backE_cons, kMod_int, kGe_int, kIn_T, List.map_cons, List.map_nil, List.length_cons, List.length_nil, List.length_map, List.length_set, List.cons_append, List.nil_append, Nat.reduceAdd, Nat.reduceSub, Nat.reduceLT, Nat.reduceLeDiff, Nat.zero_add, List.replicate_succ, List.replicate_zero, List.set_cons_zero, List.set_cons_succ, List.getElem?_cons_zero, List.getElem?_cons_succ, List.getElem?_nil, true_and, and_true, and_self, if_true, if_false, Bool.false_eq_true, reduceIte, List.mem_cons, List.not_mem_nil, or_false, false_or, reduceCtorEq, Nat.reduceEqDiff, or_self, or_true, true_or, Option.map_some, Option.getD_some, Option.isSome_some, Bool.not_true, Bool.not_false, Bool.and_true, Bool.true_and, Bool.and_eq_true, decide_eq_true_eq, Nat.zero_lt_succ, Nat.lt_add_one, Nat.succ_ne_self, Nat.add_one_ne_zero, not_true_eq_false, not_false_eq_true, wv_frz, shift_nil, shift_cons, Option.bind_some, wv_mutF, wv_mutV, wv_meth, wv_make, wv_callW, ws_setF, wg_un, kFld_obj, setO_obj, mutO_obj, hasL_obj, isO_obj, asL_own, bare_at, frzs_nil, frzs_cons, foks_nil, foks_cons, kLt_int]
        split
        · rename_i hlt
          rw [if_pos hlt] at hr2
          simp only [ws_seq, ws_asg, ws_ret, ws_retN, ws_drop, ws_pass, ws_bk, ws_ct, ws_if, ws_aug, ws_augI, ws_for, wv_cp, wv_mk, wv_share, wv_move, wv_1, wv_2, wv_A, wa_nil, wa_cons, wa_io, wv_tup, wv_lst, wv_call, wv_if, wv_sl, wv_ixN, wv_mt, wv_mut, wv_and, wv_or, wv_not, wv_lc, wi_arg, wb_q, wb_t, wb_v, wb_and, wb_or, wb_not, wb_yes, wq_var, wq_c, wq_2, wq_1, wq_A, wq_lNil, wq_lCons, wq_sl, wo_none, wo_some, wg_item, wg_set, wg_tup, wg_cons, wg_nil, wR_rb, wR_rp, wO_some, wO_none, wO_bind, wO_map, wO_iteN, look_zero, look_succ, Ed.turn, kIx_lst, kIx_tup, kIx_T, atI_0, atI_1, atI_2, atI_3, atI_4, atI_5, atI_6, atI_cast, ixN_0, ixN_1, ixN_2, ixN_3, asI_int, asB_bl, asS_str, oI_int, cT_true, kAdd_int, kAdd_T, kAdd_lst, kAdd_tup, kInt_int, kInt_bl, kMin_int, kMax_int, kLen_lst, kLen_tup, kLen_T, nOw_at, nOw_tup, nOw_lstF, nOw_own, nOws_nil, nOws_cons, nOws_append, nOws_ints, kEq_int, kNe_int, kEq_T, kNe_T, kEq_bl, kIsN_at, kNotN_at, kIsN_nd, kNotN_nd, kList_lst, kList_tup, kTuple_lst, kAppend_one, kSl_lst, kSl_T, kSl_tup, kRng1_int, kRng2_int, isL_own, frz_at, fok_at, frz_lst, fok_lst, frz_tup, fok_tup, kItL_lst, kItT_tup, kItS_T, kZip_lst, kEnum_lst, hole_none, hole_succ, putB_nil, putB_cons, finD_nil, finD_cons, lowE_nil, lowE_cons, lowS_some, lowS_none, wipeE_nil, wipeE_cons, backE_nil, backE_cons, kMod_int, kGe_int, kIn_T, List.map_cons, List.map_nil, List.length_cons, List.length_nil, List.length_map, List.length_set, List.cons_append, List.nil_append, Nat.reduceAdd, Nat.reduceSub, Nat.reduceLT, Nat.reduceLeDiff, Nat.zero_add, List.replicate_succ, List.replicate_zero, List.set_cons_zero, List.set_cons_succ, List.getElem?_cons_zero, List.getElem?_cons_succ, List.getElem?_nil, true_and, and_true, and_self, if_true, if_false, Bool.false_eq_true, reduceIte, List.mem_cons, List.not_mem_nil, or_false, false_or, reduceCtorEq, Nat.reduceEqDiff, or_self, or_true, true_or, Option.map_some, Option.getD_some, Option.isSome_some, Bool.not_true, Bool.not_false, Bool.and_true, Bool.true_and, Bool.and_eq_true, decide_eq_true_eq, Nat.zero_lt_succ, Nat.lt_add_one, Nat.succ_ne_self, Nat.add_one_ne_zero, not_true_eq_false, not_false_eq_true, wv_frz, shift_nil, shift_cons, Option.bind_some, wv_mutF, wv_mutV, wv_meth, wv_make, wv_callW, ws_setF, wg_un, kFld_obj, setO_obj, mutO_obj, hasL_obj, isO_obj, asL_own, bare_at, frzs_nil, frzs_cons, foks_nil, foks_cons, kGt_int, ws_raise]
          have fin : ¬ (b = 0 ∧ 0 < i) → ∃ n c, rnG 60 0 0 1 (d.drop a) = some (n, c) ∧ D.at (V.int (tot + b % 128 * 128 ^ i)) = D.at (V.int n) ∧ [encR d (a + i + 1)] = [encR d (a + c)] := fun hz => by
            rw [if_neg hz] at hr2
            exact ⟨_, _, hr2, rfl, by rw [show a + (1 + i) = a + i + 1 by omega]⟩
          split
          · rename_i hb0
            have hb0 := eq_of_beq hb0
            split
            · rename_i hi0
              rw [if_pos ⟨hb0, by omega⟩] at hr2
              exact ⟨rfl, hr2, _, rfl⟩
            · exact fin fun z => by omega
          · rename_i hb0
            exact fin fun z => hb0 (by rw [z.1]; rfl)
        · rename_i hlt
          exact hlt
      rintro ρ ⟨hge, rfl⟩
      rw [if_neg hge] at hr2
      simp only [ws_asg, ws_ret, ws_retN, ws_drop, ws_pass, ws_bk, ws_ct, ws_if, ws_aug, ws_augI, ws_for, wv_cp, wv_mk, wv_share, wv_move, wv_1, wv_2, wv_A, wa_nil, wa_cons, wa_io, wv_tup, wv_lst, wv_call, wv_if, wv_sl, wv_ixN, wv_mt, wv_mut, wv_and, wv_or, wv_not, wv_lc, wi_arg, wb_q, wb_t, wb_v, wb_and, wb_or, wb_not, wb_yes, wq_var, wq_c, wq_2, wq_1, wq_A, wq_lNil, wq_lCons, wq_sl, wo_none, wo_some, wg_item, wg_set, wg_tup, wg_cons, wg_nil, wR_rb, wR_rp, wO_some, wO_none, wO_bind, wO_map, wO_iteN, look_zero, look_succ, Ed.turn, kIx_lst, kIx_tup, kIx_T, atI_0, atI_1, atI_2, atI_3, atI_4, atI_5, atI_6, atI_cast, ixN_0, ixN_1, ixN_2, ixN_3, asI_int, asB_bl, asS_str, oI_int, cT_true, kAdd_int, kAdd_T, kAdd_lst, kAdd_tup, kInt_int, kInt_bl, kMin_int, kMax_int, kLen_lst, kLen_tup, kLen_T, nOw_at, nOw_tup, nOw_lstF, nOw_own, nOws_nil, nOws_cons, nOws_append, nOws_ints, kEq_int, kNe_int, kEq_T, kNe_T, kEq_bl, kIsN_at, kNotN_at, kIsN_nd, kNotN_nd, kList_lst, kList_tup, kTuple_lst, kAppend_one, kSl_lst, kSl_T, kSl_tup, kRng1_int, kRng2_int, isL_own, frz_at, fok_at, frz_lst, fok_lst, frz_tup, fok_tup, kItL_lst, kItT_tup, kItS_T, kZip_lst, kEnum_lst, hole_none, hole_succ, putB_nil, putB_cons, finD_nil, finD_cons, lowE_nil, lowE_cons, lowS_some, lowS_none, wipeE_nil, wipeE_cons, backE_nil, backE_cons, kMod_int, kGe_int, kIn_T, List.map_cons, List.map_nil, List.length_cons, List.length_nil, List.length_map, List.length_set, List.cons_append, List.nil_append, Nat.reduceAdd, Nat.reduceSub, Nat.reduceLT, Nat.reduceLeDiff, Nat.zero_add, List.replicate_succ, List.replicate_zero, List.set_cons_zero, List.set_cons_succ, List.getElem?_cons_zero, List.getElem?_cons_succ, List.getElem?_nil, true_and, and_true, and_self, if_true, if_false, Bool.false_eq_true, reduceIte, List.mem_cons, List.not_mem_nil, or_false, false_or, reduceCtorEq, Nat.reduceEqDiff, or_self, or_true, true_or, Option.map_some, Option.getD_some, Option.isSome_some, Bool.not_true, Bool.not_false, Bool.and_true, Bool.true_and, Bool.and_eq_true, decide_eq_true_eq, Nat.zero_lt_succ, Nat.lt_add_one, Nat.succ_ne_self, Nat.add_one_ne_zero, not_true_eq_false, not_false_eq_true, wv_frz, shift_nil, shift_cons, Option.bind_some, wv_mutF, wv_mutV, wv_meth, wv_make, wv_callW, ws_setF, wg_un, kFld_obj, setO_obj, mutO_obj, hasL_obj, isO_obj, asL_own, bare_at, frzs_nil, frzs_cons, foks_nil, foks_cons, kMul_int]
      refine ⟨cMul_of hpw (by decide +kernel), tot + b % 128 * 128 ^ i, some (.at (.int i)), some (.at (.int b)), ?_, ?_⟩
      · rw [hr2, Option.map_map, show 60 - (i + 1) = 59 - i by omega, show a + (i + 1) = a + i + 1 by omega, Int.pow_succ]
        congr 1
        funext p
        show (p.1, p.2 + 1 + i) = (p.1, p.2 + (i + 1))
        rw [Nat.add_assoc, Nat.add_comm 1 i]
      · rw [show a + (i + 1) = a + i + 1 by omega, Int.pow_succ]
    · rintro ρ ⟨tot, x, y, hr, rfl⟩
      refine ⟨?_, _, _, _, _, _, rfl⟩
      rw [hr, rngD_length]
      rfl
  · rintro ρ ⟨hn, q, x, y, z, w, rfl⟩
    simp only [ws_asg, ws_ret, ws_retN, ws_drop, ws_pass, ws_bk, ws_ct, ws_if, ws_aug, ws_augI, ws_for, wv_cp, wv_mk, wv_share, wv_move, wv_1, wv_2, wv_A, wa_nil, wa_cons, wa_io, wv_tup, wv_lst, wv_call, wv_if, wv_sl, wv_ixN, wv_mt, wv_mut, wv_and, wv_or, wv_not, wv_lc, wi_arg, wb_q, wb_t, wb_v, wb_and, wb_or, wb_not, wb_yes, wq_var, wq_c, wq_2, wq_1, wq_A, wq_lNil, wq_lCons, wq_sl, wo_none, wo_some, wg_item, wg_set, wg_tup, wg_cons, wg_nil, wR_rb, wR_rp, wO_some, wO_none, wO_bind, wO_map, wO_iteN, look_zero, look_succ, Ed.turn, kIx_lst, kIx_tup, kIx_T, atI_0, atI_1, atI_2, atI_3, atI_4, atI_5, atI_6, atI_cast, ixN_0, ixN_1, ixN_2, ixN_3, asI_int, asB_bl, asS_str, oI_int, cT_true, kAdd_int, kAdd_T, kAdd_lst, kAdd_tup, kInt_int, kInt_bl, kMin_int, kMax_int, kLen_lst, kLen_tup, kLen_T, nOw_at, nOw_tup, nOw_lstF, nOw_own, nOws_nil, nOws_cons, nOws_append, nOws_ints, kEq_int, kNe_int, kEq_T, kNe_T, kEq_bl, kIsN_at, kNotN_at, kIsN_nd, kNotN_nd, kList_lst, kList_tup, kTuple_lst, kAppend_one, kSl_lst, kSl_T, kSl_tup, kRng1_int, kRng2_int, isL_own, frz_at, fok_at, frz_lst, fok_lst, frz_tup, fok_tup, kItL_lst, kItT_tup, kItS_T, kZip_lst, kEnum_lst, hole_none, hole_succ, putB_nil, putB_cons, finD_nil, finD_cons, lowE_nil, lowE_cons, lowS_some, lowS_none, wipeE_nil, wipeE_cons, backE_nil, backE_cons, kMod_int, kGe_int, kIn_T, List.map_cons, List.map_nil, List.length_cons, List.length_nil, List.length_map, List.length_set, List.cons_append, List.nil_append, Nat.reduceAdd, Nat.reduceSub, Nat.reduceLT, Nat.reduceLeDiff, Nat.zero_add, List.replicate_succ, List.replicate_zero, List.set_cons_zero, List.set_cons_succ, List.getElem?_cons_zero, List.getElem?_cons_succ, List.getElem?_nil, true_and, and_true, and_self, if_true, if_false, Bool.false_eq_true, reduceIte, List.mem_cons, List.not_mem_nil, or_false, false_or, reduceCtorEq, Nat.reduceEqDiff, or_self, or_true, true_or, Option.map_some, Option.getD_some, Option.isSome_some, Bool.not_true, Bool.not_false, Bool.and_true, Bool.true_and, Bool.and_eq_true, decide_eq_true_eq, Nat.zero_lt_succ, Nat.lt_add_one, Nat.succ_ne_self, Nat.add_one_ne_zero, not_true_eq_false, not_false_eq_true, wv_frz, shift_nil, shift_cons, Option.bind_some, wv_mutF, wv_mutV, wv_meth, wv_make, wv_callW, ws_setF, wg_un, kFld_obj, setO_obj, mutO_obj, hasL_obj, isO_obj, asL_own, bare_at, frzs_nil, frzs_cons, foks_nil, foks_cons, ws_raise]
    exact ⟨rfl, hn, _, rfl⟩
end K11

set_option maxRecDepth 100000
set_option maxHeartbeats 4000000
namespace K11
open PySem L2 DL PyProof.Rows
theorem rnG_take : ∀ (k idx : Nat) (t f : Int) (l : List Int), rnG k idx t f (l.take k) = rnG k idx t f l
  | 0, _, _, _, _ => rfl
  | k + 1, _, _, _, [] => rfl
  | k + 1, idx, t, f, b :: r => by
    rw [List.take_succ_cons]
    show (if b < 128 then (if b = 0 ∧ 0 < idx then none else some (t + b % 128 * f, 1)) else (rnG k (idx + 1) (t + b % 128 * f) (f * 128) (r.take k)).map fun p => (p.1, p.2 + 1)) = _
    rw [rnG_take k]
    rfl
theorem cut2_I {l : List Int} {p q : Nat} : DL.cutD (I l) (some (p : Int)) (some (q : Int)) = I ((l.drop p).take (q - p)) := by
  unfold DL.cutD
  rw [HT.sIx_nat, HT.sIx_nat, List.length_map, ← List.map_drop, ← List.map_take]
  congr 1
  apply List.ext_getElem?
  intro i
  rw [List.getElem?_take, List.getElem?_take, List.getElem?_drop, List.getElem?_drop]
  by_cases hp : p ≤ l.length
  · rw [Nat.min_eq_left hp]
    by_cases h1 : i < q - p
    · rw [if_pos h1]
      by_cases h2 : i < min q l.length - p
      · rw [if_pos h2]
      · rw [if_neg h2, List.getElem?_eq_none (by omega)]
    · rw [if_neg h1, if_neg (by omega)]
  · rw [if_neg (by omega), List.getElem?_eq_none (by omega)]
    split <;> rfl
theorem rinit_ok {x : List Int} : wD (F_Reader_init [.nd (.obj "Reader" []) [], .own (I x)]) (fun d as => d = .non ∧ ∃ r, as = encR x 0 :: r) fun _ _ => False := by
  have ne : (Str.ofString "data" = Str.ofString "at") = False := eq_false (by decide +kernel)
  refine wD_fn rfl ?_
  unfold b_Reader_init encR
  simp only [ws_seq, ws_asg, ws_ret, ws_retN, ws_drop, ws_pass, ws_bk, ws_ct, ws_if, ws_aug, ws_augI, ws_for, wv_cp, wv_mk, wv_share, wv_move, wv_1, wv_2, wv_A, wa_nil, wa_cons, wa_io, wv_tup, wv_lst, wv_call, wv_if, wv_sl, wv_ixN, wv_mt, wv_mut, wv_and, wv_or, wv_not, wv_lc, wi_arg, wb_q, wb_t, wb_v, wb_and, wb_or, wb_not, wb_yes, wq_var, wq_c, wq_2, wq_1, wq_A, wq_lNil, wq_lCons, wq_sl, wo_none, wo_some, wg_item, wg_set, wg_tup, wg_cons, wg_nil, wR_rb, wR_rp, wO_some, wO_none, wO_bind, wO_map, wO_iteN, look_zero, look_succ, Ed.turn, kIx_lst, kIx_tup, kIx_T, atI_0, atI_1, atI_2, atI_3, atI_4, atI_5, atI_6, atI_cast, ixN_0, ixN_1, ixN_2, ixN_3, asI_int, asB_bl, asS_str, oI_int, cT_true, kAdd_int, kAdd_T, kAdd_lst, kAdd_tup, kInt_int, kInt_bl, kMin_int, kMax_int, kLen_lst, kLen_tup, kLen_T, nOw_at, nOw_tup, nOw_lstF, nOw_own, nOws_nil, nOws_cons, nOws_append, nOws_ints, kEq_int, kNe_int, kEq_T, kNe_T, kEq_bl, kIsN_at, kNotN_at, kIsN_nd, kNotN_nd, kList_lst, kList_tup, kTuple_lst, kAppend_one, kSl_lst, kSl_T, kSl_tup, kRng1_int, kRng2_int, isL_own, frz_at, fok_at, frz_lst, fok_lst, frz_tup, fok_tup, kItL_lst, kItT_tup, kItS_T, kZip_lst, kEnum_lst, hole_none, hole_succ, putB_nil, putB_cons, finD_nil, finD_cons, lowE_nil, lowE_cons, lowS_some, lowS_none, wipeE_nil, wipeE_cons, backE_nil, backE_cons, kMod_int, kGe_int, kIn_T, List.map_cons, List.map_nil, List.length_cons, List.length_nil, List.length_map, List.length_set, List.cons_append, List.nil_append, Nat.reduceAdd, Nat.reduceSub, Nat.reduceLT, Nat.reduceLeDiff, Nat.zero_add, List.replicate_succ, List.replicate_zero, List.set_cons_zero, List.set_cons_succ, List.getElem?_cons_zero, List.getElem?_cons_succ, List.getElem?_nil, true_and, and_true, and_self, if_true, if_false, Bool.false_eq_true, reduceIte, List.mem_cons, List.not_mem_nil, or_false, false_or, reduceCtorEq, Nat.reduceEqDiff, or_self, or_true, true_or, Option.map_some, Option.getD_some, Option.isSome_some, Bool.not_true, Bool.not_false, Bool.and_true, Bool.true_and, Bool.and_eq_true, decide_eq_true_eq, Nat.zero_lt_succ, Nat.lt_add_one, Nat.succ_ne_self, Nat.add_one_ne_zero, not_true_eq_false, not_false_eq_true, wv_frz, shift_nil, shift_cons, Option.bind_some, wv_mutF, wv_mutV, wv_meth, wv_make, wv_callW, ws_setF, wg_un, kFld_obj, setO_obj, mutO_obj, hasL_obj, isO_obj, asL_own, bare_at, frzs_nil, frzs_cons, foks_nil, foks_cons, putD, ixF, ne, Option.map_none, nOws_I]
  exact ⟨_, rfl⟩
def rdS (d : List Int) (s : Nat) : Option (Nat × Int) := (rnG 60 0 0 1 (d.drop s)).map fun p => (s + p.2, p.1)
def rdD : Option (Nat × Int) → D
  | none => .non
  | some p => .tup [.at (.int p.1), .at (.int p.2)]
theorem size_ok {d : List Int} {s : Nat} : wD (F_read_size [.lst (I d), .at (.int s)]) (fun v as => v = rdD (rdS d s)) fun _ _ => False := by
  refine wD_fn rfl ?_
  unfold b_read_size
  refine ws_mid (fun ρ => ρ = [some (.lst (I d)), some (.at (.int s)), some (encR ((d.drop s).take 60) 0), none]) ?_ ?_
  · have hc : DL.cutD (I d) (some (s : Int)) (some ((s : Int) + 60)) = I ((d.drop s).take 60) := by
      rw [show (s : Int) + 60 = ((s + 60 : Nat) : Int) by omega, cut2_I, Nat.add_sub_cancel_left]
    simp only [ws_asg, ws_ret, ws_retN, ws_drop, ws_pass, ws_bk, ws_ct, ws_if, ws_aug, ws_augI, ws_for, wv_cp, wv_mk, wv_share, wv_move, wv_1, wv_2, wv_A, wa_nil, wa_cons, wa_io, wv_tup, wv_lst, wv_call, wv_if, wv_sl, wv_ixN, wv_mt, wv_mut, wv_and, wv_or, wv_not, wv_lc, wi_arg, wb_q, wb_t, wb_v, wb_and, wb_or, wb_not, wb_yes, wq_var, wq_c, wq_2, wq_1, wq_A, wq_lNil, wq_lCons, wq_sl, wo_none, wo_some, wg_item, wg_set, wg_tup, wg_cons, wg_nil, wR_rb, wR_rp, wO_some, wO_none, wO_bind, wO_map, wO_iteN, look_zero, look_succ, Ed.turn, kIx_lst, kIx_tup, kIx_T, atI_0, atI_1, atI_2, atI_3, atI_4, atI_5, atI_6, atI_cast, ixN_0, ixN_1, ixN_2, ixN_3, asI_int, asB_bl, asS_str, oI_int, cT_true, kAdd_int, kAdd_T, kAdd_lst, kAdd_tup, kInt_int, kInt_bl, kMin_int, kMax_int, kLen_lst, kLen_tup, kLen_T, nOw_at, nOw_tup, nOw_lstF, nOw_own, nOws_nil, nOws_cons, nOws_append, nOws_ints, kEq_int, kNe_int, kEq_T, kNe_T, kEq_bl, kIsN_at, kNotN_at, kIsN_nd, kNotN_nd, kList_lst, kList_tup, kTuple_lst, kAppend_one, kSl_lst, kSl_T, kSl_tup, kRng1_int, kRng2_int, isL_own, frz_at, fok_at, frz_lst, fok_lst, frz_tup, fok_tup, kItL_lst, kItT_tup, kItS_T, kZip_lst, kEnum_lst, hole_none, hole_succ, putB_nil, putB_cons, finD_nil, finD_cons, lowE_nil, lowE_cons, lowS_some, lowS_none, wipeE_nil, wipeE_cons, backE_nil, backE_cons, kMod_int, kGe_int, kIn_T, List.map_cons, List.map_nil, List.length_cons, List.length_nil, List.length_map, List.length_set, List.cons_append, List.nil_append, Nat.reduceAdd, Nat.reduceSub, Nat.reduceLT, Nat.reduceLeDiff, Nat.zero_add, List.replicate_succ, List.replicate_zero, List.set_cons_zero, List.set_cons_succ, List.getElem?_cons_zero, List.getElem?_cons_succ, List.getElem?_nil, true_and, and_true, and_self, if_true, if_false, Bool.false_eq_true, reduceIte, List.mem_cons, List.not_mem_nil, or_false, false_or, reduceCtorEq, Nat.reduceEqDiff, or_self, or_true, true_or, Option.map_some, Option.getD_some, Option.isSome_some, Bool.not_true, Bool.not_false, Bool.and_true, Bool.true_and, Bool.and_eq_true, decide_eq_true_eq, Nat.zero_lt_succ, Nat.lt_add_one, Nat.succ_ne_self, Nat.add_one_ne_zero, not_true_eq_false, not_false_eq_true, wv_frz, shift_nil, shift_cons, Option.bind_some, wv_mutF, wv_mutV, wv_meth, wv_make, wv_callW, ws_setF, wg_un, kFld_obj, setO_obj, mutO_obj, hasL_obj, isO_obj, asL_own, bare_at, frzs_nil, frzs_cons, foks_nil, foks_cons, nOws_I, hc]
    refine wD_mono rinit_ok ?_ fun _ _ h => h.elim
    rintro v as ⟨rfl, r, rfl⟩
    exact ⟨rfl, _, _, rfl, rfl⟩
  rintro ρ rfl
  have ht := rnG_take 60 0 0 1 (d.drop s)
  refine ws_mid (fun ρ => ∃ n c, rnG 60 0 0 1 (d.drop s) = some (n, c) ∧ ρ = [some (.lst (I d)), some (.at (.int s)), some (encR ((d.drop s).take 60) c), some (.at (.int n))]) ?_ ?_
  · rw [ws_try]
    simp only [ws_asg, ws_ret, ws_retN, ws_drop, ws_pass, ws_bk, ws_ct, ws_if, ws_aug, ws_augI, ws_for, wv_cp, wv_mk, wv_share, wv_move, wv_1, wv_2, wv_A, wa_nil, wa_cons, wa_io, wv_tup, wv_lst, wv_call, wv_if, wv_sl, wv_ixN, wv_mt, wv_mut, wv_and, wv_or, wv_not, wv_lc, wi_arg, wb_q, wb_t, wb_v, wb_and, wb_or, wb_not, wb_yes, wq_var, wq_c, wq_2, wq_1, wq_A, wq_lNil, wq_lCons, wq_sl, wo_none, wo_some, wg_item, wg_set, wg_tup, wg_cons, wg_nil, wR_rb, wR_rp, wO_some, wO_none, wO_bind, wO_map, wO_iteN, look_zero, look_succ, Ed.turn, kIx_lst, kIx_tup, kIx_T, atI_0, atI_1, atI_2, atI_3, atI_4, atI_5, atI_6, atI_cast, ixN_0, ixN_1, ixN_2, ixN_3, asI_int, asB_bl, asS_str, oI_int, cT_true, kAdd_int, kAdd_T, kAdd_lst, kAdd_tup, kInt_int, kInt_bl, kMin_int, kMax_int, kLen_lst, kLen_tup, kLen_T, nOw_at, nOw_tup, nOw_lstF, nOw_own, nOws_nil, nOws_cons, nOws_append, nOws_ints, kEq_int, kNe_int, kEq_T, kNe_T, kEq_bl, kIsN_at, kNotN_at, kIsN_nd, kNotN_nd, kList_lst, kList_tup, kTuple_lst, kAppend_one, kSl_lst, kSl_T, kSl_tup, kRng1_int, kRng2_int, isL_own, frz_at, fok_at, frz_lst, fok_lst, frz_tup, fok_tup, kItL_lst, kItT_tup, kItS_T, kZip_lst, kEnum_lst, hole_none, hole_succ, putB_nil, putB_cons, finD_nil, finD_cons, lowE_nil, lowE_cons, lowS_some, lowS_none, wipeE_nil, wipeE_cons, backE_nil, backE_cons, kMod_int, kGe_int, kIn_T, List.map_cons, List.map_nil, List.length_cons, List.length_nil, List.length_map, List.length_set, List.cons_append, List.nil_append, Nat.reduceAdd, Nat.reduceSub, Nat.reduceLT, Nat.reduceLeDiff, Nat.zero_add, List.replicate_succ, List.replicate_zero, List.set_cons_zero, List.set_cons_succ, List.getElem?_cons_zero, List.getElem?_cons_succ, List.getElem?_nil, true_and, and_true, and_self, if_true, if_false, Bool.false_eq_true, reduceIte, List.mem_cons, List.not_mem_nil, or_false, false_or, reduceCtorEq, Nat.reduceEqDiff, or_self, or_true, true_or, Option.map_some, Option.getD_some, Option.isSome_some, Bool.not_true, Bool.not_false, Bool.and_true, Bool.true_and, Bool.and_eq_true, decide_eq_true_eq, Nat.zero_lt_succ, Nat.lt_add_one, Nat.succ_ne_self, Nat.add_one_ne_zero, not_true_eq_false, not_false_eq_true, wv_frz, shift_nil, shift_cons, Option.bind_some, wv_mutF, wv_mutV, wv_meth, wv_make, wv_callW, ws_setF, wg_un, kFld_obj, setO_obj, mutO_obj, hasL_obj, isO_obj, asL_own, bare_at, frzs_nil, frzs_cons, foks_nil, foks_cons, encR, rx_n]
    refine ⟨rfl, wD_mono (number_ok (d := (d.drop s).take 60) (a := 0)) ?_ ?_⟩
    · rintro v as ⟨n, c, h, rfl, rfl⟩
      rw [List.drop_zero, ht] at h
      simp only [ws_asg, ws_ret, ws_retN, ws_drop, ws_pass, ws_bk, ws_ct, ws_if, ws_aug, ws_augI, ws_for, wv_cp, wv_mk, wv_share, wv_move, wv_1, wv_2, wv_A, wa_nil, wa_cons, wa_io, wv_tup, wv_lst, wv_call, wv_if, wv_sl, wv_ixN, wv_mt, wv_mut, wv_and, wv_or, wv_not, wv_lc, wi_arg, wb_q, wb_t, wb_v, wb_and, wb_or, wb_not, wb_yes, wq_var, wq_c, wq_2, wq_1, wq_A, wq_lNil, wq_lCons, wq_sl, wo_none, wo_some, wg_item, wg_set, wg_tup, wg_cons, wg_nil, wR_rb, wR_rp, wO_some, wO_none, wO_bind, wO_map, wO_iteN, look_zero, look_succ, Ed.turn, kIx_lst, kIx_tup, kIx_T, atI_0, atI_1, atI_2, atI_3, atI_4, atI_5, atI_6, atI_cast, ixN_0, ixN_1, ixN_2, ixN_3, asI_int, asB_bl, asS_str, oI_int, cT_true, kAdd_int, kAdd_T, kAdd_lst, kAdd_tup, kInt_int, kInt_bl, kMin_int, kMax_int, kLen_lst, kLen_tup, kLen_T, nOw_at, nOw_tup, nOw_lstF, nOw_own, nOws_nil, nOws_cons, nOws_append, nOws_ints, kEq_int, kNe_int, kEq_T, kNe_T, kEq_bl, kIsN_at, kNotN_at, kIsN_nd, kNotN_nd, kList_lst, kList_tup, kTuple_lst, kAppend_one, kSl_lst, kSl_T, kSl_tup, kRng1_int, kRng2_int, isL_own, frz_at, fok_at, frz_lst, fok_lst, frz_tup, fok_tup, kItL_lst, kItT_tup, kItS_T, kZip_lst, kEnum_lst, hole_none, hole_succ, putB_nil, putB_cons, finD_nil, finD_cons, lowE_nil, lowE_cons, lowS_some, lowS_none, wipeE_nil, wipeE_cons, backE_nil, backE_cons, kMod_int, kGe_int, kIn_T, List.map_cons, List.map_nil, List.length_cons, List.length_nil, List.length_map, List.length_set, List.cons_append, List.nil_append, Nat.reduceAdd, Nat.reduceSub, Nat.reduceLT, Nat.reduceLeDiff, Nat.zero_add, List.replicate_succ, List.replicate_zero, List.set_cons_zero, List.set_cons_succ, List.getElem?_cons_zero, List.getElem?_cons_succ, List.getElem?_nil, true_and, and_true, and_self, if_true, if_false, Bool.false_eq_true, reduceIte, List.mem_cons, List.not_mem_nil, or_false, false_or, reduceCtorEq, Nat.reduceEqDiff, or_self, or_true, true_or, Option.map_some, Option.getD_some, Option.isSome_some, Bool.not_true, Bool.not_false, Bool.and_true, Bool.true_and, Bool.and_eq_true, decide_eq_true_eq, Nat.zero_lt_succ, Nat.lt_add_one, Nat.succ_ne_self, Nat.add_one_ne_zero, not_true_eq_false, not_false_eq_true, wv_frz, shift_nil, shift_cons, Option.bind_some, wv_mutF, wv_mutV, wv_meth, wv_make, wv_callW, ws_setF, wg_un, kFld_obj, setO_obj, mutO_obj, hasL_obj, isO_obj, asL_own, bare_at, frzs_nil, frzs_cons, foks_nil, foks_cons, encR]
      exact ⟨n, c, h, rfl⟩
    · rintro e as ⟨rfl, h, q, rfl⟩
      rw [List.drop_zero, ht] at h
      simp only [ws_asg, ws_ret, ws_retN, ws_drop, ws_pass, ws_bk, ws_ct, ws_if, ws_aug, ws_augI, ws_for, wv_cp, wv_mk, wv_share, wv_move, wv_1, wv_2, wv_A, wa_nil, wa_cons, wa_io, wv_tup, wv_lst, wv_call, wv_if, wv_sl, wv_ixN, wv_mt, wv_mut, wv_and, wv_or, wv_not, wv_lc, wi_arg, wb_q, wb_t, wb_v, wb_and, wb_or, wb_not, wb_yes, wq_var, wq_c, wq_2, wq_1, wq_A, wq_lNil, wq_lCons, wq_sl, wo_none, wo_some, wg_item, wg_set, wg_tup, wg_cons, wg_nil, wR_rb, wR_rp, wO_some, wO_none, wO_bind, wO_map, wO_iteN, look_zero, look_succ, Ed.turn, kIx_lst, kIx_tup, kIx_T, atI_0, atI_1, atI_2, atI_3, atI_4, atI_5, atI_6, atI_cast, ixN_0, ixN_1, ixN_2, ixN_3, asI_int, asB_bl, asS_str, oI_int, cT_true, kAdd_int, kAdd_T, kAdd_lst, kAdd_tup, kInt_int, kInt_bl, kMin_int, kMax_int, kLen_lst, kLen_tup, kLen_T, nOw_at, nOw_tup, nOw_lstF, nOw_own, nOws_nil, nOws_cons, nOws_append, nOws_ints, kEq_int, kNe_int, kEq_T, kNe_T, kEq_bl, kIsN_at, kNotN_at, kIsN_nd, kNotN_nd, kList_lst, kList_tup, kTuple_lst, kAppend_one, kSl_lst, kSl_T, kSl_tup, kRng1_int, kRng2_int, isL_own, frz_at, fok_at, frz_lst, fok_lst, frz_tup, fok_tup, kItL_lst, kItT_tup, kItS_T, kZip_lst, kEnum_lst, hole_none, hole_succ, putB_nil, putB_cons, finD_nil, finD_cons, lowE_nil, lowE_cons, lowS_some, lowS_none, wipeE_nil, wipeE_cons, backE_nil, backE_cons, kMod_int, kGe_int, kIn_T, List.map_cons, List.map_nil, List.length_cons, List.length_nil, List.length_map, List.length_set, List.cons_append, List.nil_append, Nat.reduceAdd, Nat.reduceSub, Nat.reduceLT, Nat.reduceLeDiff, Nat.zero_add, List.replicate_succ, List.replicate_zero, List.set_cons_zero, List.set_cons_succ, List.getElem?_cons_zero, List.getElem?_cons_succ, List.getElem?_nil, true_and, and_true, and_self, if_true, if_false, Bool.false_eq_true, reduceIte, List.mem_cons, List.not_mem_nil, or_false, false_or, reduceCtorEq, Nat.reduceEqDiff, or_self, or_true, true_or, Option.map_some, Option.getD_some, Option.isSome_some, Bool.not_true, Bool.not_false, Bool.and_true, Bool.true_and, Bool.and_eq_true, decide_eq_true_eq, Nat.zero_lt_succ, Nat.lt_add_one, Nat.succ_ne_self, Nat.add_one_ne_zero, not_true_eq_false, not_false_eq_true, wv_frz, shift_nil, shift_cons, Option.bind_some, wv_mutF, wv_mutV, wv_meth, wv_make, wv_callW, ws_setF, wg_un, kFld_obj, setO_obj, mutO_obj, hasL_obj, isO_obj, asL_own, bare_at, frzs_nil, frzs_cons, foks_nil, foks_cons]
      refine ⟨true, by decide +kernel, ?_⟩
      rw [if_pos rfl]
      unfold rdS
      rw [h]
      rfl
  rintro ρ ⟨n, c, h, rfl⟩
  simp only [ws_asg, ws_ret, ws_retN, ws_drop, ws_pass, ws_bk, ws_ct, ws_if, ws_aug, ws_augI, ws_for, wv_cp, wv_mk, wv_share, wv_move, wv_1, wv_2, wv_A, wa_nil, wa_cons, wa_io, wv_tup, wv_lst, wv_call, wv_if, wv_sl, wv_ixN, wv_mt, wv_mut, wv_and, wv_or, wv_not, wv_lc, wi_arg, wb_q, wb_t, wb_v, wb_and, wb_or, wb_not, wb_yes, wq_var, wq_c, wq_2, wq_1, wq_A, wq_lNil, wq_lCons, wq_sl, wo_none, wo_some, wg_item, wg_set, wg_tup, wg_cons, wg_nil, wR_rb, wR_rp, wO_some, wO_none, wO_bind, wO_map, wO_iteN, look_zero, look_succ, Ed.turn, kIx_lst, kIx_tup, kIx_T, atI_0, atI_1, atI_2, atI_3, atI_4, atI_5, atI_6, atI_cast, ixN_0, ixN_1, ixN_2, ixN_3, asI_int, asB_bl, asS_str, oI_int, cT_true, kAdd_int, kAdd_T, kAdd_lst, kAdd_tup, kInt_int, kInt_bl, kMin_int, kMax_int, kLen_lst, kLen_tup, kLen_T, nOw_at, nOw_tup, nOw_lstF, nOw_own, nOws_nil, nOws_cons, nOws_append, nOws_ints, kEq_int, kNe_int, kEq_T, kNe_T, kEq_bl, kIsN_at, kNotN_at, kIsN_nd, kNotN_nd, kList_lst, kList_tup, kTuple_lst, kAppend_one, kSl_lst, kSl_T, kSl_tup, kRng1_int, kRng2_int, isL_own, frz_at, fok_at, frz_lst, fok_lst, frz_tup, fok_tup, kItL_lst, kItT_tup, kItS_T, kZip_lst, kEnum_lst, hole_none, hole_succ, putB_nil, putB_cons, finD_nil, finD_cons, lowE_nil, lowE_cons, lowS_some, lowS_none, wipeE_nil, wipeE_cons, backE_nil, backE_cons, kMod_int, kGe_int, kIn_T, List.map_cons, List.map_nil, List.length_cons, List.length_nil, List.length_map, List.length_set, List.cons_append, List.nil_append, Nat.reduceAdd, Nat.reduceSub, Nat.reduceLT, Nat.reduceLeDiff, Nat.zero_add, List.replicate_succ, List.replicate_zero, List.set_cons_zero, List.set_cons_succ, List.getElem?_cons_zero, List.getElem?_cons_succ, List.getElem?_nil, true_and, and_true, and_self, if_true, if_false, Bool.false_eq_true, reduceIte, List.mem_cons, List.not_mem_nil, or_false, false_or, reduceCtorEq, Nat.reduceEqDiff, or_self, or_true, true_or, Option.map_some, Option.getD_some, Option.isSome_some, Bool.not_true, Bool.not_false, Bool.and_true, Bool.true_and, Bool.and_eq_true, decide_eq_true_eq, Nat.zero_lt_succ, Nat.lt_add_one, Nat.succ_ne_self, Nat.add_one_ne_zero, not_true_eq_false, not_false_eq_true, wv_frz, shift_nil, shift_cons, Option.bind_some, wv_mutF, wv_mutV, wv_meth, wv_make, wv_callW, ws_setF, wg_un, kFld_obj, setO_obj, mutO_obj, hasL_obj, isO_obj, asL_own, bare_at, frzs_nil, frzs_cons, foks_nil, foks_cons, encR, rx_a]
  refine ⟨by decide, ?_⟩
  unfold rdS
  rw [h]
  show _ = D.tup [.at (.int ((s + c : Nat) : Int)), .at (.int n)]
  rw [Int.natCast_add]
end K11

set_option maxRecDepth 100000
set_option maxHeartbeats 4000000
namespace K11
open PySem L2 DL PyProof.Rows
theorem rnG_nonneg : ∀ (k idx : Nat) (t f : Int) (l : List Int) (n : Int) (c : Nat), 0 ≤ t → 0 ≤ f → rnG k idx t f l = some (n, c) → 0 ≤ n
  | 0, _, _, _, _, _, _, _, _, h => by cases h
  | k + 1, _, _, _, [], _, _, _, _, h => by cases h
  | k + 1, idx, t, f, b :: r, n, c, ht, hf, h => by
    have hb := Int.emod_nonneg b (by decide : (128 : Int) ≠ 0)
    have h1 : 0 ≤ t + b % 128 * f := Int.add_nonneg ht (Int.mul_nonneg hb hf)
    replace h : (if b < 128 then (if b = 0 ∧ 0 < idx then none else some (t + b % 128 * f, 1)) else (rnG k (idx + 1) (t + b % 128 * f) (f * 128) r).map fun p => (p.1, p.2 + 1)) = some (n, c) := h
    split at h
    · split at h
      · cases h
      · cases h; exact h1
    · obtain ⟨p, hp, e⟩ := Option.map_eq_some_iff.mp h
      cases e
      exact rnG_nonneg k _ _ _ r p.1 p.2 h1 (Int.mul_nonneg hf (by decide)) hp
theorem eqvAll_I : ∀ {l m : List Int}, PyData.eqvAll (l.map PyData.int) (m.map PyData.int) = (l == m)
  | [], [] => rfl
  | [], _ :: _ => rfl
  | _ :: _, [] => rfl
  | a :: l, b :: m => by
    rw [List.map_cons, List.map_cons]
    unfold PyData.eqvAll
    rw [eqvAll_I (l := l) (m := m)]
    show (PyData.eqv (.int a) (.int b) && (l == m)) = _
    have : PyData.eqv (.int a) (.int b) = (a == b) := by unfold PyData.eqv; rfl
    rw [this]
    rfl
theorem kNe_II {o o2 : Bool} {l m : List Int} : kNe (.nd (.lst o) (I l)) (.nd (.lst o2) (I m)) = some (.at (.bl (!(l == m)))) := by
  unfold kNe
  rw [py2_I]
  have : PyData.eqv (.list (l.map PyData.int)) (.list (m.map PyData.int)) = (l == m) := by
    unfold PyData.eqv
    exact eqvAll_I
  rw [this]
  rfl
def nextR (d : List Int) (s : Nat) : Option (List Int × Nat) := (rdS d s).bind fun p => if (d.length : Int) < p.1 + p.2 + 4 then none else if tl4 (cs ((d.drop p.1).take p.2.toNat)) = (d.drop (p.1 + p.2.toNat)).take 4 then some ((d.drop p.1).take p.2.toNat, p.1 + p.2.toNat + 4) else none
inductive Run (d : List Int) : Nat → List (List Int) → Nat → Prop
  | nil {s : Nat} : Run d s [] s
  | cons {s m e : Nat} {r : List Int} {rs : List (List Int)} (h : nextR d s = some (r, m)) (t : Run d m rs e) : Run d s (r :: rs) e
theorem Run.snoc {d : List Int} : ∀ {s e m : Nat} {r : List Int} {rs : List (List Int)}, Run d s rs e → nextR d e = some (r, m) → Run d s (rs ++ [r]) m
  | _, _, _, _, _, .nil, h => .cons h .nil
  | _, _, _, _, _, .cons h t, h2 => .cons h (t.snoc h2)
theorem Run.uniq {d : List Int} : ∀ {s e e' : Nat} {rs rs' : List (List Int)}, Run d s rs e → nextR d e = none → Run d s rs' e' → nextR d e' = none → rs = rs' ∧ e = e'
  | _, _, _, _, _, .nil, _, .nil, _ => ⟨rfl, rfl⟩
  | _, _, _, _, _, .nil, h, .cons h2 _, _ => by rw [h] at h2; cases h2
  | _, _, _, _, _, .cons h _, _, .nil, h2 => by rw [h] at h2; cases h2
  | _, _, _, _, _, .cons h t, h1, .cons h2 t2, h3 => by
    rw [h] at h2
    cases h2
    obtain ⟨e1, e2⟩ := t.uniq h1 t2 h3
    exact ⟨by rw [e1], e2⟩
theorem cut_m4 {l : List Int} {t : Int} : DL.cutD (I (l ++ tl4 t)) (some (-4)) none = I (tl4 t) := by
  unfold DL.cutD
  rw [HT.sIx_none, List.length_map]
  have hn : (l ++ tl4 t).length = l.length + 4 := by simp [tl4]
  have : HT.sIx (l ++ tl4 t).length 0 (some (-4)) = l.length := by
    show (if (-4 : Int) < 0 then ((-4 : Int) + ((l ++ tl4 t).length : Int)).toNat else min (-4 : Int).toNat (l ++ tl4 t).length) = _
    rw [if_pos (by decide), hn]
    omega
  rw [this, hn, ← List.map_drop, ← List.map_take, List.drop_left]
  simp [tl4]
abbrev W (rs : List (List Int)) : List D := rs.map fun r => D.own (I r)
theorem rds_pos {d : List Int} {s : Nat} {p : Nat × Int} (h : rdS d s = some p) : s ≤ p.1 ∧ 0 ≤ p.2 := by
  unfold rdS at h
  obtain ⟨q, hq, rfl⟩ := Option.map_eq_some_iff.mp h
  exact ⟨Nat.le_add_right _ _, rnG_nonneg 60 0 0 1 _ q.1 q.2 (by decide) (by decide) hq⟩
theorem records_ok {d : List Int} (hl : d.length ≤ 100000) (hb : ByteL d) : wD (F_read_records [.lst (I d)]) (fun v as => ∃ rs e, Run d 0 rs e ∧ nextR d e = none ∧ v = .tup [.own (W rs), .at (.int (e : Nat))]) fun _ _ => False := by
  refine wD_fn rfl ?_
  unfold b_read_records
  refine ws_mid (fun ρ => ρ = [some (.lst (I d)), some (.own (W [])), none, none, none, none, none, none]) ?_ ?_
  · simp only [ws_asg, ws_ret, ws_retN, ws_drop, ws_pass, ws_bk, ws_ct, ws_if, ws_aug, ws_augI, ws_for, wv_cp, wv_mk, wv_share, wv_move, wv_1, wv_2, wv_A, wa_nil, wa_cons, wa_io, wv_tup, wv_lst, wv_call, wv_if, wv_sl, wv_ixN, wv_mt, wv_mut, wv_and, wv_or, wv_not, wv_lc, wi_arg, wb_q, wb_t, wb_v, wb_and, wb_or, wb_not, wb_yes, wq_var, wq_c, wq_2, wq_1, wq_A, wq_lNil, wq_lCons, wq_sl, wo_none, wo_some, wg_item, wg_set, wg_tup, wg_cons, wg_nil, wR_rb, wR_rp, wO_some, wO_none, wO_bind, wO_map, wO_iteN, look_zero, look_succ, Ed.turn, kIx_lst, kIx_tup, kIx_T, atI_0, atI_1, atI_2, atI_3, atI_4, atI_5, atI_6, atI_cast, ixN_0, ixN_1, ixN_2, ixN_3, asI_int, asB_bl, asS_str, oI_int, cT_true, kAdd_int, kAdd_T, kAdd_lst, kAdd_tup, kInt_int, kInt_bl, kMin_int, kMax_int, kLen_lst, kLen_tup, kLen_T, nOw_at, nOw_tup, nOw_lstF, nOw_own, nOws_nil, nOws_cons, nOws_append, nOws_ints, kEq_int, kNe_int, kEq_T, kNe_T, kEq_bl, kIsN_at, kNotN_at, kIsN_nd, kNotN_nd, kList_lst, kList_tup, kTuple_lst, kAppend_one, kSl_lst, kSl_T, kSl_tup, kRng1_int, kRng2_int, isL_own, frz_at, fok_at, frz_lst, fok_lst, frz_tup, fok_tup, kItL_lst, kItT_tup, kItS_T, kZip_lst, kEnum_lst, hole_none, hole_succ, putB_nil, putB_cons, finD_nil, finD_cons, lowE_nil, lowE_cons, lowS_some, lowS_none, wipeE_nil, wipeE_cons, backE_nil, backE_cons, kMod_int, kGe_int, kIn_T, List.map_cons, List.map_nil, List.length_cons, List.length_nil, List.length_map, List.length_set, List.cons_append, List.nil_append, Nat.reduceAdd, Nat.reduceSub, Nat.reduceLT, Nat.reduceLeDiff, Nat.zero_add, List.replicate_succ, List.replicate_zero, List.set_cons_zero, List.set_cons_succ, List.getElem?_cons_zero, List.getElem?_cons_succ, List.getElem?_nil, true_and, and_true, and_self, if_true, if_false, Bool.false_eq_true, reduceIte, List.mem_cons, List.not_mem_nil, or_false, false_or, reduceCtorEq, Nat.reduceEqDiff, or_self, or_true, true_or, Option.map_some, Option.getD_some, Option.isSome_some, Bool.not_true, Bool.not_false, Bool.and_true, Bool.true_and, Bool.and_eq_true, decide_eq_true_eq, Nat.zero_lt_succ, Nat.lt_add_one, Nat.succ_ne_self, Nat.add_one_ne_zero, not_true_eq_false, not_false_eq_true, wv_frz, shift_nil, shift_cons, Option.bind_some, wv_mutF, wv_mutV, wv_meth, wv_make, wv_callW, ws_setF, wg_un, kFld_obj, setO_obj, mutO_obj, hasL_obj, isO_obj, asL_own, bare_at, frzs_nil, frzs_cons, foks_nil, foks_cons]
    decide
  rintro ρ rfl
  refine ws_mid (fun ρ => ρ = [some (.lst (I d)), some (.own (W [])), some (.at (.int 0)), none, none, none, none, none]) ?_ ?_
  · simp only [ws_asg, ws_ret, ws_retN, ws_drop, ws_pass, ws_bk, ws_ct, ws_if, ws_aug, ws_augI, ws_for, wv_cp, wv_mk, wv_share, wv_move, wv_1, wv_2, wv_A, wa_nil, wa_cons, wa_io, wv_tup, wv_lst, wv_call, wv_if, wv_sl, wv_ixN, wv_mt, wv_mut, wv_and, wv_or, wv_not, wv_lc, wi_arg, wb_q, wb_t, wb_v, wb_and, wb_or, wb_not, wb_yes, wq_var, wq_c, wq_2, wq_1, wq_A, wq_lNil, wq_lCons, wq_sl, wo_none, wo_some, wg_item, wg_set, wg_tup, wg_cons, wg_nil, wR_rb, wR_rp, wO_some, wO_none, wO_bind, wO_map, wO_iteN, look_zero, look_succ, Ed.turn, kIx_lst, kIx_tup, kIx_T, atI_0, atI_1, atI_2, atI_3, atI_4, atI_5, atI_6, atI_cast, ixN_0, ixN_1, ixN_2, ixN_3, asI_int, asB_bl, asS_str, oI_int, cT_true, kAdd_int, kAdd_T, kAdd_lst, kAdd_tup, kInt_int, kInt_bl, kMin_int, kMax_int, kLen_lst, kLen_tup, kLen_T, nOw_at, nOw_tup, nOw_lstF, nOw_own, nOws_nil, nOws_cons, nOws_append, nOws_ints, kEq_int, kNe_int, kEq_T, kNe_T, kEq_bl, kIsN_at, kNotN_at, kIsN_nd, kNotN_nd, kList_lst, kList_tup, kTuple_lst, kAppend_one, kSl_lst, kSl_T, kSl_tup, kRng1_int, kRng2_int, isL_own, frz_at, fok_at, frz_lst, fok_lst, frz_tup, fok_tup, kItL_lst, kItT_tup, kItS_T, kZip_lst, kEnum_lst, hole_none, hole_succ, putB_nil, putB_cons, finD_nil, finD_cons, lowE_nil, lowE_cons, lowS_some, lowS_none, wipeE_nil, wipeE_cons, backE_nil, backE_cons, kMod_int, kGe_int, kIn_T, List.map_cons, List.map_nil, List.length_cons, List.length_nil, List.length_map, List.length_set, List.cons_append, List.nil_append, Nat.reduceAdd, Nat.reduceSub, Nat.reduceLT, Nat.reduceLeDiff, Nat.zero_add, List.replicate_succ, List.replicate_zero, List.set_cons_zero, List.set_cons_succ, List.getElem?_cons_zero, List.getElem?_cons_succ, List.getElem?_nil, true_and, and_true, and_self, if_true, if_false, Bool.false_eq_true, reduceIte, List.mem_cons, List.not_mem_nil, or_false, false_or, reduceCtorEq, Nat.reduceEqDiff, or_self, or_true, true_or, Option.map_some, Option.getD_some, Option.isSome_some, Bool.not_true, Bool.not_false, Bool.and_true, Bool.true_and, Bool.and_eq_true, decide_eq_true_eq, Nat.zero_lt_succ, Nat.lt_add_one, Nat.succ_ne_self, Nat.add_one_ne_zero, not_true_eq_false, not_false_eq_true, wv_frz, shift_nil, shift_cons, Option.bind_some, wv_mutF, wv_mutV, wv_meth, wv_make, wv_callW, ws_setF, wg_un, kFld_obj, setO_obj, mutO_obj, hasL_obj, isO_obj, asL_own, bare_at, frzs_nil, frzs_cons, foks_nil, foks_cons]
  rintro ρ rfl
  refine ws_mid (fun ρ => ρ = [some (.lst (I d)), some (.own (W [])), some (.at (.int 0)), some (rdD (rdS d 0)), none, none, none, none]) ?_ ?_
  · simp only [ws_asg, ws_ret, ws_retN, ws_drop, ws_pass, ws_bk, ws_ct, ws_if, ws_aug, ws_augI, ws_for, wv_cp, wv_mk, wv_share, wv_move, wv_1, wv_2, wv_A, wa_nil, wa_cons, wa_io, wv_tup, wv_lst, wv_call, wv_if, wv_sl, wv_ixN, wv_mt, wv_mut, wv_and, wv_or, wv_not, wv_lc, wi_arg, wb_q, wb_t, wb_v, wb_and, wb_or, wb_not, wb_yes, wq_var, wq_c, wq_2, wq_1, wq_A, wq_lNil, wq_lCons, wq_sl, wo_none, wo_some, wg_item, wg_set, wg_tup, wg_cons, wg_nil, wR_rb, wR_rp, wO_some, wO_none, wO_bind, wO_map, wO_iteN, look_zero, look_succ, Ed.turn, kIx_lst, kIx_tup, kIx_T, atI_0, atI_1, atI_2, atI_3, atI_4, atI_5, atI_6, atI_cast, ixN_0, ixN_1, ixN_2, ixN_3, asI_int, asB_bl, asS_str, oI_int, cT_true, kAdd_int, kAdd_T, kAdd_lst, kAdd_tup, kInt_int, kInt_bl, kMin_int, kMax_int, kLen_lst, kLen_tup, kLen_T, nOw_at, nOw_tup, nOw_lstF, nOw_own, nOws_nil, nOws_cons, nOws_append, nOws_ints, kEq_int, kNe_int, kEq_T, kNe_T, kEq_bl, kIsN_at, kNotN_at, kIsN_nd, kNotN_nd, kList_lst, kList_tup, kTuple_lst, kAppend_one, kSl_lst, kSl_T, kSl_tup, kRng1_int, kRng2_int, isL_own, frz_at, fok_at, frz_lst, fok_lst, frz_tup, fok_tup, kItL_lst, kItT_tup, kItS_T, kZip_lst, kEnum_lst, hole_none, hole_succ, putB_nil, putB_cons, finD_nil, finD_cons, lowE_nil, lowE_cons, lowS_some, lowS_none, wipeE_nil, wipeE_cons, backE_nil, backE_cons, kMod_int, kGe_int, kIn_T, List.map_cons, List.map_nil, List.length_cons, List.length_nil, List.length_map, List.length_set, List.cons_append, List.nil_append, Nat.reduceAdd, Nat.reduceSub, Nat.reduceLT, Nat.reduceLeDiff, Nat.zero_add, List.replicate_succ, List.replicate_zero, List.set_cons_zero, List.set_cons_succ, List.getElem?_cons_zero, List.getElem?_cons_succ, List.getElem?_nil, true_and, and_true, and_self, if_true, if_false, Bool.false_eq_true, reduceIte, List.mem_cons, List.not_mem_nil, or_false, false_or, reduceCtorEq, Nat.reduceEqDiff, or_self, or_true, true_or, Option.map_some, Option.getD_some, Option.isSome_some, Bool.not_true, Bool.not_false, Bool.and_true, Bool.true_and, Bool.and_eq_true, decide_eq_true_eq, Nat.zero_lt_succ, Nat.lt_add_one, Nat.succ_ne_self, Nat.add_one_ne_zero, not_true_eq_false, not_false_eq_true, wv_frz, shift_nil, shift_cons, Option.bind_some, wv_mutF, wv_mutV, wv_meth, wv_make, wv_callW, ws_setF, wg_un, kFld_obj, setO_obj, mutO_obj, hasL_obj, isO_obj, asL_own, bare_at, frzs_nil, frzs_cons, foks_nil, foks_cons, foks_I, frzs_I]
    refine wD_mono (size_ok (d := d) (s := 0)) ?_ fun _ _ h => h.elim
    rintro v as rfl
    refine ⟨?_, rfl⟩
    unfold rdD
    split <;> simp only [bare_tup, bares, bare_at, Bool.and_self]
    all_goals rfl
  rintro ρ rfl
  refine ws_mid (fun ρ => ∃ rs e q x4 x5 x6 x7, Run d 0 rs e ∧ nextR d e = none ∧ ρ = [some (.lst (I d)), some (.own (W rs)), some (.at (.int (e : Nat))), q, x4, x5, x6, x7]) ?_ ?_
  · refine w_while (fun k ρ => ∃ (rs : List (List Int)) (s : Nat) (x4 x5 x6 x7 : Option D), k = d.length - s ∧ s ≤ d.length ∧ rs.length ≤ s ∧ Run d 0 rs s ∧ ρ = [some (.lst (I d)), some (.own (W rs)), some (.at (.int s)), some (rdD (rdS d s)), x4, x5, x6, x7]) ⟨[], 0, none, none, none, none, rfl, Nat.zero_le _, Nat.zero_le _, .nil, rfl⟩ ?_
    rintro k ρ ⟨rs, s, x4, x5, x6, x7, rfl, hs, hrl, hr, rfl⟩
    cases hd : rdS d s with
    | none =>
      simp only [ws_asg, ws_ret, ws_retN, ws_drop, ws_pass, ws_bk, ws_ct, ws_if, ws_aug, ws_augI, ws_for, wv_cp, wv_mk, wv_share, wv_move, wv_1, wv_2, wv_A, wa_nil, wa_cons, wa_io, wv_tup, wv_lst, wv_call, wv_if, wv_sl, wv_ixN, wv_mt, wv_mut, wv_and, wv_or, wv_not, wv_lc, wi_arg, wb_q, wb_t, wb_v, wb_and, wb_or, wb_not, wb_yes, wq_var, wq_c, wq_2, wq_1, wq_A, wq_lNil, wq_lCons, wq_sl, wo_none, wo_some, wg_item, wg_set, wg_tup, wg_cons, wg_nil, wR_rb, wR_rp, wO_some, wO_none, wO_bind, wO_map, wO_iteN, look_zero, look_succ, Ed.turn, kIx_lst, kIx_tup, kIx_T, atI_0, atI_1, atI_2, atI_3, atI_4, atI_5, atI_6, atI_cast, ixN_0, ixN_1, ixN_2, ixN_3, asI_int, asB_bl, asS_str, oI_int, cT_true, kAdd_int, kAdd_T, kAdd_lst, kAdd_tup, kInt_int, kInt_bl, kMin_int, kMax_int, kLen_lst, kLen_tup, kLen_T, nOw_at, nOw_tup, nOw_lstF, nOw_own, nOws_nil, nOws_cons, nOws_append, nOws_ints, kEq_int, kNe_int, kEq_T, kNe_T, kEq_bl, kIsN_at, kNotN_at, kIsN_nd, kNotN_nd, kList_lst, kList_tup, kTuple_lst, kAppend_one, kSl_lst, kSl_T, kSl_tup, kRng1_int, kRng2_int, isL_own, frz_at, fok_at, frz_lst, fok_lst, frz_tup, fok_tup, kItL_lst, kItT_tup, kItS_T, kZip_lst, kEnum_lst, hole_none, hole_succ, putB_nil, putB_cons, finD_nil, finD_cons, lowE_nil, lowE_cons, lowS_some, lowS_none, wipeE_nil, wipeE_cons, backE_nil, backE_cons, kMod_int, kGe_int, kIn_T, List.map_cons, List.map_nil, List.length_cons, List.length_nil, List.length_map, List.length_set, List.cons_append, List.nil_append, Nat.reduceAdd, Nat.reduceSub, Nat.reduceLT, Nat.reduceLeDiff, Nat.zero_add, List.replicate_succ, List.replicate_zero, List.set_cons_zero, List.set_cons_succ, List.getElem?_cons_zero, List.getElem?_cons_succ, List.getElem?_nil, true_and, and_true, and_self, if_true, if_false, Bool.false_eq_true, reduceIte, List.mem_cons, List.not_mem_nil, or_false, false_or, reduceCtorEq, Nat.reduceEqDiff, or_self, or_true, true_or, Option.map_some, Option.getD_some, Option.isSome_some, Bool.not_true, Bool.not_false, Bool.and_true, Bool.true_and, Bool.and_eq_true, decide_eq_true_eq, Nat.zero_lt_succ, Nat.lt_add_one, Nat.succ_ne_self, Nat.add_one_ne_zero, not_true_eq_false, not_false_eq_true, wv_frz, shift_nil, shift_cons, Option.bind_some, wv_mutF, wv_mutV, wv_meth, wv_make, wv_callW, ws_setF, wg_un, kFld_obj, setO_obj, mutO_obj, hasL_obj, isO_obj, asL_own, bare_at, frzs_nil, frzs_cons, foks_nil, foks_cons, rdD]
      exact ⟨rs, s, _, _, _, _, _, hr, by unfold nextR; rw [hd]; rfl, rfl⟩
    | some p =>
      obtain ⟨hp1, hp2⟩ := rds_pos hd
      obtain ⟨n, hn⟩ : ∃ n : Nat, p.2 = n := ⟨p.2.toNat, by omega⟩
      obtain ⟨b, n'⟩ := p
      dsimp only at hn hp1
      subst hn
      rw [show rdD (some (b, (n : Int))) = D.tup [.at (.int b), .at (.int n)] from rfl]
      simp only [ws_asg, ws_ret, ws_retN, ws_drop, ws_pass, ws_bk, ws_ct, ws_if, ws_aug, ws_augI, ws_for, wv_cp, wv_mk, wv_share, wv_move, wv_1, wv_2, wv_A, wa_nil, wa_cons, wa_io, wv_tup, wv_lst, wv_call, wv_if, wv_sl, wv_ixN, wv_mt, wv_mut, wv_and, wv_or, wv_not, wv_lc, wi_arg, wb_q, wb_t, wb_v, wb_and, wb_or, wb_not, wb_yes, wq_var, wq_c, wq_2, wq_1, wq_A, wq_lNil, wq_lCons, wq_sl, wo_none, wo_some, wg_item, wg_set, wg_tup, wg_cons, wg_nil, wR_rb, wR_rp, wO_some, wO_none, wO_bind, wO_map, wO_iteN, look_zero, look_succ, Ed.turn, kIx_lst, kIx_tup, kIx_T, atI_0, atI_1, atI_2, atI_3, atI_4, atI_5, atI_6, atI_cast, ixN_0, ixN_1, ixN_2, ixN_3, asI_int, asB_bl, asS_str, oI_int, cT_true, kAdd_int, kAdd_T, kAdd_lst, kAdd_tup, kInt_int, kInt_bl, kMin_int, kMax_int, kLen_lst, kLen_tup, kLen_T, nOw_at, nOw_tup, nOw_lstF, nOw_own, nOws_nil, nOws_cons, nOws_append, nOws_ints, kEq_int, kNe_int, kEq_T, kNe_T, kEq_bl, kIsN_at, kNotN_at, kIsN_nd, kNotN_nd, kList_lst, kList_tup, kTuple_lst, kAppend_one, kSl_lst, kSl_T, kSl_tup, kRng1_int, kRng2_int, isL_own, frz_at, fok_at, frz_lst, fok_lst, frz_tup, fok_tup, kItL_lst, kItT_tup, kItS_T, kZip_lst, kEnum_lst, hole_none, hole_succ, putB_nil, putB_cons, finD_nil, finD_cons, lowE_nil, lowE_cons, lowS_some, lowS_none, wipeE_nil, wipeE_cons, backE_nil, backE_cons, kMod_int, kGe_int, kIn_T, List.map_cons, List.map_nil, List.length_cons, List.length_nil, List.length_map, List.length_set, List.cons_append, List.nil_append, Nat.reduceAdd, Nat.reduceSub, Nat.reduceLT, Nat.reduceLeDiff, Nat.zero_add, List.replicate_succ, List.replicate_zero, List.set_cons_zero, List.set_cons_succ, List.getElem?_cons_zero, List.getElem?_cons_succ, List.getElem?_nil, true_and, and_true, and_self, if_true, if_false, Bool.false_eq_true, reduceIte, List.mem_cons, List.not_mem_nil, or_false, false_or, reduceCtorEq, Nat.reduceEqDiff, or_self, or_true, true_or, Option.map_some, Option.getD_some, Option.isSome_some, Bool.not_true, Bool.not_false, Bool.and_true, Bool.true_and, Bool.and_eq_true, decide_eq_true_eq, Nat.zero_lt_succ, Nat.lt_add_one, Nat.succ_ne_self, Nat.add_one_ne_zero, not_true_eq_false, not_false_eq_true, wv_frz, shift_nil, shift_cons, Option.bind_some, wv_mutF, wv_mutV, wv_meth, wv_make, wv_callW, ws_setF, wg_un, kFld_obj, setO_obj, mutO_obj, hasL_obj, isO_obj, asL_own, bare_at, frzs_nil, frzs_cons, foks_nil, foks_cons]
      refine ws_mid (fun ρ => ρ = [some (.lst (I d)), some (.own (W rs)), some (.at (.int s)), some (D.tup [.at (.int b), .at (.int n)]), some (.at (.int b)), some (.at (.int n)), x6, x7]) ?_ ?_
      · simp only [ws_asg, ws_ret, ws_retN, ws_drop, ws_pass, ws_bk, ws_ct, ws_if, ws_aug, ws_augI, ws_for, wv_cp, wv_mk, wv_share, wv_move, wv_1, wv_2, wv_A, wa_nil, wa_cons, wa_io, wv_tup, wv_lst, wv_call, wv_if, wv_sl, wv_ixN, wv_mt, wv_mut, wv_and, wv_or, wv_not, wv_lc, wi_arg, wb_q, wb_t, wb_v, wb_and, wb_or, wb_not, wb_yes, wq_var, wq_c, wq_2, wq_1, wq_A, wq_lNil, wq_lCons, wq_sl, wo_none, wo_some, wg_item, wg_set, wg_tup, wg_cons, wg_nil, wR_rb, wR_rp, wO_some, wO_none, wO_bind, wO_map, wO_iteN, look_zero, look_succ, Ed.turn, kIx_lst, kIx_tup, kIx_T, atI_0, atI_1, atI_2, atI_3, atI_4, atI_5, atI_6, atI_cast, ixN_0, ixN_1, ixN_2, ixN_3, asI_int, asB_bl, asS_str, oI_int, cT_true, kAdd_int, kAdd_T, kAdd_lst, kAdd_tup, kInt_int, kInt_bl, kMin_int, kMax_int, kLen_lst, kLen_tup, kLen_T, nOw_at, nOw_tup, nOw_lstF, nOw_own, nOws_nil, nOws_cons, nOws_append, nOws_ints, kEq_int, kNe_int, kEq_T, kNe_T, kEq_bl, kIsN_at, kNotN_at, kIsN_nd, kNotN_nd, kList_lst, kList_tup, kTuple_lst, kAppend_one, kSl_lst, kSl_T, kSl_tup, kRng1_int, kRng2_int, isL_own, frz_at, fok_at, frz_lst, fok_lst, frz_tup, fok_tup, kItL_lst, kItT_tup, kItS_T, kZip_lst, kEnum_lst, hole_none, hole_succ, putB_nil, putB_cons, finD_nil, finD_cons, lowE_nil, lowE_cons, lowS_some, lowS_none, wipeE_nil, wipeE_cons, backE_nil, backE_cons, kMod_int, kGe_int, kIn_T, List.map_cons, List.map_nil, List.length_cons, List.length_nil, List.length_map, List.length_set, List.cons_append, List.nil_append, Nat.reduceAdd, Nat.reduceSub, Nat.reduceLT, Nat.reduceLeDiff, Nat.zero_add, List.replicate_succ, List.replicate_zero, List.set_cons_zero, List.set_cons_succ, List.getElem?_cons_zero, List.getElem?_cons_succ, List.getElem?_nil, true_and, and_true, and_self, if_true, if_false, Bool.false_eq_true, reduceIte, List.mem_cons, List.not_mem_nil, or_false, false_or, reduceCtorEq, Nat.reduceEqDiff, or_self, or_true, true_or, Option.map_some, Option.getD_some, Option.isSome_some, Bool.not_true, Bool.not_false, Bool.and_true, Bool.true_and, Bool.and_eq_true, decide_eq_true_eq, Nat.zero_lt_succ, Nat.lt_add_one, Nat.succ_ne_self, Nat.add_one_ne_zero, not_true_eq_false, not_false_eq_true, wv_frz, shift_nil, shift_cons, Option.bind_some, wv_mutF, wv_mutV, wv_meth, wv_make, wv_callW, ws_setF, wg_un, kFld_obj, setO_obj, mutO_obj, hasL_obj, isO_obj, asL_own, bare_at, frzs_nil, frzs_cons, foks_nil, foks_cons]
      rintro ρ rfl
      refine ws_mid (fun ρ => ρ = [some (.lst (I d)), some (.own (W rs)), some (.at (.int s)), some (D.tup [.at (.int b), .at (.int n)]), some (.at (.int b)), some (.at (.int n)), some (.own (I ((d.drop b).take n))), x7]) ?_ ?_
      · have hc : DL.cutD (I d) (some (b : Int)) (some ((b : Int) + n)) = I ((d.drop b).take n) := by
          rw [show (b : Int) + n = ((b + n : Nat) : Int) by omega, cut2_I, Nat.add_sub_cancel_left]
        simp only [ws_asg, ws_ret, ws_retN, ws_drop, ws_pass, ws_bk, ws_ct, ws_if, ws_aug, ws_augI, ws_for, wv_cp, wv_mk, wv_share, wv_move, wv_1, wv_2, wv_A, wa_nil, wa_cons, wa_io, wv_tup, wv_lst, wv_call, wv_if, wv_sl, wv_ixN, wv_mt, wv_mut, wv_and, wv_or, wv_not, wv_lc, wi_arg, wb_q, wb_t, wb_v, wb_and, wb_or, wb_not, wb_yes, wq_var, wq_c, wq_2, wq_1, wq_A, wq_lNil, wq_lCons, wq_sl, wo_none, wo_some, wg_item, wg_set, wg_tup, wg_cons, wg_nil, wR_rb, wR_rp, wO_some, wO_none, wO_bind, wO_map, wO_iteN, look_zero, look_succ, Ed.turn, kIx_lst, kIx_tup, kIx_T, atI_0, atI_1, atI_2, atI_3, atI_4, atI_5, atI_6, atI_cast, ixN_0, ixN_1, ixN_2, ixN_3, asI_int, asB_bl, asS_str, oI_int, cT_true, kAdd_int, kAdd_T, kAdd_lst, kAdd_tup, kInt_int, kInt_bl, kMin_int, kMax_int, kLen_lst, kLen_tup, kLen_T, nOw_at, nOw_tup, nOw_lstF, nOw_own, nOws_nil, nOws_cons, nOws_append, nOws_ints, kEq_int, kNe_int, kEq_T, kNe_T, kEq_bl, kIsN_at, kNotN_at, kIsN_nd, kNotN_nd, kList_lst, kList_tup, kTuple_lst, kAppend_one, kSl_lst, kSl_T, kSl_tup, kRng1_int, kRng2_int, isL_own, frz_at, fok_at, frz_lst, fok_lst, frz_tup, fok_tup, kItL_lst, kItT_tup, kItS_T, kZip_lst, kEnum_lst, hole_none, hole_succ, putB_nil, putB_cons, finD_nil, finD_cons, lowE_nil, lowE_cons, lowS_some, lowS_none, wipeE_nil, wipeE_cons, backE_nil, backE_cons, kMod_int, kGe_int, kIn_T, List.map_cons, List.map_nil, List.length_cons, List.length_nil, List.length_map, List.length_set, List.cons_append, List.nil_append, Nat.reduceAdd, Nat.reduceSub, Nat.reduceLT, Nat.reduceLeDiff, Nat.zero_add, List.replicate_succ, List.replicate_zero, List.set_cons_zero, List.set_cons_succ, List.getElem?_cons_zero, List.getElem?_cons_succ, List.getElem?_nil, true_and, and_true, and_self, if_true, if_false, Bool.false_eq_true, reduceIte, List.mem_cons, List.not_mem_nil, or_false, false_or, reduceCtorEq, Nat.reduceEqDiff, or_self, or_true, true_or, Option.map_some, Option.getD_some, Option.isSome_some, Bool.not_true, Bool.not_false, Bool.and_true, Bool.true_and, Bool.and_eq_true, decide_eq_true_eq, Nat.zero_lt_succ, Nat.lt_add_one, Nat.succ_ne_self, Nat.add_one_ne_zero, not_true_eq_false, not_false_eq_true, wv_frz, shift_nil, shift_cons, Option.bind_some, wv_mutF, wv_mutV, wv_meth, wv_make, wv_callW, ws_setF, wg_un, kFld_obj, setO_obj, mutO_obj, hasL_obj, isO_obj, asL_own, bare_at, frzs_nil, frzs_cons, foks_nil, foks_cons, nOws_I, hc]
      rintro ρ rfl
      refine ws_mid (fun ρ => ρ = [some (.lst (I d)), some (.own (W rs)), some (.at (.int s)), some (D.tup [.at (.int b), .at (.int n)]), some (.at (.int b)), some (.at (.int n)), some (.own (I ((d.drop b).take n))), some (.at (.int ((b + n + 4 : Nat) : Int)))]) ?_ ?_
      · simp only [ws_asg, ws_ret, ws_retN, ws_drop, ws_pass, ws_bk, ws_ct, ws_if, ws_aug, ws_augI, ws_for, wv_cp, wv_mk, wv_share, wv_move, wv_1, wv_2, wv_A, wa_nil, wa_cons, wa_io, wv_tup, wv_lst, wv_call, wv_if, wv_sl, wv_ixN, wv_mt, wv_mut, wv_and, wv_or, wv_not, wv_lc, wi_arg, wb_q, wb_t, wb_v, wb_and, wb_or, wb_not, wb_yes, wq_var, wq_c, wq_2, wq_1, wq_A, wq_lNil, wq_lCons, wq_sl, wo_none, wo_some, wg_item, wg_set, wg_tup, wg_cons, wg_nil, wR_rb, wR_rp, wO_some, wO_none, wO_bind, wO_map, wO_iteN, look_zero, look_succ, Ed.turn, kIx_lst, kIx_tup, kIx_T, atI_0, atI_1, atI_2, atI_3, atI_4, atI_5, atI_6, atI_cast, ixN_0, ixN_1, ixN_2, ixN_3, asI_int, asB_bl, asS_str, oI_int, cT_true, kAdd_int, kAdd_T, kAdd_lst, kAdd_tup, kInt_int, kInt_bl, kMin_int, kMax_int, kLen_lst, kLen_tup, kLen_T, nOw_at, nOw_tup, nOw_lstF, nOw_own, nOws_nil, nOws_cons, nOws_append, nOws_ints, kEq_int, kNe_int, kEq_T, kNe_T, kEq_bl, kIsN_at, kNotN_at, kIsN_nd, kNotN_nd, kList_lst, kList_tup, kTuple_lst, kAppend_one, kSl_lst, kSl_T, kSl_tup, kRng1_int, kRng2_int, isL_own, frz_at, fok_at, frz_lst, fok_lst, frz_tup, fok_tup, kItL_lst, kItT_tup, kItS_T, kZip_lst, kEnum_lst, hole_none, hole_succ, putB_nil, putB_cons, finD_nil, finD_cons, lowE_nil, lowE_cons, lowS_some, lowS_none, wipeE_nil, wipeE_cons, backE_nil, backE_cons, kMod_int, kGe_int, kIn_T, List.map_cons, List.map_nil, List.length_cons, List.length_nil, List.length_map, List.length_set, List.cons_append, List.nil_append, Nat.reduceAdd, Nat.reduceSub, Nat.reduceLT, Nat.reduceLeDiff, Nat.zero_add, List.replicate_succ, List.replicate_zero, List.set_cons_zero, List.set_cons_succ, List.getElem?_cons_zero, List.getElem?_cons_succ, List.getElem?_nil, true_and, and_true, and_self, if_true, if_false, Bool.false_eq_true, reduceIte, List.mem_cons, List.not_mem_nil, or_false, false_or, reduceCtorEq, Nat.reduceEqDiff, or_self, or_true, true_or, Option.map_some, Option.getD_some, Option.isSome_some, Bool.not_true, Bool.not_false, Bool.and_true, Bool.true_and, Bool.and_eq_true, decide_eq_true_eq, Nat.zero_lt_succ, Nat.lt_add_one, Nat.succ_ne_self, Nat.add_one_ne_zero, not_true_eq_false, not_false_eq_true, wv_frz, shift_nil, shift_cons, Option.bind_some, wv_mutF, wv_mutV, wv_meth, wv_make, wv_callW, ws_setF, wg_un, kFld_obj, setO_obj, mutO_obj, hasL_obj, isO_obj, asL_own, bare_at, frzs_nil, frzs_cons, foks_nil, foks_cons]
        rfl
      rintro ρ rfl
      have hrl2 : ((d.drop b).take n).length ≤ 100000 := by simp; omega
      have hrb : ByteL ((d.drop b).take n) := fun x hx => hb x (List.mem_of_mem_drop (List.mem_of_mem_take hx))
      have nx : nextR d s = if (d.length : Int) < (b : Int) + n + 4 then none else if tl4 (cs ((d.drop b).take n)) = (d.drop (b + n)).take 4 then some ((d.drop b).take n, b + n + 4) else none := by
        unfold nextR
        rw [hd]
        rfl
      refine ws_mid (fun ρ => b + n + 4 ≤ d.length ∧ nextR d s = some ((d.drop b).take n, b + n + 4) ∧ ρ = [some (.lst (I d)), some (.own (W rs)), some (.at (.int s)), some (D.tup [.at (.int b), .at (.int n)]), some (.at (.int b)), some (.at (.int n)), some (.own (I ((d.drop b).take n))), some (.at (.int ((b + n + 4 : Nat) : Int)))]) ?_ ?_
      · have hc2 : DL.cutD (I d) (some (((b + n + 4 : Nat) : Int) - 4)) (some ((b + n + 4 : Nat) : Int)) = I ((d.drop (b + n)).take 4) := by
          rw [show ((b + n + 4 : Nat) : Int) - 4 = ((b + n : Nat) : Int) by omega, cut2_I, show b + n + 4 - (b + n) = 4 by omega]
        simp only [ws_asg, ws_ret, ws_retN, ws_drop, ws_pass, ws_bk, ws_ct, ws_if, ws_aug, ws_augI, ws_for, wv_cp, wv_mk, wv_share, wv_move, wv_1, wv_2, wv_A, wa_nil, wa_cons, wa_io, wv_tup, wv_lst, wv_call, wv_if, wv_sl, wv_ixN, wv_mt, wv_mut, wv_and, wv_or, wv_not, wv_lc, wi_arg, wb_q, wb_t, wb_v, wb_and, wb_or, wb_not, wb_yes, wq_var, wq_c, wq_2, wq_1, wq_A, wq_lNil, wq_lCons, wq_sl, wo_none, wo_some, wg_item, wg_set, wg_tup, wg_cons, wg_nil, wR_rb, wR_rp, wO_some, wO_none, wO_bind, wO_map, wO_iteN, look_zero, look_succ, Ed.turn, kIx_lst, kIx_tup, kIx_T, atI_0, atI_1, atI_2, atI_3, atI_4, atI_5, atI_6, atI_cast, ixN_0, ixN_1, ixN_2, ixN_3, asI_int, asB_bl, asS_str, oI_int, cT_true, kAdd_int, kAdd_T, kAdd_lst, kAdd_tup, kInt_int, kInt_bl, kMin_int, kMax_int, kLen_lst, kLen_tup, kLen_T, nOw_at, nOw_tup, nOw_lstF, nOw_own, nOws_nil, nOws_cons, nOws_append, nOws_ints, kEq_int, kNe_int, kEq_T, kNe_T, kEq_bl, kIsN_at, kNotN_at, kIsN_nd, kNotN_nd, kList_lst, kList_tup, kTuple_lst, kAppend_one, kSl_lst, kSl_T, kSl_tup, kRng1_int, kRng2_int, isL_own, frz_at, fok_at, frz_lst, fok_lst, frz_tup, fok_tup, kItL_lst, kItT_tup, kItS_T, kZip_lst, kEnum_lst, hole_none, hole_succ, putB_nil, putB_cons, finD_nil, finD_cons, lowE_nil, lowE_cons, lowS_some, lowS_none, wipeE_nil, wipeE_cons, backE_nil, backE_cons, kMod_int, kGe_int, kIn_T, List.map_cons, List.map_nil, List.length_cons, List.length_nil, List.length_map, List.length_set, List.cons_append, List.nil_append, Nat.reduceAdd, Nat.reduceSub, Nat.reduceLT, Nat.reduceLeDiff, Nat.zero_add, List.replicate_succ, List.replicate_zero, List.set_cons_zero, List.set_cons_succ, List.getElem?_cons_zero, List.getElem?_cons_succ, List.getElem?_nil, true_and, and_true, and_self, if_true, if_false, Bool.false_eq_true, reduceIte, List.mem_cons, List.not_mem_nil, or_false, false_or, reduceCtorEq, Nat.reduceEqDiff, or_self, or_true, true_or, Option.map_some, Option.getD_some, Option.isSome_some, Bool.not_true, Bool.not_false, Bool.and_true, Bool.true_and, Bool.and_eq_true, decide_eq_true_eq, Nat.zero_lt_succ, Nat.lt_add_one, Nat.succ_ne_self, Nat.add_one_ne_zero, not_true_eq_false, not_false_eq_true, wv_frz, shift_nil, shift_cons, Option.bind_some, wv_mutF, wv_mutV, wv_meth, wv_make, wv_callW, ws_setF, wg_un, kFld_obj, setO_obj, mutO_obj, hasL_obj, isO_obj, asL_own, bare_at, frzs_nil, frzs_cons, foks_nil, foks_cons, kGt_int, nOws_I, hc2, foks_I, frzs_I]
        split
        · rename_i hg
          exact ⟨rs, s, _, _, _, _, _, hr, by rw [nx, if_pos (by omega)], rfl⟩
        · rename_i hg
          refine wD_mono (write_record_ok hrl2 hrb) ?_ fun _ _ h => h.elim
          rintro v as rfl
          refine ⟨by simp only [bare_own, bares_I], ?_⟩
          rw [show kNeg (D.at (V.int 4)) = some (D.at (V.int (-4))) from rfl, wO_some, show asI (D.at (V.int (-4))) = some (-4) from rfl, wO_some, kSl_lst, if_pos (of_eq_true nOws_I), wO_some]
          rw [show rcd ((d.drop b).take n) = (wn ((d.drop b).take n).length ++ (d.drop b).take n) ++ tl4 (cs ((d.drop b).take n)) from rfl, cut_m4, kNe_II]
          simp only [ws_asg, ws_ret, ws_retN, ws_drop, ws_pass, ws_bk, ws_ct, ws_if, ws_aug, ws_augI, ws_for, wv_cp, wv_mk, wv_share, wv_move, wv_1, wv_2, wv_A, wa_nil, wa_cons, wa_io, wv_tup, wv_lst, wv_call, wv_if, wv_sl, wv_ixN, wv_mt, wv_mut, wv_and, wv_or, wv_not, wv_lc, wi_arg, wb_q, wb_t, wb_v, wb_and, wb_or, wb_not, wb_yes, wq_var, wq_c, wq_2, wq_1, wq_A, wq_lNil, wq_lCons, wq_sl, wo_none, wo_some, wg_item, wg_set, wg_tup, wg_cons, wg_nil, wR_rb, wR_rp, wO_some, wO_none, wO_bind, wO_map, wO_iteN, look_zero, look_succ, Ed.turn, kIx_lst, kIx_tup, kIx_T, atI_0, atI_1, atI_2, atI_3, atI_4, atI_5, atI_6, atI_cast, ixN_0, ixN_1, ixN_2, ixN_3, asI_int, asB_bl, asS_str, oI_int, cT_true, kAdd_int, kAdd_T, kAdd_lst, kAdd_tup, kInt_int, kInt_bl, kMin_int, kMax_int, kLen_lst, kLen_tup, kLen_T, nOw_at, nOw_tup, nOw_lstF, nOw_own, nOws_nil, nOws_cons, nOws_append, nOws_ints, kEq_int, kNe_int, kEq_T, kNe_T, kEq_bl, kIsN_at, kNotN_at, kIsN_nd, kNotN_nd, kList_lst, kList_tup, kTuple_lst, kAppend_one, kSl_lst, kSl_T, kSl_tup, kRng1_int, kRng2_int, isL_own, frz_at, fok_at, frz_lst, fok_lst, frz_tup, fok_tup, kItL_lst, kItT_tup, kItS_T, kZip_lst, kEnum_lst, hole_none, hole_succ, putB_nil, putB_cons, finD_nil, finD_cons, lowE_nil, lowE_cons, lowS_some, lowS_none, wipeE_nil, wipeE_cons, backE_nil, backE_cons, kMod_int, kGe_int, kIn_T, List.map_cons, List.map_nil, List.length_cons, List.length_nil, List.length_map, List.length_set, List.cons_append, List.nil_append, Nat.reduceAdd, Nat.reduceSub, Nat.reduceLT, Nat.reduceLeDiff, Nat.zero_add, List.replicate_succ, List.replicate_zero, List.set_cons_zero, List.set_cons_succ, List.getElem?_cons_zero, List.getElem?_cons_succ, List.getElem?_nil, true_and, and_true, and_self, if_true, if_false, Bool.false_eq_true, reduceIte, List.mem_cons, List.not_mem_nil, or_false, false_or, reduceCtorEq, Nat.reduceEqDiff, or_self, or_true, true_or, Option.map_some, Option.getD_some, Option.isSome_some, Bool.not_true, Bool.not_false, Bool.and_true, Bool.true_and, Bool.and_eq_true, decide_eq_true_eq, Nat.zero_lt_succ, Nat.lt_add_one, Nat.succ_ne_self, Nat.add_one_ne_zero, not_true_eq_false, not_false_eq_true, wv_frz, shift_nil, shift_cons, Option.bind_some, wv_mutF, wv_mutV, wv_meth, wv_make, wv_callW, ws_setF, wg_un, kFld_obj, setO_obj, mutO_obj, hasL_obj, isO_obj, asL_own, bare_at, frzs_nil, frzs_cons, foks_nil, foks_cons]
          by_cases ht : tl4 (cs ((d.drop b).take n)) = (d.drop (b + n)).take 4
          · rw [if_neg (by rw [ht]; simp)]
            exact ⟨by omega, by rw [nx, if_neg (by omega), if_pos ht]⟩
          · rw [if_pos (by simpa using ht)]
            exact ⟨rs, s, _, _, _, _, _, hr, by rw [nx, if_neg (by omega), if_neg ht], rfl⟩
      rintro ρ ⟨hle, hnx, rfl⟩
      simp only [ws_seq, ws_asg, ws_ret, ws_retN, ws_drop, ws_pass, ws_bk, ws_ct, ws_if, ws_aug, ws_augI, ws_for, wv_cp, wv_mk, wv_share, wv_move, wv_1, wv_2, wv_A, wa_nil, wa_cons, wa_io, wv_tup, wv_lst, wv_call, wv_if, wv_sl, wv_ixN, wv_mt, wv_mut, wv_and, wv_or, wv_not, wv_lc, wi_arg, wb_q, wb_t, wb_v, wb_and, wb_or, wb_not, wb_yes, wq_var, wq_c, wq_2, wq_1, wq_A, wq_lNil, wq_lCons, wq_sl, wo_none, wo_some, wg_item, wg_set, wg_tup, wg_cons, wg_nil, wR_rb, wR_rp, wO_some, wO_none, wO_bind, wO_map, wO_iteN, look_zero, look_succ, Ed.turn, kIx_lst, kIx_tup, kIx_T, atI_0, atI_1, atI_2, atI_3, atI_4, atI_5, atI_6, atI_cast, ixN_0, ixN_1, ixN_2, ixN_3, asI_int, asB_bl, asS_str, oI_int, cT_true, kAdd_int, kAdd_T, kAdd_lst, kAdd_tup, kInt_int, kInt_bl, kMin_int, kMax_int, kLen_lst, kLen_tup, kLen_T, nOw_at, nOw_tup, nOw_lstF, nOw_own, nOws_nil, nOws_cons, nOws_append, nOws_ints, kEq_int, kNe_int, kEq_T, kNe_T, kEq_bl, kIsN_at, kNotN_at, kIsN_nd, kNotN_nd, kList_lst, kList_tup, kTuple_lst, kAppend_one, kSl_lst, kSl_T, kSl_tup, kRng1_int, kRng2_int, isL_own, frz_at, fok_at, frz_lst, fok_lst, frz_tup, fok_tup, kItL_lst, kItT_tup, kItS_T, kZip_lst, kEnum_lst, hole_none, hole_succ, putB_nil, putB_cons, finD_nil, finD_cons, lowE_nil, lowE_cons, lowS_some, lowS_none, wipeE_nil, wipeE_cons, backE_nil, backE_cons, kMod_int, kGe_int, kIn_T, List.map_cons, List.map_nil, List.length_cons, List.length_nil, List.length_map, List.length_set, List.cons_append, List.nil_append, Nat.reduceAdd, Nat.reduceSub, Nat.reduceLT, Nat.reduceLeDiff, Nat.zero_add, List.replicate_succ, List.replicate_zero, List.set_cons_zero, List.set_cons_succ, List.getElem?_cons_zero, List.getElem?_cons_succ, List.getElem?_nil, true_and, and_true, and_self, if_true, if_false, Bool.false_eq_true, reduceIte, List.mem_cons, List.not_mem_nil, or_false, false_or, reduceCtorEq, Nat.reduceEqDiff, or_self, or_true, true_or, Option.map_some, Option.getD_some, Option.isSome_some, Bool.not_true, Bool.not_false, Bool.and_true, Bool.true_and, Bool.and_eq_true, decide_eq_true_eq, Nat.zero_lt_succ, Nat.lt_add_one, Nat.succ_ne_self, Nat.add_one_ne_zero, not_true_eq_false, not_false_eq_true, wv_frz, shift_nil, shift_cons, Option.bind_some, wv_mutF, wv_mutV, wv_meth, wv_make, wv_callW, ws_setF, wg_un, kFld_obj, setO_obj, mutO_obj, hasL_obj, isO_obj, asL_own, bare_at, frzs_nil, frzs_cons, foks_nil, foks_cons, foks_I, frzs_I]
      refine ⟨by simp only [sizeLine]; omega, wD_mono (size_ok (d := d) (s := b + n + 4)) ?_ fun _ _ h => h.elim⟩
      rintro v as rfl
      refine ⟨?_, _, ?_, rs ++ [(d.drop b).take n], b + n + 4, some (.at (.int b)), some (.at (.int n)), none, some (.at (.int ((b + n + 4 : Nat) : Int))), rfl, hle, by simp; omega, hr.snoc hnx, ?_⟩
      · unfold rdD
        split <;> simp only [bare_tup, bares, bare_at, Bool.and_self]
        all_goals rfl
      · omega
      · unfold W
        rw [List.map_append]
        rfl
  rintro ρ ⟨rs, e, q, x4, x5, x6, x7, hr, hn, rfl⟩
  simp only [ws_asg, ws_ret, ws_retN, ws_drop, ws_pass, ws_bk, ws_ct, ws_if, ws_aug, ws_augI, ws_for, wv_cp, wv_mk, wv_share, wv_move, wv_1, wv_2, wv_A, wa_nil, wa_cons, wa_io, wv_tup, wv_lst, wv_call, wv_if, wv_sl, wv_ixN, wv_mt, wv_mut, wv_and, wv_or, wv_not, wv_lc, wi_arg, wb_q, wb_t, wb_v, wb_and, wb_or, wb_not, wb_yes, wq_var, wq_c, wq_2, wq_1, wq_A, wq_lNil, wq_lCons, wq_sl, wo_none, wo_some, wg_item, wg_set, wg_tup, wg_cons, wg_nil, wR_rb, wR_rp, wO_some, wO_none, wO_bind, wO_map, wO_iteN, look_zero, look_succ, Ed.turn, kIx_lst, kIx_tup, kIx_T, atI_0, atI_1, atI_2, atI_3, atI_4, atI_5, atI_6, atI_cast, ixN_0, ixN_1, ixN_2, ixN_3, asI_int, asB_bl, asS_str, oI_int, cT_true, kAdd_int, kAdd_T, kAdd_lst, kAdd_tup, kInt_int, kInt_bl, kMin_int, kMax_int, kLen_lst, kLen_tup, kLen_T, nOw_at, nOw_tup, nOw_lstF, nOw_own, nOws_nil, nOws_cons, nOws_append, nOws_ints, kEq_int, kNe_int, kEq_T, kNe_T, kEq_bl, kIsN_at, kNotN_at, kIsN_nd, kNotN_nd, kList_lst, kList_tup, kTuple_lst, kAppend_one, kSl_lst, kSl_T, kSl_tup, kRng1_int, kRng2_int, isL_own, frz_at, fok_at, frz_lst, fok_lst, frz_tup, fok_tup, kItL_lst, kItT_tup, kItS_T, kZip_lst, kEnum_lst, hole_none, hole_succ, putB_nil, putB_cons, finD_nil, finD_cons, lowE_nil, lowE_cons, lowS_some, lowS_none, wipeE_nil, wipeE_cons, backE_nil, backE_cons, kMod_int, kGe_int, kIn_T, List.map_cons, List.map_nil, List.length_cons, List.length_nil, List.length_map, List.length_set, List.cons_append, List.nil_append, Nat.reduceAdd, Nat.reduceSub, Nat.reduceLT, Nat.reduceLeDiff, Nat.zero_add, List.replicate_succ, List.replicate_zero, List.set_cons_zero, List.set_cons_succ, List.getElem?_cons_zero, List.getElem?_cons_succ, List.getElem?_nil, true_and, and_true, and_self, if_true, if_false, Bool.false_eq_true, reduceIte, List.mem_cons, List.not_mem_nil, or_false, false_or, reduceCtorEq, Nat.reduceEqDiff, or_self, or_true, true_or, Option.map_some, Option.getD_some, Option.isSome_some, Bool.not_true, Bool.not_false, Bool.and_true, Bool.true_and, Bool.and_eq_true, decide_eq_true_eq, Nat.zero_lt_succ, Nat.lt_add_one, Nat.succ_ne_self, Nat.add_one_ne_zero, not_true_eq_false, not_false_eq_true, wv_frz, shift_nil, shift_cons, Option.bind_some, wv_mutF, wv_mutV, wv_meth, wv_make, wv_callW, ws_setF, wg_un, kFld_obj, setO_obj, mutO_obj, hasL_obj, isO_obj, asL_own, bare_at, frzs_nil, frzs_cons, foks_nil, foks_cons]
  exact ⟨by decide, rs, e, hr, hn, rfl⟩
end K11

set_option maxRecDepth 100000
set_option maxHeartbeats 4000000
namespace K11
open PySem L2 DL PyProof.Rows
theorem bytes_ok {dr : List Int} {i : Int} (hd : DrOk dr) (h0 : 0 ≤ i) (h1 : i < 800000) : wD (F_law_bytes [encN dr i]) (fun v as => ∃ l i', ByteL l ∧ l.length ≤ 2000 ∧ i ≤ i' ∧ i' ≤ i + 4 ∧ v = .own (I l) ∧ as = [encN dr i']) fun _ _ => False := by
  refine wD_fn rfl ?_
  unfold b_law_bytes
  refine ws_mid (fun ρ => ∃ c : Int, 0 ≤ c ∧ c ≤ 6 ∧ ρ = [some (encN dr (i + 1)), some (.at (.int c)), none, none, none]) ?_ ?_
  · simp only [ws_asg, ws_ret, ws_retN, ws_drop, ws_pass, ws_bk, ws_ct, ws_if, ws_aug, ws_augI, ws_for, wv_cp, wv_mk, wv_share, wv_move, wv_1, wv_2, wv_A, wa_nil, wa_cons, wa_io, wv_tup, wv_lst, wv_call, wv_if, wv_sl, wv_ixN, wv_mt, wv_mut, wv_and, wv_or, wv_not, wv_lc, wi_arg, wb_q, wb_t, wb_v, wb_and, wb_or, wb_not, wb_yes, wq_var, wq_c, wq_2, wq_1, wq_A, wq_lNil, wq_lCons, wq_sl, wo_none, wo_some, wg_item, wg_set, wg_tup, wg_cons, wg_nil, wR_rb, wR_rp, wO_some, wO_none, wO_bind, wO_map, wO_iteN, look_zero, look_succ, Ed.turn, kIx_lst, kIx_tup, kIx_T, atI_0, atI_1, atI_2, atI_3, atI_4, atI_5, atI_6, atI_cast, ixN_0, ixN_1, ixN_2, ixN_3, asI_int, asB_bl, asS_str, oI_int, cT_true, kAdd_int, kAdd_T, kAdd_lst, kAdd_tup, kInt_int, kInt_bl, kMin_int, kMax_int, kLen_lst, kLen_tup, kLen_T, nOw_at, nOw_tup, nOw_lstF, nOw_own, nOws_nil, nOws_cons, nOws_append, nOws_ints, kEq_int, kNe_int, kEq_T, kNe_T, kEq_bl, kIsN_at, kNotN_at, kIsN_nd, kNotN_nd, kList_lst, kList_tup, kTuple_lst, kAppend_one, kSl_lst, kSl_T, kSl_tup, kRng1_int, kRng2_int, isL_own, frz_at, fok_at, frz_lst, fok_lst, frz_tup, fok_tup, kItL_lst, kItT_tup, kItS_T, kZip_lst, kEnum_lst, hole_none, hole_succ, putB_nil, putB_cons, finD_nil, finD_cons, lowE_nil, lowE_cons, lowS_some, lowS_none, wipeE_nil, wipeE_cons, backE_nil, backE_cons, kMod_int, kGe_int, kIn_T, List.map_cons, List.map_nil, List.length_cons, List.length_nil, List.length_map, List.length_set, List.cons_append, List.nil_append, Nat.reduceAdd, Nat.reduceSub, Nat.reduceLT, Nat.reduceLeDiff, Nat.zero_add, List.replicate_succ, List.replicate_zero, List.set_cons_zero, List.set_cons_succ, List.getElem?_cons_zero, List.getElem?_cons_succ, List.getElem?_nil, true_and, and_true, and_self, if_true, if_false, Bool.false_eq_true, reduceIte, List.mem_cons, List.not_mem_nil, or_false, false_or, reduceCtorEq, Nat.reduceEqDiff, or_self, or_true, true_or, Option.map_some, Option.getD_some, Option.isSome_some, Bool.not_true, Bool.not_false, Bool.and_true, Bool.true_and, Bool.and_eq_true, decide_eq_true_eq, Nat.zero_lt_succ, Nat.lt_add_one, Nat.succ_ne_self, Nat.add_one_ne_zero, not_true_eq_false, not_false_eq_true, wv_frz, shift_nil, shift_cons, Option.bind_some, wv_mutF, wv_mutV, wv_meth, wv_make, wv_callW, ws_setF, wg_un, kFld_obj, setO_obj, mutO_obj, hasL_obj, isO_obj, asL_own, bare_at, frzs_nil, frzs_cons, foks_nil, foks_cons]
    refine wD_mono (next_ok hd (by omega) (by omega) (by decide)) ?_ fun _ _ h => h.elim
    rintro _ _ ⟨a, rfl, rfl, a0, a1⟩
    simp only [ws_asg, ws_ret, ws_retN, ws_drop, ws_pass, ws_bk, ws_ct, ws_if, ws_aug, ws_augI, ws_for, wv_cp, wv_mk, wv_share, wv_move, wv_1, wv_2, wv_A, wa_nil, wa_cons, wa_io, wv_tup, wv_lst, wv_call, wv_if, wv_sl, wv_ixN, wv_mt, wv_mut, wv_and, wv_or, wv_not, wv_lc, wi_arg, wb_q, wb_t, wb_v, wb_and, wb_or, wb_not, wb_yes, wq_var, wq_c, wq_2, wq_1, wq_A, wq_lNil, wq_lCons, wq_sl, wo_none, wo_some, wg_item, wg_set, wg_tup, wg_cons, wg_nil, wR_rb, wR_rp, wO_some, wO_none, wO_bind, wO_map, wO_iteN, look_zero, look_succ, Ed.turn, kIx_lst, kIx_tup, kIx_T, atI_0, atI_1, atI_2, atI_3, atI_4, atI_5, atI_6, atI_cast, ixN_0, ixN_1, ixN_2, ixN_3, asI_int, asB_bl, asS_str, oI_int, cT_true, kAdd_int, kAdd_T, kAdd_lst, kAdd_tup, kInt_int, kInt_bl, kMin_int, kMax_int, kLen_lst, kLen_tup, kLen_T, nOw_at, nOw_tup, nOw_lstF, nOw_own, nOws_nil, nOws_cons, nOws_append, nOws_ints, kEq_int, kNe_int, kEq_T, kNe_T, kEq_bl, kIsN_at, kNotN_at, kIsN_nd, kNotN_nd, kList_lst, kList_tup, kTuple_lst, kAppend_one, kSl_lst, kSl_T, kSl_tup, kRng1_int, kRng2_int, isL_own, frz_at, fok_at, frz_lst, fok_lst, frz_tup, fok_tup, kItL_lst, kItT_tup, kItS_T, kZip_lst, kEnum_lst, hole_none, hole_succ, putB_nil, putB_cons, finD_nil, finD_cons, lowE_nil, lowE_cons, lowS_some, lowS_none, wipeE_nil, wipeE_cons, backE_nil, backE_cons, kMod_int, kGe_int, kIn_T, List.map_cons, List.map_nil, List.length_cons, List.length_nil, List.length_map, List.length_set, List.cons_append, List.nil_append, Nat.reduceAdd, Nat.reduceSub, Nat.reduceLT, Nat.reduceLeDiff, Nat.zero_add, List.replicate_succ, List.replicate_zero, List.set_cons_zero, List.set_cons_succ, List.getElem?_cons_zero, List.getElem?_cons_succ, List.getElem?_nil, true_and, and_true, and_self, if_true, if_false, Bool.false_eq_true, reduceIte, List.mem_cons, List.not_mem_nil, or_false, false_or, reduceCtorEq, Nat.reduceEqDiff, or_self, or_true, true_or, Option.map_some, Option.getD_some, Option.isSome_some, Bool.not_true, Bool.not_false, Bool.and_true, Bool.true_and, Bool.and_eq_true, decide_eq_true_eq, Nat.zero_lt_succ, Nat.lt_add_one, Nat.succ_ne_self, Nat.add_one_ne_zero, not_true_eq_false, not_false_eq_true, wv_frz, shift_nil, shift_cons, Option.bind_some, wv_mutF, wv_mutV, wv_meth, wv_make, wv_callW, ws_setF, wg_un, kFld_obj, setO_obj, mutO_obj, hasL_obj, isO_obj, asL_own, bare_at, frzs_nil, frzs_cons, foks_nil, foks_cons]
    exact ⟨a, a0, by omega, rfl⟩
  rintro ρ ⟨c, c0, c1, rfl⟩
  refine ws_mid (fun ρ => ∃ p : Int, ρ = [some (encN dr (i + 2)), some (.at (.int c)), some (.at (.int p)), none, none]) ?_ ?_
  · simp only [ws_asg, ws_ret, ws_retN, ws_drop, ws_pass, ws_bk, ws_ct, ws_if, ws_aug, ws_augI, ws_for, wv_cp, wv_mk, wv_share, wv_move, wv_1, wv_2, wv_A, wa_nil, wa_cons, wa_io, wv_tup, wv_lst, wv_call, wv_if, wv_sl, wv_ixN, wv_mt, wv_mut, wv_and, wv_or, wv_not, wv_lc, wi_arg, wb_q, wb_t, wb_v, wb_and, wb_or, wb_not, wb_yes, wq_var, wq_c, wq_2, wq_1, wq_A, wq_lNil, wq_lCons, wq_sl, wo_none, wo_some, wg_item, wg_set, wg_tup, wg_cons, wg_nil, wR_rb, wR_rp, wO_some, wO_none, wO_bind, wO_map, wO_iteN, look_zero, look_succ, Ed.turn, kIx_lst, kIx_tup, kIx_T, atI_0, atI_1, atI_2, atI_3, atI_4, atI_5, atI_6, atI_cast, ixN_0, ixN_1, ixN_2, ixN_3, asI_int, asB_bl, asS_str, oI_int, cT_true, kAdd_int, kAdd_T, kAdd_lst, kAdd_tup, kInt_int, kInt_bl, kMin_int, kMax_int, kLen_lst, kLen_tup, kLen_T, nOw_at, nOw_tup, nOw_lstF, nOw_own, nOws_nil, nOws_cons, nOws_append, nOws_ints, kEq_int, kNe_int, kEq_T, kNe_T, kEq_bl, kIsN_at, kNotN_at, kIsN_nd, kNotN_nd, kList_lst, kList_tup, kTuple_lst, kAppend_one, kSl_lst, kSl_T, kSl_tup, kRng1_int, kRng2_int, isL_own, frz_at, fok_at, frz_lst, fok_lst, frz_tup, fok_tup, kItL_lst, kItT_tup, kItS_T, kZip_lst, kEnum_lst, hole_none, hole_succ, putB_nil, putB_cons, finD_nil, finD_cons, lowE_nil, lowE_cons, lowS_some, lowS_none, wipeE_nil, wipeE_cons, backE_nil, backE_cons, kMod_int, kGe_int, kIn_T, List.map_cons, List.map_nil, List.length_cons, List.length_nil, List.length_map, List.length_set, List.cons_append, List.nil_append, Nat.reduceAdd, Nat.reduceSub, Nat.reduceLT, Nat.reduceLeDiff, Nat.zero_add, List.replicate_succ, List.replicate_zero, List.set_cons_zero, List.set_cons_succ, List.getElem?_cons_zero, List.getElem?_cons_succ, List.getElem?_nil, true_and, and_true, and_self, if_true, if_false, Bool.false_eq_true, reduceIte, List.mem_cons, List.not_mem_nil, or_false, false_or, reduceCtorEq, Nat.reduceEqDiff, or_self, or_true, true_or, Option.map_some, Option.getD_some, Option.isSome_some, Bool.not_true, Bool.not_false, Bool.and_true, Bool.true_and, Bool.and_eq_true, decide_eq_true_eq, Nat.zero_lt_succ, Nat.lt_add_one, Nat.succ_ne_self, Nat.add_one_ne_zero, not_true_eq_false, not_false_eq_true, wv_frz, shift_nil, shift_cons, Option.bind_some, wv_mutF, wv_mutV, wv_meth, wv_make, wv_callW, ws_setF, wg_un, kFld_obj, setO_obj, mutO_obj, hasL_obj, isO_obj, asL_own, bare_at, frzs_nil, frzs_cons, foks_nil, foks_cons]
    refine wD_mono (next_ok hd (by omega) (by omega) (by decide)) ?_ fun _ _ h => h.elim
    rintro _ _ ⟨a, rfl, rfl, a0, a1⟩
    simp only [ws_asg, ws_ret, ws_retN, ws_drop, ws_pass, ws_bk, ws_ct, ws_if, ws_aug, ws_augI, ws_for, wv_cp, wv_mk, wv_share, wv_move, wv_1, wv_2, wv_A, wa_nil, wa_cons, wa_io, wv_tup, wv_lst, wv_call, wv_if, wv_sl, wv_ixN, wv_mt, wv_mut, wv_and, wv_or, wv_not, wv_lc, wi_arg, wb_q, wb_t, wb_v, wb_and, wb_or, wb_not, wb_yes, wq_var, wq_c, wq_2, wq_1, wq_A, wq_lNil, wq_lCons, wq_sl, wo_none, wo_some, wg_item, wg_set, wg_tup, wg_cons, wg_nil, wR_rb, wR_rp, wO_some, wO_none, wO_bind, wO_map, wO_iteN, look_zero, look_succ, Ed.turn, kIx_lst, kIx_tup, kIx_T, atI_0, atI_1, atI_2, atI_3, atI_4, atI_5, atI_6, atI_cast, ixN_0, ixN_1, ixN_2, ixN_3, asI_int, asB_bl, asS_str, oI_int, cT_true, kAdd_int, kAdd_T, kAdd_lst, kAdd_tup, kInt_int, kInt_bl, kMin_int, kMax_int, kLen_lst, kLen_tup, kLen_T, nOw_at, nOw_tup, nOw_lstF, nOw_own, nOws_nil, nOws_cons, nOws_append, nOws_ints, kEq_int, kNe_int, kEq_T, kNe_T, kEq_bl, kIsN_at, kNotN_at, kIsN_nd, kNotN_nd, kList_lst, kList_tup, kTuple_lst, kAppend_one, kSl_lst, kSl_T, kSl_tup, kRng1_int, kRng2_int, isL_own, frz_at, fok_at, frz_lst, fok_lst, frz_tup, fok_tup, kItL_lst, kItT_tup, kItS_T, kZip_lst, kEnum_lst, hole_none, hole_succ, putB_nil, putB_cons, finD_nil, finD_cons, lowE_nil, lowE_cons, lowS_some, lowS_none, wipeE_nil, wipeE_cons, backE_nil, backE_cons, kMod_int, kGe_int, kIn_T, List.map_cons, List.map_nil, List.length_cons, List.length_nil, List.length_map, List.length_set, List.cons_append, List.nil_append, Nat.reduceAdd, Nat.reduceSub, Nat.reduceLT, Nat.reduceLeDiff, Nat.zero_add, List.replicate_succ, List.replicate_zero, List.set_cons_zero, List.set_cons_succ, List.getElem?_cons_zero, List.getElem?_cons_succ, List.getElem?_nil, true_and, and_true, and_self, if_true, if_false, Bool.false_eq_true, reduceIte, List.mem_cons, List.not_mem_nil, or_false, false_or, reduceCtorEq, Nat.reduceEqDiff, or_self, or_true, true_or, Option.map_some, Option.getD_some, Option.isSome_some, Bool.not_true, Bool.not_false, Bool.and_true, Bool.true_and, Bool.and_eq_true, decide_eq_true_eq, Nat.zero_lt_succ, Nat.lt_add_one, Nat.succ_ne_self, Nat.add_one_ne_zero, not_true_eq_false, not_false_eq_true, wv_frz, shift_nil, shift_cons, Option.bind_some, wv_mutF, wv_mutV, wv_meth, wv_make, wv_callW, ws_setF, wg_un, kFld_obj, setO_obj, mutO_obj, hasL_obj, isO_obj, asL_own, bare_at, frzs_nil, frzs_cons, foks_nil, foks_cons]
    exact ⟨a, by rw [show i + 1 + 1 = i + 2 by omega]⟩
  rintro ρ ⟨p, rfl⟩
  refine ws_mid (fun ρ => ∃ j c : Int, i + 2 ≤ j ∧ j ≤ i + 3 ∧ 0 ≤ c ∧ c ≤ 2000 ∧ ρ = [some (encN dr j), some (.at (.int c)), some (.at (.int p)), none, none]) ?_ ?_
  · simp only [ws_asg, ws_ret, ws_retN, ws_drop, ws_pass, ws_bk, ws_ct, ws_if, ws_aug, ws_augI, ws_for, wv_cp, wv_mk, wv_share, wv_move, wv_1, wv_2, wv_A, wa_nil, wa_cons, wa_io, wv_tup, wv_lst, wv_call, wv_if, wv_sl, wv_ixN, wv_mt, wv_mut, wv_and, wv_or, wv_not, wv_lc, wi_arg, wb_q, wb_t, wb_v, wb_and, wb_or, wb_not, wb_yes, wq_var, wq_c, wq_2, wq_1, wq_A, wq_lNil, wq_lCons, wq_sl, wo_none, wo_some, wg_item, wg_set, wg_tup, wg_cons, wg_nil, wR_rb, wR_rp, wO_some, wO_none, wO_bind, wO_map, wO_iteN, look_zero, look_succ, Ed.turn, kIx_lst, kIx_tup, kIx_T, atI_0, atI_1, atI_2, atI_3, atI_4, atI_5, atI_6, atI_cast, ixN_0, ixN_1, ixN_2, ixN_3, asI_int, asB_bl, asS_str, oI_int, cT_true, kAdd_int, kAdd_T, kAdd_lst, kAdd_tup, kInt_int, kInt_bl, kMin_int, kMax_int, kLen_lst, kLen_tup, kLen_T, nOw_at, nOw_tup, nOw_lstF, nOw_own, nOws_nil, nOws_cons, nOws_append, nOws_ints, kEq_int, kNe_int, kEq_T, kNe_T, kEq_bl, kIsN_at, kNotN_at, kIsN_nd, kNotN_nd, kList_lst, kList_tup, kTuple_lst, kAppend_one, kSl_lst, kSl_T, kSl_tup, kRng1_int, kRng2_int, isL_own, frz_at, fok_at, frz_lst, fok_lst, frz_tup, fok_tup, kItL_lst, kItT_tup, kItS_T, kZip_lst, kEnum_lst, hole_none, hole_succ, putB_nil, putB_cons, finD_nil, finD_cons, lowE_nil, lowE_cons, lowS_some, lowS_none, wipeE_nil, wipeE_cons, backE_nil, backE_cons, kMod_int, kGe_int, kIn_T, List.map_cons, List.map_nil, List.length_cons, List.length_nil, List.length_map, List.length_set, List.cons_append, List.nil_append, Nat.reduceAdd, Nat.reduceSub, Nat.reduceLT, Nat.reduceLeDiff, Nat.zero_add, List.replicate_succ, List.replicate_zero, List.set_cons_zero, List.set_cons_succ, List.getElem?_cons_zero, List.getElem?_cons_succ, List.getElem?_nil, true_and, and_true, and_self, if_true, if_false, Bool.false_eq_true, reduceIte, List.mem_cons, List.not_mem_nil, or_false, false_or, reduceCtorEq, Nat.reduceEqDiff, or_self, or_true, true_or, Option.map_some, Option.getD_some, Option.isSome_some, Bool.not_true, Bool.not_false, Bool.and_true, Bool.true_and, Bool.and_eq_true, decide_eq_true_eq, Nat.zero_lt_succ, Nat.lt_add_one, Nat.succ_ne_self, Nat.add_one_ne_zero, not_true_eq_false, not_false_eq_true, wv_frz, shift_nil, shift_cons, Option.bind_some, wv_mutF, wv_mutV, wv_meth, wv_make, wv_callW, ws_setF, wg_un, kFld_obj, setO_obj, mutO_obj, hasL_obj, isO_obj, asL_own, bare_at, frzs_nil, frzs_cons, foks_nil, foks_cons, kLt_int]
    split
    · refine wD_mono (next_ok hd (by omega) (by omega) (by decide)) ?_ fun _ _ h => h.elim
      rintro _ _ ⟨a, rfl, rfl, a0, a1⟩
      simp only [ws_asg, ws_ret, ws_retN, ws_drop, ws_pass, ws_bk, ws_ct, ws_if, ws_aug, ws_augI, ws_for, wv_cp, wv_mk, wv_share, wv_move, wv_1, wv_2, wv_A, wa_nil, wa_cons, wa_io, wv_tup, wv_lst, wv_call, wv_if, wv_sl, wv_ixN, wv_mt, wv_mut, wv_and, wv_or, wv_not, wv_lc, wi_arg, wb_q, wb_t, wb_v, wb_and, wb_or, wb_not, wb_yes, wq_var, wq_c, wq_2, wq_1, wq_A, wq_lNil, wq_lCons, wq_sl, wo_none, wo_some, wg_item, wg_set, wg_tup, wg_cons, wg_nil, wR_rb, wR_rp, wO_some, wO_none, wO_bind, wO_map, wO_iteN, look_zero, look_succ, Ed.turn, kIx_lst, kIx_tup, kIx_T, atI_0, atI_1, atI_2, atI_3, atI_4, atI_5, atI_6, atI_cast, ixN_0, ixN_1, ixN_2, ixN_3, asI_int, asB_bl, asS_str, oI_int, cT_true, kAdd_int, kAdd_T, kAdd_lst, kAdd_tup, kInt_int, kInt_bl, kMin_int, kMax_int, kLen_lst, kLen_tup, kLen_T, nOw_at, nOw_tup, nOw_lstF, nOw_own, nOws_nil, nOws_cons, nOws_append, nOws_ints, kEq_int, kNe_int, kEq_T, kNe_T, kEq_bl, kIsN_at, kNotN_at, kIsN_nd, kNotN_nd, kList_lst, kList_tup, kTuple_lst, kAppend_one, kSl_lst, kSl_T, kSl_tup, kRng1_int, kRng2_int, isL_own, frz_at, fok_at, frz_lst, fok_lst, frz_tup, fok_tup, kItL_lst, kItT_tup, kItS_T, kZip_lst, kEnum_lst, hole_none, hole_succ, putB_nil, putB_cons, finD_nil, finD_cons, lowE_nil, lowE_cons, lowS_some, lowS_none, wipeE_nil, wipeE_cons, backE_nil, backE_cons, kMod_int, kGe_int, kIn_T, List.map_cons, List.map_nil, List.length_cons, List.length_nil, List.length_map, List.length_set, List.cons_append, List.nil_append, Nat.reduceAdd, Nat.reduceSub, Nat.reduceLT, Nat.reduceLeDiff, Nat.zero_add, List.replicate_succ, List.replicate_zero, List.set_cons_zero, List.set_cons_succ, List.getElem?_cons_zero, List.getElem?_cons_succ, List.getElem?_nil, true_and, and_true, and_self, if_true, if_false, Bool.false_eq_true, reduceIte, List.mem_cons, List.not_mem_nil, or_false, false_or, reduceCtorEq, Nat.reduceEqDiff, or_self, or_true, true_or, Option.map_some, Option.getD_some, Option.isSome_some, Bool.not_true, Bool.not_false, Bool.and_true, Bool.true_and, Bool.and_eq_true, decide_eq_true_eq, Nat.zero_lt_succ, Nat.lt_add_one, Nat.succ_ne_self, Nat.add_one_ne_zero, not_true_eq_false, not_false_eq_true, wv_frz, shift_nil, shift_cons, Option.bind_some, wv_mutF, wv_mutV, wv_meth, wv_make, wv_callW, ws_setF, wg_un, kFld_obj, setO_obj, mutO_obj, hasL_obj, isO_obj, asL_own, bare_at, frzs_nil, frzs_cons, foks_nil, foks_cons]
      exact ⟨_, 120 + a, by omega, Int.le_refl _, by omega, by omega, by rw [show i + 2 + 1 = i + 3 by omega]⟩
    · split
      · refine wD_mono (next_ok hd (by omega) (by omega) (by decide)) ?_ fun _ _ h => h.elim
        rintro _ _ ⟨a, rfl, rfl, a0, a1⟩
        simp only [ws_asg, ws_ret, ws_retN, ws_drop, ws_pass, ws_bk, ws_ct, ws_if, ws_aug, ws_augI, ws_for, wv_cp, wv_mk, wv_share, wv_move, wv_1, wv_2, wv_A, wa_nil, wa_cons, wa_io, wv_tup, wv_lst, wv_call, wv_if, wv_sl, wv_ixN, wv_mt, wv_mut, wv_and, wv_or, wv_not, wv_lc, wi_arg, wb_q, wb_t, wb_v, wb_and, wb_or, wb_not, wb_yes, wq_var, wq_c, wq_2, wq_1, wq_A, wq_lNil, wq_lCons, wq_sl, wo_none, wo_some, wg_item, wg_set, wg_tup, wg_cons, wg_nil, wR_rb, wR_rp, wO_some, wO_none, wO_bind, wO_map, wO_iteN, look_zero, look_succ, Ed.turn, kIx_lst, kIx_tup, kIx_T, atI_0, atI_1, atI_2, atI_3, atI_4, atI_5, atI_6, atI_cast, ixN_0, ixN_1, ixN_2, ixN_3, asI_int, asB_bl, asS_str, oI_int, cT_true, kAdd_int, kAdd_T, kAdd_lst, kAdd_tup, kInt_int, kInt_bl, kMin_int, kMax_int, kLen_lst, kLen_tup, kLen_T, nOw_at, nOw_tup, nOw_lstF, nOw_own, nOws_nil, nOws_cons, nOws_append, nOws_ints, kEq_int, kNe_int, kEq_T, kNe_T, kEq_bl, kIsN_at, kNotN_at, kIsN_nd, kNotN_nd, kList_lst, kList_tup, kTuple_lst, kAppend_one, kSl_lst, kSl_T, kSl_tup, kRng1_int, kRng2_int, isL_own, frz_at, fok_at, frz_lst, fok_lst, frz_tup, fok_tup, kItL_lst, kItT_tup, kItS_T, kZip_lst, kEnum_lst, hole_none, hole_succ, putB_nil, putB_cons, finD_nil, finD_cons, lowE_nil, lowE_cons, lowS_some, lowS_none, wipeE_nil, wipeE_cons, backE_nil, backE_cons, kMod_int, kGe_int, kIn_T, List.map_cons, List.map_nil, List.length_cons, List.length_nil, List.length_map, List.length_set, List.cons_append, List.nil_append, Nat.reduceAdd, Nat.reduceSub, Nat.reduceLT, Nat.reduceLeDiff, Nat.zero_add, List.replicate_succ, List.replicate_zero, List.set_cons_zero, List.set_cons_succ, List.getElem?_cons_zero, List.getElem?_cons_succ, List.getElem?_nil, true_and, and_true, and_self, if_true, if_false, Bool.false_eq_true, reduceIte, List.mem_cons, List.not_mem_nil, or_false, false_or, reduceCtorEq, Nat.reduceEqDiff, or_self, or_true, true_or, Option.map_some, Option.getD_some, Option.isSome_some, Bool.not_true, Bool.not_false, Bool.and_true, Bool.true_and, Bool.and_eq_true, decide_eq_true_eq, Nat.zero_lt_succ, Nat.lt_add_one, Nat.succ_ne_self, Nat.add_one_ne_zero, not_true_eq_false, not_false_eq_true, wv_frz, shift_nil, shift_cons, Option.bind_some, wv_mutF, wv_mutV, wv_meth, wv_make, wv_callW, ws_setF, wg_un, kFld_obj, setO_obj, mutO_obj, hasL_obj, isO_obj, asL_own, bare_at, frzs_nil, frzs_cons, foks_nil, foks_cons]
        exact ⟨_, 6 + a, by omega, Int.le_refl _, by omega, by omega, by rw [show i + 2 + 1 = i + 3 by omega]⟩
      · split
        · refine wD_mono (next_ok hd (by omega) (by omega) (by decide)) ?_ fun _ _ h => h.elim
          rintro _ _ ⟨a, rfl, rfl, a0, a1⟩
          simp only [ws_asg, ws_ret, ws_retN, ws_drop, ws_pass, ws_bk, ws_ct, ws_if, ws_aug, ws_augI, ws_for, wv_cp, wv_mk, wv_share, wv_move, wv_1, wv_2, wv_A, wa_nil, wa_cons, wa_io, wv_tup, wv_lst, wv_call, wv_if, wv_sl, wv_ixN, wv_mt, wv_mut, wv_and, wv_or, wv_not, wv_lc, wi_arg, wb_q, wb_t, wb_v, wb_and, wb_or, wb_not, wb_yes, wq_var, wq_c, wq_2, wq_1, wq_A, wq_lNil, wq_lCons, wq_sl, wo_none, wo_some, wg_item, wg_set, wg_tup, wg_cons, wg_nil, wR_rb, wR_rp, wO_some, wO_none, wO_bind, wO_map, wO_iteN, look_zero, look_succ, Ed.turn, kIx_lst, kIx_tup, kIx_T, atI_0, atI_1, atI_2, atI_3, atI_4, atI_5, atI_6, atI_cast, ixN_0, ixN_1, ixN_2, ixN_3, asI_int, asB_bl, asS_str, oI_int, cT_true, kAdd_int, kAdd_T, kAdd_lst, kAdd_tup, kInt_int, kInt_bl, kMin_int, kMax_int, kLen_lst, kLen_tup, kLen_T, nOw_at, nOw_tup, nOw_lstF, nOw_own, nOws_nil, nOws_cons, nOws_append, nOws_ints, kEq_int, kNe_int, kEq_T, kNe_T, kEq_bl, kIsN_at, kNotN_at, kIsN_nd, kNotN_nd, kList_lst, kList_tup, kTuple_lst, kAppend_one, kSl_lst, kSl_T, kSl_tup, kRng1_int, kRng2_int, isL_own, frz_at, fok_at, frz_lst, fok_lst, frz_tup, fok_tup, kItL_lst, kItT_tup, kItS_T, kZip_lst, kEnum_lst, hole_none, hole_succ, putB_nil, putB_cons, finD_nil, finD_cons, lowE_nil, lowE_cons, lowS_some, lowS_none, wipeE_nil, wipeE_cons, backE_nil, backE_cons, kMod_int, kGe_int, kIn_T, List.map_cons, List.map_nil, List.length_cons, List.length_nil, List.length_map, List.length_set, List.cons_append, List.nil_append, Nat.reduceAdd, Nat.reduceSub, Nat.reduceLT, Nat.reduceLeDiff, Nat.zero_add, List.replicate_succ, List.replicate_zero, List.set_cons_zero, List.set_cons_succ, List.getElem?_cons_zero, List.getElem?_cons_succ, List.getElem?_nil, true_and, and_true, and_self, if_true, if_false, Bool.false_eq_true, reduceIte, List.mem_cons, List.not_mem_nil, or_false, false_or, reduceCtorEq, Nat.reduceEqDiff, or_self, or_true, true_or, Option.map_some, Option.getD_some, Option.isSome_some, Bool.not_true, Bool.not_false, Bool.and_true, Bool.true_and, Bool.and_eq_true, decide_eq_true_eq, Nat.zero_lt_succ, Nat.lt_add_one, Nat.succ_ne_self, Nat.add_one_ne_zero, not_true_eq_false, not_false_eq_true, wv_frz, shift_nil, shift_cons, Option.bind_some, wv_mutF, wv_mutV, wv_meth, wv_make, wv_callW, ws_setF, wg_un, kFld_obj, setO_obj, mutO_obj, hasL_obj, isO_obj, asL_own, bare_at, frzs_nil, frzs_cons, foks_nil, foks_cons]
          exact ⟨_, 301 + a, by omega, Int.le_refl _, by omega, by omega, by rw [show i + 2 + 1 = i + 3 by omega]⟩
        · exact ⟨_, c, Int.le_refl _, by omega, c0, by omega, rfl⟩
  rintro ρ ⟨j, c, j0, j1, c0, c1, rfl⟩
  refine ws_mid (fun ρ => ∃ s : Int, 0 ≤ s ∧ s < 256 ∧ ρ = [some (encN dr (j + 1)), some (.at (.int c)), some (.at (.int p)), some (.at (.int s)), none]) ?_ ?_
  · simp only [ws_asg, ws_ret, ws_retN, ws_drop, ws_pass, ws_bk, ws_ct, ws_if, ws_aug, ws_augI, ws_for, wv_cp, wv_mk, wv_share, wv_move, wv_1, wv_2, wv_A, wa_nil, wa_cons, wa_io, wv_tup, wv_lst, wv_call, wv_if, wv_sl, wv_ixN, wv_mt, wv_mut, wv_and, wv_or, wv_not, wv_lc, wi_arg, wb_q, wb_t, wb_v, wb_and, wb_or, wb_not, wb_yes, wq_var, wq_c, wq_2, wq_1, wq_A, wq_lNil, wq_lCons, wq_sl, wo_none, wo_some, wg_item, wg_set, wg_tup, wg_cons, wg_nil, wR_rb, wR_rp, wO_some, wO_none, wO_bind, wO_map, wO_iteN, look_zero, look_succ, Ed.turn, kIx_lst, kIx_tup, kIx_T, atI_0, atI_1, atI_2, atI_3, atI_4, atI_5, atI_6, atI_cast, ixN_0, ixN_1, ixN_2, ixN_3, asI_int, asB_bl, asS_str, oI_int, cT_true, kAdd_int, kAdd_T, kAdd_lst, kAdd_tup, kInt_int, kInt_bl, kMin_int, kMax_int, kLen_lst, kLen_tup, kLen_T, nOw_at, nOw_tup, nOw_lstF, nOw_own, nOws_nil, nOws_cons, nOws_append, nOws_ints, kEq_int, kNe_int, kEq_T, kNe_T, kEq_bl, kIsN_at, kNotN_at, kIsN_nd, kNotN_nd, kList_lst, kList_tup, kTuple_lst, kAppend_one, kSl_lst, kSl_T, kSl_tup, kRng1_int, kRng2_int, isL_own, frz_at, fok_at, frz_lst, fok_lst, frz_tup, fok_tup, kItL_lst, kItT_tup, kItS_T, kZip_lst, kEnum_lst, hole_none, hole_succ, putB_nil, putB_cons, finD_nil, finD_cons, lowE_nil, lowE_cons, lowS_some, lowS_none, wipeE_nil, wipeE_cons, backE_nil, backE_cons, kMod_int, kGe_int, kIn_T, List.map_cons, List.map_nil, List.length_cons, List.length_nil, List.length_map, List.length_set, List.cons_append, List.nil_append, Nat.reduceAdd, Nat.reduceSub, Nat.reduceLT, Nat.reduceLeDiff, Nat.zero_add, List.replicate_succ, List.replicate_zero, List.set_cons_zero, List.set_cons_succ, List.getElem?_cons_zero, List.getElem?_cons_succ, List.getElem?_nil, true_and, and_true, and_self, if_true, if_false, Bool.false_eq_true, reduceIte, List.mem_cons, List.not_mem_nil, or_false, false_or, reduceCtorEq, Nat.reduceEqDiff, or_self, or_true, true_or, Option.map_some, Option.getD_some, Option.isSome_some, Bool.not_true, Bool.not_false, Bool.and_true, Bool.true_and, Bool.and_eq_true, decide_eq_true_eq, Nat.zero_lt_succ, Nat.lt_add_one, Nat.succ_ne_self, Nat.add_one_ne_zero, not_true_eq_false, not_false_eq_true, wv_frz, shift_nil, shift_cons, Option.bind_some, wv_mutF, wv_mutV, wv_meth, wv_make, wv_callW, ws_setF, wg_un, kFld_obj, setO_obj, mutO_obj, hasL_obj, isO_obj, asL_own, bare_at, frzs_nil, frzs_cons, foks_nil, foks_cons]
    refine wD_mono (next_ok hd (by omega) (by omega) (by decide)) ?_ fun _ _ h => h.elim
    rintro _ _ ⟨a, rfl, rfl, a0, a1⟩
    simp only [ws_asg, ws_ret, ws_retN, ws_drop, ws_pass, ws_bk, ws_ct, ws_if, ws_aug, ws_augI, ws_for, wv_cp, wv_mk, wv_share, wv_move, wv_1, wv_2, wv_A, wa_nil, wa_cons, wa_io, wv_tup, wv_lst, wv_call, wv_if, wv_sl, wv_ixN, wv_mt, wv_mut, wv_and, wv_or, wv_not, wv_lc, wi_arg, wb_q, wb_t, wb_v, wb_and, wb_or, wb_not, wb_yes, wq_var, wq_c, wq_2, wq_1, wq_A, wq_lNil, wq_lCons, wq_sl, wo_none, wo_some, wg_item, wg_set, wg_tup, wg_cons, wg_nil, wR_rb, wR_rp, wO_some, wO_none, wO_bind, wO_map, wO_iteN, look_zero, look_succ, Ed.turn, kIx_lst, kIx_tup, kIx_T, atI_0, atI_1, atI_2, atI_3, atI_4, atI_5, atI_6, atI_cast, ixN_0, ixN_1, ixN_2, ixN_3, asI_int, asB_bl, asS_str, oI_int, cT_true, kAdd_int, kAdd_T, kAdd_lst, kAdd_tup, kInt_int, kInt_bl, kMin_int, kMax_int, kLen_lst, kLen_tup, kLen_T, nOw_at, nOw_tup, nOw_lstF, nOw_own, nOws_nil, nOws_cons, nOws_append, nOws_ints, kEq_int, kNe_int, kEq_T, kNe_T, kEq_bl, kIsN_at, kNotN_at, kIsN_nd, kNotN_nd, kList_lst, kList_tup, kTuple_lst, kAppend_one, kSl_lst, kSl_T, kSl_tup, kRng1_int, kRng2_int, isL_own, frz_at, fok_at, frz_lst, fok_lst, frz_tup, fok_tup, kItL_lst, kItT_tup, kItS_T, kZip_lst, kEnum_lst, hole_none, hole_succ, putB_nil, putB_cons, finD_nil, finD_cons, lowE_nil, lowE_cons, lowS_some, lowS_none, wipeE_nil, wipeE_cons, backE_nil, backE_cons, kMod_int, kGe_int, kIn_T, List.map_cons, List.map_nil, List.length_cons, List.length_nil, List.length_map, List.length_set, List.cons_append, List.nil_append, Nat.reduceAdd, Nat.reduceSub, Nat.reduceLT, Nat.reduceLeDiff, Nat.zero_add, List.replicate_succ, List.replicate_zero, List.set_cons_zero, List.set_cons_succ, List.getElem?_cons_zero, List.getElem?_cons_succ, List.getElem?_nil, true_and, and_true, and_self, if_true, if_false, Bool.false_eq_true, reduceIte, List.mem_cons, List.not_mem_nil, or_false, false_or, reduceCtorEq, Nat.reduceEqDiff, or_self, or_true, true_or, Option.map_some, Option.getD_some, Option.isSome_some, Bool.not_true, Bool.not_false, Bool.and_true, Bool.true_and, Bool.and_eq_true, decide_eq_true_eq, Nat.zero_lt_succ, Nat.lt_add_one, Nat.succ_ne_self, Nat.add_one_ne_zero, not_true_eq_false, not_false_eq_true, wv_frz, shift_nil, shift_cons, Option.bind_some, wv_mutF, wv_mutV, wv_meth, wv_make, wv_callW, ws_setF, wg_un, kFld_obj, setO_obj, mutO_obj, hasL_obj, isO_obj, asL_own, bare_at, frzs_nil, frzs_cons, foks_nil, foks_cons]
    exact ⟨a, a0, a1, rfl⟩
  rintro ρ ⟨s, s0, s1, rfl⟩
  simp only [ws_asg, ws_ret, ws_retN, ws_drop, ws_pass, ws_bk, ws_ct, ws_if, ws_aug, ws_augI, ws_for, wv_cp, wv_mk, wv_share, wv_move, wv_1, wv_2, wv_A, wa_nil, wa_cons, wa_io, wv_tup, wv_lst, wv_call, wv_if, wv_sl, wv_ixN, wv_mt, wv_mut, wv_and, wv_or, wv_not, wv_lc, wi_arg, wb_q, wb_t, wb_v, wb_and, wb_or, wb_not, wb_yes, wq_var, wq_c, wq_2, wq_1, wq_A, wq_lNil, wq_lCons, wq_sl, wo_none, wo_some, wg_item, wg_set, wg_tup, wg_cons, wg_nil, wR_rb, wR_rp, wO_some, wO_none, wO_bind, wO_map, wO_iteN, look_zero, look_succ, Ed.turn, kIx_lst, kIx_tup, kIx_T, atI_0, atI_1, atI_2, atI_3, atI_4, atI_5, atI_6, atI_cast, ixN_0, ixN_1, ixN_2, ixN_3, asI_int, asB_bl, asS_str, oI_int, cT_true, kAdd_int, kAdd_T, kAdd_lst, kAdd_tup, kInt_int, kInt_bl, kMin_int, kMax_int, kLen_lst, kLen_tup, kLen_T, nOw_at, nOw_tup, nOw_lstF, nOw_own, nOws_nil, nOws_cons, nOws_append, nOws_ints, kEq_int, kNe_int, kEq_T, kNe_T, kEq_bl, kIsN_at, kNotN_at, kIsN_nd, kNotN_nd, kList_lst, kList_tup, kTuple_lst, kAppend_one, kSl_lst, kSl_T, kSl_tup, kRng1_int, kRng2_int, isL_own, frz_at, fok_at, frz_lst, fok_lst, frz_tup, fok_tup, kItL_lst, kItT_tup, kItS_T, kZip_lst, kEnum_lst, hole_none, hole_succ, putB_nil, putB_cons, finD_nil, finD_cons, lowE_nil, lowE_cons, lowS_some, lowS_none, wipeE_nil, wipeE_cons, backE_nil, backE_cons, kMod_int, kGe_int, kIn_T, List.map_cons, List.map_nil, List.length_cons, List.length_nil, List.length_map, List.length_set, List.cons_append, List.nil_append, Nat.reduceAdd, Nat.reduceSub, Nat.reduceLT, Nat.reduceLeDiff, Nat.zero_add, List.replicate_succ, List.replicate_zero, List.set_cons_zero, List.set_cons_succ, List.getElem?_cons_zero, List.getElem?_cons_succ, List.getElem?_nil, true_and, and_true, and_self, if_true, if_false, Bool.false_eq_true, reduceIte, List.mem_cons, List.not_mem_nil, or_false, false_or, reduceCtorEq, Nat.reduceEqDiff, or_self, or_true, true_or, Option.map_some, Option.getD_some, Option.isSome_some, Bool.not_true, Bool.not_false, Bool.and_true, Bool.true_and, Bool.and_eq_true, decide_eq_true_eq, Nat.zero_lt_succ, Nat.lt_add_one, Nat.succ_ne_self, Nat.add_one_ne_zero, not_true_eq_false, not_false_eq_true, wv_frz, shift_nil, shift_cons, Option.bind_some, wv_mutF, wv_mutV, wv_meth, wv_make, wv_callW, ws_setF, wg_un, kFld_obj, setO_obj, mutO_obj, hasL_obj, isO_obj, asL_own, bare_at, frzs_nil, frzs_cons, foks_nil, foks_cons, wv_lc]
  refine ⟨by omega, w_lc (fun n acc ρ => ∃ l, l.length = n ∧ ByteL l ∧ acc = I l ∧ ρ = [some (encN dr (j + 1)), some (.at (.int c)), some (.at (.int p)), some (.at (.int s)), none]) ⟨[], rfl, (fun _ h => nomatch h), rfl, rfl⟩ ?_ ?_⟩
  · rintro n d acc ρ hdd ⟨l, hn, hb, rfl, rfl⟩
    obtain ⟨hlt, rfl⟩ := rngD_get hdd
    have hlt : n < 2000 := by omega
    simp only [ws_asg, ws_ret, ws_retN, ws_drop, ws_pass, ws_bk, ws_ct, ws_if, ws_aug, ws_augI, ws_for, wv_cp, wv_mk, wv_share, wv_move, wv_1, wv_2, wv_A, wa_nil, wa_cons, wa_io, wv_tup, wv_lst, wv_call, wv_if, wv_sl, wv_ixN, wv_mt, wv_mut, wv_and, wv_or, wv_not, wv_lc, wi_arg, wb_q, wb_t, wb_v, wb_and, wb_or, wb_not, wb_yes, wq_var, wq_c, wq_2, wq_1, wq_A, wq_lNil, wq_lCons, wq_sl, wo_none, wo_some, wg_item, wg_set, wg_tup, wg_cons, wg_nil, wR_rb, wR_rp, wO_some, wO_none, wO_bind, wO_map, wO_iteN, look_zero, look_succ, Ed.turn, kIx_lst, kIx_tup, kIx_T, atI_0, atI_1, atI_2, atI_3, atI_4, atI_5, atI_6, atI_cast, ixN_0, ixN_1, ixN_2, ixN_3, asI_int, asB_bl, asS_str, oI_int, cT_true, kAdd_int, kAdd_T, kAdd_lst, kAdd_tup, kInt_int, kInt_bl, kMin_int, kMax_int, kLen_lst, kLen_tup, kLen_T, nOw_at, nOw_tup, nOw_lstF, nOw_own, nOws_nil, nOws_cons, nOws_append, nOws_ints, kEq_int, kNe_int, kEq_T, kNe_T, kEq_bl, kIsN_at, kNotN_at, kIsN_nd, kNotN_nd, kList_lst, kList_tup, kTuple_lst, kAppend_one, kSl_lst, kSl_T, kSl_tup, kRng1_int, kRng2_int, isL_own, frz_at, fok_at, frz_lst, fok_lst, frz_tup, fok_tup, kItL_lst, kItT_tup, kItS_T, kZip_lst, kEnum_lst, hole_none, hole_succ, putB_nil, putB_cons, finD_nil, finD_cons, lowE_nil, lowE_cons, lowS_some, lowS_none, wipeE_nil, wipeE_cons, backE_nil, backE_cons, kMod_int, kGe_int, kIn_T, List.map_cons, List.map_nil, List.length_cons, List.length_nil, List.length_map, List.length_set, List.cons_append, List.nil_append, Nat.reduceAdd, Nat.reduceSub, Nat.reduceLT, Nat.reduceLeDiff, Nat.zero_add, List.replicate_succ, List.replicate_zero, List.set_cons_zero, List.set_cons_succ, List.getElem?_cons_zero, List.getElem?_cons_succ, List.getElem?_nil, true_and, and_true, and_self, if_true, if_false, Bool.false_eq_true, reduceIte, List.mem_cons, List.not_mem_nil, or_false, false_or, reduceCtorEq, Nat.reduceEqDiff, or_self, or_true, true_or, Option.map_some, Option.getD_some, Option.isSome_some, Bool.not_true, Bool.not_false, Bool.and_true, Bool.true_and, Bool.and_eq_true, decide_eq_true_eq, Nat.zero_lt_succ, Nat.lt_add_one, Nat.succ_ne_self, Nat.add_one_ne_zero, not_true_eq_false, not_false_eq_true, wv_frz, shift_nil, shift_cons, Option.bind_some, wv_mutF, wv_mutV, wv_meth, wv_make, wv_callW, ws_setF, wg_un, kFld_obj, setO_obj, mutO_obj, hasL_obj, isO_obj, asL_own, bare_at, frzs_nil, frzs_cons, foks_nil, foks_cons, kMul_int]
    have hk : 0 ≤ 41 * (0 + (n : Int)) ∧ 41 * (0 + (n : Int)) < 2147483648 := by omega
    refine ⟨cMul_small (by decide) (by decide) (by omega) (by omega), cMul_small hk.1 hk.2 (by omega) (by omega), cMod_of (by decide), ?_⟩
    refine ⟨by simp only [sizeLine]; omega, l ++ [(s + 41 * (0 + (n : Int)) * (0 + (n : Int))) % 256], by simp [hn], ?_, by rw [I_snoc]⟩
    intro z hz
    rcases List.mem_append.mp hz with hz | hz
    · exact hb z hz
    · cases List.mem_singleton.mp hz
      exact ⟨Int.emod_nonneg _ (by decide), Int.emod_lt_of_pos _ (by decide)⟩
  · rintro acc ρ ⟨l, hn, hb, rfl, rfl⟩
    rw [rngD_length] at hn
    simp only [ws_asg, ws_ret, ws_retN, ws_drop, ws_pass, ws_bk, ws_ct, ws_if, ws_aug, ws_augI, ws_for, wv_cp, wv_mk, wv_share, wv_move, wv_1, wv_2, wv_A, wa_nil, wa_cons, wa_io, wv_tup, wv_lst, wv_call, wv_if, wv_sl, wv_ixN, wv_mt, wv_mut, wv_and, wv_or, wv_not, wv_lc, wi_arg, wb_q, wb_t, wb_v, wb_and, wb_or, wb_not, wb_yes, wq_var, wq_c, wq_2, wq_1, wq_A, wq_lNil, wq_lCons, wq_sl, wo_none, wo_some, wg_item, wg_set, wg_tup, wg_cons, wg_nil, wR_rb, wR_rp, wO_some, wO_none, wO_bind, wO_map, wO_iteN, look_zero, look_succ, Ed.turn, kIx_lst, kIx_tup, kIx_T, atI_0, atI_1, atI_2, atI_3, atI_4, atI_5, atI_6, atI_cast, ixN_0, ixN_1, ixN_2, ixN_3, asI_int, asB_bl, asS_str, oI_int, cT_true, kAdd_int, kAdd_T, kAdd_lst, kAdd_tup, kInt_int, kInt_bl, kMin_int, kMax_int, kLen_lst, kLen_tup, kLen_T, nOw_at, nOw_tup, nOw_lstF, nOw_own, nOws_nil, nOws_cons, nOws_append, nOws_ints, kEq_int, kNe_int, kEq_T, kNe_T, kEq_bl, kIsN_at, kNotN_at, kIsN_nd, kNotN_nd, kList_lst, kList_tup, kTuple_lst, kAppend_one, kSl_lst, kSl_T, kSl_tup, kRng1_int, kRng2_int, isL_own, frz_at, fok_at, frz_lst, fok_lst, frz_tup, fok_tup, kItL_lst, kItT_tup, kItS_T, kZip_lst, kEnum_lst, hole_none, hole_succ, putB_nil, putB_cons, finD_nil, finD_cons, lowE_nil, lowE_cons, lowS_some, lowS_none, wipeE_nil, wipeE_cons, backE_nil, backE_cons, kMod_int, kGe_int, kIn_T, List.map_cons, List.map_nil, List.length_cons, List.length_nil, List.length_map, List.length_set, List.cons_append, List.nil_append, Nat.reduceAdd, Nat.reduceSub, Nat.reduceLT, Nat.reduceLeDiff, Nat.zero_add, List.replicate_succ, List.replicate_zero, List.set_cons_zero, List.set_cons_succ, List.getElem?_cons_zero, List.getElem?_cons_succ, List.getElem?_nil, true_and, and_true, and_self, if_true, if_false, Bool.false_eq_true, reduceIte, List.mem_cons, List.not_mem_nil, or_false, false_or, reduceCtorEq, Nat.reduceEqDiff, or_self, or_true, true_or, Option.map_some, Option.getD_some, Option.isSome_some, Bool.not_true, Bool.not_false, Bool.and_true, Bool.true_and, Bool.and_eq_true, decide_eq_true_eq, Nat.zero_lt_succ, Nat.lt_add_one, Nat.succ_ne_self, Nat.add_one_ne_zero, not_true_eq_false, not_false_eq_true, wv_frz, shift_nil, shift_cons, Option.bind_some, wv_mutF, wv_mutV, wv_meth, wv_make, wv_callW, ws_setF, wg_un, kFld_obj, setO_obj, mutO_obj, hasL_obj, isO_obj, asL_own, bare_at, frzs_nil, frzs_cons, foks_nil, foks_cons]
    exact ⟨l, j + 1, hb, by omega, by omega, by omega, rfl, rfl⟩
end K11

set_option maxRecDepth 100000
set_option maxHeartbeats 4000000
namespace K11
open PySem L2 DL PyProof.Rows
theorem tl4_len (t : Int) : (tl4 t).length = 4 := rfl
theorem rds_wn {d pre rest : List Int} {n : Nat} (hn : n < 128 ^ 20) (h : d = pre ++ (wn n ++ rest)) : rdS d pre.length = some (pre.length + (wn n).length, (n : Int)) := by
  unfold rdS
  rw [h, List.drop_left, rnG_wn 60 n 0 0 1 rest (Nat.le_trans (wn_len (k := 19) hn) (by decide)) (.inr rfl)]
  show some (pre.length + (wn n).length, (0 : Int) + n * 1) = _
  rw [Int.zero_add, Int.mul_one]
theorem next_rec {d pre l post : List Int} (hl : l.length ≤ 100000) (h : d = pre ++ (rcd l ++ post)) : nextR d pre.length = some (l, pre.length + (rcd l).length) := by
  have hn : l.length < 128 ^ 20 := Nat.lt_of_lt_of_le (show l.length < 128 ^ 3 by omega) (Nat.pow_le_pow_right (by decide) (by decide))
  have h1 : d = pre ++ (wn l.length ++ (l ++ (tl4 (cs l) ++ post))) := by rw [h]; unfold rcd; simp
  have h2 := rds_wn hn h1
  have hd : d.drop (pre.length + (wn l.length).length) = l ++ (tl4 (cs l) ++ post) := by
    rw [h1, ← List.drop_drop, List.drop_left, List.drop_left]
  have hlen : d.length = pre.length + (wn l.length).length + l.length + 4 + post.length := by
    rw [h1]
    simp [tl4]
    omega
  have hrl : (rcd l).length = (wn l.length).length + l.length + 4 := by unfold rcd; simp [tl4]; omega
  have hd2 : d.drop (pre.length + (wn l.length).length + l.length) = tl4 (cs l) ++ post := by rw [← List.drop_drop, hd, List.drop_left]
  unfold nextR
  rw [h2, Option.bind_some]
  show (if (d.length : Int) < ((pre.length + (wn l.length).length : Nat) : Int) + (l.length : Int) + 4 then none else if tl4 (cs ((d.drop (pre.length + (wn l.length).length)).take ((l.length : Nat) : Int).toNat)) = (d.drop (pre.length + (wn l.length).length + ((l.length : Nat) : Int).toNat)).take 4 then some ((d.drop (pre.length + (wn l.length).length)).take ((l.length : Nat) : Int).toNat, pre.length + (wn l.length).length + ((l.length : Nat) : Int).toNat + 4) else none) = _
  rw [Int.toNat_natCast, if_neg (by omega), hd2, hd, List.take_left]
  have ht : (tl4 (cs l) ++ post).take 4 = tl4 (cs l) := by
    show List.take (tl4 (cs l)).length _ = _
    rw [List.take_left]
  rw [ht, if_pos rfl, hrl]
  congr 2
  omega
end K11

set_option maxRecDepth 100000
set_option maxHeartbeats 4000000
namespace K11
open PySem L2 DL PyProof.Rows
theorem rnG_pre : ∀ (k n idx j : Nat) (tot fac : Int), j < (wn n).length → rnG k idx tot fac ((wn n).take j) = none
  | 0, _, _, _, _, _, _ => rfl
  | k + 1, n, idx, 0, _, _, _ => rfl
  | k + 1, n, idx, j + 1, tot, fac, h => by
    by_cases hs : n < 128
    · rw [wn_small hs] at h
      simp at h
    · rw [wn_big hs, List.take_succ_cons]
      show (if ((n % 128 + 128 : Nat) : Int) < 128 then _ else (rnG k (idx + 1) (tot + ((n % 128 + 128 : Nat) : Int) % 128 * fac) (fac * 128) ((wn (n / 128)).take j)).map fun p => (p.1, p.2 + 1)) = _
      rw [if_neg (by omega), rnG_pre k (n / 128) (idx + 1) j _ _ (by rw [wn_big hs, List.length_cons] at h; omega)]
      rfl
/-- stuck: a record cut short -/
theorem stuck_cut {d pre l : List Int} {j : Nat} (hl : l.length ≤ 100000) (hj : j < (rcd l).length) (h : d = pre ++ (rcd l).take j) : nextR d pre.length = none := by
  have hn : l.length < 128 ^ 20 := Nat.lt_of_lt_of_le (show l.length < 128 ^ 3 by omega) (Nat.pow_le_pow_right (by decide) (by decide))
  have hr : rcd l = wn l.length ++ (l ++ tl4 (cs l)) := by unfold rcd; simp
  by_cases hw : j < (wn l.length).length
  · unfold nextR rdS
    rw [h, List.drop_left, hr, List.take_append_of_le_length (by omega), rnG_pre 60 _ 0 j 0 1 hw]
    rfl
  · have h1 : d = pre ++ (wn l.length ++ (l ++ tl4 (cs l)).take (j - (wn l.length).length)) := by
      rw [h, hr, List.take_append, List.take_of_length_le (by omega)]
    have h2 := rds_wn hn h1
    have hlen : d.length = pre.length + j := by
      rw [h, List.length_append, List.length_take]
      omega
    have hrl : (rcd l).length = (wn l.length).length + l.length + 4 := by rw [hr]; simp [tl4]; omega
    unfold nextR
    rw [h2, Option.bind_some, if_pos]
    show (d.length : Int) < ((pre.length + (wn l.length).length : Nat) : Int) + (l.length : Int) + 4
    omega
end K11

set_option maxRecDepth 100000
set_option maxHeartbeats 4000000
namespace K11
open PySem L2 DL PyProof.Rows
/-- stuck: the sum is another -/
theorem stuck_sum {d pre r t4 post : List Int} (hl : r.length ≤ 100000) (h4 : t4.length = 4) (hne : tl4 (cs r) ≠ t4) (h : d = pre ++ (wn r.length ++ (r ++ (t4 ++ post)))) : nextR d pre.length = none := by
  have hn : r.length < 128 ^ 20 := Nat.lt_of_lt_of_le (show r.length < 128 ^ 3 by omega) (Nat.pow_le_pow_right (by decide) (by decide))
  have h2 := rds_wn hn h
  have hd : d.drop (pre.length + (wn r.length).length) = r ++ (t4 ++ post) := by
    rw [h, ← List.drop_drop, List.drop_left, List.drop_left]
  have hd2 : d.drop (pre.length + (wn r.length).length + r.length) = t4 ++ post := by rw [← List.drop_drop, hd, List.drop_left]
  have ht : (t4 ++ post).take 4 = t4 := by
    rw [← h4, List.take_left]
  unfold nextR
  rw [h2, Option.bind_some]
  show (if (d.length : Int) < ((pre.length + (wn r.length).length : Nat) : Int) + (r.length : Int) + 4 then none else if tl4 (cs ((d.drop (pre.length + (wn r.length).length)).take ((r.length : Nat) : Int).toNat)) = (d.drop (pre.length + (wn r.length).length + ((r.length : Nat) : Int).toNat)).take 4 then some ((d.drop (pre.length + (wn r.length).length)).take ((r.length : Nat) : Int).toNat, pre.length + (wn r.length).length + ((r.length : Nat) : Int).toNat + 4) else none) = _
  rw [Int.toNat_natCast, hd2, hd, List.take_left, ht, if_neg hne]
  split <;> rfl
theorem tl4_inj {a b : Int} (a0 : 0 ≤ a) (a1 : a < 4294967296) (b0 : 0 ≤ b) (b1 : b < 4294967296) (h : tl4 a = tl4 b) : a = b := by
  unfold tl4 at h
  simp only [List.cons.injEq, and_true] at h
  obtain ⟨h1, h2, h3, h4⟩ := h
  omega
theorem step_inj {t u b : Int} (t0 : 0 ≤ t) (t1 : t < 4294967296) (u0 : 0 ≤ u) (u1 : u < 4294967296) (h : (31 * t + b + 1) % 4294967296 = (31 * u + b + 1) % 4294967296) : t = u := by
  omega
theorem fold_inj (q : List Int) : ∀ {t u : Int}, 0 ≤ t → t < 4294967296 → 0 ≤ u → u < 4294967296 → q.foldl (fun t b => (31 * t + b + 1) % 4294967296) t = q.foldl (fun t b => (31 * t + b + 1) % 4294967296) u → t = u := by
  induction q with
  | nil => intro t u _ _ _ _ h; exact h
  | cons b q ih =>
    intro t u t0 t1 u0 u1 h
    exact step_inj t0 t1 u0 u1 (ih (Int.emod_nonneg _ (by decide)) (Int.emod_lt_of_pos _ (by decide)) (Int.emod_nonneg _ (by decide)) (Int.emod_lt_of_pos _ (by decide)) h)
theorem cs_change {p q : List Int} {x y : Int} (x0 : 0 ≤ x) (x1 : x < 256) (y0 : 0 ≤ y) (y1 : y < 256) (h : cs (p ++ x :: q) = cs (p ++ y :: q)) : x = y := by
  unfold cs at h
  rw [List.foldl_append, List.foldl_append, List.foldl_cons, List.foldl_cons] at h
  have hb := csb p 7 (by decide) (by decide)
  have := fold_inj q (Int.emod_nonneg _ (by decide)) (Int.emod_lt_of_pos _ (by decide)) (Int.emod_nonneg _ (by decide)) (Int.emod_lt_of_pos _ (by decide)) h
  omega
end K11

set_option maxRecDepth 100000
set_option maxHeartbeats 4000000
namespace K11
open PySem L2 DL PyProof.Rows
theorem rnG_zero : ∀ (L : List Int) (k idx : Nat) (t f : Int) (rest : List Int), (∀ b ∈ L, 128 ≤ b) → (L ≠ [] ∨ 0 < idx) → rnG k idx t f (L ++ 0 :: rest) = none
  | _, 0, _, _, _, _, _, _ => rfl
  | [], k + 1, idx, t, f, rest, _, h => by
    have hi : 0 < idx := h.elim (fun z => absurd rfl z) id
    show (if (0 : Int) < 128 then (if (0 : Int) = 0 ∧ 0 < idx then none else some (t + 0 % 128 * f, 1)) else _) = _
    rw [if_pos (by decide), if_pos ⟨rfl, hi⟩]
  | b :: L, k + 1, idx, t, f, rest, hb, _ => by
    have h1 := hb b List.mem_cons_self
    show (if b < 128 then _ else (rnG k (idx + 1) (t + b % 128 * f) (f * 128) (L ++ 0 :: rest)).map fun p => (p.1, p.2 + 1)) = _
    rw [if_neg (by omega), rnG_zero L k (idx + 1) _ _ rest (fun x hx => hb x (List.mem_cons_of_mem _ hx)) (.inr (Nat.succ_pos _))]
    rfl
/-- stuck: a needless zero -/
theorem stuck_zero {d pre L rest : List Int} (hb : ∀ b ∈ L, 128 ≤ b) (hL : L ≠ []) (h : d = pre ++ (L ++ 0 :: rest)) : nextR d pre.length = none := by
  unfold nextR rdS
  rw [h, List.drop_left, rnG_zero L 60 0 0 1 rest hb (.inl hL)]
  rfl
/-- stuck: at the end -/
theorem stuck_end {d : List Int} : nextR d d.length = none := by
  unfold nextR rdS
  rw [List.drop_length]
  rfl
end K11

set_option maxRecDepth 100000
set_option maxHeartbeats 4000000
namespace K11
open PySem L2 DL PyProof.Rows
theorem set_ne {t : List Int} {k : Nat} {y : Int} (hk : k < t.length) (h : t[k] ≠ y) : t ≠ t.set k y := fun e => by
  have := congrArg (fun u => u[k]?) e
  simp [hk] at this
  exact h this
/-- stuck: one byte of the sum is another -/
theorem stuck_tail {pre l post : List Int} {k : Nat} {y : Int} (hl : l.length ≤ 100000) (hk : k < (tl4 (cs l)).length) (h : (tl4 (cs l))[k] ≠ y) : nextR (pre ++ (wn l.length ++ (l ++ ((tl4 (cs l)).set k y ++ post)))) pre.length = none :=
  stuck_sum hl (by rw [List.length_set]; rfl) (set_ne hk h) rfl
/-- stuck: one byte of the data is another -/
theorem stuck_data {pre p q post : List Int} {x y : Int} (hl : (p ++ x :: q).length ≤ 100000) (x0 : 0 ≤ x) (x1 : x < 256) (y0 : 0 ≤ y) (y1 : y < 256) (h : x ≠ y) : nextR (pre ++ (wn (p ++ x :: q).length ++ ((p ++ y :: q) ++ (tl4 (cs (p ++ x :: q)) ++ post)))) pre.length = none := by
  have e : (p ++ x :: q).length = (p ++ y :: q).length := by simp
  have c1 := cs_b (p ++ x :: q)
  have c2 := cs_b (p ++ y :: q)
  rw [e]
  exact stuck_sum (by rw [← e]; exact hl) rfl (fun z => h (cs_change (p := p) (q := q) x0 x1 y0 y1 (tl4_inj c2.1 c2.2 c1.1 c1.2 z).symm)) rfl
end K11

set_option maxRecDepth 100000
set_option maxHeartbeats 4000000
namespace K11
open PySem L2 DL PyProof.Rows
theorem cut_to {l : List Int} {n : Nat} : DL.cutD (I l) none (some (n : Int)) = I (l.take n) := by
  unfold DL.cutD
  rw [HT.sIx_none, HT.sIx_nat, List.length_map, List.drop_zero, ← List.map_take]
  congr 1
  simp
theorem cut_from {l : List Int} {n : Nat} : DL.cutD (I l) (some (n : Int)) none = I (l.drop n) := by
  unfold DL.cutD
  rw [HT.sIx_none, HT.sIx_nat, List.length_map, ← List.map_drop, ← List.map_take]
  congr 1
  by_cases h : n ≤ l.length
  · rw [Nat.min_eq_left h, List.take_of_length_le (by simp)]
  · rw [Nat.min_eq_right (by omega), Nat.sub_self, List.take_zero, List.drop_eq_nil_of_le (by omega)]
theorem set_parts {r : List Int} {a : Nat} {y : Int} (h : a < r.length) : r.take a ++ y :: r.drop (a + 1) = r.set a y := by
  rw [List.set_eq_take_append_cons_drop, if_pos h]
theorem new_byte {b w : Int} (b0 : 0 ≤ b) (b1 : b < 256) (w0 : 0 ≤ w) (w1 : w < 255) : 0 ≤ (b + 1 + w) % 256 ∧ (b + 1 + w) % 256 < 256 ∧ b ≠ (b + 1 + w) % 256 := by
  omega
end K11

set_option maxRecDepth 100000
set_option maxHeartbeats 4000000
namespace K11
open PySem L2 DL PyProof.Rows
theorem wn_shape : ∀ (n : Nat), ∃ (A : List Int) (z : Int), wn n = A ++ [z] ∧ (∀ b ∈ A, 128 ≤ b ∧ b < 256) ∧ 0 ≤ z ∧ z < 128 := by
  intro n
  induction n using Nat.strongRecOn with
  | ind n ih =>
    by_cases hs : n < 128
    · exact ⟨[], n, by rw [wn_small hs]; rfl, (fun _ h => nomatch h), by omega, by omega⟩
    · obtain ⟨A, z, h, hA, z0, z1⟩ := ih (n / 128) (by omega)
      refine ⟨((n % 128 + 128 : Nat) : Int) :: A, z, by rw [wn_big hs, h]; rfl, fun b hb => ?_, z0, z1⟩
      rcases List.mem_cons.mp hb with rfl | hb
      · omega
      · exact hA b hb
end K11

set_option maxRecDepth 100000
set_option maxHeartbeats 4000000
namespace K11
open PySem L2 DL PyProof.Rows
theorem kRep_own {ds : List D} {k : Int} : kRep (.own ds) (.at (.int k)) = if nOws ds = true ∧ -(2 ^ 63) ≤ k ∧ k < 2 ^ 63 ∧ ds.length * k.toNat ≤ sizeLine then some (.own (List.replicate k.toNat ds).flatten) else none := rfl
def Stuck (x : List Int) : Prop := ∀ pre : List Int, nextR (pre ++ x) pre.length = none
theorem wn_byte : ∀ (n : Nat), ByteL (wn n) := by
  intro n
  induction n using Nat.strongRecOn with
  | ind n ih =>
    by_cases hs : n < 128
    · rw [wn_small hs]
      intro x hx
      cases List.mem_singleton.mp hx
      omega
    · rw [wn_big hs]
      intro x hx
      rcases List.mem_cons.mp hx with rfl | hx
      · omega
      · exact ih (n / 128) (by omega) x hx
theorem tl4_byte {t : Int} (h0 : 0 ≤ t) (h1 : t < 4294967296) : ByteL (tl4 t) := by
  intro x hx
  unfold tl4 at hx
  simp only [List.mem_cons, List.not_mem_nil, or_false] at hx
  omega
theorem rcd_byte {l : List Int} (h : ByteL l) : ByteL (rcd l) := by
  intro x hx
  unfold rcd at hx
  have hc := cs_b l
  rcases List.mem_append.mp hx with hx | hx
  · rcases List.mem_append.mp hx with hx | hx
    · exact wn_byte _ x hx
    · exact h x hx
  · exact tl4_byte hc.1 hc.2 x hx
theorem rcd_len {l : List Int} (h : l.length ≤ 100000) : (rcd l).length ≤ l.length + 24 := by
  have hn : l.length < 128 ^ 20 := Nat.lt_of_lt_of_le (show l.length < 128 ^ 3 by omega) (Nat.pow_le_pow_right (by decide) (by decide))
  have hw := wn_len (k := 19) hn
  unfold rcd
  simp [tl4]
  omega
abbrev eB (dr : List Int) (i : Int) (l : List Int) (fo : Bool) (fu : List Int) (p x5 x6 x7 : Option D) : En := [some (encN dr i), some (.own (I l)), some (.own (I (rcd l))), some (.nd (.lst fo) (I fu)), p, x5, x6, x7]
theorem behind_ok {dr : List Int} {i : Int} (hd : DrOk dr) (h0 : 0 ≤ i) (h1 : i < 700000) : wD (F_law_behind [encN dr i]) (fun v as => ∃ x i', Stuck x ∧ ByteL x ∧ x.length ≤ 10000 ∧ i ≤ i' ∧ i' ≤ i + 20 ∧ v = .own (I x) ∧ as = [encN dr i']) fun _ _ => False := by
  refine wD_fn rfl ?_
  unfold b_law_behind
  refine ws_mid (fun ρ => ∃ l j, ByteL l ∧ l.length ≤ 2000 ∧ i ≤ j ∧ j ≤ i + 4 ∧ ρ = [some (encN dr j), some (.own (I l)), none, none, none, none, none, none]) ?_ ?_
  · simp only [ws_asg, ws_ret, ws_retN, ws_drop, ws_pass, ws_bk, ws_ct, ws_if, ws_aug, ws_augI, ws_for, wv_cp, wv_mk, wv_share, wv_move, wv_1, wv_2, wv_A, wa_nil, wa_cons, wa_io, wv_tup, wv_lst, wv_call, wv_if, wv_sl, wv_ixN, wv_mt, wv_mut, wv_and, wv_or, wv_not, wv_lc, wi_arg, wb_q, wb_t, wb_v, wb_and, wb_or, wb_not, wb_yes, wq_var, wq_c, wq_2, wq_1, wq_A, wq_lNil, wq_lCons, wq_sl, wo_none, wo_some, wg_item, wg_set, wg_tup, wg_cons, wg_nil, wR_rb, wR_rp, wO_some, wO_none, wO_bind, wO_map, wO_iteN, look_zero, look_succ, Ed.turn, kIx_lst, kIx_tup, kIx_T, atI_0, atI_1, atI_2, atI_3, atI_4, atI_5, atI_6, atI_cast, ixN_0, ixN_1, ixN_2, ixN_3, asI_int, asB_bl, asS_str, oI_int, cT_true, kAdd_int, kAdd_T, kAdd_lst, kAdd_tup, kInt_int, kInt_bl, kMin_int, kMax_int, kLen_lst, kLen_tup, kLen_T, nOw_at, nOw_tup, nOw_lstF, nOw_own, nOws_nil, nOws_cons, nOws_append, nOws_ints, kEq_int, kNe_int, kEq_T, kNe_T, kEq_bl, kIsN_at, kNotN_at, kIsN_nd, kNotN_nd, kList_lst, kList_tup, kTuple_lst, kAppend_one, kSl_lst, kSl_T, kSl_tup, kRng1_int, kRng2_int, isL_own, frz_at, fok_at, frz_lst, fok_lst, frz_tup, fok_tup, kItL_lst, kItT_tup, kItS_T, kZip_lst, kEnum_lst, hole_none, hole_succ, putB_nil, putB_cons, finD_nil, finD_cons, lowE_nil, lowE_cons, lowS_some, lowS_none, wipeE_nil, wipeE_cons, backE_nil, backE_cons, kMod_int, kGe_int, kIn_T, List.map_cons, List.map_nil, List.length_cons, List.length_nil, List.length_map, List.length_set, List.cons_append, List.nil_append, Nat.reduceAdd, Nat.reduceSub, Nat.reduceLT, Nat.reduceLeDiff, Nat.zero_add, List.replicate_succ, List.replicate_zero, List.set_cons_zero, List.set_cons_succ, List.getElem?_cons_zero, List.getElem?_cons_succ, List.getElem?_nil, true_and, and_true, and_self, if_true, if_false, Bool.false_eq_true, reduceIte, List.mem_cons, List.not_mem_nil, or_false, false_or, reduceCtorEq, Nat.reduceEqDiff, or_self, or_true, true_or, Option.map_some, Option.getD_some, Option.isSome_some, Bool.not_true, Bool.not_false, Bool.and_true, Bool.true_and, Bool.and_eq_true, decide_eq_true_eq, Nat.zero_lt_succ, Nat.lt_add_one, Nat.succ_ne_self, Nat.add_one_ne_zero, not_true_eq_false, not_false_eq_true, wv_frz, shift_nil, shift_cons, Option.bind_some, wv_mutF, wv_mutV, wv_meth, wv_make, wv_callW, ws_setF, wg_un, kFld_obj, setO_obj, mutO_obj, hasL_obj, isO_obj, asL_own, bare_at, frzs_nil, frzs_cons, foks_nil, foks_cons]
    refine wD_mono (bytes_ok hd h0 (by omega)) ?_ fun _ _ h => h.elim
    rintro _ _ ⟨l, j, hb, hl, j0, j1, rfl, rfl⟩
    simp only [ws_asg, ws_ret, ws_retN, ws_drop, ws_pass, ws_bk, ws_ct, ws_if, ws_aug, ws_augI, ws_for, wv_cp, wv_mk, wv_share, wv_move, wv_1, wv_2, wv_A, wa_nil, wa_cons, wa_io, wv_tup, wv_lst, wv_call, wv_if, wv_sl, wv_ixN, wv_mt, wv_mut, wv_and, wv_or, wv_not, wv_lc, wi_arg, wb_q, wb_t, wb_v, wb_and, wb_or, wb_not, wb_yes, wq_var, wq_c, wq_2, wq_1, wq_A, wq_lNil, wq_lCons, wq_sl, wo_none, wo_some, wg_item, wg_set, wg_tup, wg_cons, wg_nil, wR_rb, wR_rp, wO_some, wO_none, wO_bind, wO_map, wO_iteN, look_zero, look_succ, Ed.turn, kIx_lst, kIx_tup, kIx_T, atI_0, atI_1, atI_2, atI_3, atI_4, atI_5, atI_6, atI_cast, ixN_0, ixN_1, ixN_2, ixN_3, asI_int, asB_bl, asS_str, oI_int, cT_true, kAdd_int, kAdd_T, kAdd_lst, kAdd_tup, kInt_int, kInt_bl, kMin_int, kMax_int, kLen_lst, kLen_tup, kLen_T, nOw_at, nOw_tup, nOw_lstF, nOw_own, nOws_nil, nOws_cons, nOws_append, nOws_ints, kEq_int, kNe_int, kEq_T, kNe_T, kEq_bl, kIsN_at, kNotN_at, kIsN_nd, kNotN_nd, kList_lst, kList_tup, kTuple_lst, kAppend_one, kSl_lst, kSl_T, kSl_tup, kRng1_int, kRng2_int, isL_own, frz_at, fok_at, frz_lst, fok_lst, frz_tup, fok_tup, kItL_lst, kItT_tup, kItS_T, kZip_lst, kEnum_lst, hole_none, hole_succ, putB_nil, putB_cons, finD_nil, finD_cons, lowE_nil, lowE_cons, lowS_some, lowS_none, wipeE_nil, wipeE_cons, backE_nil, backE_cons, kMod_int, kGe_int, kIn_T, List.map_cons, List.map_nil, List.length_cons, List.length_nil, List.length_map, List.length_set, List.cons_append, List.nil_append, Nat.reduceAdd, Nat.reduceSub, Nat.reduceLT, Nat.reduceLeDiff, Nat.zero_add, List.replicate_succ, List.replicate_zero, List.set_cons_zero, List.set_cons_succ, List.getElem?_cons_zero, List.getElem?_cons_succ, List.getElem?_nil, true_and, and_true, and_self, if_true, if_false, Bool.false_eq_true, reduceIte, List.mem_cons, List.not_mem_nil, or_false, false_or, reduceCtorEq, Nat.reduceEqDiff, or_self, or_true, true_or, Option.map_some, Option.getD_some, Option.isSome_some, Bool.not_true, Bool.not_false, Bool.and_true, Bool.true_and, Bool.and_eq_true, decide_eq_true_eq, Nat.zero_lt_succ, Nat.lt_add_one, Nat.succ_ne_self, Nat.add_one_ne_zero, not_true_eq_false, not_false_eq_true, wv_frz, shift_nil, shift_cons, Option.bind_some, wv_mutF, wv_mutV, wv_meth, wv_make, wv_callW, ws_setF, wg_un, kFld_obj, setO_obj, mutO_obj, hasL_obj, isO_obj, asL_own, bare_at, frzs_nil, frzs_cons, foks_nil, foks_cons]
    exact ⟨l, j, hb, hl, j0, j1, rfl⟩
  rintro ρ ⟨l, j, hb, hl, j0, j1, rfl⟩
  have hrl := rcd_len (l := l) (by omega)
  refine ws_mid (fun ρ => ρ = [some (encN dr j), some (.own (I l)), some (.own (I (rcd l))), none, none, none, none, none]) ?_ ?_
  · simp only [ws_asg, ws_ret, ws_retN, ws_drop, ws_pass, ws_bk, ws_ct, ws_if, ws_aug, ws_augI, ws_for, wv_cp, wv_mk, wv_share, wv_move, wv_1, wv_2, wv_A, wa_nil, wa_cons, wa_io, wv_tup, wv_lst, wv_call, wv_if, wv_sl, wv_ixN, wv_mt, wv_mut, wv_and, wv_or, wv_not, wv_lc, wi_arg, wb_q, wb_t, wb_v, wb_and, wb_or, wb_not, wb_yes, wq_var, wq_c, wq_2, wq_1, wq_A, wq_lNil, wq_lCons, wq_sl, wo_none, wo_some, wg_item, wg_set, wg_tup, wg_cons, wg_nil, wR_rb, wR_rp, wO_some, wO_none, wO_bind, wO_map, wO_iteN, look_zero, look_succ, Ed.turn, kIx_lst, kIx_tup, kIx_T, atI_0, atI_1, atI_2, atI_3, atI_4, atI_5, atI_6, atI_cast, ixN_0, ixN_1, ixN_2, ixN_3, asI_int, asB_bl, asS_str, oI_int, cT_true, kAdd_int, kAdd_T, kAdd_lst, kAdd_tup, kInt_int, kInt_bl, kMin_int, kMax_int, kLen_lst, kLen_tup, kLen_T, nOw_at, nOw_tup, nOw_lstF, nOw_own, nOws_nil, nOws_cons, nOws_append, nOws_ints, kEq_int, kNe_int, kEq_T, kNe_T, kEq_bl, kIsN_at, kNotN_at, kIsN_nd, kNotN_nd, kList_lst, kList_tup, kTuple_lst, kAppend_one, kSl_lst, kSl_T, kSl_tup, kRng1_int, kRng2_int, isL_own, frz_at, fok_at, frz_lst, fok_lst, frz_tup, fok_tup, kItL_lst, kItT_tup, kItS_T, kZip_lst, kEnum_lst, hole_none, hole_succ, putB_nil, putB_cons, finD_nil, finD_cons, lowE_nil, lowE_cons, lowS_some, lowS_none, wipeE_nil, wipeE_cons, backE_nil, backE_cons, kMod_int, kGe_int, kIn_T, List.map_cons, List.map_nil, List.length_cons, List.length_nil, List.length_map, List.length_set, List.cons_append, List.nil_append, Nat.reduceAdd, Nat.reduceSub, Nat.reduceLT, Nat.reduceLeDiff, Nat.zero_add, List.replicate_succ, List.replicate_zero, List.set_cons_zero, List.set_cons_succ, List.getElem?_cons_zero, List.getElem?_cons_succ, List.getElem?_nil, true_and, and_true, and_self, if_true, if_false, Bool.false_eq_true, reduceIte, List.mem_cons, List.not_mem_nil, or_false, false_or, reduceCtorEq, Nat.reduceEqDiff, or_self, or_true, true_or, Option.map_some, Option.getD_some, Option.isSome_some, Bool.not_true, Bool.not_false, Bool.and_true, Bool.true_and, Bool.and_eq_true, decide_eq_true_eq, Nat.zero_lt_succ, Nat.lt_add_one, Nat.succ_ne_self, Nat.add_one_ne_zero, not_true_eq_false, not_false_eq_true, wv_frz, shift_nil, shift_cons, Option.bind_some, wv_mutF, wv_mutV, wv_meth, wv_make, wv_callW, ws_setF, wg_un, kFld_obj, setO_obj, mutO_obj, hasL_obj, isO_obj, asL_own, bare_at, frzs_nil, frzs_cons, foks_nil, foks_cons, foks_I, frzs_I]
    refine wD_mono (law_record_ok (l := l) (by omega) hb) ?_ fun _ _ h => h.elim
    rintro d as rfl
    simp only [ws_asg, ws_ret, ws_retN, ws_drop, ws_pass, ws_bk, ws_ct, ws_if, ws_aug, ws_augI, ws_for, wv_cp, wv_mk, wv_share, wv_move, wv_1, wv_2, wv_A, wa_nil, wa_cons, wa_io, wv_tup, wv_lst, wv_call, wv_if, wv_sl, wv_ixN, wv_mt, wv_mut, wv_and, wv_or, wv_not, wv_lc, wi_arg, wb_q, wb_t, wb_v, wb_and, wb_or, wb_not, wb_yes, wq_var, wq_c, wq_2, wq_1, wq_A, wq_lNil, wq_lCons, wq_sl, wo_none, wo_some, wg_item, wg_set, wg_tup, wg_cons, wg_nil, wR_rb, wR_rp, wO_some, wO_none, wO_bind, wO_map, wO_iteN, look_zero, look_succ, Ed.turn, kIx_lst, kIx_tup, kIx_T, atI_0, atI_1, atI_2, atI_3, atI_4, atI_5, atI_6, atI_cast, ixN_0, ixN_1, ixN_2, ixN_3, asI_int, asB_bl, asS_str, oI_int, cT_true, kAdd_int, kAdd_T, kAdd_lst, kAdd_tup, kInt_int, kInt_bl, kMin_int, kMax_int, kLen_lst, kLen_tup, kLen_T, nOw_at, nOw_tup, nOw_lstF, nOw_own, nOws_nil, nOws_cons, nOws_append, nOws_ints, kEq_int, kNe_int, kEq_T, kNe_T, kEq_bl, kIsN_at, kNotN_at, kIsN_nd, kNotN_nd, kList_lst, kList_tup, kTuple_lst, kAppend_one, kSl_lst, kSl_T, kSl_tup, kRng1_int, kRng2_int, isL_own, frz_at, fok_at, frz_lst, fok_lst, frz_tup, fok_tup, kItL_lst, kItT_tup, kItS_T, kZip_lst, kEnum_lst, hole_none, hole_succ, putB_nil, putB_cons, finD_nil, finD_cons, lowE_nil, lowE_cons, lowS_some, lowS_none, wipeE_nil, wipeE_cons, backE_nil, backE_cons, kMod_int, kGe_int, kIn_T, List.map_cons, List.map_nil, List.length_cons, List.length_nil, List.length_map, List.length_set, List.cons_append, List.nil_append, Nat.reduceAdd, Nat.reduceSub, Nat.reduceLT, Nat.reduceLeDiff, Nat.zero_add, List.replicate_succ, List.replicate_zero, List.set_cons_zero, List.set_cons_succ, List.getElem?_cons_zero, List.getElem?_cons_succ, List.getElem?_nil, true_and, and_true, and_self, if_true, if_false, Bool.false_eq_true, reduceIte, List.mem_cons, List.not_mem_nil, or_false, false_or, reduceCtorEq, Nat.reduceEqDiff, or_self, or_true, true_or, Option.map_some, Option.getD_some, Option.isSome_some, Bool.not_true, Bool.not_false, Bool.and_true, Bool.true_and, Bool.and_eq_true, decide_eq_true_eq, Nat.zero_lt_succ, Nat.lt_add_one, Nat.succ_ne_self, Nat.add_one_ne_zero, not_true_eq_false, not_false_eq_true, wv_frz, shift_nil, shift_cons, Option.bind_some, wv_mutF, wv_mutV, wv_meth, wv_make, wv_callW, ws_setF, wg_un, kFld_obj, setO_obj, mutO_obj, hasL_obj, isO_obj, asL_own, bare_at, frzs_nil, frzs_cons, foks_nil, foks_cons, bare_own, bares_I]
  rintro ρ rfl
  refine ws_mid (fun ρ => ∃ fu, ByteL fu ∧ fu.length ≤ 100 ∧ ρ = eB dr (j + 1) l true fu none none none none) ?_ ?_
  · simp only [ws_asg, ws_ret, ws_retN, ws_drop, ws_pass, ws_bk, ws_ct, ws_if, ws_aug, ws_augI, ws_for, wv_cp, wv_mk, wv_share, wv_move, wv_1, wv_2, wv_A, wa_nil, wa_cons, wa_io, wv_tup, wv_lst, wv_call, wv_if, wv_sl, wv_ixN, wv_mt, wv_mut, wv_and, wv_or, wv_not, wv_lc, wi_arg, wb_q, wb_t, wb_v, wb_and, wb_or, wb_not, wb_yes, wq_var, wq_c, wq_2, wq_1, wq_A, wq_lNil, wq_lCons, wq_sl, wo_none, wo_some, wg_item, wg_set, wg_tup, wg_cons, wg_nil, wR_rb, wR_rp, wO_some, wO_none, wO_bind, wO_map, wO_iteN, look_zero, look_succ, Ed.turn, kIx_lst, kIx_tup, kIx_T, atI_0, atI_1, atI_2, atI_3, atI_4, atI_5, atI_6, atI_cast, ixN_0, ixN_1, ixN_2, ixN_3, asI_int, asB_bl, asS_str, oI_int, cT_true, kAdd_int, kAdd_T, kAdd_lst, kAdd_tup, kInt_int, kInt_bl, kMin_int, kMax_int, kLen_lst, kLen_tup, kLen_T, nOw_at, nOw_tup, nOw_lstF, nOw_own, nOws_nil, nOws_cons, nOws_append, nOws_ints, kEq_int, kNe_int, kEq_T, kNe_T, kEq_bl, kIsN_at, kNotN_at, kIsN_nd, kNotN_nd, kList_lst, kList_tup, kTuple_lst, kAppend_one, kSl_lst, kSl_T, kSl_tup, kRng1_int, kRng2_int, isL_own, frz_at, fok_at, frz_lst, fok_lst, frz_tup, fok_tup, kItL_lst, kItT_tup, kItS_T, kZip_lst, kEnum_lst, hole_none, hole_succ, putB_nil, putB_cons, finD_nil, finD_cons, lowE_nil, lowE_cons, lowS_some, lowS_none, wipeE_nil, wipeE_cons, backE_nil, backE_cons, kMod_int, kGe_int, kIn_T, List.map_cons, List.map_nil, List.length_cons, List.length_nil, List.length_map, List.length_set, List.cons_append, List.nil_append, Nat.reduceAdd, Nat.reduceSub, Nat.reduceLT, Nat.reduceLeDiff, Nat.zero_add, List.replicate_succ, List.replicate_zero, List.set_cons_zero, List.set_cons_succ, List.getElem?_cons_zero, List.getElem?_cons_succ, List.getElem?_nil, true_and, and_true, and_self, if_true, if_false, Bool.false_eq_true, reduceIte, List.mem_cons, List.not_mem_nil, or_false, false_or, reduceCtorEq, Nat.reduceEqDiff, or_self, or_true, true_or, Option.map_some, Option.getD_some, Option.isSome_some, Bool.not_true, Bool.not_false, Bool.and_true, Bool.true_and, Bool.and_eq_true, decide_eq_true_eq, Nat.zero_lt_succ, Nat.lt_add_one, Nat.succ_ne_self, Nat.add_one_ne_zero, not_true_eq_false, not_false_eq_true, wv_frz, shift_nil, shift_cons, Option.bind_some, wv_mutF, wv_mutV, wv_meth, wv_make, wv_callW, ws_setF, wg_un, kFld_obj, setO_obj, mutO_obj, hasL_obj, isO_obj, asL_own, bare_at, frzs_nil, frzs_cons, foks_nil, foks_cons, foks_I, frzs_I]
    have b3 : ByteL [1, 2, 3] := fun x hx => by
      simp only [List.mem_cons, List.not_mem_nil, or_false] at hx
      omega
    have b0 : ByteL [] := fun _ h => nomatch h
    refine ⟨by decide, by decide, wD_mono (law_record_ok (l := [1, 2, 3]) (by decide) b3) ?_ fun _ _ h => h.elim⟩
    rintro d as rfl
    refine ⟨by decide, wD_mono (law_record_ok (l := []) (by decide) b0) ?_ fun _ _ h => h.elim⟩
    rintro d as rfl
    have r3 := rcd_len (l := [1, 2, 3]) (by decide)
    have r0 := rcd_len (l := []) (by decide)
    have r3 : (rcd [1, 2, 3]).length ≤ 27 := r3
    have r0 : (rcd []).length ≤ 24 := r0
    simp only [ws_asg, ws_ret, ws_retN, ws_drop, ws_pass, ws_bk, ws_ct, ws_if, ws_aug, ws_augI, ws_for, wv_cp, wv_mk, wv_share, wv_move, wv_1, wv_2, wv_A, wa_nil, wa_cons, wa_io, wv_tup, wv_lst, wv_call, wv_if, wv_sl, wv_ixN, wv_mt, wv_mut, wv_and, wv_or, wv_not, wv_lc, wi_arg, wb_q, wb_t, wb_v, wb_and, wb_or, wb_not, wb_yes, wq_var, wq_c, wq_2, wq_1, wq_A, wq_lNil, wq_lCons, wq_sl, wo_none, wo_some, wg_item, wg_set, wg_tup, wg_cons, wg_nil, wR_rb, wR_rp, wO_some, wO_none, wO_bind, wO_map, wO_iteN, look_zero, look_succ, Ed.turn, kIx_lst, kIx_tup, kIx_T, atI_0, atI_1, atI_2, atI_3, atI_4, atI_5, atI_6, atI_cast, ixN_0, ixN_1, ixN_2, ixN_3, asI_int, asB_bl, asS_str, oI_int, cT_true, kAdd_int, kAdd_T, kAdd_lst, kAdd_tup, kInt_int, kInt_bl, kMin_int, kMax_int, kLen_lst, kLen_tup, kLen_T, nOw_at, nOw_tup, nOw_lstF, nOw_own, nOws_nil, nOws_cons, nOws_append, nOws_ints, kEq_int, kNe_int, kEq_T, kNe_T, kEq_bl, kIsN_at, kNotN_at, kIsN_nd, kNotN_nd, kList_lst, kList_tup, kTuple_lst, kAppend_one, kSl_lst, kSl_T, kSl_tup, kRng1_int, kRng2_int, isL_own, frz_at, fok_at, frz_lst, fok_lst, frz_tup, fok_tup, kItL_lst, kItT_tup, kItS_T, kZip_lst, kEnum_lst, hole_none, hole_succ, putB_nil, putB_cons, finD_nil, finD_cons, lowE_nil, lowE_cons, lowS_some, lowS_none, wipeE_nil, wipeE_cons, backE_nil, backE_cons, kMod_int, kGe_int, kIn_T, List.map_cons, List.map_nil, List.length_cons, List.length_nil, List.length_map, List.length_set, List.cons_append, List.nil_append, Nat.reduceAdd, Nat.reduceSub, Nat.reduceLT, Nat.reduceLeDiff, Nat.zero_add, List.replicate_succ, List.replicate_zero, List.set_cons_zero, List.set_cons_succ, List.getElem?_cons_zero, List.getElem?_cons_succ, List.getElem?_nil, true_and, and_true, and_self, if_true, if_false, Bool.false_eq_true, reduceIte, List.mem_cons, List.not_mem_nil, or_false, false_or, reduceCtorEq, Nat.reduceEqDiff, or_self, or_true, true_or, Option.map_some, Option.getD_some, Option.isSome_some, Bool.not_true, Bool.not_false, Bool.and_true, Bool.true_and, Bool.and_eq_true, decide_eq_true_eq, Nat.zero_lt_succ, Nat.lt_add_one, Nat.succ_ne_self, Nat.add_one_ne_zero, not_true_eq_false, not_false_eq_true, wv_frz, shift_nil, shift_cons, Option.bind_some, wv_mutF, wv_mutV, wv_meth, wv_make, wv_callW, ws_setF, wg_un, kFld_obj, setO_obj, mutO_obj, hasL_obj, isO_obj, asL_own, bare_at, frzs_nil, frzs_cons, foks_nil, foks_cons, nOws_I]
    refine ⟨by simp only [sizeLine]; omega, by decide, wD_mono (next_ok hd (by omega) (by omega) (by decide)) ?_ fun _ _ h => h.elim⟩
    rintro _ _ ⟨a, rfl, rfl, a0, a1⟩
    simp only [ws_asg, ws_ret, ws_retN, ws_drop, ws_pass, ws_bk, ws_ct, ws_if, ws_aug, ws_augI, ws_for, wv_cp, wv_mk, wv_share, wv_move, wv_1, wv_2, wv_A, wa_nil, wa_cons, wa_io, wv_tup, wv_lst, wv_call, wv_if, wv_sl, wv_ixN, wv_mt, wv_mut, wv_and, wv_or, wv_not, wv_lc, wi_arg, wb_q, wb_t, wb_v, wb_and, wb_or, wb_not, wb_yes, wq_var, wq_c, wq_2, wq_1, wq_A, wq_lNil, wq_lCons, wq_sl, wo_none, wo_some, wg_item, wg_set, wg_tup, wg_cons, wg_nil, wR_rb, wR_rp, wO_some, wO_none, wO_bind, wO_map, wO_iteN, look_zero, look_succ, Ed.turn, kIx_lst, kIx_tup, kIx_T, atI_0, atI_1, atI_2, atI_3, atI_4, atI_5, atI_6, atI_cast, ixN_0, ixN_1, ixN_2, ixN_3, asI_int, asB_bl, asS_str, oI_int, cT_true, kAdd_int, kAdd_T, kAdd_lst, kAdd_tup, kInt_int, kInt_bl, kMin_int, kMax_int, kLen_lst, kLen_tup, kLen_T, nOw_at, nOw_tup, nOw_lstF, nOw_own, nOws_nil, nOws_cons, nOws_append, nOws_ints, kEq_int, kNe_int, kEq_T, kNe_T, kEq_bl, kIsN_at, kNotN_at, kIsN_nd, kNotN_nd, kList_lst, kList_tup, kTuple_lst, kAppend_one, kSl_lst, kSl_T, kSl_tup, kRng1_int, kRng2_int, isL_own, frz_at, fok_at, frz_lst, fok_lst, frz_tup, fok_tup, kItL_lst, kItT_tup, kItS_T, kZip_lst, kEnum_lst, hole_none, hole_succ, putB_nil, putB_cons, finD_nil, finD_cons, lowE_nil, lowE_cons, lowS_some, lowS_none, wipeE_nil, wipeE_cons, backE_nil, backE_cons, kMod_int, kGe_int, kIn_T, List.map_cons, List.map_nil, List.length_cons, List.length_nil, List.length_map, List.length_set, List.cons_append, List.nil_append, Nat.reduceAdd, Nat.reduceSub, Nat.reduceLT, Nat.reduceLeDiff, Nat.zero_add, List.replicate_succ, List.replicate_zero, List.set_cons_zero, List.set_cons_succ, List.getElem?_cons_zero, List.getElem?_cons_succ, List.getElem?_nil, true_and, and_true, and_self, if_true, if_false, Bool.false_eq_true, reduceIte, List.mem_cons, List.not_mem_nil, or_false, false_or, reduceCtorEq, Nat.reduceEqDiff, or_self, or_true, true_or, Option.map_some, Option.getD_some, Option.isSome_some, Bool.not_true, Bool.not_false, Bool.and_true, Bool.true_and, Bool.and_eq_true, decide_eq_true_eq, Nat.zero_lt_succ, Nat.lt_add_one, Nat.succ_ne_self, Nat.add_one_ne_zero, not_true_eq_false, not_false_eq_true, wv_frz, shift_nil, shift_cons, Option.bind_some, wv_mutF, wv_mutV, wv_meth, wv_make, wv_callW, ws_setF, wg_un, kFld_obj, setO_obj, mutO_obj, hasL_obj, isO_obj, asL_own, bare_at, frzs_nil, frzs_cons, foks_nil, foks_cons]
    rw [atI_pos a0]
    obtain ⟨n, rfl⟩ : ∃ n : Nat, a = n := ⟨a.toNat, by omega⟩
    rw [Int.toNat_natCast]
    match n, a1 with
    | 0, _ =>
      simp only [ws_asg, ws_ret, ws_retN, ws_drop, ws_pass, ws_bk, ws_ct, ws_if, ws_aug, ws_augI, ws_for, wv_cp, wv_mk, wv_share, wv_move, wv_1, wv_2, wv_A, wa_nil, wa_cons, wa_io, wv_tup, wv_lst, wv_call, wv_if, wv_sl, wv_ixN, wv_mt, wv_mut, wv_and, wv_or, wv_not, wv_lc, wi_arg, wb_q, wb_t, wb_v, wb_and, wb_or, wb_not, wb_yes, wq_var, wq_c, wq_2, wq_1, wq_A, wq_lNil, wq_lCons, wq_sl, wo_none, wo_some, wg_item, wg_set, wg_tup, wg_cons, wg_nil, wR_rb, wR_rp, wO_some, wO_none, wO_bind, wO_map, wO_iteN, look_zero, look_succ, Ed.turn, kIx_lst, kIx_tup, kIx_T, atI_0, atI_1, atI_2, atI_3, atI_4, atI_5, atI_6, atI_cast, ixN_0, ixN_1, ixN_2, ixN_3, asI_int, asB_bl, asS_str, oI_int, cT_true, kAdd_int, kAdd_T, kAdd_lst, kAdd_tup, kInt_int, kInt_bl, kMin_int, kMax_int, kLen_lst, kLen_tup, kLen_T, nOw_at, nOw_tup, nOw_lstF, nOw_own, nOws_nil, nOws_cons, nOws_append, nOws_ints, kEq_int, kNe_int, kEq_T, kNe_T, kEq_bl, kIsN_at, kNotN_at, kIsN_nd, kNotN_nd, kList_lst, kList_tup, kTuple_lst, kAppend_one, kSl_lst, kSl_T, kSl_tup, kRng1_int, kRng2_int, isL_own, frz_at, fok_at, frz_lst, fok_lst, frz_tup, fok_tup, kItL_lst, kItT_tup, kItS_T, kZip_lst, kEnum_lst, hole_none, hole_succ, putB_nil, putB_cons, finD_nil, finD_cons, lowE_nil, lowE_cons, lowS_some, lowS_none, wipeE_nil, wipeE_cons, backE_nil, backE_cons, kMod_int, kGe_int, kIn_T, List.map_cons, List.map_nil, List.length_cons, List.length_nil, List.length_map, List.length_set, List.cons_append, List.nil_append, Nat.reduceAdd, Nat.reduceSub, Nat.reduceLT, Nat.reduceLeDiff, Nat.zero_add, List.replicate_succ, List.replicate_zero, List.set_cons_zero, List.set_cons_succ, List.getElem?_cons_zero, List.getElem?_cons_succ, List.getElem?_nil, true_and, and_true, and_self, if_true, if_false, Bool.false_eq_true, reduceIte, List.mem_cons, List.not_mem_nil, or_false, false_or, reduceCtorEq, Nat.reduceEqDiff, or_self, or_true, true_or, Option.map_some, Option.getD_some, Option.isSome_some, Bool.not_true, Bool.not_false, Bool.and_true, Bool.true_and, Bool.and_eq_true, decide_eq_true_eq, Nat.zero_lt_succ, Nat.lt_add_one, Nat.succ_ne_self, Nat.add_one_ne_zero, not_true_eq_false, not_false_eq_true, wv_frz, shift_nil, shift_cons, Option.bind_some, wv_mutF, wv_mutV, wv_meth, wv_make, wv_callW, ws_setF, wg_un, kFld_obj, setO_obj, mutO_obj, hasL_obj, isO_obj, asL_own, bare_at, frzs_nil, frzs_cons, foks_nil, foks_cons]
      exact ⟨[], b0, by decide, rfl⟩
    | 1, _ =>
      simp only [ws_asg, ws_ret, ws_retN, ws_drop, ws_pass, ws_bk, ws_ct, ws_if, ws_aug, ws_augI, ws_for, wv_cp, wv_mk, wv_share, wv_move, wv_1, wv_2, wv_A, wa_nil, wa_cons, wa_io, wv_tup, wv_lst, wv_call, wv_if, wv_sl, wv_ixN, wv_mt, wv_mut, wv_and, wv_or, wv_not, wv_lc, wi_arg, wb_q, wb_t, wb_v, wb_and, wb_or, wb_not, wb_yes, wq_var, wq_c, wq_2, wq_1, wq_A, wq_lNil, wq_lCons, wq_sl, wo_none, wo_some, wg_item, wg_set, wg_tup, wg_cons, wg_nil, wR_rb, wR_rp, wO_some, wO_none, wO_bind, wO_map, wO_iteN, look_zero, look_succ, Ed.turn, kIx_lst, kIx_tup, kIx_T, atI_0, atI_1, atI_2, atI_3, atI_4, atI_5, atI_6, atI_cast, ixN_0, ixN_1, ixN_2, ixN_3, asI_int, asB_bl, asS_str, oI_int, cT_true, kAdd_int, kAdd_T, kAdd_lst, kAdd_tup, kInt_int, kInt_bl, kMin_int, kMax_int, kLen_lst, kLen_tup, kLen_T, nOw_at, nOw_tup, nOw_lstF, nOw_own, nOws_nil, nOws_cons, nOws_append, nOws_ints, kEq_int, kNe_int, kEq_T, kNe_T, kEq_bl, kIsN_at, kNotN_at, kIsN_nd, kNotN_nd, kList_lst, kList_tup, kTuple_lst, kAppend_one, kSl_lst, kSl_T, kSl_tup, kRng1_int, kRng2_int, isL_own, frz_at, fok_at, frz_lst, fok_lst, frz_tup, fok_tup, kItL_lst, kItT_tup, kItS_T, kZip_lst, kEnum_lst, hole_none, hole_succ, putB_nil, putB_cons, finD_nil, finD_cons, lowE_nil, lowE_cons, lowS_some, lowS_none, wipeE_nil, wipeE_cons, backE_nil, backE_cons, kMod_int, kGe_int, kIn_T, List.map_cons, List.map_nil, List.length_cons, List.length_nil, List.length_map, List.length_set, List.cons_append, List.nil_append, Nat.reduceAdd, Nat.reduceSub, Nat.reduceLT, Nat.reduceLeDiff, Nat.zero_add, List.replicate_succ, List.replicate_zero, List.set_cons_zero, List.set_cons_succ, List.getElem?_cons_zero, List.getElem?_cons_succ, List.getElem?_nil, true_and, and_true, and_self, if_true, if_false, Bool.false_eq_true, reduceIte, List.mem_cons, List.not_mem_nil, or_false, false_or, reduceCtorEq, Nat.reduceEqDiff, or_self, or_true, true_or, Option.map_some, Option.getD_some, Option.isSome_some, Bool.not_true, Bool.not_false, Bool.and_true, Bool.true_and, Bool.and_eq_true, decide_eq_true_eq, Nat.zero_lt_succ, Nat.lt_add_one, Nat.succ_ne_self, Nat.add_one_ne_zero, not_true_eq_false, not_false_eq_true, wv_frz, shift_nil, shift_cons, Option.bind_some, wv_mutF, wv_mutV, wv_meth, wv_make, wv_callW, ws_setF, wg_un, kFld_obj, setO_obj, mutO_obj, hasL_obj, isO_obj, asL_own, bare_at, frzs_nil, frzs_cons, foks_nil, foks_cons]
      refine ⟨rcd [1, 2, 3] ++ rcd [], ?_, by simp only [List.length_append]; omega, by simp [eB]⟩
      intro x hx
      rcases List.mem_append.mp hx with hx | hx
      · exact rcd_byte b3 x hx
      · exact rcd_byte b0 x hx
  rintro ρ ⟨fu, hfb, hfl, rfl⟩
  refine ws_mid (fun ρ => ∃ p : Int, ρ = eB dr (j + 2) l true fu (some (.at (.int p))) none none none) ?_ ?_
  · simp only [ws_asg, ws_ret, ws_retN, ws_drop, ws_pass, ws_bk, ws_ct, ws_if, ws_aug, ws_augI, ws_for, wv_cp, wv_mk, wv_share, wv_move, wv_1, wv_2, wv_A, wa_nil, wa_cons, wa_io, wv_tup, wv_lst, wv_call, wv_if, wv_sl, wv_ixN, wv_mt, wv_mut, wv_and, wv_or, wv_not, wv_lc, wi_arg, wb_q, wb_t, wb_v, wb_and, wb_or, wb_not, wb_yes, wq_var, wq_c, wq_2, wq_1, wq_A, wq_lNil, wq_lCons, wq_sl, wo_none, wo_some, wg_item, wg_set, wg_tup, wg_cons, wg_nil, wR_rb, wR_rp, wO_some, wO_none, wO_bind, wO_map, wO_iteN, look_zero, look_succ, Ed.turn, kIx_lst, kIx_tup, kIx_T, atI_0, atI_1, atI_2, atI_3, atI_4, atI_5, atI_6, atI_cast, ixN_0, ixN_1, ixN_2, ixN_3, asI_int, asB_bl, asS_str, oI_int, cT_true, kAdd_int, kAdd_T, kAdd_lst, kAdd_tup, kInt_int, kInt_bl, kMin_int, kMax_int, kLen_lst, kLen_tup, kLen_T, nOw_at, nOw_tup, nOw_lstF, nOw_own, nOws_nil, nOws_cons, nOws_append, nOws_ints, kEq_int, kNe_int, kEq_T, kNe_T, kEq_bl, kIsN_at, kNotN_at, kIsN_nd, kNotN_nd, kList_lst, kList_tup, kTuple_lst, kAppend_one, kSl_lst, kSl_T, kSl_tup, kRng1_int, kRng2_int, isL_own, frz_at, fok_at, frz_lst, fok_lst, frz_tup, fok_tup, kItL_lst, kItT_tup, kItS_T, kZip_lst, kEnum_lst, hole_none, hole_succ, putB_nil, putB_cons, finD_nil, finD_cons, lowE_nil, lowE_cons, lowS_some, lowS_none, wipeE_nil, wipeE_cons, backE_nil, backE_cons, kMod_int, kGe_int, kIn_T, List.map_cons, List.map_nil, List.length_cons, List.length_nil, List.length_map, List.length_set, List.cons_append, List.nil_append, Nat.reduceAdd, Nat.reduceSub, Nat.reduceLT, Nat.reduceLeDiff, Nat.zero_add, List.replicate_succ, List.replicate_zero, List.set_cons_zero, List.set_cons_succ, List.getElem?_cons_zero, List.getElem?_cons_succ, List.getElem?_nil, true_and, and_true, and_self, if_true, if_false, Bool.false_eq_true, reduceIte, List.mem_cons, List.not_mem_nil, or_false, false_or, reduceCtorEq, Nat.reduceEqDiff, or_self, or_true, true_or, Option.map_some, Option.getD_some, Option.isSome_some, Bool.not_true, Bool.not_false, Bool.and_true, Bool.true_and, Bool.and_eq_true, decide_eq_true_eq, Nat.zero_lt_succ, Nat.lt_add_one, Nat.succ_ne_self, Nat.add_one_ne_zero, not_true_eq_false, not_false_eq_true, wv_frz, shift_nil, shift_cons, Option.bind_some, wv_mutF, wv_mutV, wv_meth, wv_make, wv_callW, ws_setF, wg_un, kFld_obj, setO_obj, mutO_obj, hasL_obj, isO_obj, asL_own, bare_at, frzs_nil, frzs_cons, foks_nil, foks_cons]
    refine wD_mono (next_ok hd (by omega) (by omega) (by decide)) ?_ fun _ _ h => h.elim
    rintro _ _ ⟨a, rfl, rfl, a0, a1⟩
    simp only [ws_asg, ws_ret, ws_retN, ws_drop, ws_pass, ws_bk, ws_ct, ws_if, ws_aug, ws_augI, ws_for, wv_cp, wv_mk, wv_share, wv_move, wv_1, wv_2, wv_A, wa_nil, wa_cons, wa_io, wv_tup, wv_lst, wv_call, wv_if, wv_sl, wv_ixN, wv_mt, wv_mut, wv_and, wv_or, wv_not, wv_lc, wi_arg, wb_q, wb_t, wb_v, wb_and, wb_or, wb_not, wb_yes, wq_var, wq_c, wq_2, wq_1, wq_A, wq_lNil, wq_lCons, wq_sl, wo_none, wo_some, wg_item, wg_set, wg_tup, wg_cons, wg_nil, wR_rb, wR_rp, wO_some, wO_none, wO_bind, wO_map, wO_iteN, look_zero, look_succ, Ed.turn, kIx_lst, kIx_tup, kIx_T, atI_0, atI_1, atI_2, atI_3, atI_4, atI_5, atI_6, atI_cast, ixN_0, ixN_1, ixN_2, ixN_3, asI_int, asB_bl, asS_str, oI_int, cT_true, kAdd_int, kAdd_T, kAdd_lst, kAdd_tup, kInt_int, kInt_bl, kMin_int, kMax_int, kLen_lst, kLen_tup, kLen_T, nOw_at, nOw_tup, nOw_lstF, nOw_own, nOws_nil, nOws_cons, nOws_append, nOws_ints, kEq_int, kNe_int, kEq_T, kNe_T, kEq_bl, kIsN_at, kNotN_at, kIsN_nd, kNotN_nd, kList_lst, kList_tup, kTuple_lst, kAppend_one, kSl_lst, kSl_T, kSl_tup, kRng1_int, kRng2_int, isL_own, frz_at, fok_at, frz_lst, fok_lst, frz_tup, fok_tup, kItL_lst, kItT_tup, kItS_T, kZip_lst, kEnum_lst, hole_none, hole_succ, putB_nil, putB_cons, finD_nil, finD_cons, lowE_nil, lowE_cons, lowS_some, lowS_none, wipeE_nil, wipeE_cons, backE_nil, backE_cons, kMod_int, kGe_int, kIn_T, List.map_cons, List.map_nil, List.length_cons, List.length_nil, List.length_map, List.length_set, List.cons_append, List.nil_append, Nat.reduceAdd, Nat.reduceSub, Nat.reduceLT, Nat.reduceLeDiff, Nat.zero_add, List.replicate_succ, List.replicate_zero, List.set_cons_zero, List.set_cons_succ, List.getElem?_cons_zero, List.getElem?_cons_succ, List.getElem?_nil, true_and, and_true, and_self, if_true, if_false, Bool.false_eq_true, reduceIte, List.mem_cons, List.not_mem_nil, or_false, false_or, reduceCtorEq, Nat.reduceEqDiff, or_self, or_true, true_or, Option.map_some, Option.getD_some, Option.isSome_some, Bool.not_true, Bool.not_false, Bool.and_true, Bool.true_and, Bool.and_eq_true, decide_eq_true_eq, Nat.zero_lt_succ, Nat.lt_add_one, Nat.succ_ne_self, Nat.add_one_ne_zero, not_true_eq_false, not_false_eq_true, wv_frz, shift_nil, shift_cons, Option.bind_some, wv_mutF, wv_mutV, wv_meth, wv_make, wv_callW, ws_setF, wg_un, kFld_obj, setO_obj, mutO_obj, hasL_obj, isO_obj, asL_own, bare_at, frzs_nil, frzs_cons, foks_nil, foks_cons]
    exact ⟨a, by rw [show j + 1 + 1 = j + 2 by omega]⟩
  rintro ρ ⟨p, rfl⟩
  refine ws_mid (fun ρ => ρ = eB dr (j + 2) l true fu (some (.at (.int p))) none none none) ?_ ?_
  · simp only [ws_asg, ws_ret, ws_retN, ws_drop, ws_pass, ws_bk, ws_ct, ws_if, ws_aug, ws_augI, ws_for, wv_cp, wv_mk, wv_share, wv_move, wv_1, wv_2, wv_A, wa_nil, wa_cons, wa_io, wv_tup, wv_lst, wv_call, wv_if, wv_sl, wv_ixN, wv_mt, wv_mut, wv_and, wv_or, wv_not, wv_lc, wi_arg, wb_q, wb_t, wb_v, wb_and, wb_or, wb_not, wb_yes, wq_var, wq_c, wq_2, wq_1, wq_A, wq_lNil, wq_lCons, wq_sl, wo_none, wo_some, wg_item, wg_set, wg_tup, wg_cons, wg_nil, wR_rb, wR_rp, wO_some, wO_none, wO_bind, wO_map, wO_iteN, look_zero, look_succ, Ed.turn, kIx_lst, kIx_tup, kIx_T, atI_0, atI_1, atI_2, atI_3, atI_4, atI_5, atI_6, atI_cast, ixN_0, ixN_1, ixN_2, ixN_3, asI_int, asB_bl, asS_str, oI_int, cT_true, kAdd_int, kAdd_T, kAdd_lst, kAdd_tup, kInt_int, kInt_bl, kMin_int, kMax_int, kLen_lst, kLen_tup, kLen_T, nOw_at, nOw_tup, nOw_lstF, nOw_own, nOws_nil, nOws_cons, nOws_append, nOws_ints, kEq_int, kNe_int, kEq_T, kNe_T, kEq_bl, kIsN_at, kNotN_at, kIsN_nd, kNotN_nd, kList_lst, kList_tup, kTuple_lst, kAppend_one, kSl_lst, kSl_T, kSl_tup, kRng1_int, kRng2_int, isL_own, frz_at, fok_at, frz_lst, fok_lst, frz_tup, fok_tup, kItL_lst, kItT_tup, kItS_T, kZip_lst, kEnum_lst, hole_none, hole_succ, putB_nil, putB_cons, finD_nil, finD_cons, lowE_nil, lowE_cons, lowS_some, lowS_none, wipeE_nil, wipeE_cons, backE_nil, backE_cons, kMod_int, kGe_int, kIn_T, List.map_cons, List.map_nil, List.length_cons, List.length_nil, List.length_map, List.length_set, List.cons_append, List.nil_append, Nat.reduceAdd, Nat.reduceSub, Nat.reduceLT, Nat.reduceLeDiff, Nat.zero_add, List.replicate_succ, List.replicate_zero, List.set_cons_zero, List.set_cons_succ, List.getElem?_cons_zero, List.getElem?_cons_succ, List.getElem?_nil, true_and, and_true, and_self, if_true, if_false, Bool.false_eq_true, reduceIte, List.mem_cons, List.not_mem_nil, or_false, false_or, reduceCtorEq, Nat.reduceEqDiff, or_self, or_true, true_or, Option.map_some, Option.getD_some, Option.isSome_some, Bool.not_true, Bool.not_false, Bool.and_true, Bool.true_and, Bool.and_eq_true, decide_eq_true_eq, Nat.zero_lt_succ, Nat.lt_add_one, Nat.succ_ne_self, Nat.add_one_ne_zero, not_true_eq_false, not_false_eq_true, wv_frz, shift_nil, shift_cons, Option.bind_some, wv_mutF, wv_mutV, wv_meth, wv_make, wv_callW, ws_setF, wg_un, kFld_obj, setO_obj, mutO_obj, hasL_obj, isO_obj, asL_own, bare_at, frzs_nil, frzs_cons, foks_nil, foks_cons]
    split
    · refine ⟨by decide, [], j + 2, fun pre => ?_, (fun _ h => nomatch h), by decide, by omega, by omega, rfl, rfl⟩
      rw [List.append_nil]
      exact stuck_end
    · trivial
  rintro ρ rfl
  refine ws_mid (fun ρ => ρ = eB dr (j + 2) l true fu (some (.at (.int p))) none none none) ?_ ?_
  · simp only [ws_asg, ws_ret, ws_retN, ws_drop, ws_pass, ws_bk, ws_ct, ws_if, ws_aug, ws_augI, ws_for, wv_cp, wv_mk, wv_share, wv_move, wv_1, wv_2, wv_A, wa_nil, wa_cons, wa_io, wv_tup, wv_lst, wv_call, wv_if, wv_sl, wv_ixN, wv_mt, wv_mut, wv_and, wv_or, wv_not, wv_lc, wi_arg, wb_q, wb_t, wb_v, wb_and, wb_or, wb_not, wb_yes, wq_var, wq_c, wq_2, wq_1, wq_A, wq_lNil, wq_lCons, wq_sl, wo_none, wo_some, wg_item, wg_set, wg_tup, wg_cons, wg_nil, wR_rb, wR_rp, wO_some, wO_none, wO_bind, wO_map, wO_iteN, look_zero, look_succ, Ed.turn, kIx_lst, kIx_tup, kIx_T, atI_0, atI_1, atI_2, atI_3, atI_4, atI_5, atI_6, atI_cast, ixN_0, ixN_1, ixN_2, ixN_3, asI_int, asB_bl, asS_str, oI_int, cT_true, kAdd_int, kAdd_T, kAdd_lst, kAdd_tup, kInt_int, kInt_bl, kMin_int, kMax_int, kLen_lst, kLen_tup, kLen_T, nOw_at, nOw_tup, nOw_lstF, nOw_own, nOws_nil, nOws_cons, nOws_append, nOws_ints, kEq_int, kNe_int, kEq_T, kNe_T, kEq_bl, kIsN_at, kNotN_at, kIsN_nd, kNotN_nd, kList_lst, kList_tup, kTuple_lst, kAppend_one, kSl_lst, kSl_T, kSl_tup, kRng1_int, kRng2_int, isL_own, frz_at, fok_at, frz_lst, fok_lst, frz_tup, fok_tup, kItL_lst, kItT_tup, kItS_T, kZip_lst, kEnum_lst, hole_none, hole_succ, putB_nil, putB_cons, finD_nil, finD_cons, lowE_nil, lowE_cons, lowS_some, lowS_none, wipeE_nil, wipeE_cons, backE_nil, backE_cons, kMod_int, kGe_int, kIn_T, List.map_cons, List.map_nil, List.length_cons, List.length_nil, List.length_map, List.length_set, List.cons_append, List.nil_append, Nat.reduceAdd, Nat.reduceSub, Nat.reduceLT, Nat.reduceLeDiff, Nat.zero_add, List.replicate_succ, List.replicate_zero, List.set_cons_zero, List.set_cons_succ, List.getElem?_cons_zero, List.getElem?_cons_succ, List.getElem?_nil, true_and, and_true, and_self, if_true, if_false, Bool.false_eq_true, reduceIte, List.mem_cons, List.not_mem_nil, or_false, false_or, reduceCtorEq, Nat.reduceEqDiff, or_self, or_true, true_or, Option.map_some, Option.getD_some, Option.isSome_some, Bool.not_true, Bool.not_false, Bool.and_true, Bool.true_and, Bool.and_eq_true, decide_eq_true_eq, Nat.zero_lt_succ, Nat.lt_add_one, Nat.succ_ne_self, Nat.add_one_ne_zero, not_true_eq_false, not_false_eq_true, wv_frz, shift_nil, shift_cons, Option.bind_some, wv_mutF, wv_mutV, wv_meth, wv_make, wv_callW, ws_setF, wg_un, kFld_obj, setO_obj, mutO_obj, hasL_obj, isO_obj, asL_own, bare_at, frzs_nil, frzs_cons, foks_nil, foks_cons, wv_slN]
    split
    · have hrp : 0 < (rcd l).length := by unfold rcd; simp [tl4]; omega
      refine wD_mono (next_ok hd (by omega) (by omega) (by omega)) ?_ fun _ _ h => h.elim
      rintro _ _ ⟨a, rfl, rfl, a0, a1⟩
      obtain ⟨n, rfl⟩ : ∃ n : Nat, a = n := ⟨a.toNat, by omega⟩
      have hc : DL.cutD (I (rcd l)) none (some (n : Int)) = I ((rcd l).take n) := by
        unfold DL.cutD
        rw [HT.sIx_none, HT.sIx_nat, List.length_map, List.drop_zero, ← List.map_take]
        congr 1
        simp
      simp only [ws_asg, ws_ret, ws_retN, ws_drop, ws_pass, ws_bk, ws_ct, ws_if, ws_aug, ws_augI, ws_for, wv_cp, wv_mk, wv_share, wv_move, wv_1, wv_2, wv_A, wa_nil, wa_cons, wa_io, wv_tup, wv_lst, wv_call, wv_if, wv_sl, wv_ixN, wv_mt, wv_mut, wv_and, wv_or, wv_not, wv_lc, wi_arg, wb_q, wb_t, wb_v, wb_and, wb_or, wb_not, wb_yes, wq_var, wq_c, wq_2, wq_1, wq_A, wq_lNil, wq_lCons, wq_sl, wo_none, wo_some, wg_item, wg_set, wg_tup, wg_cons, wg_nil, wR_rb, wR_rp, wO_some, wO_none, wO_bind, wO_map, wO_iteN, look_zero, look_succ, Ed.turn, kIx_lst, kIx_tup, kIx_T, atI_0, atI_1, atI_2, atI_3, atI_4, atI_5, atI_6, atI_cast, ixN_0, ixN_1, ixN_2, ixN_3, asI_int, asB_bl, asS_str, oI_int, cT_true, kAdd_int, kAdd_T, kAdd_lst, kAdd_tup, kInt_int, kInt_bl, kMin_int, kMax_int, kLen_lst, kLen_tup, kLen_T, nOw_at, nOw_tup, nOw_lstF, nOw_own, nOws_nil, nOws_cons, nOws_append, nOws_ints, kEq_int, kNe_int, kEq_T, kNe_T, kEq_bl, kIsN_at, kNotN_at, kIsN_nd, kNotN_nd, kList_lst, kList_tup, kTuple_lst, kAppend_one, kSl_lst, kSl_T, kSl_tup, kRng1_int, kRng2_int, isL_own, frz_at, fok_at, frz_lst, fok_lst, frz_tup, fok_tup, kItL_lst, kItT_tup, kItS_T, kZip_lst, kEnum_lst, hole_none, hole_succ, putB_nil, putB_cons, finD_nil, finD_cons, lowE_nil, lowE_cons, lowS_some, lowS_none, wipeE_nil, wipeE_cons, backE_nil, backE_cons, kMod_int, kGe_int, kIn_T, List.map_cons, List.map_nil, List.length_cons, List.length_nil, List.length_map, List.length_set, List.cons_append, List.nil_append, Nat.reduceAdd, Nat.reduceSub, Nat.reduceLT, Nat.reduceLeDiff, Nat.zero_add, List.replicate_succ, List.replicate_zero, List.set_cons_zero, List.set_cons_succ, List.getElem?_cons_zero, List.getElem?_cons_succ, List.getElem?_nil, true_and, and_true, and_self, if_true, if_false, Bool.false_eq_true, reduceIte, List.mem_cons, List.not_mem_nil, or_false, false_or, reduceCtorEq, Nat.reduceEqDiff, or_self, or_true, true_or, Option.map_some, Option.getD_some, Option.isSome_some, Bool.not_true, Bool.not_false, Bool.and_true, Bool.true_and, Bool.and_eq_true, decide_eq_true_eq, Nat.zero_lt_succ, Nat.lt_add_one, Nat.succ_ne_self, Nat.add_one_ne_zero, not_true_eq_false, not_false_eq_true, wv_frz, shift_nil, shift_cons, Option.bind_some, wv_mutF, wv_mutV, wv_meth, wv_make, wv_callW, ws_setF, wg_un, kFld_obj, setO_obj, mutO_obj, hasL_obj, isO_obj, asL_own, bare_at, frzs_nil, frzs_cons, foks_nil, foks_cons, hc]
      refine ⟨(rcd l).take n, j + 2 + 1, fun pre => stuck_cut (l := l) (j := n) (by omega) (by omega) rfl, fun x hx => rcd_byte hb x (List.mem_of_mem_take hx), by simp; omega, by omega, by omega, rfl, rfl⟩
    · trivial
  rintro ρ rfl
  refine ws_mid (fun ρ => ρ = eB dr (j + 2) l true fu (some (.at (.int p))) none none none) ?_ ?_
  · simp only [ws_asg, ws_ret, ws_retN, ws_drop, ws_pass, ws_bk, ws_ct, ws_if, ws_aug, ws_augI, ws_for, wv_cp, wv_mk, wv_share, wv_move, wv_1, wv_2, wv_A, wa_nil, wa_cons, wa_io, wv_tup, wv_lst, wv_call, wv_if, wv_sl, wv_ixN, wv_mt, wv_mut, wv_and, wv_or, wv_not, wv_lc, wi_arg, wb_q, wb_t, wb_v, wb_and, wb_or, wb_not, wb_yes, wq_var, wq_c, wq_2, wq_1, wq_A, wq_lNil, wq_lCons, wq_sl, wo_none, wo_some, wg_item, wg_set, wg_tup, wg_cons, wg_nil, wR_rb, wR_rp, wO_some, wO_none, wO_bind, wO_map, wO_iteN, look_zero, look_succ, Ed.turn, kIx_lst, kIx_tup, kIx_T, atI_0, atI_1, atI_2, atI_3, atI_4, atI_5, atI_6, atI_cast, ixN_0, ixN_1, ixN_2, ixN_3, asI_int, asB_bl, asS_str, oI_int, cT_true, kAdd_int, kAdd_T, kAdd_lst, kAdd_tup, kInt_int, kInt_bl, kMin_int, kMax_int, kLen_lst, kLen_tup, kLen_T, nOw_at, nOw_tup, nOw_lstF, nOw_own, nOws_nil, nOws_cons, nOws_append, nOws_ints, kEq_int, kNe_int, kEq_T, kNe_T, kEq_bl, kIsN_at, kNotN_at, kIsN_nd, kNotN_nd, kList_lst, kList_tup, kTuple_lst, kAppend_one, kSl_lst, kSl_T, kSl_tup, kRng1_int, kRng2_int, isL_own, frz_at, fok_at, frz_lst, fok_lst, frz_tup, fok_tup, kItL_lst, kItT_tup, kItS_T, kZip_lst, kEnum_lst, hole_none, hole_succ, putB_nil, putB_cons, finD_nil, finD_cons, lowE_nil, lowE_cons, lowS_some, lowS_none, wipeE_nil, wipeE_cons, backE_nil, backE_cons, kMod_int, kGe_int, kIn_T, List.map_cons, List.map_nil, List.length_cons, List.length_nil, List.length_map, List.length_set, List.cons_append, List.nil_append, Nat.reduceAdd, Nat.reduceSub, Nat.reduceLT, Nat.reduceLeDiff, Nat.zero_add, List.replicate_succ, List.replicate_zero, List.set_cons_zero, List.set_cons_succ, List.getElem?_cons_zero, List.getElem?_cons_succ, List.getElem?_nil, true_and, and_true, and_self, if_true, if_false, Bool.false_eq_true, reduceIte, List.mem_cons, List.not_mem_nil, or_false, false_or, reduceCtorEq, Nat.reduceEqDiff, or_self, or_true, true_or, Option.map_some, Option.getD_some, Option.isSome_some, Bool.not_true, Bool.not_false, Bool.and_true, Bool.true_and, Bool.and_eq_true, decide_eq_true_eq, Nat.zero_lt_succ, Nat.lt_add_one, Nat.succ_ne_self, Nat.add_one_ne_zero, not_true_eq_false, not_false_eq_true, wv_frz, shift_nil, shift_cons, Option.bind_some, wv_mutF, wv_mutV, wv_meth, wv_make, wv_callW, ws_setF, wg_un, kFld_obj, setO_obj, mutO_obj, hasL_obj, isO_obj, asL_own, bare_at, frzs_nil, frzs_cons, foks_nil, foks_cons]
    split
    · refine ws_mid (fun ρ => ∃ k : Nat, k < 4 ∧ ρ = eB dr (j + 3) l true fu (some (.at (.int p))) (some (.at (.int (((wn l.length).length + l.length + k : Nat) : Int)))) none none) ?_ ?_
      · simp only [ws_asg, ws_ret, ws_retN, ws_drop, ws_pass, ws_bk, ws_ct, ws_if, ws_aug, ws_augI, ws_for, wv_cp, wv_mk, wv_share, wv_move, wv_1, wv_2, wv_A, wa_nil, wa_cons, wa_io, wv_tup, wv_lst, wv_call, wv_if, wv_sl, wv_ixN, wv_mt, wv_mut, wv_and, wv_or, wv_not, wv_lc, wi_arg, wb_q, wb_t, wb_v, wb_and, wb_or, wb_not, wb_yes, wq_var, wq_c, wq_2, wq_1, wq_A, wq_lNil, wq_lCons, wq_sl, wo_none, wo_some, wg_item, wg_set, wg_tup, wg_cons, wg_nil, wR_rb, wR_rp, wO_some, wO_none, wO_bind, wO_map, wO_iteN, look_zero, look_succ, Ed.turn, kIx_lst, kIx_tup, kIx_T, atI_0, atI_1, atI_2, atI_3, atI_4, atI_5, atI_6, atI_cast, ixN_0, ixN_1, ixN_2, ixN_3, asI_int, asB_bl, asS_str, oI_int, cT_true, kAdd_int, kAdd_T, kAdd_lst, kAdd_tup, kInt_int, kInt_bl, kMin_int, kMax_int, kLen_lst, kLen_tup, kLen_T, nOw_at, nOw_tup, nOw_lstF, nOw_own, nOws_nil, nOws_cons, nOws_append, nOws_ints, kEq_int, kNe_int, kEq_T, kNe_T, kEq_bl, kIsN_at, kNotN_at, kIsN_nd, kNotN_nd, kList_lst, kList_tup, kTuple_lst, kAppend_one, kSl_lst, kSl_T, kSl_tup, kRng1_int, kRng2_int, isL_own, frz_at, fok_at, frz_lst, fok_lst, frz_tup, fok_tup, kItL_lst, kItT_tup, kItS_T, kZip_lst, kEnum_lst, hole_none, hole_succ, putB_nil, putB_cons, finD_nil, finD_cons, lowE_nil, lowE_cons, lowS_some, lowS_none, wipeE_nil, wipeE_cons, backE_nil, backE_cons, kMod_int, kGe_int, kIn_T, List.map_cons, List.map_nil, List.length_cons, List.length_nil, List.length_map, List.length_set, List.cons_append, List.nil_append, Nat.reduceAdd, Nat.reduceSub, Nat.reduceLT, Nat.reduceLeDiff, Nat.zero_add, List.replicate_succ, List.replicate_zero, List.set_cons_zero, List.set_cons_succ, List.getElem?_cons_zero, List.getElem?_cons_succ, List.getElem?_nil, true_and, and_true, and_self, if_true, if_false, Bool.false_eq_true, reduceIte, List.mem_cons, List.not_mem_nil, or_false, false_or, reduceCtorEq, Nat.reduceEqDiff, or_self, or_true, true_or, Option.map_some, Option.getD_some, Option.isSome_some, Bool.not_true, Bool.not_false, Bool.and_true, Bool.true_and, Bool.and_eq_true, decide_eq_true_eq, Nat.zero_lt_succ, Nat.lt_add_one, Nat.succ_ne_self, Nat.add_one_ne_zero, not_true_eq_false, not_false_eq_true, wv_frz, shift_nil, shift_cons, Option.bind_some, wv_mutF, wv_mutV, wv_meth, wv_make, wv_callW, ws_setF, wg_un, kFld_obj, setO_obj, mutO_obj, hasL_obj, isO_obj, asL_own, bare_at, frzs_nil, frzs_cons, foks_nil, foks_cons, kSub_int]
        have hrl2 : (rcd l).length = (wn l.length).length + l.length + 4 := by unfold rcd; simp [tl4]; omega
        refine wD_mono (next_ok hd (by omega) (by omega) (by decide)) ?_ fun _ _ h => h.elim
        rintro _ _ ⟨a, rfl, rfl, a0, a1⟩
        obtain ⟨n, rfl⟩ : ∃ n : Nat, a = n := ⟨a.toNat, by omega⟩
        simp only [ws_asg, ws_ret, ws_retN, ws_drop, ws_pass, ws_bk, ws_ct, ws_if, ws_aug, ws_augI, ws_for, wv_cp, wv_mk, wv_share, wv_move, wv_1, wv_2, wv_A, wa_nil, wa_cons, wa_io, wv_tup, wv_lst, wv_call, wv_if, wv_sl, wv_ixN, wv_mt, wv_mut, wv_and, wv_or, wv_not, wv_lc, wi_arg, wb_q, wb_t, wb_v, wb_and, wb_or, wb_not, wb_yes, wq_var, wq_c, wq_2, wq_1, wq_A, wq_lNil, wq_lCons, wq_sl, wo_none, wo_some, wg_item, wg_set, wg_tup, wg_cons, wg_nil, wR_rb, wR_rp, wO_some, wO_none, wO_bind, wO_map, wO_iteN, look_zero, look_succ, Ed.turn, kIx_lst, kIx_tup, kIx_T, atI_0, atI_1, atI_2, atI_3, atI_4, atI_5, atI_6, atI_cast, ixN_0, ixN_1, ixN_2, ixN_3, asI_int, asB_bl, asS_str, oI_int, cT_true, kAdd_int, kAdd_T, kAdd_lst, kAdd_tup, kInt_int, kInt_bl, kMin_int, kMax_int, kLen_lst, kLen_tup, kLen_T, nOw_at, nOw_tup, nOw_lstF, nOw_own, nOws_nil, nOws_cons, nOws_append, nOws_ints, kEq_int, kNe_int, kEq_T, kNe_T, kEq_bl, kIsN_at, kNotN_at, kIsN_nd, kNotN_nd, kList_lst, kList_tup, kTuple_lst, kAppend_one, kSl_lst, kSl_T, kSl_tup, kRng1_int, kRng2_int, isL_own, frz_at, fok_at, frz_lst, fok_lst, frz_tup, fok_tup, kItL_lst, kItT_tup, kItS_T, kZip_lst, kEnum_lst, hole_none, hole_succ, putB_nil, putB_cons, finD_nil, finD_cons, lowE_nil, lowE_cons, lowS_some, lowS_none, wipeE_nil, wipeE_cons, backE_nil, backE_cons, kMod_int, kGe_int, kIn_T, List.map_cons, List.map_nil, List.length_cons, List.length_nil, List.length_map, List.length_set, List.cons_append, List.nil_append, Nat.reduceAdd, Nat.reduceSub, Nat.reduceLT, Nat.reduceLeDiff, Nat.zero_add, List.replicate_succ, List.replicate_zero, List.set_cons_zero, List.set_cons_succ, List.getElem?_cons_zero, List.getElem?_cons_succ, List.getElem?_nil, true_and, and_true, and_self, if_true, if_false, Bool.false_eq_true, reduceIte, List.mem_cons, List.not_mem_nil, or_false, false_or, reduceCtorEq, Nat.reduceEqDiff, or_self, or_true, true_or, Option.map_some, Option.getD_some, Option.isSome_some, Bool.not_true, Bool.not_false, Bool.and_true, Bool.true_and, Bool.and_eq_true, decide_eq_true_eq, Nat.zero_lt_succ, Nat.lt_add_one, Nat.succ_ne_self, Nat.add_one_ne_zero, not_true_eq_false, not_false_eq_true, wv_frz, shift_nil, shift_cons, Option.bind_some, wv_mutF, wv_mutV, wv_meth, wv_make, wv_callW, ws_setF, wg_un, kFld_obj, setO_obj, mutO_obj, hasL_obj, isO_obj, asL_own, bare_at, frzs_nil, frzs_cons, foks_nil, foks_cons, kSub_int]
        refine ⟨3 - n, by omega, ?_⟩
        rw [show j + 2 + 1 = j + 3 by omega, show ((rcd l).length : Int) - 1 - (n : Int) = (((wn l.length).length + l.length + (3 - n) : Nat) : Int) by omega]
      rintro ρ ⟨k, hk, rfl⟩
      simp only [ws_asg, ws_ret, ws_retN, ws_drop, ws_pass, ws_bk, ws_ct, ws_if, ws_aug, ws_augI, ws_for, wv_cp, wv_mk, wv_share, wv_move, wv_1, wv_2, wv_A, wa_nil, wa_cons, wa_io, wv_tup, wv_lst, wv_call, wv_if, wv_sl, wv_ixN, wv_mt, wv_mut, wv_and, wv_or, wv_not, wv_lc, wi_arg, wb_q, wb_t, wb_v, wb_and, wb_or, wb_not, wb_yes, wq_var, wq_c, wq_2, wq_1, wq_A, wq_lNil, wq_lCons, wq_sl, wo_none, wo_some, wg_item, wg_set, wg_tup, wg_cons, wg_nil, wR_rb, wR_rp, wO_some, wO_none, wO_bind, wO_map, wO_iteN, look_zero, look_succ, Ed.turn, kIx_lst, kIx_tup, kIx_T, atI_0, atI_1, atI_2, atI_3, atI_4, atI_5, atI_6, atI_cast, ixN_0, ixN_1, ixN_2, ixN_3, asI_int, asB_bl, asS_str, oI_int, cT_true, kAdd_int, kAdd_T, kAdd_lst, kAdd_tup, kInt_int, kInt_bl, kMin_int, kMax_int, kLen_lst, kLen_tup, kLen_T, nOw_at, nOw_tup, nOw_lstF, nOw_own, nOws_nil, nOws_cons, nOws_append, nOws_ints, kEq_int, kNe_int, kEq_T, kNe_T, kEq_bl, kIsN_at, kNotN_at, kIsN_nd, kNotN_nd, kList_lst, kList_tup, kTuple_lst, kAppend_one, kSl_lst, kSl_T, kSl_tup, kRng1_int, kRng2_int, isL_own, frz_at, fok_at, frz_lst, fok_lst, frz_tup, fok_tup, kItL_lst, kItT_tup, kItS_T, kZip_lst, kEnum_lst, hole_none, hole_succ, putB_nil, putB_cons, finD_nil, finD_cons, lowE_nil, lowE_cons, lowS_some, lowS_none, wipeE_nil, wipeE_cons, backE_nil, backE_cons, kMod_int, kGe_int, kIn_T, List.map_cons, List.map_nil, List.length_cons, List.length_nil, List.length_map, List.length_set, List.cons_append, List.nil_append, Nat.reduceAdd, Nat.reduceSub, Nat.reduceLT, Nat.reduceLeDiff, Nat.zero_add, List.replicate_succ, List.replicate_zero, List.set_cons_zero, List.set_cons_succ, List.getElem?_cons_zero, List.getElem?_cons_succ, List.getElem?_nil, true_and, and_true, and_self, if_true, if_false, Bool.false_eq_true, reduceIte, List.mem_cons, List.not_mem_nil, or_false, false_or, reduceCtorEq, Nat.reduceEqDiff, or_self, or_true, true_or, Option.map_some, Option.getD_some, Option.isSome_some, Bool.not_true, Bool.not_false, Bool.and_true, Bool.true_and, Bool.and_eq_true, decide_eq_true_eq, Nat.zero_lt_succ, Nat.lt_add_one, Nat.succ_ne_self, Nat.add_one_ne_zero, not_true_eq_false, not_false_eq_true, wv_frz, shift_nil, shift_cons, Option.bind_some, wv_mutF, wv_mutV, wv_meth, wv_make, wv_callW, ws_setF, wg_un, kFld_obj, setO_obj, mutO_obj, hasL_obj, isO_obj, asL_own, bare_at, frzs_nil, frzs_cons, foks_nil, foks_cons, nOws_I, foks_I, frzs_I]
      have hrl2 : (rcd l).length = (wn l.length).length + l.length + 4 := by unfold rcd; simp [tl4]; omega
      generalize ha : (wn l.length).length + l.length + k = at'
      have hat : at' < (rcd l).length := by omega
      have hby := rcd_byte hb (rcd l)[at'] (List.getElem_mem hat)
      rw [List.getElem?_map, List.getElem?_eq_getElem hat]
      simp only [ws_asg, ws_ret, ws_retN, ws_drop, ws_pass, ws_bk, ws_ct, ws_if, ws_aug, ws_augI, ws_for, wv_cp, wv_mk, wv_share, wv_move, wv_1, wv_2, wv_A, wa_nil, wa_cons, wa_io, wv_tup, wv_lst, wv_call, wv_if, wv_sl, wv_ixN, wv_mt, wv_mut, wv_and, wv_or, wv_not, wv_lc, wi_arg, wb_q, wb_t, wb_v, wb_and, wb_or, wb_not, wb_yes, wq_var, wq_c, wq_2, wq_1, wq_A, wq_lNil, wq_lCons, wq_sl, wo_none, wo_some, wg_item, wg_set, wg_tup, wg_cons, wg_nil, wR_rb, wR_rp, wO_some, wO_none, wO_bind, wO_map, wO_iteN, look_zero, look_succ, Ed.turn, kIx_lst, kIx_tup, kIx_T, atI_0, atI_1, atI_2, atI_3, atI_4, atI_5, atI_6, atI_cast, ixN_0, ixN_1, ixN_2, ixN_3, asI_int, asB_bl, asS_str, oI_int, cT_true, kAdd_int, kAdd_T, kAdd_lst, kAdd_tup, kInt_int, kInt_bl, kMin_int, kMax_int, kLen_lst, kLen_tup, kLen_T, nOw_at, nOw_tup, nOw_lstF, nOw_own, nOws_nil, nOws_cons, nOws_append, nOws_ints, kEq_int, kNe_int, kEq_T, kNe_T, kEq_bl, kIsN_at, kNotN_at, kIsN_nd, kNotN_nd, kList_lst, kList_tup, kTuple_lst, kAppend_one, kSl_lst, kSl_T, kSl_tup, kRng1_int, kRng2_int, isL_own, frz_at, fok_at, frz_lst, fok_lst, frz_tup, fok_tup, kItL_lst, kItT_tup, kItS_T, kZip_lst, kEnum_lst, hole_none, hole_succ, putB_nil, putB_cons, finD_nil, finD_cons, lowE_nil, lowE_cons, lowS_some, lowS_none, wipeE_nil, wipeE_cons, backE_nil, backE_cons, kMod_int, kGe_int, kIn_T, List.map_cons, List.map_nil, List.length_cons, List.length_nil, List.length_map, List.length_set, List.cons_append, List.nil_append, Nat.reduceAdd, Nat.reduceSub, Nat.reduceLT, Nat.reduceLeDiff, Nat.zero_add, List.replicate_succ, List.replicate_zero, List.set_cons_zero, List.set_cons_succ, List.getElem?_cons_zero, List.getElem?_cons_succ, List.getElem?_nil, true_and, and_true, and_self, if_true, if_false, Bool.false_eq_true, reduceIte, List.mem_cons, List.not_mem_nil, or_false, false_or, reduceCtorEq, Nat.reduceEqDiff, or_self, or_true, true_or, Option.map_some, Option.getD_some, Option.isSome_some, Bool.not_true, Bool.not_false, Bool.and_true, Bool.true_and, Bool.and_eq_true, decide_eq_true_eq, Nat.zero_lt_succ, Nat.lt_add_one, Nat.succ_ne_self, Nat.add_one_ne_zero, not_true_eq_false, not_false_eq_true, wv_frz, shift_nil, shift_cons, Option.bind_some, wv_mutF, wv_mutV, wv_meth, wv_make, wv_callW, ws_setF, wg_un, kFld_obj, setO_obj, mutO_obj, hasL_obj, isO_obj, asL_own, bare_at, frzs_nil, frzs_cons, foks_nil, foks_cons]
      refine wD_mono (next_ok hd (by omega) (by omega) (by decide)) ?_ fun _ _ h => h.elim
      rintro _ _ ⟨w, rfl, rfl, w0, w1⟩
      have hy := new_byte hby.1 hby.2 w0 w1
      rw [show ((at' : Nat) : Int) + 1 = ((at' + 1 : Nat) : Int) by omega, cut_to, cut_from]
      simp only [ws_asg, ws_ret, ws_retN, ws_drop, ws_pass, ws_bk, ws_ct, ws_if, ws_aug, ws_augI, ws_for, wv_cp, wv_mk, wv_share, wv_move, wv_1, wv_2, wv_A, wa_nil, wa_cons, wa_io, wv_tup, wv_lst, wv_call, wv_if, wv_sl, wv_ixN, wv_mt, wv_mut, wv_and, wv_or, wv_not, wv_lc, wi_arg, wb_q, wb_t, wb_v, wb_and, wb_or, wb_not, wb_yes, wq_var, wq_c, wq_2, wq_1, wq_A, wq_lNil, wq_lCons, wq_sl, wo_none, wo_some, wg_item, wg_set, wg_tup, wg_cons, wg_nil, wR_rb, wR_rp, wO_some, wO_none, wO_bind, wO_map, wO_iteN, look_zero, look_succ, Ed.turn, kIx_lst, kIx_tup, kIx_T, atI_0, atI_1, atI_2, atI_3, atI_4, atI_5, atI_6, atI_cast, ixN_0, ixN_1, ixN_2, ixN_3, asI_int, asB_bl, asS_str, oI_int, cT_true, kAdd_int, kAdd_T, kAdd_lst, kAdd_tup, kInt_int, kInt_bl, kMin_int, kMax_int, kLen_lst, kLen_tup, kLen_T, nOw_at, nOw_tup, nOw_lstF, nOw_own, nOws_nil, nOws_cons, nOws_append, nOws_ints, kEq_int, kNe_int, kEq_T, kNe_T, kEq_bl, kIsN_at, kNotN_at, kIsN_nd, kNotN_nd, kList_lst, kList_tup, kTuple_lst, kAppend_one, kSl_lst, kSl_T, kSl_tup, kRng1_int, kRng2_int, isL_own, frz_at, fok_at, frz_lst, fok_lst, frz_tup, fok_tup, kItL_lst, kItT_tup, kItS_T, kZip_lst, kEnum_lst, hole_none, hole_succ, putB_nil, putB_cons, finD_nil, finD_cons, lowE_nil, lowE_cons, lowS_some, lowS_none, wipeE_nil, wipeE_cons, backE_nil, backE_cons, kMod_int, kGe_int, kIn_T, List.map_cons, List.map_nil, List.length_cons, List.length_nil, List.length_map, List.length_set, List.cons_append, List.nil_append, Nat.reduceAdd, Nat.reduceSub, Nat.reduceLT, Nat.reduceLeDiff, Nat.zero_add, List.replicate_succ, List.replicate_zero, List.set_cons_zero, List.set_cons_succ, List.getElem?_cons_zero, List.getElem?_cons_succ, List.getElem?_nil, true_and, and_true, and_self, if_true, if_false, Bool.false_eq_true, reduceIte, List.mem_cons, List.not_mem_nil, or_false, false_or, reduceCtorEq, Nat.reduceEqDiff, or_self, or_true, true_or, Option.map_some, Option.getD_some, Option.isSome_some, Bool.not_true, Bool.not_false, Bool.and_true, Bool.true_and, Bool.and_eq_true, decide_eq_true_eq, Nat.zero_lt_succ, Nat.lt_add_one, Nat.succ_ne_self, Nat.add_one_ne_zero, not_true_eq_false, not_false_eq_true, wv_frz, shift_nil, shift_cons, Option.bind_some, wv_mutF, wv_mutV, wv_meth, wv_make, wv_callW, ws_setF, wg_un, kFld_obj, setO_obj, mutO_obj, hasL_obj, isO_obj, asL_own, bare_at, frzs_nil, frzs_cons, foks_nil, foks_cons, nOws_I]
      generalize hyy : ((rcd l)[at'] + 1 + w) % 256 = y at hy
      have hset : (rcd l).set at' y = wn l.length ++ (l ++ (tl4 (cs l)).set k y) := by
        unfold rcd
        rw [List.set_append_right _ _ (by rw [List.length_append]; omega), List.length_append, ← ha, Nat.add_sub_cancel_left, List.append_assoc]
      have hke : (rcd l)[at'] = (tl4 (cs l))[k]'(by rw [tl4_len]; exact hk) := by
        have hq : (rcd l)[at']? = (tl4 (cs l))[k]? := by
          unfold rcd
          rw [List.getElem?_append_right (by rw [List.length_append]; omega)]
          congr 1
          rw [List.length_append]
          omega
        rw [List.getElem?_eq_getElem hat, List.getElem?_eq_getElem (by rw [tl4_len]; exact hk)] at hq
        exact Option.some.inj hq
      refine ⟨cMod_of (by decide), by decide, by simp [sizeLine]; omega, by simp [sizeLine]; omega, by simp [sizeLine]; omega, (rcd l).set at' y ++ fu, j + 3 + 1, fun pre => ?_, ?_, by simp; omega, by omega, by omega, ?_, rfl⟩
      · rw [hset, List.append_assoc, List.append_assoc]
        exact stuck_tail (by omega) (by rw [tl4_len]; exact hk) (by rw [← hke]; exact hy.2.2)
      · intro z hz
        rcases List.mem_append.mp hz with hz | hz
        · rcases List.mem_or_eq_of_mem_set hz with hz | rfl
          · exact rcd_byte hb z hz
          · exact ⟨hy.1, hy.2.1⟩
        · exact hfb z hz
      · rw [← set_parts hat]
        simp
    · trivial
  rintro ρ rfl
  refine ws_mid (fun ρ => ρ = eB dr (j + 2) l true fu (some (.at (.int p))) none none none) ?_ ?_
  · simp only [ws_asg, ws_ret, ws_retN, ws_drop, ws_pass, ws_bk, ws_ct, ws_if, ws_aug, ws_augI, ws_for, wv_cp, wv_mk, wv_share, wv_move, wv_1, wv_2, wv_A, wa_nil, wa_cons, wa_io, wv_tup, wv_lst, wv_call, wv_if, wv_sl, wv_ixN, wv_mt, wv_mut, wv_and, wv_or, wv_not, wv_lc, wi_arg, wb_q, wb_t, wb_v, wb_and, wb_or, wb_not, wb_yes, wq_var, wq_c, wq_2, wq_1, wq_A, wq_lNil, wq_lCons, wq_sl, wo_none, wo_some, wg_item, wg_set, wg_tup, wg_cons, wg_nil, wR_rb, wR_rp, wO_some, wO_none, wO_bind, wO_map, wO_iteN, look_zero, look_succ, Ed.turn, kIx_lst, kIx_tup, kIx_T, atI_0, atI_1, atI_2, atI_3, atI_4, atI_5, atI_6, atI_cast, ixN_0, ixN_1, ixN_2, ixN_3, asI_int, asB_bl, asS_str, oI_int, cT_true, kAdd_int, kAdd_T, kAdd_lst, kAdd_tup, kInt_int, kInt_bl, kMin_int, kMax_int, kLen_lst, kLen_tup, kLen_T, nOw_at, nOw_tup, nOw_lstF, nOw_own, nOws_nil, nOws_cons, nOws_append, nOws_ints, kEq_int, kNe_int, kEq_T, kNe_T, kEq_bl, kIsN_at, kNotN_at, kIsN_nd, kNotN_nd, kList_lst, kList_tup, kTuple_lst, kAppend_one, kSl_lst, kSl_T, kSl_tup, kRng1_int, kRng2_int, isL_own, frz_at, fok_at, frz_lst, fok_lst, frz_tup, fok_tup, kItL_lst, kItT_tup, kItS_T, kZip_lst, kEnum_lst, hole_none, hole_succ, putB_nil, putB_cons, finD_nil, finD_cons, lowE_nil, lowE_cons, lowS_some, lowS_none, wipeE_nil, wipeE_cons, backE_nil, backE_cons, kMod_int, kGe_int, kIn_T, List.map_cons, List.map_nil, List.length_cons, List.length_nil, List.length_map, List.length_set, List.cons_append, List.nil_append, Nat.reduceAdd, Nat.reduceSub, Nat.reduceLT, Nat.reduceLeDiff, Nat.zero_add, List.replicate_succ, List.replicate_zero, List.set_cons_zero, List.set_cons_succ, List.getElem?_cons_zero, List.getElem?_cons_succ, List.getElem?_nil, true_and, and_true, and_self, if_true, if_false, Bool.false_eq_true, reduceIte, List.mem_cons, List.not_mem_nil, or_false, false_or, reduceCtorEq, Nat.reduceEqDiff, or_self, or_true, true_or, Option.map_some, Option.getD_some, Option.isSome_some, Bool.not_true, Bool.not_false, Bool.and_true, Bool.true_and, Bool.and_eq_true, decide_eq_true_eq, Nat.zero_lt_succ, Nat.lt_add_one, Nat.succ_ne_self, Nat.add_one_ne_zero, not_true_eq_false, not_false_eq_true, wv_frz, shift_nil, shift_cons, Option.bind_some, wv_mutF, wv_mutV, wv_meth, wv_make, wv_callW, ws_setF, wg_un, kFld_obj, setO_obj, mutO_obj, hasL_obj, isO_obj, asL_own, bare_at, frzs_nil, frzs_cons, foks_nil, foks_cons, kGt_int]
    split
    · split
      · rename_i hlp
        have hlp : 0 < l.length := by omega
        refine ws_mid (fun ρ => ∃ k : Nat, k < l.length ∧ ρ = eB dr (j + 3) l true fu (some (.at (.int p))) (some (.at (.int (((wn l.length).length + k : Nat) : Int)))) none none) ?_ ?_
        · simp only [ws_asg, ws_ret, ws_retN, ws_drop, ws_pass, ws_bk, ws_ct, ws_if, ws_aug, ws_augI, ws_for, wv_cp, wv_mk, wv_share, wv_move, wv_1, wv_2, wv_A, wa_nil, wa_cons, wa_io, wv_tup, wv_lst, wv_call, wv_if, wv_sl, wv_ixN, wv_mt, wv_mut, wv_and, wv_or, wv_not, wv_lc, wi_arg, wb_q, wb_t, wb_v, wb_and, wb_or, wb_not, wb_yes, wq_var, wq_c, wq_2, wq_1, wq_A, wq_lNil, wq_lCons, wq_sl, wo_none, wo_some, wg_item, wg_set, wg_tup, wg_cons, wg_nil, wR_rb, wR_rp, wO_some, wO_none, wO_bind, wO_map, wO_iteN, look_zero, look_succ, Ed.turn, kIx_lst, kIx_tup, kIx_T, atI_0, atI_1, atI_2, atI_3, atI_4, atI_5, atI_6, atI_cast, ixN_0, ixN_1, ixN_2, ixN_3, asI_int, asB_bl, asS_str, oI_int, cT_true, kAdd_int, kAdd_T, kAdd_lst, kAdd_tup, kInt_int, kInt_bl, kMin_int, kMax_int, kLen_lst, kLen_tup, kLen_T, nOw_at, nOw_tup, nOw_lstF, nOw_own, nOws_nil, nOws_cons, nOws_append, nOws_ints, kEq_int, kNe_int, kEq_T, kNe_T, kEq_bl, kIsN_at, kNotN_at, kIsN_nd, kNotN_nd, kList_lst, kList_tup, kTuple_lst, kAppend_one, kSl_lst, kSl_T, kSl_tup, kRng1_int, kRng2_int, isL_own, frz_at, fok_at, frz_lst, fok_lst, frz_tup, fok_tup, kItL_lst, kItT_tup, kItS_T, kZip_lst, kEnum_lst, hole_none, hole_succ, putB_nil, putB_cons, finD_nil, finD_cons, lowE_nil, lowE_cons, lowS_some, lowS_none, wipeE_nil, wipeE_cons, backE_nil, backE_cons, kMod_int, kGe_int, kIn_T, List.map_cons, List.map_nil, List.length_cons, List.length_nil, List.length_map, List.length_set, List.cons_append, List.nil_append, Nat.reduceAdd, Nat.reduceSub, Nat.reduceLT, Nat.reduceLeDiff, Nat.zero_add, List.replicate_succ, List.replicate_zero, List.set_cons_zero, List.set_cons_succ, List.getElem?_cons_zero, List.getElem?_cons_succ, List.getElem?_nil, true_and, and_true, and_self, if_true, if_false, Bool.false_eq_true, reduceIte, List.mem_cons, List.not_mem_nil, or_false, false_or, reduceCtorEq, Nat.reduceEqDiff, or_self, or_true, true_or, Option.map_some, Option.getD_some, Option.isSome_some, Bool.not_true, Bool.not_false, Bool.and_true, Bool.true_and, Bool.and_eq_true, decide_eq_true_eq, Nat.zero_lt_succ, Nat.lt_add_one, Nat.succ_ne_self, Nat.add_one_ne_zero, not_true_eq_false, not_false_eq_true, wv_frz, shift_nil, shift_cons, Option.bind_some, wv_mutF, wv_mutV, wv_meth, wv_make, wv_callW, ws_setF, wg_un, kFld_obj, setO_obj, mutO_obj, hasL_obj, isO_obj, asL_own, bare_at, frzs_nil, frzs_cons, foks_nil, foks_cons, kSub_int]
          have hrl2 : (rcd l).length = (wn l.length).length + l.length + 4 := by unfold rcd; simp [tl4]; omega
          refine wD_mono (next_ok hd (by omega) (by omega) (by omega)) ?_ fun _ _ h => h.elim
          rintro _ _ ⟨a, rfl, rfl, a0, a1⟩
          obtain ⟨n, rfl⟩ : ∃ n : Nat, a = n := ⟨a.toNat, by omega⟩
          simp only [ws_asg, ws_ret, ws_retN, ws_drop, ws_pass, ws_bk, ws_ct, ws_if, ws_aug, ws_augI, ws_for, wv_cp, wv_mk, wv_share, wv_move, wv_1, wv_2, wv_A, wa_nil, wa_cons, wa_io, wv_tup, wv_lst, wv_call, wv_if, wv_sl, wv_ixN, wv_mt, wv_mut, wv_and, wv_or, wv_not, wv_lc, wi_arg, wb_q, wb_t, wb_v, wb_and, wb_or, wb_not, wb_yes, wq_var, wq_c, wq_2, wq_1, wq_A, wq_lNil, wq_lCons, wq_sl, wo_none, wo_some, wg_item, wg_set, wg_tup, wg_cons, wg_nil, wR_rb, wR_rp, wO_some, wO_none, wO_bind, wO_map, wO_iteN, look_zero, look_succ, Ed.turn, kIx_lst, kIx_tup, kIx_T, atI_0, atI_1, atI_2, atI_3, atI_4, atI_5, atI_6, atI_cast, ixN_0, ixN_1, ixN_2, ixN_3, asI_int, asB_bl, asS_str, oI_int, cT_true, kAdd_int, kAdd_T, kAdd_lst, kAdd_tup, kInt_int, kInt_bl, kMin_int, kMax_int, kLen_lst, kLen_tup, kLen_T, nOw_at, nOw_tup, nOw_lstF, nOw_own, nOws_nil, nOws_cons, nOws_append, nOws_ints, kEq_int, kNe_int, kEq_T, kNe_T, kEq_bl, kIsN_at, kNotN_at, kIsN_nd, kNotN_nd, kList_lst, kList_tup, kTuple_lst, kAppend_one, kSl_lst, kSl_T, kSl_tup, kRng1_int, kRng2_int, isL_own, frz_at, fok_at, frz_lst, fok_lst, frz_tup, fok_tup, kItL_lst, kItT_tup, kItS_T, kZip_lst, kEnum_lst, hole_none, hole_succ, putB_nil, putB_cons, finD_nil, finD_cons, lowE_nil, lowE_cons, lowS_some, lowS_none, wipeE_nil, wipeE_cons, backE_nil, backE_cons, kMod_int, kGe_int, kIn_T, List.map_cons, List.map_nil, List.length_cons, List.length_nil, List.length_map, List.length_set, List.cons_append, List.nil_append, Nat.reduceAdd, Nat.reduceSub, Nat.reduceLT, Nat.reduceLeDiff, Nat.zero_add, List.replicate_succ, List.replicate_zero, List.set_cons_zero, List.set_cons_succ, List.getElem?_cons_zero, List.getElem?_cons_succ, List.getElem?_nil, true_and, and_true, and_self, if_true, if_false, Bool.false_eq_true, reduceIte, List.mem_cons, List.not_mem_nil, or_false, false_or, reduceCtorEq, Nat.reduceEqDiff, or_self, or_true, true_or, Option.map_some, Option.getD_some, Option.isSome_some, Bool.not_true, Bool.not_false, Bool.and_true, Bool.true_and, Bool.and_eq_true, decide_eq_true_eq, Nat.zero_lt_succ, Nat.lt_add_one, Nat.succ_ne_self, Nat.add_one_ne_zero, not_true_eq_false, not_false_eq_true, wv_frz, shift_nil, shift_cons, Option.bind_some, wv_mutF, wv_mutV, wv_meth, wv_make, wv_callW, ws_setF, wg_un, kFld_obj, setO_obj, mutO_obj, hasL_obj, isO_obj, asL_own, bare_at, frzs_nil, frzs_cons, foks_nil, foks_cons, kSub_int]
          refine ⟨l.length - 1 - n, by omega, ?_⟩
          rw [show j + 2 + 1 = j + 3 by omega, show ((rcd l).length : Int) - 5 - (n : Int) = (((wn l.length).length + (l.length - 1 - n) : Nat) : Int) by omega]
        rintro ρ ⟨k, hk, rfl⟩
        simp only [ws_asg, ws_ret, ws_retN, ws_drop, ws_pass, ws_bk, ws_ct, ws_if, ws_aug, ws_augI, ws_for, wv_cp, wv_mk, wv_share, wv_move, wv_1, wv_2, wv_A, wa_nil, wa_cons, wa_io, wv_tup, wv_lst, wv_call, wv_if, wv_sl, wv_ixN, wv_mt, wv_mut, wv_and, wv_or, wv_not, wv_lc, wi_arg, wb_q, wb_t, wb_v, wb_and, wb_or, wb_not, wb_yes, wq_var, wq_c, wq_2, wq_1, wq_A, wq_lNil, wq_lCons, wq_sl, wo_none, wo_some, wg_item, wg_set, wg_tup, wg_cons, wg_nil, wR_rb, wR_rp, wO_some, wO_none, wO_bind, wO_map, wO_iteN, look_zero, look_succ, Ed.turn, kIx_lst, kIx_tup, kIx_T, atI_0, atI_1, atI_2, atI_3, atI_4, atI_5, atI_6, atI_cast, ixN_0, ixN_1, ixN_2, ixN_3, asI_int, asB_bl, asS_str, oI_int, cT_true, kAdd_int, kAdd_T, kAdd_lst, kAdd_tup, kInt_int, kInt_bl, kMin_int, kMax_int, kLen_lst, kLen_tup, kLen_T, nOw_at, nOw_tup, nOw_lstF, nOw_own, nOws_nil, nOws_cons, nOws_append, nOws_ints, kEq_int, kNe_int, kEq_T, kNe_T, kEq_bl, kIsN_at, kNotN_at, kIsN_nd, kNotN_nd, kList_lst, kList_tup, kTuple_lst, kAppend_one, kSl_lst, kSl_T, kSl_tup, kRng1_int, kRng2_int, isL_own, frz_at, fok_at, frz_lst, fok_lst, frz_tup, fok_tup, kItL_lst, kItT_tup, kItS_T, kZip_lst, kEnum_lst, hole_none, hole_succ, putB_nil, putB_cons, finD_nil, finD_cons, lowE_nil, lowE_cons, lowS_some, lowS_none, wipeE_nil, wipeE_cons, backE_nil, backE_cons, kMod_int, kGe_int, kIn_T, List.map_cons, List.map_nil, List.length_cons, List.length_nil, List.length_map, List.length_set, List.cons_append, List.nil_append, Nat.reduceAdd, Nat.reduceSub, Nat.reduceLT, Nat.reduceLeDiff, Nat.zero_add, List.replicate_succ, List.replicate_zero, List.set_cons_zero, List.set_cons_succ, List.getElem?_cons_zero, List.getElem?_cons_succ, List.getElem?_nil, true_and, and_true, and_self, if_true, if_false, Bool.false_eq_true, reduceIte, List.mem_cons, List.not_mem_nil, or_false, false_or, reduceCtorEq, Nat.reduceEqDiff, or_self, or_true, true_or, Option.map_some, Option.getD_some, Option.isSome_some, Bool.not_true, Bool.not_false, Bool.and_true, Bool.true_and, Bool.and_eq_true, decide_eq_true_eq, Nat.zero_lt_succ, Nat.lt_add_one, Nat.succ_ne_self, Nat.add_one_ne_zero, not_true_eq_false, not_false_eq_true, wv_frz, shift_nil, shift_cons, Option.bind_some, wv_mutF, wv_mutV, wv_meth, wv_make, wv_callW, ws_setF, wg_un, kFld_obj, setO_obj, mutO_obj, hasL_obj, isO_obj, asL_own, bare_at, frzs_nil, frzs_cons, foks_nil, foks_cons, nOws_I, foks_I, frzs_I]
        have hrl2 : (rcd l).length = (wn l.length).length + l.length + 4 := by unfold rcd; simp [tl4]; omega
        generalize ha : (wn l.length).length + k = at'
        have hat : at' < (rcd l).length := by omega
        have hby := rcd_byte hb (rcd l)[at'] (List.getElem_mem hat)
        rw [List.getElem?_map, List.getElem?_eq_getElem hat]
        simp only [ws_asg, ws_ret, ws_retN, ws_drop, ws_pass, ws_bk, ws_ct, ws_if, ws_aug, ws_augI, ws_for, wv_cp, wv_mk, wv_share, wv_move, wv_1, wv_2, wv_A, wa_nil, wa_cons, wa_io, wv_tup, wv_lst, wv_call, wv_if, wv_sl, wv_ixN, wv_mt, wv_mut, wv_and, wv_or, wv_not, wv_lc, wi_arg, wb_q, wb_t, wb_v, wb_and, wb_or, wb_not, wb_yes, wq_var, wq_c, wq_2, wq_1, wq_A, wq_lNil, wq_lCons, wq_sl, wo_none, wo_some, wg_item, wg_set, wg_tup, wg_cons, wg_nil, wR_rb, wR_rp, wO_some, wO_none, wO_bind, wO_map, wO_iteN, look_zero, look_succ, Ed.turn, kIx_lst, kIx_tup, kIx_T, atI_0, atI_1, atI_2, atI_3, atI_4, atI_5, atI_6, atI_cast, ixN_0, ixN_1, ixN_2, ixN_3, asI_int, asB_bl, asS_str, oI_int, cT_true, kAdd_int, kAdd_T, kAdd_lst, kAdd_tup, kInt_int, kInt_bl, kMin_int, kMax_int, kLen_lst, kLen_tup, kLen_T, nOw_at, nOw_tup, nOw_lstF, nOw_own, nOws_nil, nOws_cons, nOws_append, nOws_ints, kEq_int, kNe_int, kEq_T, kNe_T, kEq_bl, kIsN_at, kNotN_at, kIsN_nd, kNotN_nd, kList_lst, kList_tup, kTuple_lst, kAppend_one, kSl_lst, kSl_T, kSl_tup, kRng1_int, kRng2_int, isL_own, frz_at, fok_at, frz_lst, fok_lst, frz_tup, fok_tup, kItL_lst, kItT_tup, kItS_T, kZip_lst, kEnum_lst, hole_none, hole_succ, putB_nil, putB_cons, finD_nil, finD_cons, lowE_nil, lowE_cons, lowS_some, lowS_none, wipeE_nil, wipeE_cons, backE_nil, backE_cons, kMod_int, kGe_int, kIn_T, List.map_cons, List.map_nil, List.length_cons, List.length_nil, List.length_map, List.length_set, List.cons_append, List.nil_append, Nat.reduceAdd, Nat.reduceSub, Nat.reduceLT, Nat.reduceLeDiff, Nat.zero_add, List.replicate_succ, List.replicate_zero, List.set_cons_zero, List.set_cons_succ, List.getElem?_cons_zero, List.getElem?_cons_succ, List.getElem?_nil, true_and, and_true, and_self, if_true, if_false, Bool.false_eq_true, reduceIte, List.mem_cons, List.not_mem_nil, or_false, false_or, reduceCtorEq, Nat.reduceEqDiff, or_self, or_true, true_or, Option.map_some, Option.getD_some, Option.isSome_some, Bool.not_true, Bool.not_false, Bool.and_true, Bool.true_and, Bool.and_eq_true, decide_eq_true_eq, Nat.zero_lt_succ, Nat.lt_add_one, Nat.succ_ne_self, Nat.add_one_ne_zero, not_true_eq_false, not_false_eq_true, wv_frz, shift_nil, shift_cons, Option.bind_some, wv_mutF, wv_mutV, wv_meth, wv_make, wv_callW, ws_setF, wg_un, kFld_obj, setO_obj, mutO_obj, hasL_obj, isO_obj, asL_own, bare_at, frzs_nil, frzs_cons, foks_nil, foks_cons]
        refine wD_mono (next_ok hd (by omega) (by omega) (by decide)) ?_ fun _ _ h => h.elim
        rintro _ _ ⟨w, rfl, rfl, w0, w1⟩
        have hy := new_byte hby.1 hby.2 w0 w1
        rw [show ((at' : Nat) : Int) + 1 = ((at' + 1 : Nat) : Int) by omega, cut_to, cut_from]
        simp only [ws_asg, ws_ret, ws_retN, ws_drop, ws_pass, ws_bk, ws_ct, ws_if, ws_aug, ws_augI, ws_for, wv_cp, wv_mk, wv_share, wv_move, wv_1, wv_2, wv_A, wa_nil, wa_cons, wa_io, wv_tup, wv_lst, wv_call, wv_if, wv_sl, wv_ixN, wv_mt, wv_mut, wv_and, wv_or, wv_not, wv_lc, wi_arg, wb_q, wb_t, wb_v, wb_and, wb_or, wb_not, wb_yes, wq_var, wq_c, wq_2, wq_1, wq_A, wq_lNil, wq_lCons, wq_sl, wo_none, wo_some, wg_item, wg_set, wg_tup, wg_cons, wg_nil, wR_rb, wR_rp, wO_some, wO_none, wO_bind, wO_map, wO_iteN, look_zero, look_succ, Ed.turn, kIx_lst, kIx_tup, kIx_T, atI_0, atI_1, atI_2, atI_3, atI_4, atI_5, atI_6, atI_cast, ixN_0, ixN_1, ixN_2, ixN_3, asI_int, asB_bl, asS_str, oI_int, cT_true, kAdd_int, kAdd_T, kAdd_lst, kAdd_tup, kInt_int, kInt_bl, kMin_int, kMax_int, kLen_lst, kLen_tup, kLen_T, nOw_at, nOw_tup, nOw_lstF, nOw_own, nOws_nil, nOws_cons, nOws_append, nOws_ints, kEq_int, kNe_int, kEq_T, kNe_T, kEq_bl, kIsN_at, kNotN_at, kIsN_nd, kNotN_nd, kList_lst, kList_tup, kTuple_lst, kAppend_one, kSl_lst, kSl_T, kSl_tup, kRng1_int, kRng2_int, isL_own, frz_at, fok_at, frz_lst, fok_lst, frz_tup, fok_tup, kItL_lst, kItT_tup, kItS_T, kZip_lst, kEnum_lst, hole_none, hole_succ, putB_nil, putB_cons, finD_nil, finD_cons, lowE_nil, lowE_cons, lowS_some, lowS_none, wipeE_nil, wipeE_cons, backE_nil, backE_cons, kMod_int, kGe_int, kIn_T, List.map_cons, List.map_nil, List.length_cons, List.length_nil, List.length_map, List.length_set, List.cons_append, List.nil_append, Nat.reduceAdd, Nat.reduceSub, Nat.reduceLT, Nat.reduceLeDiff, Nat.zero_add, List.replicate_succ, List.replicate_zero, List.set_cons_zero, List.set_cons_succ, List.getElem?_cons_zero, List.getElem?_cons_succ, List.getElem?_nil, true_and, and_true, and_self, if_true, if_false, Bool.false_eq_true, reduceIte, List.mem_cons, List.not_mem_nil, or_false, false_or, reduceCtorEq, Nat.reduceEqDiff, or_self, or_true, true_or, Option.map_some, Option.getD_some, Option.isSome_some, Bool.not_true, Bool.not_false, Bool.and_true, Bool.true_and, Bool.and_eq_true, decide_eq_true_eq, Nat.zero_lt_succ, Nat.lt_add_one, Nat.succ_ne_self, Nat.add_one_ne_zero, not_true_eq_false, not_false_eq_true, wv_frz, shift_nil, shift_cons, Option.bind_some, wv_mutF, wv_mutV, wv_meth, wv_make, wv_callW, ws_setF, wg_un, kFld_obj, setO_obj, mutO_obj, hasL_obj, isO_obj, asL_own, bare_at, frzs_nil, frzs_cons, foks_nil, foks_cons, nOws_I]
        generalize hyy : ((rcd l)[at'] + 1 + w) % 256 = y at hy
        have hke : (rcd l)[at'] = l[k] := by
          have hq : (rcd l)[at']? = l[k]? := by
            unfold rcd
            rw [List.append_assoc, List.getElem?_append_right (by omega), List.getElem?_append_left (by omega)]
            congr 1
            omega
          rw [List.getElem?_eq_getElem hat, List.getElem?_eq_getElem hk] at hq
          exact Option.some.inj hq
        have hsp : l = l.take k ++ l[k] :: l.drop (k + 1) := by rw [List.getElem_cons_drop, List.take_append_drop]
        have hset : (rcd l).set at' y = wn l.length ++ ((l.take k ++ y :: l.drop (k + 1)) ++ tl4 (cs l)) := by
          unfold rcd
          rw [List.append_assoc, List.set_append_right _ _ (by omega), List.set_append_left _ _ (by omega), set_parts hk, ← ha, Nat.add_sub_cancel_left]
        refine ⟨cMod_of (by decide), by decide, by simp [sizeLine]; omega, by simp [sizeLine]; omega, by simp [sizeLine]; omega, (rcd l).set at' y ++ fu, j + 3 + 1, fun pre => ?_, ?_, by simp; omega, by omega, by omega, ?_, rfl⟩
        · rw [hset, List.append_assoc, List.append_assoc]
          have hbk := hb l[k] (List.getElem_mem hk)
          have := stuck_data (pre := pre) (p := l.take k) (q := l.drop (k + 1)) (post := fu) (x := l[k]) (y := y) (by rw [← hsp]; omega) hbk.1 hbk.2 hy.1 hy.2.1 (by rw [← hke]; exact hy.2.2)
          rw [← hsp] at this
          rw [List.append_assoc] at this ⊢
          exact this
        · intro z hz
          rcases List.mem_append.mp hz with hz | hz
          · rcases List.mem_or_eq_of_mem_set hz with hz | rfl
            · exact rcd_byte hb z hz
            · exact ⟨hy.1, hy.2.1⟩
          · exact hfb z hz
        · rw [← set_parts hat]
          simp
      · trivial
    · trivial
  rintro ρ rfl
  have hn : l.length < 128 ^ 20 := Nat.lt_of_lt_of_le (show l.length < 128 ^ 3 by omega) (Nat.pow_le_pow_right (by decide) (by decide))
  refine ws_mid (fun ρ => ρ = eB dr (j + 2) l true fu (some (.at (.int p))) none (some (.own (I (wn l.length)))) none) ?_ ?_
  · simp only [ws_asg, ws_ret, ws_retN, ws_drop, ws_pass, ws_bk, ws_ct, ws_if, ws_aug, ws_augI, ws_for, wv_cp, wv_mk, wv_share, wv_move, wv_1, wv_2, wv_A, wa_nil, wa_cons, wa_io, wv_tup, wv_lst, wv_call, wv_if, wv_sl, wv_ixN, wv_mt, wv_mut, wv_and, wv_or, wv_not, wv_lc, wi_arg, wb_q, wb_t, wb_v, wb_and, wb_or, wb_not, wb_yes, wq_var, wq_c, wq_2, wq_1, wq_A, wq_lNil, wq_lCons, wq_sl, wo_none, wo_some, wg_item, wg_set, wg_tup, wg_cons, wg_nil, wR_rb, wR_rp, wO_some, wO_none, wO_bind, wO_map, wO_iteN, look_zero, look_succ, Ed.turn, kIx_lst, kIx_tup, kIx_T, atI_0, atI_1, atI_2, atI_3, atI_4, atI_5, atI_6, atI_cast, ixN_0, ixN_1, ixN_2, ixN_3, asI_int, asB_bl, asS_str, oI_int, cT_true, kAdd_int, kAdd_T, kAdd_lst, kAdd_tup, kInt_int, kInt_bl, kMin_int, kMax_int, kLen_lst, kLen_tup, kLen_T, nOw_at, nOw_tup, nOw_lstF, nOw_own, nOws_nil, nOws_cons, nOws_append, nOws_ints, kEq_int, kNe_int, kEq_T, kNe_T, kEq_bl, kIsN_at, kNotN_at, kIsN_nd, kNotN_nd, kList_lst, kList_tup, kTuple_lst, kAppend_one, kSl_lst, kSl_T, kSl_tup, kRng1_int, kRng2_int, isL_own, frz_at, fok_at, frz_lst, fok_lst, frz_tup, fok_tup, kItL_lst, kItT_tup, kItS_T, kZip_lst, kEnum_lst, hole_none, hole_succ, putB_nil, putB_cons, finD_nil, finD_cons, lowE_nil, lowE_cons, lowS_some, lowS_none, wipeE_nil, wipeE_cons, backE_nil, backE_cons, kMod_int, kGe_int, kIn_T, List.map_cons, List.map_nil, List.length_cons, List.length_nil, List.length_map, List.length_set, List.cons_append, List.nil_append, Nat.reduceAdd, Nat.reduceSub, Nat.reduceLT, Nat.reduceLeDiff, Nat.zero_add, List.replicate_succ, List.replicate_zero, List.set_cons_zero, List.set_cons_succ, List.getElem?_cons_zero, List.getElem?_cons_succ, List.getElem?_nil, true_and, and_true, and_self, if_true, if_false, Bool.false_eq_true, reduceIte, List.mem_cons, List.not_mem_nil, or_false, false_or, reduceCtorEq, Nat.reduceEqDiff, or_self, or_true, true_or, Option.map_some, Option.getD_some, Option.isSome_some, Bool.not_true, Bool.not_false, Bool.and_true, Bool.true_and, Bool.and_eq_true, decide_eq_true_eq, Nat.zero_lt_succ, Nat.lt_add_one, Nat.succ_ne_self, Nat.add_one_ne_zero, not_true_eq_false, not_false_eq_true, wv_frz, shift_nil, shift_cons, Option.bind_some, wv_mutF, wv_mutV, wv_meth, wv_make, wv_callW, ws_setF, wg_un, kFld_obj, setO_obj, mutO_obj, hasL_obj, isO_obj, asL_own, bare_at, frzs_nil, frzs_cons, foks_nil, foks_cons]
    refine wD_mono (law_number_ok hn) ?_ fun _ _ h => h.elim
    rintro d as rfl
    simp only [ws_asg, ws_ret, ws_retN, ws_drop, ws_pass, ws_bk, ws_ct, ws_if, ws_aug, ws_augI, ws_for, wv_cp, wv_mk, wv_share, wv_move, wv_1, wv_2, wv_A, wa_nil, wa_cons, wa_io, wv_tup, wv_lst, wv_call, wv_if, wv_sl, wv_ixN, wv_mt, wv_mut, wv_and, wv_or, wv_not, wv_lc, wi_arg, wb_q, wb_t, wb_v, wb_and, wb_or, wb_not, wb_yes, wq_var, wq_c, wq_2, wq_1, wq_A, wq_lNil, wq_lCons, wq_sl, wo_none, wo_some, wg_item, wg_set, wg_tup, wg_cons, wg_nil, wR_rb, wR_rp, wO_some, wO_none, wO_bind, wO_map, wO_iteN, look_zero, look_succ, Ed.turn, kIx_lst, kIx_tup, kIx_T, atI_0, atI_1, atI_2, atI_3, atI_4, atI_5, atI_6, atI_cast, ixN_0, ixN_1, ixN_2, ixN_3, asI_int, asB_bl, asS_str, oI_int, cT_true, kAdd_int, kAdd_T, kAdd_lst, kAdd_tup, kInt_int, kInt_bl, kMin_int, kMax_int, kLen_lst, kLen_tup, kLen_T, nOw_at, nOw_tup, nOw_lstF, nOw_own, nOws_nil, nOws_cons, nOws_append, nOws_ints, kEq_int, kNe_int, kEq_T, kNe_T, kEq_bl, kIsN_at, kNotN_at, kIsN_nd, kNotN_nd, kList_lst, kList_tup, kTuple_lst, kAppend_one, kSl_lst, kSl_T, kSl_tup, kRng1_int, kRng2_int, isL_own, frz_at, fok_at, frz_lst, fok_lst, frz_tup, fok_tup, kItL_lst, kItT_tup, kItS_T, kZip_lst, kEnum_lst, hole_none, hole_succ, putB_nil, putB_cons, finD_nil, finD_cons, lowE_nil, lowE_cons, lowS_some, lowS_none, wipeE_nil, wipeE_cons, backE_nil, backE_cons, kMod_int, kGe_int, kIn_T, List.map_cons, List.map_nil, List.length_cons, List.length_nil, List.length_map, List.length_set, List.cons_append, List.nil_append, Nat.reduceAdd, Nat.reduceSub, Nat.reduceLT, Nat.reduceLeDiff, Nat.zero_add, List.replicate_succ, List.replicate_zero, List.set_cons_zero, List.set_cons_succ, List.getElem?_cons_zero, List.getElem?_cons_succ, List.getElem?_nil, true_and, and_true, and_self, if_true, if_false, Bool.false_eq_true, reduceIte, List.mem_cons, List.not_mem_nil, or_false, false_or, reduceCtorEq, Nat.reduceEqDiff, or_self, or_true, true_or, Option.map_some, Option.getD_some, Option.isSome_some, Bool.not_true, Bool.not_false, Bool.and_true, Bool.true_and, Bool.and_eq_true, decide_eq_true_eq, Nat.zero_lt_succ, Nat.lt_add_one, Nat.succ_ne_self, Nat.add_one_ne_zero, not_true_eq_false, not_false_eq_true, wv_frz, shift_nil, shift_cons, Option.bind_some, wv_mutF, wv_mutV, wv_meth, wv_make, wv_callW, ws_setF, wg_un, kFld_obj, setO_obj, mutO_obj, hasL_obj, isO_obj, asL_own, bare_at, frzs_nil, frzs_cons, foks_nil, foks_cons]
  rintro ρ rfl
  obtain ⟨A, z, hA, hAb, z0, z1⟩ := wn_shape l.length
  refine ws_mid (fun ρ => ∃ k : Nat, k < 3 ∧ ρ = eB dr (j + 3) l true fu (some (.at (.int p))) none (some (.own (I (wn l.length)))) (some (.own (I ((z + 128) :: (List.replicate k 128 ++ [0])))))) ?_ ?_
  · simp only [ws_asg, ws_ret, ws_retN, ws_drop, ws_pass, ws_bk, ws_ct, ws_if, ws_aug, ws_augI, ws_for, wv_cp, wv_mk, wv_share, wv_move, wv_1, wv_2, wv_A, wa_nil, wa_cons, wa_io, wv_tup, wv_lst, wv_call, wv_if, wv_sl, wv_ixN, wv_mt, wv_mut, wv_and, wv_or, wv_not, wv_lc, wi_arg, wb_q, wb_t, wb_v, wb_and, wb_or, wb_not, wb_yes, wq_var, wq_c, wq_2, wq_1, wq_A, wq_lNil, wq_lCons, wq_sl, wo_none, wo_some, wg_item, wg_set, wg_tup, wg_cons, wg_nil, wR_rb, wR_rp, wO_some, wO_none, wO_bind, wO_map, wO_iteN, look_zero, look_succ, Ed.turn, kIx_lst, kIx_tup, kIx_T, atI_0, atI_1, atI_2, atI_3, atI_4, atI_5, atI_6, atI_cast, ixN_0, ixN_1, ixN_2, ixN_3, asI_int, asB_bl, asS_str, oI_int, cT_true, kAdd_int, kAdd_T, kAdd_lst, kAdd_tup, kInt_int, kInt_bl, kMin_int, kMax_int, kLen_lst, kLen_tup, kLen_T, nOw_at, nOw_tup, nOw_lstF, nOw_own, nOws_nil, nOws_cons, nOws_append, nOws_ints, kEq_int, kNe_int, kEq_T, kNe_T, kEq_bl, kIsN_at, kNotN_at, kIsN_nd, kNotN_nd, kList_lst, kList_tup, kTuple_lst, kAppend_one, kSl_lst, kSl_T, kSl_tup, kRng1_int, kRng2_int, isL_own, frz_at, fok_at, frz_lst, fok_lst, frz_tup, fok_tup, kItL_lst, kItT_tup, kItS_T, kZip_lst, kEnum_lst, hole_none, hole_succ, putB_nil, putB_cons, finD_nil, finD_cons, lowE_nil, lowE_cons, lowS_some, lowS_none, wipeE_nil, wipeE_cons, backE_nil, backE_cons, kMod_int, kGe_int, kIn_T, List.map_cons, List.map_nil, List.length_cons, List.length_nil, List.length_map, List.length_set, List.cons_append, List.nil_append, Nat.reduceAdd, Nat.reduceSub, Nat.reduceLT, Nat.reduceLeDiff, Nat.zero_add, List.replicate_succ, List.replicate_zero, List.set_cons_zero, List.set_cons_succ, List.getElem?_cons_zero, List.getElem?_cons_succ, List.getElem?_nil, true_and, and_true, and_self, if_true, if_false, Bool.false_eq_true, reduceIte, List.mem_cons, List.not_mem_nil, or_false, false_or, reduceCtorEq, Nat.reduceEqDiff, or_self, or_true, true_or, Option.map_some, Option.getD_some, Option.isSome_some, Bool.not_true, Bool.not_false, Bool.and_true, Bool.true_and, Bool.and_eq_true, decide_eq_true_eq, Nat.zero_lt_succ, Nat.lt_add_one, Nat.succ_ne_self, Nat.add_one_ne_zero, not_true_eq_false, not_false_eq_true, wv_frz, shift_nil, shift_cons, Option.bind_some, wv_mutF, wv_mutV, wv_meth, wv_make, wv_callW, ws_setF, wg_un, kFld_obj, setO_obj, mutO_obj, hasL_obj, isO_obj, asL_own, bare_at, frzs_nil, frzs_cons, foks_nil, foks_cons, kSub_int]
    have hwl : (wn l.length).length = A.length + 1 := by rw [hA]; simp
    have hlast : (I (wn l.length))[A.length]? = some (D.at (.int z)) := by rw [hA]; simp
    rw [atI_pos (by omega), show (((wn l.length).length : Int) - 1).toNat = A.length by omega, hlast]
    simp only [ws_asg, ws_ret, ws_retN, ws_drop, ws_pass, ws_bk, ws_ct, ws_if, ws_aug, ws_augI, ws_for, wv_cp, wv_mk, wv_share, wv_move, wv_1, wv_2, wv_A, wa_nil, wa_cons, wa_io, wv_tup, wv_lst, wv_call, wv_if, wv_sl, wv_ixN, wv_mt, wv_mut, wv_and, wv_or, wv_not, wv_lc, wi_arg, wb_q, wb_t, wb_v, wb_and, wb_or, wb_not, wb_yes, wq_var, wq_c, wq_2, wq_1, wq_A, wq_lNil, wq_lCons, wq_sl, wo_none, wo_some, wg_item, wg_set, wg_tup, wg_cons, wg_nil, wR_rb, wR_rp, wO_some, wO_none, wO_bind, wO_map, wO_iteN, look_zero, look_succ, Ed.turn, kIx_lst, kIx_tup, kIx_T, atI_0, atI_1, atI_2, atI_3, atI_4, atI_5, atI_6, atI_cast, ixN_0, ixN_1, ixN_2, ixN_3, asI_int, asB_bl, asS_str, oI_int, cT_true, kAdd_int, kAdd_T, kAdd_lst, kAdd_tup, kInt_int, kInt_bl, kMin_int, kMax_int, kLen_lst, kLen_tup, kLen_T, nOw_at, nOw_tup, nOw_lstF, nOw_own, nOws_nil, nOws_cons, nOws_append, nOws_ints, kEq_int, kNe_int, kEq_T, kNe_T, kEq_bl, kIsN_at, kNotN_at, kIsN_nd, kNotN_nd, kList_lst, kList_tup, kTuple_lst, kAppend_one, kSl_lst, kSl_T, kSl_tup, kRng1_int, kRng2_int, isL_own, frz_at, fok_at, frz_lst, fok_lst, frz_tup, fok_tup, kItL_lst, kItT_tup, kItS_T, kZip_lst, kEnum_lst, hole_none, hole_succ, putB_nil, putB_cons, finD_nil, finD_cons, lowE_nil, lowE_cons, lowS_some, lowS_none, wipeE_nil, wipeE_cons, backE_nil, backE_cons, kMod_int, kGe_int, kIn_T, List.map_cons, List.map_nil, List.length_cons, List.length_nil, List.length_map, List.length_set, List.cons_append, List.nil_append, Nat.reduceAdd, Nat.reduceSub, Nat.reduceLT, Nat.reduceLeDiff, Nat.zero_add, List.replicate_succ, List.replicate_zero, List.set_cons_zero, List.set_cons_succ, List.getElem?_cons_zero, List.getElem?_cons_succ, List.getElem?_nil, true_and, and_true, and_self, if_true, if_false, Bool.false_eq_true, reduceIte, List.mem_cons, List.not_mem_nil, or_false, false_or, reduceCtorEq, Nat.reduceEqDiff, or_self, or_true, true_or, Option.map_some, Option.getD_some, Option.isSome_some, Bool.not_true, Bool.not_false, Bool.and_true, Bool.true_and, Bool.and_eq_true, decide_eq_true_eq, Nat.zero_lt_succ, Nat.lt_add_one, Nat.succ_ne_self, Nat.add_one_ne_zero, not_true_eq_false, not_false_eq_true, wv_frz, shift_nil, shift_cons, Option.bind_some, wv_mutF, wv_mutV, wv_meth, wv_make, wv_callW, ws_setF, wg_un, kFld_obj, setO_obj, mutO_obj, hasL_obj, isO_obj, asL_own, bare_at, frzs_nil, frzs_cons, foks_nil, foks_cons]
    refine ⟨by decide, by decide, wD_mono (next_ok hd (by omega) (by omega) (by decide)) ?_ fun _ _ h => h.elim⟩
    rintro _ _ ⟨a, rfl, rfl, a0, a1⟩
    obtain ⟨k, rfl⟩ : ∃ k : Nat, a = k := ⟨a.toNat, by omega⟩
    have hk : k < 3 := by omega
    have hrep : kRep (.own [.at (.int 128)]) (.at (.int (k : Int))) = some (.own (I (List.replicate k 128))) := by
      rw [kRep_own, if_pos ⟨by simp only [nOws_cons, nOws_nil, nOw_at, and_self], by omega, by omega, by simp [sizeLine]; omega⟩, Int.toNat_natCast]
      congr 2
      simp
    simp only [ws_asg, ws_ret, ws_retN, ws_drop, ws_pass, ws_bk, ws_ct, ws_if, ws_aug, ws_augI, ws_for, wv_cp, wv_mk, wv_share, wv_move, wv_1, wv_2, wv_A, wa_nil, wa_cons, wa_io, wv_tup, wv_lst, wv_call, wv_if, wv_sl, wv_ixN, wv_mt, wv_mut, wv_and, wv_or, wv_not, wv_lc, wi_arg, wb_q, wb_t, wb_v, wb_and, wb_or, wb_not, wb_yes, wq_var, wq_c, wq_2, wq_1, wq_A, wq_lNil, wq_lCons, wq_sl, wo_none, wo_some, wg_item, wg_set, wg_tup, wg_cons, wg_nil, wR_rb, wR_rp, wO_some, wO_none, wO_bind, wO_map, wO_iteN, look_zero, look_succ, Ed.turn, kIx_lst, kIx_tup, kIx_T, atI_0, atI_1, atI_2, atI_3, atI_4, atI_5, atI_6, atI_cast, ixN_0, ixN_1, ixN_2, ixN_3, asI_int, asB_bl, asS_str, oI_int, cT_true, kAdd_int, kAdd_T, kAdd_lst, kAdd_tup, kInt_int, kInt_bl, kMin_int, kMax_int, kLen_lst, kLen_tup, kLen_T, nOw_at, nOw_tup, nOw_lstF, nOw_own, nOws_nil, nOws_cons, nOws_append, nOws_ints, kEq_int, kNe_int, kEq_T, kNe_T, kEq_bl, kIsN_at, kNotN_at, kIsN_nd, kNotN_nd, kList_lst, kList_tup, kTuple_lst, kAppend_one, kSl_lst, kSl_T, kSl_tup, kRng1_int, kRng2_int, isL_own, frz_at, fok_at, frz_lst, fok_lst, frz_tup, fok_tup, kItL_lst, kItT_tup, kItS_T, kZip_lst, kEnum_lst, hole_none, hole_succ, putB_nil, putB_cons, finD_nil, finD_cons, lowE_nil, lowE_cons, lowS_some, lowS_none, wipeE_nil, wipeE_cons, backE_nil, backE_cons, kMod_int, kGe_int, kIn_T, List.map_cons, List.map_nil, List.length_cons, List.length_nil, List.length_map, List.length_set, List.cons_append, List.nil_append, Nat.reduceAdd, Nat.reduceSub, Nat.reduceLT, Nat.reduceLeDiff, Nat.zero_add, List.replicate_succ, List.replicate_zero, List.set_cons_zero, List.set_cons_succ, List.getElem?_cons_zero, List.getElem?_cons_succ, List.getElem?_nil, true_and, and_true, and_self, if_true, if_false, Bool.false_eq_true, reduceIte, List.mem_cons, List.not_mem_nil, or_false, false_or, reduceCtorEq, Nat.reduceEqDiff, or_self, or_true, true_or, Option.map_some, Option.getD_some, Option.isSome_some, Bool.not_true, Bool.not_false, Bool.and_true, Bool.true_and, Bool.and_eq_true, decide_eq_true_eq, Nat.zero_lt_succ, Nat.lt_add_one, Nat.succ_ne_self, Nat.add_one_ne_zero, not_true_eq_false, not_false_eq_true, wv_frz, shift_nil, shift_cons, Option.bind_some, wv_mutF, wv_mutV, wv_meth, wv_make, wv_callW, ws_setF, wg_un, kFld_obj, setO_obj, mutO_obj, hasL_obj, isO_obj, asL_own, bare_at, frzs_nil, frzs_cons, foks_nil, foks_cons, hrep, nOws_I]
    refine ⟨by simp [sizeLine]; omega, by decide, by simp [sizeLine]; omega, k, hk, ?_⟩
    rw [show j + 2 + 1 = j + 3 by omega]
    simp
  rintro ρ ⟨k, hk, rfl⟩
  simp only [ws_asg, ws_ret, ws_retN, ws_drop, ws_pass, ws_bk, ws_ct, ws_if, ws_aug, ws_augI, ws_for, wv_cp, wv_mk, wv_share, wv_move, wv_1, wv_2, wv_A, wa_nil, wa_cons, wa_io, wv_tup, wv_lst, wv_call, wv_if, wv_sl, wv_ixN, wv_mt, wv_mut, wv_and, wv_or, wv_not, wv_lc, wi_arg, wb_q, wb_t, wb_v, wb_and, wb_or, wb_not, wb_yes, wq_var, wq_c, wq_2, wq_1, wq_A, wq_lNil, wq_lCons, wq_sl, wo_none, wo_some, wg_item, wg_set, wg_tup, wg_cons, wg_nil, wR_rb, wR_rp, wO_some, wO_none, wO_bind, wO_map, wO_iteN, look_zero, look_succ, Ed.turn, kIx_lst, kIx_tup, kIx_T, atI_0, atI_1, atI_2, atI_3, atI_4, atI_5, atI_6, atI_cast, ixN_0, ixN_1, ixN_2, ixN_3, asI_int, asB_bl, asS_str, oI_int, cT_true, kAdd_int, kAdd_T, kAdd_lst, kAdd_tup, kInt_int, kInt_bl, kMin_int, kMax_int, kLen_lst, kLen_tup, kLen_T, nOw_at, nOw_tup, nOw_lstF, nOw_own, nOws_nil, nOws_cons, nOws_append, nOws_ints, kEq_int, kNe_int, kEq_T, kNe_T, kEq_bl, kIsN_at, kNotN_at, kIsN_nd, kNotN_nd, kList_lst, kList_tup, kTuple_lst, kAppend_one, kSl_lst, kSl_T, kSl_tup, kRng1_int, kRng2_int, isL_own, frz_at, fok_at, frz_lst, fok_lst, frz_tup, fok_tup, kItL_lst, kItT_tup, kItS_T, kZip_lst, kEnum_lst, hole_none, hole_succ, putB_nil, putB_cons, finD_nil, finD_cons, lowE_nil, lowE_cons, lowS_some, lowS_none, wipeE_nil, wipeE_cons, backE_nil, backE_cons, kMod_int, kGe_int, kIn_T, List.map_cons, List.map_nil, List.length_cons, List.length_nil, List.length_map, List.length_set, List.cons_append, List.nil_append, Nat.reduceAdd, Nat.reduceSub, Nat.reduceLT, Nat.reduceLeDiff, Nat.zero_add, List.replicate_succ, List.replicate_zero, List.set_cons_zero, List.set_cons_succ, List.getElem?_cons_zero, List.getElem?_cons_succ, List.getElem?_nil, true_and, and_true, and_self, if_true, if_false, Bool.false_eq_true, reduceIte, List.mem_cons, List.not_mem_nil, or_false, false_or, reduceCtorEq, Nat.reduceEqDiff, or_self, or_true, true_or, Option.map_some, Option.getD_some, Option.isSome_some, Bool.not_true, Bool.not_false, Bool.and_true, Bool.true_and, Bool.and_eq_true, decide_eq_true_eq, Nat.zero_lt_succ, Nat.lt_add_one, Nat.succ_ne_self, Nat.add_one_ne_zero, not_true_eq_false, not_false_eq_true, wv_frz, shift_nil, shift_cons, Option.bind_some, wv_mutF, wv_mutV, wv_meth, wv_make, wv_callW, ws_setF, wg_un, kFld_obj, setO_obj, mutO_obj, hasL_obj, isO_obj, asL_own, bare_at, frzs_nil, frzs_cons, foks_nil, foks_cons, nOws_I, foks_I, frzs_I, kSub_int]
  have hwl : (wn l.length).length = A.length + 1 := by rw [hA]; simp
  have hw20 := wn_len (k := 19) hn
  have hc1 : DL.cutD (I (wn l.length)) none (some (((wn l.length).length : Int) - 1)) = I A := by
    rw [show ((wn l.length).length : Int) - 1 = ((A.length : Nat) : Int) by omega, cut_to, hA, List.take_left]
  have hc2 : DL.cutD (I (rcd l)) (some ((wn l.length).length : Int)) none = I (l ++ tl4 (cs l)) := by
    rw [cut_from]
    unfold rcd
    rw [List.append_assoc, List.drop_left]
  rw [hc1, hc2]
  simp only [nOws_I]
  refine ⟨⟨trivial, by simp [sizeLine]; omega⟩, ⟨trivial, trivial, by simp [sizeLine, tl4]; omega⟩, ⟨⟨trivial, trivial⟩, by simp [sizeLine, tl4]; omega⟩, (A ++ (z + 128) :: List.replicate k 128) ++ 0 :: ((l ++ tl4 (cs l)) ++ fu), j + 3, fun pre => stuck_zero (L := A ++ (z + 128) :: List.replicate k 128) ?_ (by simp) rfl, ?_, by simp [tl4]; omega, by omega, by omega, by simp, rfl⟩
  · intro b hb'
    rcases List.mem_append.mp hb' with h | h
    · exact (hAb b h).1
    · rcases List.mem_cons.mp h with rfl | h
      · omega
      · rw [(List.mem_replicate.mp h).2]; decide
  · intro b hb'
    have hc := cs_b l
    rcases List.mem_append.mp hb' with h | h
    · rcases List.mem_append.mp h with h | h
      · have := hAb b h; omega
      · rcases List.mem_cons.mp h with rfl | h
        · omega
        · rw [(List.mem_replicate.mp h).2]; decide
    · rcases List.mem_cons.mp h with rfl | h
      · decide
      · rcases List.mem_append.mp h with h | h
        · rcases List.mem_append.mp h with h | h
          · exact hb b h
          · exact tl4_byte hc.1 hc.2 b h
        · exact hfb b h
end K11

set_option maxRecDepth 100000
set_option maxHeartbeats 4000000
namespace K11
open PySem L2 DL PyProof.Rows
def flat (rs : List (List Int)) : List Int := (rs.map rcd).flatten
theorem flat_nil : flat [] = [] := rfl
theorem flat_cons {r : List Int} {rs : List (List Int)} : flat (r :: rs) = rcd r ++ flat rs := rfl
theorem flat_append {a b : List (List Int)} : flat (a ++ b) = flat a ++ flat b := by
  unfold flat
  rw [List.map_append, List.flatten_append]
def RsOk (rs : List (List Int)) : Prop := ∀ r ∈ rs, ByteL r ∧ r.length ≤ 2000
theorem flat_byte {rs : List (List Int)} (h : RsOk rs) : ByteL (flat rs) := by
  induction rs with
  | nil => exact fun _ h => nomatch h
  | cons r rs ih =>
    intro x hx
    rw [flat_cons] at hx
    rcases List.mem_append.mp hx with hx | hx
    · exact rcd_byte (h r List.mem_cons_self).1 x hx
    · exact ih (fun q hq => h q (List.mem_cons_of_mem _ hq)) x hx
theorem flat_len {rs : List (List Int)} (h : RsOk rs) : (flat rs).length ≤ 2024 * rs.length := by
  induction rs with
  | nil => exact Nat.le_refl _
  | cons r rs ih =>
    rw [flat_cons, List.length_append, List.length_cons]
    have h1 := h r List.mem_cons_self
    have h2 := rcd_len (l := r) (by omega)
    have := ih (fun q hq => h q (List.mem_cons_of_mem _ hq))
    omega
theorem rcd_pos (r : List Int) : 0 < (rcd r).length := by unfold rcd; simp [tl4]; omega
theorem run_flat {rs : List (List Int)} (h : RsOk rs) : ∀ (pre post : List Int), Run (pre ++ (flat rs ++ post)) pre.length rs (pre.length + (flat rs).length) := by
  induction rs with
  | nil => exact fun pre post => .nil
  | cons r rs ih =>
    intro pre post
    have h1 := h r List.mem_cons_self
    have e1 : pre ++ (flat (r :: rs) ++ post) = pre ++ (rcd r ++ (flat rs ++ post)) := by rw [flat_cons, List.append_assoc]
    have e2 : pre ++ (flat (r :: rs) ++ post) = (pre ++ rcd r) ++ (flat rs ++ post) := by rw [e1, List.append_assoc]
    have n1 := next_rec (l := r) (by omega) e1
    have t := ih (fun q hq => h q (List.mem_cons_of_mem _ hq)) (pre ++ rcd r) post
    rw [← e2, List.length_append] at t
    rw [flat_cons, List.length_append, ← Nat.add_assoc]
    exact .cons n1 t
theorem run_0 {rs : List (List Int)} (h : RsOk rs) (post : List Int) : Run (flat rs ++ post) 0 rs (flat rs).length := by
  have := run_flat h [] post
  simpa using this
/-- the sums of the sizes -/
def S (rs : List (List Int)) (j : Nat) : Nat := (flat (rs.take j)).length
theorem S_zero {rs : List (List Int)} : S rs 0 = 0 := by unfold S; rw [List.take_zero]; rfl
theorem S_succ {rs : List (List Int)} {j : Nat} (h : j < rs.length) : S rs (j + 1) = S rs j + (rcd rs[j]).length := by
  unfold S
  rw [List.take_succ, List.getElem?_eq_getElem h, flat_append, List.length_append]
  show _ + (flat [rs[j]]).length = _
  rw [flat_cons, flat_nil, List.append_nil]
theorem S_mono {rs : List (List Int)} : ∀ {j k : Nat}, j ≤ k → k ≤ rs.length → S rs j ≤ S rs k
  | j, 0, h, _ => by rw [Nat.le_zero.mp h]; exact Nat.le_refl _
  | j, k + 1, h, hk => by
    by_cases e : j = k + 1
    · rw [e]; exact Nat.le_refl _
    · have := S_mono (rs := rs) (j := j) (k := k) (by omega) (by omega)
      rw [S_succ (by omega)]
      omega
theorem S_all {rs : List (List Int)} : S rs rs.length = (flat rs).length := by unfold S; rw [List.take_length]
theorem cut_at {rs : List (List Int)} {e : Nat} : ∃ c, c ≤ rs.length ∧ (∀ j, j ≤ rs.length → (S rs j ≤ e ↔ j ≤ c)) := by
  suffices h : ∀ m, m ≤ rs.length → ∃ c, c ≤ m ∧ ∀ j, j ≤ m → (S rs j ≤ e ↔ j ≤ c) from h _ (Nat.le_refl _)
  intro m
  induction m with
  | zero => exact fun _ => ⟨0, Nat.le_refl _, fun j hj => by rw [Nat.le_zero.mp hj, S_zero]; simp⟩
  | succ m ih =>
    intro hm
    obtain ⟨c, hc, h⟩ := ih (by omega)
    by_cases hs : S rs (m + 1) ≤ e
    · refine ⟨m + 1, Nat.le_refl _, fun j hj => ⟨fun _ => hj, fun _ => Nat.le_trans (S_mono hj hm) hs⟩⟩
    · refine ⟨c, by omega, fun j hj => ?_⟩
      by_cases hj2 : j ≤ m
      · exact h j hj2
      · have : j = m + 1 := by omega
        subst this
        exact ⟨fun z => absurd z hs, fun z => by omega⟩
def szs (rs : List (List Int)) (n : Nat) : List Int := (List.range (n + 1)).map fun j => ((S rs j : Nat) : Int)
theorem szs_succ {rs : List (List Int)} {n : Nat} : szs rs (n + 1) = szs rs n ++ [((S rs (n + 1) : Nat) : Int)] := by
  unfold szs
  rw [List.range_succ (n := n + 1), List.map_append]
  rfl
theorem flen : ∀ (n c : Nat), ((List.range n).filter fun j => decide (j ≤ c)).length = min n (c + 1)
  | 0, c => by simp
  | n + 1, c => by
    rw [List.range_succ, List.filter_append, List.length_append, flen n c]
    by_cases h : n ≤ c
    · rw [List.filter_cons_of_pos (by simpa using h)]
      simp
      omega
    · rw [List.filter_cons_of_neg (by simpa using h)]
      simp
      omega
theorem szs_filter {rs : List (List Int)} {e c : Nat} (hc : c ≤ rs.length) (h : ∀ j, j ≤ rs.length → (S rs j ≤ e ↔ j ≤ c)) : ((szs rs rs.length).filter fun x => decide (x ≤ (e : Int))).length = c + 1 := by
  unfold szs
  rw [List.filter_map, List.length_map]
  have : (List.range (rs.length + 1)).filter ((fun x : Int => decide (x ≤ (e : Int))) ∘ fun j => ((S rs j : Nat) : Int)) = (List.range (rs.length + 1)).filter fun j => decide (j ≤ c) := by
    apply List.filter_congr
    intro j hj
    have hj := List.mem_range.mp hj
    have := h j (by omega)
    by_cases k : j ≤ c
    · have k2 := this.mpr k
      simp [k]
      omega
    · have k2 : ¬ S rs j ≤ e := fun z => k (this.mp z)
      simp [k]
      omega
  rw [this, flen]
  omega
/-- the good ones cut anywhere -/
theorem run_cut {rs : List (List Int)} {e c : Nat} (ok : RsOk rs) (hc : c ≤ rs.length) (he : e ≤ (flat rs).length) (h : ∀ j, j ≤ rs.length → (S rs j ≤ e ↔ j ≤ c)) : Run ((flat rs).take e) 0 (rs.take c) (S rs c) ∧ nextR ((flat rs).take e) (S rs c) = none := by
  have hs : S rs c ≤ e := (h c hc).mpr (Nat.le_refl _)
  have hok : RsOk (rs.take c) := fun r hr => ok r (List.mem_of_mem_take hr)
  have hsp : flat rs = flat (rs.take c) ++ flat (rs.drop c) := by rw [← flat_append, List.take_append_drop]
  have hd : (flat rs).take e = flat (rs.take c) ++ (flat (rs.drop c)).take (e - S rs c) := by
    rw [hsp, List.take_append, List.take_of_length_le (show (flat (rs.take c)).length ≤ e from hs)]
    rfl
  refine ⟨?_, ?_⟩
  · rw [hd]
    exact run_0 hok _
  · by_cases hall : c = rs.length
    · have : e = S rs c := by rw [hall, S_all] at hs ⊢; omega
      rw [this, hall, S_all, List.take_length]
      exact stuck_end
    · have hlt : c < rs.length := by omega
      have hnx : ¬ S rs (c + 1) ≤ e := fun z => by have := (h (c + 1) (by omega)).mp z; omega
      rw [S_succ hlt] at hnx
      have hdr : flat (rs.drop c) = rcd rs[c] ++ flat (rs.drop (c + 1)) := by
        rw [List.drop_eq_getElem_cons hlt, flat_cons]
      have h2 := (ok rs[c] (List.getElem_mem hlt)).2
      have e2 : (flat (rs.drop c)).take (e - S rs c) = (rcd rs[c]).take (e - S rs c) := by
        rw [hdr, List.take_append_of_le_length (by omega)]
      rw [e2] at hd
      exact stuck_cut (pre := flat (rs.take c)) (l := rs[c]) (by omega) (by omega) hd
end K11

set_option maxRecDepth 100000
set_option maxHeartbeats 4000000
namespace K11
open PySem L2 DL PyProof.Rows
abbrev Wf (rs : List (List Int)) : List D := rs.map fun r => D.lst (I r)
theorem foks_W {rs : List (List Int)} : (foks (W rs) = true) = True := eq_true (by
  rw [foks_all, List.all_eq_true]
  rintro d hd
  obtain ⟨r, _, rfl⟩ := List.mem_map.mp hd
  rw [fok_lst]
  exact of_eq_true foks_I)
theorem frzs_W {rs : List (List Int)} : frzs (W rs) = Wf rs := by
  rw [frzs_map, List.map_map]
  apply List.map_congr_left
  intro r _
  show frz (D.own (I r)) = _
  rw [frz_lst, frzs_I]
theorem nOws_Wf {rs : List (List Int)} : (nOws (Wf rs) = true) = True := eq_true (nOws_map fun r _ => by rw [nOw_lstF]; exact of_eq_true nOws_I)
theorem foks_Wf {rs : List (List Int)} : (foks (Wf rs) = true) = True := eq_true (foks_of (of_eq_true nOws_Wf))
theorem frzs_Wf {rs : List (List Int)} : frzs (Wf rs) = Wf rs := frzs_of (of_eq_true nOws_Wf)
theorem bares_W {rs : List (List Int)} : (bares (W rs) = true) = True := eq_true (by
  rw [bares_all, List.all_eq_true]
  rintro d hd
  obtain ⟨r, _, rfl⟩ := List.mem_map.mp hd
  rw [bare_own]
  exact of_eq_true bares_I)
theorem plR {rs : List (List Int)} {e : Int} (h : ∀ r ∈ rs, r.length ≤ 2000) (hl : rs.length ≤ 100) : Pl 4 (.tup [.lst (Wf rs), .at (.int e)]) := by
  refine .tup (fun d hd => ?_) (by simp)
  simp only [List.mem_cons, List.not_mem_nil, or_false] at hd
  rcases hd with rfl | rfl
  · refine .lst (fun d hd => ?_) (by rw [List.length_map]; omega)
    obtain ⟨r, hr, rfl⟩ := List.mem_map.mp hd
    exact plI (by have := h r hr; omega)
  · exact .int
theorem _root_.DL.Pl.up {n : Nat} {d : D} (h : Pl n d) : Pl (n + 1) d := by
  induction h with
  | non => exact .non
  | int => exact .int
  | bl => exact .bl
  | str h => exact .str h
  | tup h hl ih => exact .tup ih hl
  | lst h hl ih => exact .lst ih hl
theorem cutW_to {rs : List (List Int)} {n : Nat} : DL.cutD (Wf rs) none (some (n : Int)) = Wf (rs.take n) := by
  unfold DL.cutD
  rw [HT.sIx_none, HT.sIx_nat, List.length_map, List.drop_zero, ← List.map_take]
  congr 1
  simp
/-- read_records tells just the runs -/
theorem recs_ok {d : List Int} {rs : List (List Int)} {e : Nat} (hl : d.length ≤ 100000) (hb : ByteL d) (h : Run d 0 rs e) (hn : nextR d e = none) : wD (F_read_records [.lst (I d)]) (fun v _ => v = .tup [.own (W rs), .at (.int (e : Nat))]) fun _ _ => False := by
  refine wD_mono (records_ok hl hb) ?_ fun _ _ h => h
  rintro v as ⟨rs', e', h', hn', rfl⟩
  obtain ⟨e1, e2⟩ := Run.uniq h' hn' h hn
  rw [e1, e2]
theorem same5 {d : D} {n : Nat} (hn : n ≤ 5) (h : Pl n d) : wD (F_law_same 5 [d, d]) (fun r as => r = .at (.bl true)) fun _ _ => False := by
  have : ∀ k n, n + k = 5 → Pl n d → Pl 5 d := by
    intro k
    induction k with
    | zero => intro n e h; rw [Nat.add_zero] at e; rw [← e]; exact h
    | succ k ih => intro n e h; exact ih (n + 1) (by omega) h.up
  exact same_ok (this (5 - n) n (by omega) h)
abbrev eA (ns dr : List Int) (i : Int) (r2 r3 r4 r5 r6 r7 r8 r9 r10 : Option D) : En := [some (.lst (I ns)), some (encN dr i), r2, r3, r4, r5, r6, r7, r8, r9, r10, none]
theorem run_law (ns : List Int) (hl : ns.length ≤ 63) (hb : ∀ z ∈ ns, Builtin.Int.intBits z ≤ 1048576) : ∃ as, F_law [.lst (ns.map fun i => D.at (.int i))] = some (.v (.at (.bl true)) as) := by
  suffices h : wD (F_law [.lst (I ns)]) (fun d _ => d = .at (.bl true)) fun _ _ => False by
    obtain ⟨d, as, e, rfl⟩ := wD_v h
    exact ⟨as, e⟩
  have hbig : ∀ z ∈ ns, big z := fun z hz => by
    have := hb z hz
    unfold Builtin.Int.intBits at this
    unfold big
    split at this
    · rename_i h0
      have : z = 0 := eq_of_beq h0
      rw [this]
      decide
    · omega
  refine wD_fn rfl ?_
  unfold b_law
  refine ws_mid (fun ρ => ∃ dr, DrOk dr ∧ ρ = eA ns dr 20 none none none none none none none none none) ?_ ?_
  · simp only [ws_asg, ws_ret, ws_retN, ws_drop, ws_pass, ws_bk, ws_ct, ws_if, ws_aug, ws_augI, ws_for, wv_cp, wv_mk, wv_share, wv_move, wv_1, wv_2, wv_A, wa_nil, wa_cons, wa_io, wv_tup, wv_lst, wv_call, wv_if, wv_sl, wv_ixN, wv_mt, wv_mut, wv_and, wv_or, wv_not, wv_lc, wi_arg, wb_q, wb_t, wb_v, wb_and, wb_or, wb_not, wb_yes, wq_var, wq_c, wq_2, wq_1, wq_A, wq_lNil, wq_lCons, wq_sl, wo_none, wo_some, wg_item, wg_set, wg_tup, wg_cons, wg_nil, wR_rb, wR_rp, wO_some, wO_none, wO_bind, wO_map, wO_iteN, look_zero, look_succ, Ed.turn, kIx_lst, kIx_tup, kIx_T, atI_0, atI_1, atI_2, atI_3, atI_4, atI_5, atI_6, atI_cast, ixN_0, ixN_1, ixN_2, ixN_3, asI_int, asB_bl, asS_str, oI_int, cT_true, kAdd_int, kAdd_T, kAdd_lst, kAdd_tup, kInt_int, kInt_bl, kMin_int, kMax_int, kLen_lst, kLen_tup, kLen_T, nOw_at, nOw_tup, nOw_lstF, nOw_own, nOws_nil, nOws_cons, nOws_append, nOws_ints, kEq_int, kNe_int, kEq_T, kNe_T, kEq_bl, kIsN_at, kNotN_at, kIsN_nd, kNotN_nd, kList_lst, kList_tup, kTuple_lst, kAppend_one, kSl_lst, kSl_T, kSl_tup, kRng1_int, kRng2_int, isL_own, frz_at, fok_at, frz_lst, fok_lst, frz_tup, fok_tup, kItL_lst, kItT_tup, kItS_T, kZip_lst, kEnum_lst, hole_none, hole_succ, putB_nil, putB_cons, finD_nil, finD_cons, lowE_nil, lowE_cons, lowS_some, lowS_none, wipeE_nil, wipeE_cons, backE_nil, backE_cons, kMod_int, kGe_int, kIn_T, List.map_cons, List.map_nil, List.length_cons, List.length_nil, List.length_map, List.length_set, List.cons_append, List.nil_append, Nat.reduceAdd, Nat.reduceSub, Nat.reduceLT, Nat.reduceLeDiff, Nat.zero_add, List.replicate_succ, List.replicate_zero, List.set_cons_zero, List.set_cons_succ, List.getElem?_cons_zero, List.getElem?_cons_succ, List.getElem?_nil, true_and, and_true, and_self, if_true, if_false, Bool.false_eq_true, reduceIte, List.mem_cons, List.not_mem_nil, or_false, false_or, reduceCtorEq, Nat.reduceEqDiff, or_self, or_true, true_or, Option.map_some, Option.getD_some, Option.isSome_some, Bool.not_true, Bool.not_false, Bool.and_true, Bool.true_and, Bool.and_eq_true, decide_eq_true_eq, Nat.zero_lt_succ, Nat.lt_add_one, Nat.succ_ne_self, Nat.add_one_ne_zero, not_true_eq_false, not_false_eq_true, wv_frz, shift_nil, shift_cons, Option.bind_some, wv_mutF, wv_mutV, wv_meth, wv_make, wv_callW, ws_setF, wg_un, kFld_obj, setO_obj, mutO_obj, hasL_obj, isO_obj, asL_own, bare_at, frzs_nil, frzs_cons, foks_nil, foks_cons]
    refine wD_mono (draws_ok ns hbig) ?_ fun _ _ h => h.elim
    rintro d as ⟨dr, rfl, hd⟩
    exact ⟨by decide, dr, hd, rfl⟩
  rintro ρ ⟨dr, hd, rfl⟩
  refine ws_mid (fun ρ => ∃ (rs : List (List Int)) (i : Int), RsOk rs ∧ rs.length ≤ 10 ∧ 20 ≤ i ∧ i ≤ 100 ∧ ρ = eA ns dr i (some (.own (W rs))) none none none none none none none none) ?_ ?_
  · simp only [ws_asg, ws_ret, ws_retN, ws_drop, ws_pass, ws_bk, ws_ct, ws_if, ws_aug, ws_augI, ws_for, wv_cp, wv_mk, wv_share, wv_move, wv_1, wv_2, wv_A, wa_nil, wa_cons, wa_io, wv_tup, wv_lst, wv_call, wv_if, wv_sl, wv_ixN, wv_mt, wv_mut, wv_and, wv_or, wv_not, wv_lc, wi_arg, wb_q, wb_t, wb_v, wb_and, wb_or, wb_not, wb_yes, wq_var, wq_c, wq_2, wq_1, wq_A, wq_lNil, wq_lCons, wq_sl, wo_none, wo_some, wg_item, wg_set, wg_tup, wg_cons, wg_nil, wR_rb, wR_rp, wO_some, wO_none, wO_bind, wO_map, wO_iteN, look_zero, look_succ, Ed.turn, kIx_lst, kIx_tup, kIx_T, atI_0, atI_1, atI_2, atI_3, atI_4, atI_5, atI_6, atI_cast, ixN_0, ixN_1, ixN_2, ixN_3, asI_int, asB_bl, asS_str, oI_int, cT_true, kAdd_int, kAdd_T, kAdd_lst, kAdd_tup, kInt_int, kInt_bl, kMin_int, kMax_int, kLen_lst, kLen_tup, kLen_T, nOw_at, nOw_tup, nOw_lstF, nOw_own, nOws_nil, nOws_cons, nOws_append, nOws_ints, kEq_int, kNe_int, kEq_T, kNe_T, kEq_bl, kIsN_at, kNotN_at, kIsN_nd, kNotN_nd, kList_lst, kList_tup, kTuple_lst, kAppend_one, kSl_lst, kSl_T, kSl_tup, kRng1_int, kRng2_int, isL_own, frz_at, fok_at, frz_lst, fok_lst, frz_tup, fok_tup, kItL_lst, kItT_tup, kItS_T, kZip_lst, kEnum_lst, hole_none, hole_succ, putB_nil, putB_cons, finD_nil, finD_cons, lowE_nil, lowE_cons, lowS_some, lowS_none, wipeE_nil, wipeE_cons, backE_nil, backE_cons, kMod_int, kGe_int, kIn_T, List.map_cons, List.map_nil, List.length_cons, List.length_nil, List.length_map, List.length_set, List.cons_append, List.nil_append, Nat.reduceAdd, Nat.reduceSub, Nat.reduceLT, Nat.reduceLeDiff, Nat.zero_add, List.replicate_succ, List.replicate_zero, List.set_cons_zero, List.set_cons_succ, List.getElem?_cons_zero, List.getElem?_cons_succ, List.getElem?_nil, true_and, and_true, and_self, if_true, if_false, Bool.false_eq_true, reduceIte, List.mem_cons, List.not_mem_nil, or_false, false_or, reduceCtorEq, Nat.reduceEqDiff, or_self, or_true, true_or, Option.map_some, Option.getD_some, Option.isSome_some, Bool.not_true, Bool.not_false, Bool.and_true, Bool.true_and, Bool.and_eq_true, decide_eq_true_eq, Nat.zero_lt_succ, Nat.lt_add_one, Nat.succ_ne_self, Nat.add_one_ne_zero, not_true_eq_false, not_false_eq_true, wv_frz, shift_nil, shift_cons, Option.bind_some, wv_mutF, wv_mutV, wv_meth, wv_make, wv_callW, ws_setF, wg_un, kFld_obj, setO_obj, mutO_obj, hasL_obj, isO_obj, asL_own, bare_at, frzs_nil, frzs_cons, foks_nil, foks_cons]
    refine wD_mono (next_ok hd (by decide) (by decide) (by decide)) ?_ fun _ _ h => h.elim
    rintro _ _ ⟨v, rfl, rfl, v0, v1⟩
    simp only [ws_asg, ws_ret, ws_retN, ws_drop, ws_pass, ws_bk, ws_ct, ws_if, ws_aug, ws_augI, ws_for, wv_cp, wv_mk, wv_share, wv_move, wv_1, wv_2, wv_A, wa_nil, wa_cons, wa_io, wv_tup, wv_lst, wv_call, wv_if, wv_sl, wv_ixN, wv_mt, wv_mut, wv_and, wv_or, wv_not, wv_lc, wi_arg, wb_q, wb_t, wb_v, wb_and, wb_or, wb_not, wb_yes, wq_var, wq_c, wq_2, wq_1, wq_A, wq_lNil, wq_lCons, wq_sl, wo_none, wo_some, wg_item, wg_set, wg_tup, wg_cons, wg_nil, wR_rb, wR_rp, wO_some, wO_none, wO_bind, wO_map, wO_iteN, look_zero, look_succ, Ed.turn, kIx_lst, kIx_tup, kIx_T, atI_0, atI_1, atI_2, atI_3, atI_4, atI_5, atI_6, atI_cast, ixN_0, ixN_1, ixN_2, ixN_3, asI_int, asB_bl, asS_str, oI_int, cT_true, kAdd_int, kAdd_T, kAdd_lst, kAdd_tup, kInt_int, kInt_bl, kMin_int, kMax_int, kLen_lst, kLen_tup, kLen_T, nOw_at, nOw_tup, nOw_lstF, nOw_own, nOws_nil, nOws_cons, nOws_append, nOws_ints, kEq_int, kNe_int, kEq_T, kNe_T, kEq_bl, kIsN_at, kNotN_at, kIsN_nd, kNotN_nd, kList_lst, kList_tup, kTuple_lst, kAppend_one, kSl_lst, kSl_T, kSl_tup, kRng1_int, kRng2_int, isL_own, frz_at, fok_at, frz_lst, fok_lst, frz_tup, fok_tup, kItL_lst, kItT_tup, kItS_T, kZip_lst, kEnum_lst, hole_none, hole_succ, putB_nil, putB_cons, finD_nil, finD_cons, lowE_nil, lowE_cons, lowS_some, lowS_none, wipeE_nil, wipeE_cons, backE_nil, backE_cons, kMod_int, kGe_int, kIn_T, List.map_cons, List.map_nil, List.length_cons, List.length_nil, List.length_map, List.length_set, List.cons_append, List.nil_append, Nat.reduceAdd, Nat.reduceSub, Nat.reduceLT, Nat.reduceLeDiff, Nat.zero_add, List.replicate_succ, List.replicate_zero, List.set_cons_zero, List.set_cons_succ, List.getElem?_cons_zero, List.getElem?_cons_succ, List.getElem?_nil, true_and, and_true, and_self, if_true, if_false, Bool.false_eq_true, reduceIte, List.mem_cons, List.not_mem_nil, or_false, false_or, reduceCtorEq, Nat.reduceEqDiff, or_self, or_true, true_or, Option.map_some, Option.getD_some, Option.isSome_some, Bool.not_true, Bool.not_false, Bool.and_true, Bool.true_and, Bool.and_eq_true, decide_eq_true_eq, Nat.zero_lt_succ, Nat.lt_add_one, Nat.succ_ne_self, Nat.add_one_ne_zero, not_true_eq_false, not_false_eq_true, wv_frz, shift_nil, shift_cons, Option.bind_some, wv_mutF, wv_mutV, wv_meth, wv_make, wv_callW, ws_setF, wg_un, kFld_obj, setO_obj, mutO_obj, hasL_obj, isO_obj, asL_own, bare_at, frzs_nil, frzs_cons, foks_nil, foks_cons]
    refine ⟨by omega, w_lc (fun n acc ρ => ∃ (rs : List (List Int)) (i : Int), rs.length = n ∧ RsOk rs ∧ 20 ≤ i ∧ i ≤ 22 + 4 * n ∧ acc = W rs ∧ ρ = eA ns dr i none none none none none none none none none) ⟨[], 21, rfl, (fun _ h => nomatch h), by decide, by decide, rfl, rfl⟩ ?_ ?_⟩
    · rintro n d acc ρ hdd ⟨rs, i, hn, hok, i0, i1, rfl, rfl⟩
      obtain ⟨hlt, rfl⟩ := rngD_get hdd
      have hlt : n < 11 := by omega
      simp only [ws_asg, ws_ret, ws_retN, ws_drop, ws_pass, ws_bk, ws_ct, ws_if, ws_aug, ws_augI, ws_for, wv_cp, wv_mk, wv_share, wv_move, wv_1, wv_2, wv_A, wa_nil, wa_cons, wa_io, wv_tup, wv_lst, wv_call, wv_if, wv_sl, wv_ixN, wv_mt, wv_mut, wv_and, wv_or, wv_not, wv_lc, wi_arg, wb_q, wb_t, wb_v, wb_and, wb_or, wb_not, wb_yes, wq_var, wq_c, wq_2, wq_1, wq_A, wq_lNil, wq_lCons, wq_sl, wo_none, wo_some, wg_item, wg_set, wg_tup, wg_cons, wg_nil, wR_rb, wR_rp, wO_some, wO_none, wO_bind, wO_map, wO_iteN, look_zero, look_succ, Ed.turn, kIx_lst, kIx_tup, kIx_T, atI_0, atI_1, atI_2, atI_3, atI_4, atI_5, atI_6, atI_cast, ixN_0, ixN_1, ixN_2, ixN_3, asI_int, asB_bl, asS_str, oI_int, cT_true, kAdd_int, kAdd_T, kAdd_lst, kAdd_tup, kInt_int, kInt_bl, kMin_int, kMax_int, kLen_lst, kLen_tup, kLen_T, nOw_at, nOw_tup, nOw_lstF, nOw_own, nOws_nil, nOws_cons, nOws_append, nOws_ints, kEq_int, kNe_int, kEq_T, kNe_T, kEq_bl, kIsN_at, kNotN_at, kIsN_nd, kNotN_nd, kList_lst, kList_tup, kTuple_lst, kAppend_one, kSl_lst, kSl_T, kSl_tup, kRng1_int, kRng2_int, isL_own, frz_at, fok_at, frz_lst, fok_lst, frz_tup, fok_tup, kItL_lst, kItT_tup, kItS_T, kZip_lst, kEnum_lst, hole_none, hole_succ, putB_nil, putB_cons, finD_nil, finD_cons, lowE_nil, lowE_cons, lowS_some, lowS_none, wipeE_nil, wipeE_cons, backE_nil, backE_cons, kMod_int, kGe_int, kIn_T, List.map_cons, List.map_nil, List.length_cons, List.length_nil, List.length_map, List.length_set, List.cons_append, List.nil_append, Nat.reduceAdd, Nat.reduceSub, Nat.reduceLT, Nat.reduceLeDiff, Nat.zero_add, List.replicate_succ, List.replicate_zero, List.set_cons_zero, List.set_cons_succ, List.getElem?_cons_zero, List.getElem?_cons_succ, List.getElem?_nil, true_and, and_true, and_self, if_true, if_false, Bool.false_eq_true, reduceIte, List.mem_cons, List.not_mem_nil, or_false, false_or, reduceCtorEq, Nat.reduceEqDiff, or_self, or_true, true_or, Option.map_some, Option.getD_some, Option.isSome_some, Bool.not_true, Bool.not_false, Bool.and_true, Bool.true_and, Bool.and_eq_true, decide_eq_true_eq, Nat.zero_lt_succ, Nat.lt_add_one, Nat.succ_ne_self, Nat.add_one_ne_zero, not_true_eq_false, not_false_eq_true, wv_frz, shift_nil, shift_cons, Option.bind_some, wv_mutF, wv_mutV, wv_meth, wv_make, wv_callW, ws_setF, wg_un, kFld_obj, setO_obj, mutO_obj, hasL_obj, isO_obj, asL_own, bare_at, frzs_nil, frzs_cons, foks_nil, foks_cons]
      refine wD_mono (bytes_ok hd (i := i) (by omega) (by omega)) ?_ fun _ _ h => h.elim
      rintro _ _ ⟨l, i', hlb, hll, j0, j1, rfl, rfl⟩
      simp only [ws_asg, ws_ret, ws_retN, ws_drop, ws_pass, ws_bk, ws_ct, ws_if, ws_aug, ws_augI, ws_for, wv_cp, wv_mk, wv_share, wv_move, wv_1, wv_2, wv_A, wa_nil, wa_cons, wa_io, wv_tup, wv_lst, wv_call, wv_if, wv_sl, wv_ixN, wv_mt, wv_mut, wv_and, wv_or, wv_not, wv_lc, wi_arg, wb_q, wb_t, wb_v, wb_and, wb_or, wb_not, wb_yes, wq_var, wq_c, wq_2, wq_1, wq_A, wq_lNil, wq_lCons, wq_sl, wo_none, wo_some, wg_item, wg_set, wg_tup, wg_cons, wg_nil, wR_rb, wR_rp, wO_some, wO_none, wO_bind, wO_map, wO_iteN, look_zero, look_succ, Ed.turn, kIx_lst, kIx_tup, kIx_T, atI_0, atI_1, atI_2, atI_3, atI_4, atI_5, atI_6, atI_cast, ixN_0, ixN_1, ixN_2, ixN_3, asI_int, asB_bl, asS_str, oI_int, cT_true, kAdd_int, kAdd_T, kAdd_lst, kAdd_tup, kInt_int, kInt_bl, kMin_int, kMax_int, kLen_lst, kLen_tup, kLen_T, nOw_at, nOw_tup, nOw_lstF, nOw_own, nOws_nil, nOws_cons, nOws_append, nOws_ints, kEq_int, kNe_int, kEq_T, kNe_T, kEq_bl, kIsN_at, kNotN_at, kIsN_nd, kNotN_nd, kList_lst, kList_tup, kTuple_lst, kAppend_one, kSl_lst, kSl_T, kSl_tup, kRng1_int, kRng2_int, isL_own, frz_at, fok_at, frz_lst, fok_lst, frz_tup, fok_tup, kItL_lst, kItT_tup, kItS_T, kZip_lst, kEnum_lst, hole_none, hole_succ, putB_nil, putB_cons, finD_nil, finD_cons, lowE_nil, lowE_cons, lowS_some, lowS_none, wipeE_nil, wipeE_cons, backE_nil, backE_cons, kMod_int, kGe_int, kIn_T, List.map_cons, List.map_nil, List.length_cons, List.length_nil, List.length_map, List.length_set, List.cons_append, List.nil_append, Nat.reduceAdd, Nat.reduceSub, Nat.reduceLT, Nat.reduceLeDiff, Nat.zero_add, List.replicate_succ, List.replicate_zero, List.set_cons_zero, List.set_cons_succ, List.getElem?_cons_zero, List.getElem?_cons_succ, List.getElem?_nil, true_and, and_true, and_self, if_true, if_false, Bool.false_eq_true, reduceIte, List.mem_cons, List.not_mem_nil, or_false, false_or, reduceCtorEq, Nat.reduceEqDiff, or_self, or_true, true_or, Option.map_some, Option.getD_some, Option.isSome_some, Bool.not_true, Bool.not_false, Bool.and_true, Bool.true_and, Bool.and_eq_true, decide_eq_true_eq, Nat.zero_lt_succ, Nat.lt_add_one, Nat.succ_ne_self, Nat.add_one_ne_zero, not_true_eq_false, not_false_eq_true, wv_frz, shift_nil, shift_cons, Option.bind_some, wv_mutF, wv_mutV, wv_meth, wv_make, wv_callW, ws_setF, wg_un, kFld_obj, setO_obj, mutO_obj, hasL_obj, isO_obj, asL_own, bare_at, frzs_nil, frzs_cons, foks_nil, foks_cons]
      refine ⟨by simp [sizeLine]; omega, rs ++ [l], i', by simp [hn], ?_, by omega, by omega, by simp, rfl⟩
      intro r hr
      rcases List.mem_append.mp hr with hr | hr
      · exact hok r hr
      · cases List.mem_singleton.mp hr; exact ⟨hlb, hll⟩
    · rintro acc ρ ⟨rs, i, hn, hok, i0, i1, rfl, rfl⟩
      rw [rngD_length] at hn i1
      simp only [ws_asg, ws_ret, ws_retN, ws_drop, ws_pass, ws_bk, ws_ct, ws_if, ws_aug, ws_augI, ws_for, wv_cp, wv_mk, wv_share, wv_move, wv_1, wv_2, wv_A, wa_nil, wa_cons, wa_io, wv_tup, wv_lst, wv_call, wv_if, wv_sl, wv_ixN, wv_mt, wv_mut, wv_and, wv_or, wv_not, wv_lc, wi_arg, wb_q, wb_t, wb_v, wb_and, wb_or, wb_not, wb_yes, wq_var, wq_c, wq_2, wq_1, wq_A, wq_lNil, wq_lCons, wq_sl, wo_none, wo_some, wg_item, wg_set, wg_tup, wg_cons, wg_nil, wR_rb, wR_rp, wO_some, wO_none, wO_bind, wO_map, wO_iteN, look_zero, look_succ, Ed.turn, kIx_lst, kIx_tup, kIx_T, atI_0, atI_1, atI_2, atI_3, atI_4, atI_5, atI_6, atI_cast, ixN_0, ixN_1, ixN_2, ixN_3, asI_int, asB_bl, asS_str, oI_int, cT_true, kAdd_int, kAdd_T, kAdd_lst, kAdd_tup, kInt_int, kInt_bl, kMin_int, kMax_int, kLen_lst, kLen_tup, kLen_T, nOw_at, nOw_tup, nOw_lstF, nOw_own, nOws_nil, nOws_cons, nOws_append, nOws_ints, kEq_int, kNe_int, kEq_T, kNe_T, kEq_bl, kIsN_at, kNotN_at, kIsN_nd, kNotN_nd, kList_lst, kList_tup, kTuple_lst, kAppend_one, kSl_lst, kSl_T, kSl_tup, kRng1_int, kRng2_int, isL_own, frz_at, fok_at, frz_lst, fok_lst, frz_tup, fok_tup, kItL_lst, kItT_tup, kItS_T, kZip_lst, kEnum_lst, hole_none, hole_succ, putB_nil, putB_cons, finD_nil, finD_cons, lowE_nil, lowE_cons, lowS_some, lowS_none, wipeE_nil, wipeE_cons, backE_nil, backE_cons, kMod_int, kGe_int, kIn_T, List.map_cons, List.map_nil, List.length_cons, List.length_nil, List.length_map, List.length_set, List.cons_append, List.nil_append, Nat.reduceAdd, Nat.reduceSub, Nat.reduceLT, Nat.reduceLeDiff, Nat.zero_add, List.replicate_succ, List.replicate_zero, List.set_cons_zero, List.set_cons_succ, List.getElem?_cons_zero, List.getElem?_cons_succ, List.getElem?_nil, true_and, and_true, and_self, if_true, if_false, Bool.false_eq_true, reduceIte, List.mem_cons, List.not_mem_nil, or_false, false_or, reduceCtorEq, Nat.reduceEqDiff, or_self, or_true, true_or, Option.map_some, Option.getD_some, Option.isSome_some, Bool.not_true, Bool.not_false, Bool.and_true, Bool.true_and, Bool.and_eq_true, decide_eq_true_eq, Nat.zero_lt_succ, Nat.lt_add_one, Nat.succ_ne_self, Nat.add_one_ne_zero, not_true_eq_false, not_false_eq_true, wv_frz, shift_nil, shift_cons, Option.bind_some, wv_mutF, wv_mutV, wv_meth, wv_make, wv_callW, ws_setF, wg_un, kFld_obj, setO_obj, mutO_obj, hasL_obj, isO_obj, asL_own, bare_at, frzs_nil, frzs_cons, foks_nil, foks_cons]
      exact ⟨rs, i, hok, by omega, i0, by omega, rfl⟩
  rintro ρ ⟨rs, i, hok, hrl, i0, i1, rfl⟩
  refine ws_mid (fun ρ => ρ = eA ns dr i (some (.own (W rs))) none (some (.own (I []))) none none none none none none) ?_ ?_
  · simp only [ws_asg, ws_ret, ws_retN, ws_drop, ws_pass, ws_bk, ws_ct, ws_if, ws_aug, ws_augI, ws_for, wv_cp, wv_mk, wv_share, wv_move, wv_1, wv_2, wv_A, wa_nil, wa_cons, wa_io, wv_tup, wv_lst, wv_call, wv_if, wv_sl, wv_ixN, wv_mt, wv_mut, wv_and, wv_or, wv_not, wv_lc, wi_arg, wb_q, wb_t, wb_v, wb_and, wb_or, wb_not, wb_yes, wq_var, wq_c, wq_2, wq_1, wq_A, wq_lNil, wq_lCons, wq_sl, wo_none, wo_some, wg_item, wg_set, wg_tup, wg_cons, wg_nil, wR_rb, wR_rp, wO_some, wO_none, wO_bind, wO_map, wO_iteN, look_zero, look_succ, Ed.turn, kIx_lst, kIx_tup, kIx_T, atI_0, atI_1, atI_2, atI_3, atI_4, atI_5, atI_6, atI_cast, ixN_0, ixN_1, ixN_2, ixN_3, asI_int, asB_bl, asS_str, oI_int, cT_true, kAdd_int, kAdd_T, kAdd_lst, kAdd_tup, kInt_int, kInt_bl, kMin_int, kMax_int, kLen_lst, kLen_tup, kLen_T, nOw_at, nOw_tup, nOw_lstF, nOw_own, nOws_nil, nOws_cons, nOws_append, nOws_ints, kEq_int, kNe_int, kEq_T, kNe_T, kEq_bl, kIsN_at, kNotN_at, kIsN_nd, kNotN_nd, kList_lst, kList_tup, kTuple_lst, kAppend_one, kSl_lst, kSl_T, kSl_tup, kRng1_int, kRng2_int, isL_own, frz_at, fok_at, frz_lst, fok_lst, frz_tup, fok_tup, kItL_lst, kItT_tup, kItS_T, kZip_lst, kEnum_lst, hole_none, hole_succ, putB_nil, putB_cons, finD_nil, finD_cons, lowE_nil, lowE_cons, lowS_some, lowS_none, wipeE_nil, wipeE_cons, backE_nil, backE_cons, kMod_int, kGe_int, kIn_T, List.map_cons, List.map_nil, List.length_cons, List.length_nil, List.length_map, List.length_set, List.cons_append, List.nil_append, Nat.reduceAdd, Nat.reduceSub, Nat.reduceLT, Nat.reduceLeDiff, Nat.zero_add, List.replicate_succ, List.replicate_zero, List.set_cons_zero, List.set_cons_succ, List.getElem?_cons_zero, List.getElem?_cons_succ, List.getElem?_nil, true_and, and_true, and_self, if_true, if_false, Bool.false_eq_true, reduceIte, List.mem_cons, List.not_mem_nil, or_false, false_or, reduceCtorEq, Nat.reduceEqDiff, or_self, or_true, true_or, Option.map_some, Option.getD_some, Option.isSome_some, Bool.not_true, Bool.not_false, Bool.and_true, Bool.true_and, Bool.and_eq_true, decide_eq_true_eq, Nat.zero_lt_succ, Nat.lt_add_one, Nat.succ_ne_self, Nat.add_one_ne_zero, not_true_eq_false, not_false_eq_true, wv_frz, shift_nil, shift_cons, Option.bind_some, wv_mutF, wv_mutV, wv_meth, wv_make, wv_callW, ws_setF, wg_un, kFld_obj, setO_obj, mutO_obj, hasL_obj, isO_obj, asL_own, bare_at, frzs_nil, frzs_cons, foks_nil, foks_cons]
    decide
  rintro ρ rfl
  refine ws_mid (fun ρ => ρ = eA ns dr i (some (.own (W rs))) none (some (.own (I []))) (some (.own (I [0]))) none none none none none) ?_ ?_
  · simp only [ws_asg, ws_ret, ws_retN, ws_drop, ws_pass, ws_bk, ws_ct, ws_if, ws_aug, ws_augI, ws_for, wv_cp, wv_mk, wv_share, wv_move, wv_1, wv_2, wv_A, wa_nil, wa_cons, wa_io, wv_tup, wv_lst, wv_call, wv_if, wv_sl, wv_ixN, wv_mt, wv_mut, wv_and, wv_or, wv_not, wv_lc, wi_arg, wb_q, wb_t, wb_v, wb_and, wb_or, wb_not, wb_yes, wq_var, wq_c, wq_2, wq_1, wq_A, wq_lNil, wq_lCons, wq_sl, wo_none, wo_some, wg_item, wg_set, wg_tup, wg_cons, wg_nil, wR_rb, wR_rp, wO_some, wO_none, wO_bind, wO_map, wO_iteN, look_zero, look_succ, Ed.turn, kIx_lst, kIx_tup, kIx_T, atI_0, atI_1, atI_2, atI_3, atI_4, atI_5, atI_6, atI_cast, ixN_0, ixN_1, ixN_2, ixN_3, asI_int, asB_bl, asS_str, oI_int, cT_true, kAdd_int, kAdd_T, kAdd_lst, kAdd_tup, kInt_int, kInt_bl, kMin_int, kMax_int, kLen_lst, kLen_tup, kLen_T, nOw_at, nOw_tup, nOw_lstF, nOw_own, nOws_nil, nOws_cons, nOws_append, nOws_ints, kEq_int, kNe_int, kEq_T, kNe_T, kEq_bl, kIsN_at, kNotN_at, kIsN_nd, kNotN_nd, kList_lst, kList_tup, kTuple_lst, kAppend_one, kSl_lst, kSl_T, kSl_tup, kRng1_int, kRng2_int, isL_own, frz_at, fok_at, frz_lst, fok_lst, frz_tup, fok_tup, kItL_lst, kItT_tup, kItS_T, kZip_lst, kEnum_lst, hole_none, hole_succ, putB_nil, putB_cons, finD_nil, finD_cons, lowE_nil, lowE_cons, lowS_some, lowS_none, wipeE_nil, wipeE_cons, backE_nil, backE_cons, kMod_int, kGe_int, kIn_T, List.map_cons, List.map_nil, List.length_cons, List.length_nil, List.length_map, List.length_set, List.cons_append, List.nil_append, Nat.reduceAdd, Nat.reduceSub, Nat.reduceLT, Nat.reduceLeDiff, Nat.zero_add, List.replicate_succ, List.replicate_zero, List.set_cons_zero, List.set_cons_succ, List.getElem?_cons_zero, List.getElem?_cons_succ, List.getElem?_nil, true_and, and_true, and_self, if_true, if_false, Bool.false_eq_true, reduceIte, List.mem_cons, List.not_mem_nil, or_false, false_or, reduceCtorEq, Nat.reduceEqDiff, or_self, or_true, true_or, Option.map_some, Option.getD_some, Option.isSome_some, Bool.not_true, Bool.not_false, Bool.and_true, Bool.true_and, Bool.and_eq_true, decide_eq_true_eq, Nat.zero_lt_succ, Nat.lt_add_one, Nat.succ_ne_self, Nat.add_one_ne_zero, not_true_eq_false, not_false_eq_true, wv_frz, shift_nil, shift_cons, Option.bind_some, wv_mutF, wv_mutV, wv_meth, wv_make, wv_callW, ws_setF, wg_un, kFld_obj, setO_obj, mutO_obj, hasL_obj, isO_obj, asL_own, bare_at, frzs_nil, frzs_cons, foks_nil, foks_cons]
    decide
  rintro ρ rfl
  have hfl := flat_len hok
  refine ws_mid (fun ρ => ∃ x6 x7 o, ρ = eA ns dr i (some (.lst (Wf rs))) none (some (.nd (.lst o) (I (flat rs)))) (some (.own (I (szs rs rs.length)))) x6 x7 none none none) ?_ ?_
  · simp only [ws_asg, ws_ret, ws_retN, ws_drop, ws_pass, ws_bk, ws_ct, ws_if, ws_aug, ws_augI, ws_for, wv_cp, wv_mk, wv_share, wv_move, wv_1, wv_2, wv_A, wa_nil, wa_cons, wa_io, wv_tup, wv_lst, wv_call, wv_if, wv_sl, wv_ixN, wv_mt, wv_mut, wv_and, wv_or, wv_not, wv_lc, wi_arg, wb_q, wb_t, wb_v, wb_and, wb_or, wb_not, wb_yes, wq_var, wq_c, wq_2, wq_1, wq_A, wq_lNil, wq_lCons, wq_sl, wo_none, wo_some, wg_item, wg_set, wg_tup, wg_cons, wg_nil, wR_rb, wR_rp, wO_some, wO_none, wO_bind, wO_map, wO_iteN, look_zero, look_succ, Ed.turn, kIx_lst, kIx_tup, kIx_T, atI_0, atI_1, atI_2, atI_3, atI_4, atI_5, atI_6, atI_cast, ixN_0, ixN_1, ixN_2, ixN_3, asI_int, asB_bl, asS_str, oI_int, cT_true, kAdd_int, kAdd_T, kAdd_lst, kAdd_tup, kInt_int, kInt_bl, kMin_int, kMax_int, kLen_lst, kLen_tup, kLen_T, nOw_at, nOw_tup, nOw_lstF, nOw_own, nOws_nil, nOws_cons, nOws_append, nOws_ints, kEq_int, kNe_int, kEq_T, kNe_T, kEq_bl, kIsN_at, kNotN_at, kIsN_nd, kNotN_nd, kList_lst, kList_tup, kTuple_lst, kAppend_one, kSl_lst, kSl_T, kSl_tup, kRng1_int, kRng2_int, isL_own, frz_at, fok_at, frz_lst, fok_lst, frz_tup, fok_tup, kItL_lst, kItT_tup, kItS_T, kZip_lst, kEnum_lst, hole_none, hole_succ, putB_nil, putB_cons, finD_nil, finD_cons, lowE_nil, lowE_cons, lowS_some, lowS_none, wipeE_nil, wipeE_cons, backE_nil, backE_cons, kMod_int, kGe_int, kIn_T, List.map_cons, List.map_nil, List.length_cons, List.length_nil, List.length_map, List.length_set, List.cons_append, List.nil_append, Nat.reduceAdd, Nat.reduceSub, Nat.reduceLT, Nat.reduceLeDiff, Nat.zero_add, List.replicate_succ, List.replicate_zero, List.set_cons_zero, List.set_cons_succ, List.getElem?_cons_zero, List.getElem?_cons_succ, List.getElem?_nil, true_and, and_true, and_self, if_true, if_false, Bool.false_eq_true, reduceIte, List.mem_cons, List.not_mem_nil, or_false, false_or, reduceCtorEq, Nat.reduceEqDiff, or_self, or_true, true_or, Option.map_some, Option.getD_some, Option.isSome_some, Bool.not_true, Bool.not_false, Bool.and_true, Bool.true_and, Bool.and_eq_true, decide_eq_true_eq, Nat.zero_lt_succ, Nat.lt_add_one, Nat.succ_ne_self, Nat.add_one_ne_zero, not_true_eq_false, not_false_eq_true, wv_frz, shift_nil, shift_cons, Option.bind_some, wv_mutF, wv_mutV, wv_meth, wv_make, wv_callW, ws_setF, wg_un, kFld_obj, setO_obj, mutO_obj, hasL_obj, isO_obj, asL_own, bare_at, frzs_nil, frzs_cons, foks_nil, foks_cons, foks_W, frzs_W, foks_Wf, frzs_Wf]
    refine w_for (fun n ρ => ∃ x6 x7 o, ρ = eA ns dr i (some (.lst (Wf rs))) none (some (.nd (.lst o) (I (flat (rs.take n))))) (some (.own (I (szs rs n)))) x6 x7 none none none) ⟨none, none, true, rfl⟩ ?_ ?_
    · rintro n d ρ hdd ⟨x6, x7, o, rfl⟩
      rw [List.getElem?_map] at hdd
      obtain ⟨r, hr, rfl⟩ := Option.map_eq_some_iff.mp hdd
      obtain ⟨hn, hrn⟩ := List.getElem?_eq_some_iff.mp hr
      have hrk := hok r (List.mem_of_getElem? hr)
      have hfn := flat_len (rs := rs.take n) (fun q hq => hok q (List.mem_of_mem_take hq))
      have htl : (rs.take n).length ≤ 10 := by rw [List.length_take]; omega
      have hfs : flat (rs.take (n + 1)) = flat (rs.take n) ++ rcd r := by
        rw [List.take_succ, hr, flat_append]
        show _ ++ flat [r] = _
        rw [flat_cons, flat_nil, List.append_nil]
      have hrr := rcd_len (l := r) (by omega)
      simp only [wg_set]
      refine ⟨by simp, ?_⟩
      refine ws_mid (fun ρ => ρ = eA ns dr i (some (.lst (Wf rs))) none (some (.nd (.lst o) (I (flat (rs.take n))))) (some (.own (I (szs rs n)))) (some (.lst (I r))) (some (.own (I r))) none none none) ?_ ?_
      · simp only [ws_asg, ws_ret, ws_retN, ws_drop, ws_pass, ws_bk, ws_ct, ws_if, ws_aug, ws_augI, ws_for, wv_cp, wv_mk, wv_share, wv_move, wv_1, wv_2, wv_A, wa_nil, wa_cons, wa_io, wv_tup, wv_lst, wv_call, wv_if, wv_sl, wv_ixN, wv_mt, wv_mut, wv_and, wv_or, wv_not, wv_lc, wi_arg, wb_q, wb_t, wb_v, wb_and, wb_or, wb_not, wb_yes, wq_var, wq_c, wq_2, wq_1, wq_A, wq_lNil, wq_lCons, wq_sl, wo_none, wo_some, wg_item, wg_set, wg_tup, wg_cons, wg_nil, wR_rb, wR_rp, wO_some, wO_none, wO_bind, wO_map, wO_iteN, look_zero, look_succ, Ed.turn, kIx_lst, kIx_tup, kIx_T, atI_0, atI_1, atI_2, atI_3, atI_4, atI_5, atI_6, atI_cast, ixN_0, ixN_1, ixN_2, ixN_3, asI_int, asB_bl, asS_str, oI_int, cT_true, kAdd_int, kAdd_T, kAdd_lst, kAdd_tup, kInt_int, kInt_bl, kMin_int, kMax_int, kLen_lst, kLen_tup, kLen_T, nOw_at, nOw_tup, nOw_lstF, nOw_own, nOws_nil, nOws_cons, nOws_append, nOws_ints, kEq_int, kNe_int, kEq_T, kNe_T, kEq_bl, kIsN_at, kNotN_at, kIsN_nd, kNotN_nd, kList_lst, kList_tup, kTuple_lst, kAppend_one, kSl_lst, kSl_T, kSl_tup, kRng1_int, kRng2_int, isL_own, frz_at, fok_at, frz_lst, fok_lst, frz_tup, fok_tup, kItL_lst, kItT_tup, kItS_T, kZip_lst, kEnum_lst, hole_none, hole_succ, putB_nil, putB_cons, finD_nil, finD_cons, lowE_nil, lowE_cons, lowS_some, lowS_none, wipeE_nil, wipeE_cons, backE_nil, backE_cons, kMod_int, kGe_int, kIn_T, List.map_cons, List.map_nil, List.length_cons, List.length_nil, List.length_map, List.length_set, List.cons_append, List.nil_append, Nat.reduceAdd, Nat.reduceSub, Nat.reduceLT, Nat.reduceLeDiff, Nat.zero_add, List.replicate_succ, List.replicate_zero, List.set_cons_zero, List.set_cons_succ, List.getElem?_cons_zero, List.getElem?_cons_succ, List.getElem?_nil, true_and, and_true, and_self, if_true, if_false, Bool.false_eq_true, reduceIte, List.mem_cons, List.not_mem_nil, or_false, false_or, reduceCtorEq, Nat.reduceEqDiff, or_self, or_true, true_or, Option.map_some, Option.getD_some, Option.isSome_some, Bool.not_true, Bool.not_false, Bool.and_true, Bool.true_and, Bool.and_eq_true, decide_eq_true_eq, Nat.zero_lt_succ, Nat.lt_add_one, Nat.succ_ne_self, Nat.add_one_ne_zero, not_true_eq_false, not_false_eq_true, wv_frz, shift_nil, shift_cons, Option.bind_some, wv_mutF, wv_mutV, wv_meth, wv_make, wv_callW, ws_setF, wg_un, kFld_obj, setO_obj, mutO_obj, hasL_obj, isO_obj, asL_own, bare_at, frzs_nil, frzs_cons, foks_nil, foks_cons, nOws_I]
      rintro ρ rfl
      refine ws_mid (fun ρ => ρ = eA ns dr i (some (.lst (Wf rs))) none (some (.nd (.lst o) (I (flat (rs.take n))))) (some (.own (I (szs rs n)))) (some (.lst (I r))) (some (.own (I r))) none none none) ?_ ?_
      · simp only [ws_asg, ws_ret, ws_retN, ws_drop, ws_pass, ws_bk, ws_ct, ws_if, ws_aug, ws_augI, ws_for, wv_cp, wv_mk, wv_share, wv_move, wv_1, wv_2, wv_A, wa_nil, wa_cons, wa_io, wv_tup, wv_lst, wv_call, wv_if, wv_sl, wv_ixN, wv_mt, wv_mut, wv_and, wv_or, wv_not, wv_lc, wi_arg, wb_q, wb_t, wb_v, wb_and, wb_or, wb_not, wb_yes, wq_var, wq_c, wq_2, wq_1, wq_A, wq_lNil, wq_lCons, wq_sl, wo_none, wo_some, wg_item, wg_set, wg_tup, wg_cons, wg_nil, wR_rb, wR_rp, wO_some, wO_none, wO_bind, wO_map, wO_iteN, look_zero, look_succ, Ed.turn, kIx_lst, kIx_tup, kIx_T, atI_0, atI_1, atI_2, atI_3, atI_4, atI_5, atI_6, atI_cast, ixN_0, ixN_1, ixN_2, ixN_3, asI_int, asB_bl, asS_str, oI_int, cT_true, kAdd_int, kAdd_T, kAdd_lst, kAdd_tup, kInt_int, kInt_bl, kMin_int, kMax_int, kLen_lst, kLen_tup, kLen_T, nOw_at, nOw_tup, nOw_lstF, nOw_own, nOws_nil, nOws_cons, nOws_append, nOws_ints, kEq_int, kNe_int, kEq_T, kNe_T, kEq_bl, kIsN_at, kNotN_at, kIsN_nd, kNotN_nd, kList_lst, kList_tup, kTuple_lst, kAppend_one, kSl_lst, kSl_T, kSl_tup, kRng1_int, kRng2_int, isL_own, frz_at, fok_at, frz_lst, fok_lst, frz_tup, fok_tup, kItL_lst, kItT_tup, kItS_T, kZip_lst, kEnum_lst, hole_none, hole_succ, putB_nil, putB_cons, finD_nil, finD_cons, lowE_nil, lowE_cons, lowS_some, lowS_none, wipeE_nil, wipeE_cons, backE_nil, backE_cons, kMod_int, kGe_int, kIn_T, List.map_cons, List.map_nil, List.length_cons, List.length_nil, List.length_map, List.length_set, List.cons_append, List.nil_append, Nat.reduceAdd, Nat.reduceSub, Nat.reduceLT, Nat.reduceLeDiff, Nat.zero_add, List.replicate_succ, List.replicate_zero, List.set_cons_zero, List.set_cons_succ, List.getElem?_cons_zero, List.getElem?_cons_succ, List.getElem?_nil, true_and, and_true, and_self, if_true, if_false, Bool.false_eq_true, reduceIte, List.mem_cons, List.not_mem_nil, or_false, false_or, reduceCtorEq, Nat.reduceEqDiff, or_self, or_true, true_or, Option.map_some, Option.getD_some, Option.isSome_some, Bool.not_true, Bool.not_false, Bool.and_true, Bool.true_and, Bool.and_eq_true, decide_eq_true_eq, Nat.zero_lt_succ, Nat.lt_add_one, Nat.succ_ne_self, Nat.add_one_ne_zero, not_true_eq_false, not_false_eq_true, wv_frz, shift_nil, shift_cons, Option.bind_some, wv_mutF, wv_mutV, wv_meth, wv_make, wv_callW, ws_setF, wg_un, kFld_obj, setO_obj, mutO_obj, hasL_obj, isO_obj, asL_own, bare_at, frzs_nil, frzs_cons, foks_nil, foks_cons, foks_I, frzs_I]
        refine wD_mono (checksum_ok (l := r) (by omega) hrk.1) ?_ fun _ _ h => h.elim
        rintro d as rfl
        simp only [ws_asg, ws_ret, ws_retN, ws_drop, ws_pass, ws_bk, ws_ct, ws_if, ws_aug, ws_augI, ws_for, wv_cp, wv_mk, wv_share, wv_move, wv_1, wv_2, wv_A, wa_nil, wa_cons, wa_io, wv_tup, wv_lst, wv_call, wv_if, wv_sl, wv_ixN, wv_mt, wv_mut, wv_and, wv_or, wv_not, wv_lc, wi_arg, wb_q, wb_t, wb_v, wb_and, wb_or, wb_not, wb_yes, wq_var, wq_c, wq_2, wq_1, wq_A, wq_lNil, wq_lCons, wq_sl, wo_none, wo_some, wg_item, wg_set, wg_tup, wg_cons, wg_nil, wR_rb, wR_rp, wO_some, wO_none, wO_bind, wO_map, wO_iteN, look_zero, look_succ, Ed.turn, kIx_lst, kIx_tup, kIx_T, atI_0, atI_1, atI_2, atI_3, atI_4, atI_5, atI_6, atI_cast, ixN_0, ixN_1, ixN_2, ixN_3, asI_int, asB_bl, asS_str, oI_int, cT_true, kAdd_int, kAdd_T, kAdd_lst, kAdd_tup, kInt_int, kInt_bl, kMin_int, kMax_int, kLen_lst, kLen_tup, kLen_T, nOw_at, nOw_tup, nOw_lstF, nOw_own, nOws_nil, nOws_cons, nOws_append, nOws_ints, kEq_int, kNe_int, kEq_T, kNe_T, kEq_bl, kIsN_at, kNotN_at, kIsN_nd, kNotN_nd, kList_lst, kList_tup, kTuple_lst, kAppend_one, kSl_lst, kSl_T, kSl_tup, kRng1_int, kRng2_int, isL_own, frz_at, fok_at, frz_lst, fok_lst, frz_tup, fok_tup, kItL_lst, kItT_tup, kItS_T, kZip_lst, kEnum_lst, hole_none, hole_succ, putB_nil, putB_cons, finD_nil, finD_cons, lowE_nil, lowE_cons, lowS_some, lowS_none, wipeE_nil, wipeE_cons, backE_nil, backE_cons, kMod_int, kGe_int, kIn_T, List.map_cons, List.map_nil, List.length_cons, List.length_nil, List.length_map, List.length_set, List.cons_append, List.nil_append, Nat.reduceAdd, Nat.reduceSub, Nat.reduceLT, Nat.reduceLeDiff, Nat.zero_add, List.replicate_succ, List.replicate_zero, List.set_cons_zero, List.set_cons_succ, List.getElem?_cons_zero, List.getElem?_cons_succ, List.getElem?_nil, true_and, and_true, and_self, if_true, if_false, Bool.false_eq_true, reduceIte, List.mem_cons, List.not_mem_nil, or_false, false_or, reduceCtorEq, Nat.reduceEqDiff, or_self, or_true, true_or, Option.map_some, Option.getD_some, Option.isSome_some, Bool.not_true, Bool.not_false, Bool.and_true, Bool.true_and, Bool.and_eq_true, decide_eq_true_eq, Nat.zero_lt_succ, Nat.lt_add_one, Nat.succ_ne_self, Nat.add_one_ne_zero, not_true_eq_false, not_false_eq_true, wv_frz, shift_nil, shift_cons, Option.bind_some, wv_mutF, wv_mutV, wv_meth, wv_make, wv_callW, ws_setF, wg_un, kFld_obj, setO_obj, mutO_obj, hasL_obj, isO_obj, asL_own, bare_at, frzs_nil, frzs_cons, foks_nil, foks_cons, foks_I, frzs_I]
        refine wD_mono (law_checksum_ok (l := r) (by omega) hrk.1) ?_ fun _ _ h => h.elim
        rintro d as rfl
        simp only [ws_asg, ws_ret, ws_retN, ws_drop, ws_pass, ws_bk, ws_ct, ws_if, ws_aug, ws_augI, ws_for, wv_cp, wv_mk, wv_share, wv_move, wv_1, wv_2, wv_A, wa_nil, wa_cons, wa_io, wv_tup, wv_lst, wv_call, wv_if, wv_sl, wv_ixN, wv_mt, wv_mut, wv_and, wv_or, wv_not, wv_lc, wi_arg, wb_q, wb_t, wb_v, wb_and, wb_or, wb_not, wb_yes, wq_var, wq_c, wq_2, wq_1, wq_A, wq_lNil, wq_lCons, wq_sl, wo_none, wo_some, wg_item, wg_set, wg_tup, wg_cons, wg_nil, wR_rb, wR_rp, wO_some, wO_none, wO_bind, wO_map, wO_iteN, look_zero, look_succ, Ed.turn, kIx_lst, kIx_tup, kIx_T, atI_0, atI_1, atI_2, atI_3, atI_4, atI_5, atI_6, atI_cast, ixN_0, ixN_1, ixN_2, ixN_3, asI_int, asB_bl, asS_str, oI_int, cT_true, kAdd_int, kAdd_T, kAdd_lst, kAdd_tup, kInt_int, kInt_bl, kMin_int, kMax_int, kLen_lst, kLen_tup, kLen_T, nOw_at, nOw_tup, nOw_lstF, nOw_own, nOws_nil, nOws_cons, nOws_append, nOws_ints, kEq_int, kNe_int, kEq_T, kNe_T, kEq_bl, kIsN_at, kNotN_at, kIsN_nd, kNotN_nd, kList_lst, kList_tup, kTuple_lst, kAppend_one, kSl_lst, kSl_T, kSl_tup, kRng1_int, kRng2_int, isL_own, frz_at, fok_at, frz_lst, fok_lst, frz_tup, fok_tup, kItL_lst, kItT_tup, kItS_T, kZip_lst, kEnum_lst, hole_none, hole_succ, putB_nil, putB_cons, finD_nil, finD_cons, lowE_nil, lowE_cons, lowS_some, lowS_none, wipeE_nil, wipeE_cons, backE_nil, backE_cons, kMod_int, kGe_int, kIn_T, List.map_cons, List.map_nil, List.length_cons, List.length_nil, List.length_map, List.length_set, List.cons_append, List.nil_append, Nat.reduceAdd, Nat.reduceSub, Nat.reduceLT, Nat.reduceLeDiff, Nat.zero_add, List.replicate_succ, List.replicate_zero, List.set_cons_zero, List.set_cons_succ, List.getElem?_cons_zero, List.getElem?_cons_succ, List.getElem?_nil, true_and, and_true, and_self, if_true, if_false, Bool.false_eq_true, reduceIte, List.mem_cons, List.not_mem_nil, or_false, false_or, reduceCtorEq, Nat.reduceEqDiff, or_self, or_true, true_or, Option.map_some, Option.getD_some, Option.isSome_some, Bool.not_true, Bool.not_false, Bool.and_true, Bool.true_and, Bool.and_eq_true, decide_eq_true_eq, Nat.zero_lt_succ, Nat.lt_add_one, Nat.succ_ne_self, Nat.add_one_ne_zero, not_true_eq_false, not_false_eq_true, wv_frz, shift_nil, shift_cons, Option.bind_some, wv_mutF, wv_mutV, wv_meth, wv_make, wv_callW, ws_setF, wg_un, kFld_obj, setO_obj, mutO_obj, hasL_obj, isO_obj, asL_own, bare_at, frzs_nil, frzs_cons, foks_nil, foks_cons, foks_I, frzs_I]
        refine wD_mono (same5 (n := 1) (by decide) .int) ?_ fun _ _ h => h.elim
        rintro d as rfl
        simp only [ws_asg, ws_ret, ws_retN, ws_drop, ws_pass, ws_bk, ws_ct, ws_if, ws_aug, ws_augI, ws_for, wv_cp, wv_mk, wv_share, wv_move, wv_1, wv_2, wv_A, wa_nil, wa_cons, wa_io, wv_tup, wv_lst, wv_call, wv_if, wv_sl, wv_ixN, wv_mt, wv_mut, wv_and, wv_or, wv_not, wv_lc, wi_arg, wb_q, wb_t, wb_v, wb_and, wb_or, wb_not, wb_yes, wq_var, wq_c, wq_2, wq_1, wq_A, wq_lNil, wq_lCons, wq_sl, wo_none, wo_some, wg_item, wg_set, wg_tup, wg_cons, wg_nil, wR_rb, wR_rp, wO_some, wO_none, wO_bind, wO_map, wO_iteN, look_zero, look_succ, Ed.turn, kIx_lst, kIx_tup, kIx_T, atI_0, atI_1, atI_2, atI_3, atI_4, atI_5, atI_6, atI_cast, ixN_0, ixN_1, ixN_2, ixN_3, asI_int, asB_bl, asS_str, oI_int, cT_true, kAdd_int, kAdd_T, kAdd_lst, kAdd_tup, kInt_int, kInt_bl, kMin_int, kMax_int, kLen_lst, kLen_tup, kLen_T, nOw_at, nOw_tup, nOw_lstF, nOw_own, nOws_nil, nOws_cons, nOws_append, nOws_ints, kEq_int, kNe_int, kEq_T, kNe_T, kEq_bl, kIsN_at, kNotN_at, kIsN_nd, kNotN_nd, kList_lst, kList_tup, kTuple_lst, kAppend_one, kSl_lst, kSl_T, kSl_tup, kRng1_int, kRng2_int, isL_own, frz_at, fok_at, frz_lst, fok_lst, frz_tup, fok_tup, kItL_lst, kItT_tup, kItS_T, kZip_lst, kEnum_lst, hole_none, hole_succ, putB_nil, putB_cons, finD_nil, finD_cons, lowE_nil, lowE_cons, lowS_some, lowS_none, wipeE_nil, wipeE_cons, backE_nil, backE_cons, kMod_int, kGe_int, kIn_T, List.map_cons, List.map_nil, List.length_cons, List.length_nil, List.length_map, List.length_set, List.cons_append, List.nil_append, Nat.reduceAdd, Nat.reduceSub, Nat.reduceLT, Nat.reduceLeDiff, Nat.zero_add, List.replicate_succ, List.replicate_zero, List.set_cons_zero, List.set_cons_succ, List.getElem?_cons_zero, List.getElem?_cons_succ, List.getElem?_nil, true_and, and_true, and_self, if_true, if_false, Bool.false_eq_true, reduceIte, List.mem_cons, List.not_mem_nil, or_false, false_or, reduceCtorEq, Nat.reduceEqDiff, or_self, or_true, true_or, Option.map_some, Option.getD_some, Option.isSome_some, Bool.not_true, Bool.not_false, Bool.and_true, Bool.true_and, Bool.and_eq_true, decide_eq_true_eq, Nat.zero_lt_succ, Nat.lt_add_one, Nat.succ_ne_self, Nat.add_one_ne_zero, not_true_eq_false, not_false_eq_true, wv_frz, shift_nil, shift_cons, Option.bind_some, wv_mutF, wv_mutV, wv_meth, wv_make, wv_callW, ws_setF, wg_un, kFld_obj, setO_obj, mutO_obj, hasL_obj, isO_obj, asL_own, bare_at, frzs_nil, frzs_cons, foks_nil, foks_cons, foks_I, frzs_I]
        refine wD_mono (write_record_ok (l := r) (by omega) hrk.1) ?_ fun _ _ h => h.elim
        rintro d as rfl
        simp only [ws_asg, ws_ret, ws_retN, ws_drop, ws_pass, ws_bk, ws_ct, ws_if, ws_aug, ws_augI, ws_for, wv_cp, wv_mk, wv_share, wv_move, wv_1, wv_2, wv_A, wa_nil, wa_cons, wa_io, wv_tup, wv_lst, wv_call, wv_if, wv_sl, wv_ixN, wv_mt, wv_mut, wv_and, wv_or, wv_not, wv_lc, wi_arg, wb_q, wb_t, wb_v, wb_and, wb_or, wb_not, wb_yes, wq_var, wq_c, wq_2, wq_1, wq_A, wq_lNil, wq_lCons, wq_sl, wo_none, wo_some, wg_item, wg_set, wg_tup, wg_cons, wg_nil, wR_rb, wR_rp, wO_some, wO_none, wO_bind, wO_map, wO_iteN, look_zero, look_succ, Ed.turn, kIx_lst, kIx_tup, kIx_T, atI_0, atI_1, atI_2, atI_3, atI_4, atI_5, atI_6, atI_cast, ixN_0, ixN_1, ixN_2, ixN_3, asI_int, asB_bl, asS_str, oI_int, cT_true, kAdd_int, kAdd_T, kAdd_lst, kAdd_tup, kInt_int, kInt_bl, kMin_int, kMax_int, kLen_lst, kLen_tup, kLen_T, nOw_at, nOw_tup, nOw_lstF, nOw_own, nOws_nil, nOws_cons, nOws_append, nOws_ints, kEq_int, kNe_int, kEq_T, kNe_T, kEq_bl, kIsN_at, kNotN_at, kIsN_nd, kNotN_nd, kList_lst, kList_tup, kTuple_lst, kAppend_one, kSl_lst, kSl_T, kSl_tup, kRng1_int, kRng2_int, isL_own, frz_at, fok_at, frz_lst, fok_lst, frz_tup, fok_tup, kItL_lst, kItT_tup, kItS_T, kZip_lst, kEnum_lst, hole_none, hole_succ, putB_nil, putB_cons, finD_nil, finD_cons, lowE_nil, lowE_cons, lowS_some, lowS_none, wipeE_nil, wipeE_cons, backE_nil, backE_cons, kMod_int, kGe_int, kIn_T, List.map_cons, List.map_nil, List.length_cons, List.length_nil, List.length_map, List.length_set, List.cons_append, List.nil_append, Nat.reduceAdd, Nat.reduceSub, Nat.reduceLT, Nat.reduceLeDiff, Nat.zero_add, List.replicate_succ, List.replicate_zero, List.set_cons_zero, List.set_cons_succ, List.getElem?_cons_zero, List.getElem?_cons_succ, List.getElem?_nil, true_and, and_true, and_self, if_true, if_false, Bool.false_eq_true, reduceIte, List.mem_cons, List.not_mem_nil, or_false, false_or, reduceCtorEq, Nat.reduceEqDiff, or_self, or_true, true_or, Option.map_some, Option.getD_some, Option.isSome_some, Bool.not_true, Bool.not_false, Bool.and_true, Bool.true_and, Bool.and_eq_true, decide_eq_true_eq, Nat.zero_lt_succ, Nat.lt_add_one, Nat.succ_ne_self, Nat.add_one_ne_zero, not_true_eq_false, not_false_eq_true, wv_frz, shift_nil, shift_cons, Option.bind_some, wv_mutF, wv_mutV, wv_meth, wv_make, wv_callW, ws_setF, wg_un, kFld_obj, setO_obj, mutO_obj, hasL_obj, isO_obj, asL_own, bare_at, frzs_nil, frzs_cons, foks_nil, foks_cons, foks_I, frzs_I, bare_own, bares_I]
        refine wD_mono (law_record_ok (l := r) (by omega) hrk.1) ?_ fun _ _ h => h.elim
        rintro d as rfl
        simp only [ws_asg, ws_ret, ws_retN, ws_drop, ws_pass, ws_bk, ws_ct, ws_if, ws_aug, ws_augI, ws_for, wv_cp, wv_mk, wv_share, wv_move, wv_1, wv_2, wv_A, wa_nil, wa_cons, wa_io, wv_tup, wv_lst, wv_call, wv_if, wv_sl, wv_ixN, wv_mt, wv_mut, wv_and, wv_or, wv_not, wv_lc, wi_arg, wb_q, wb_t, wb_v, wb_and, wb_or, wb_not, wb_yes, wq_var, wq_c, wq_2, wq_1, wq_A, wq_lNil, wq_lCons, wq_sl, wo_none, wo_some, wg_item, wg_set, wg_tup, wg_cons, wg_nil, wR_rb, wR_rp, wO_some, wO_none, wO_bind, wO_map, wO_iteN, look_zero, look_succ, Ed.turn, kIx_lst, kIx_tup, kIx_T, atI_0, atI_1, atI_2, atI_3, atI_4, atI_5, atI_6, atI_cast, ixN_0, ixN_1, ixN_2, ixN_3, asI_int, asB_bl, asS_str, oI_int, cT_true, kAdd_int, kAdd_T, kAdd_lst, kAdd_tup, kInt_int, kInt_bl, kMin_int, kMax_int, kLen_lst, kLen_tup, kLen_T, nOw_at, nOw_tup, nOw_lstF, nOw_own, nOws_nil, nOws_cons, nOws_append, nOws_ints, kEq_int, kNe_int, kEq_T, kNe_T, kEq_bl, kIsN_at, kNotN_at, kIsN_nd, kNotN_nd, kList_lst, kList_tup, kTuple_lst, kAppend_one, kSl_lst, kSl_T, kSl_tup, kRng1_int, kRng2_int, isL_own, frz_at, fok_at, frz_lst, fok_lst, frz_tup, fok_tup, kItL_lst, kItT_tup, kItS_T, kZip_lst, kEnum_lst, hole_none, hole_succ, putB_nil, putB_cons, finD_nil, finD_cons, lowE_nil, lowE_cons, lowS_some, lowS_none, wipeE_nil, wipeE_cons, backE_nil, backE_cons, kMod_int, kGe_int, kIn_T, List.map_cons, List.map_nil, List.length_cons, List.length_nil, List.length_map, List.length_set, List.cons_append, List.nil_append, Nat.reduceAdd, Nat.reduceSub, Nat.reduceLT, Nat.reduceLeDiff, Nat.zero_add, List.replicate_succ, List.replicate_zero, List.set_cons_zero, List.set_cons_succ, List.getElem?_cons_zero, List.getElem?_cons_succ, List.getElem?_nil, true_and, and_true, and_self, if_true, if_false, Bool.false_eq_true, reduceIte, List.mem_cons, List.not_mem_nil, or_false, false_or, reduceCtorEq, Nat.reduceEqDiff, or_self, or_true, true_or, Option.map_some, Option.getD_some, Option.isSome_some, Bool.not_true, Bool.not_false, Bool.and_true, Bool.true_and, Bool.and_eq_true, decide_eq_true_eq, Nat.zero_lt_succ, Nat.lt_add_one, Nat.succ_ne_self, Nat.add_one_ne_zero, not_true_eq_false, not_false_eq_true, wv_frz, shift_nil, shift_cons, Option.bind_some, wv_mutF, wv_mutV, wv_meth, wv_make, wv_callW, ws_setF, wg_un, kFld_obj, setO_obj, mutO_obj, hasL_obj, isO_obj, asL_own, bare_at, frzs_nil, frzs_cons, foks_nil, foks_cons, foks_I, frzs_I, bare_own, bares_I]
        refine wD_mono (same5 (n := 2) (by decide) (plI (l := rcd r) (by omega))) ?_ fun _ _ h => h.elim
        rintro d as rfl
        simp only [ws_asg, ws_ret, ws_retN, ws_drop, ws_pass, ws_bk, ws_ct, ws_if, ws_aug, ws_augI, ws_for, wv_cp, wv_mk, wv_share, wv_move, wv_1, wv_2, wv_A, wa_nil, wa_cons, wa_io, wv_tup, wv_lst, wv_call, wv_if, wv_sl, wv_ixN, wv_mt, wv_mut, wv_and, wv_or, wv_not, wv_lc, wi_arg, wb_q, wb_t, wb_v, wb_and, wb_or, wb_not, wb_yes, wq_var, wq_c, wq_2, wq_1, wq_A, wq_lNil, wq_lCons, wq_sl, wo_none, wo_some, wg_item, wg_set, wg_tup, wg_cons, wg_nil, wR_rb, wR_rp, wO_some, wO_none, wO_bind, wO_map, wO_iteN, look_zero, look_succ, Ed.turn, kIx_lst, kIx_tup, kIx_T, atI_0, atI_1, atI_2, atI_3, atI_4, atI_5, atI_6, atI_cast, ixN_0, ixN_1, ixN_2, ixN_3, asI_int, asB_bl, asS_str, oI_int, cT_true, kAdd_int, kAdd_T, kAdd_lst, kAdd_tup, kInt_int, kInt_bl, kMin_int, kMax_int, kLen_lst, kLen_tup, kLen_T, nOw_at, nOw_tup, nOw_lstF, nOw_own, nOws_nil, nOws_cons, nOws_append, nOws_ints, kEq_int, kNe_int, kEq_T, kNe_T, kEq_bl, kIsN_at, kNotN_at, kIsN_nd, kNotN_nd, kList_lst, kList_tup, kTuple_lst, kAppend_one, kSl_lst, kSl_T, kSl_tup, kRng1_int, kRng2_int, isL_own, frz_at, fok_at, frz_lst, fok_lst, frz_tup, fok_tup, kItL_lst, kItT_tup, kItS_T, kZip_lst, kEnum_lst, hole_none, hole_succ, putB_nil, putB_cons, finD_nil, finD_cons, lowE_nil, lowE_cons, lowS_some, lowS_none, wipeE_nil, wipeE_cons, backE_nil, backE_cons, kMod_int, kGe_int, kIn_T, List.map_cons, List.map_nil, List.length_cons, List.length_nil, List.length_map, List.length_set, List.cons_append, List.nil_append, Nat.reduceAdd, Nat.reduceSub, Nat.reduceLT, Nat.reduceLeDiff, Nat.zero_add, List.replicate_succ, List.replicate_zero, List.set_cons_zero, List.set_cons_succ, List.getElem?_cons_zero, List.getElem?_cons_succ, List.getElem?_nil, true_and, and_true, and_self, if_true, if_false, Bool.false_eq_true, reduceIte, List.mem_cons, List.not_mem_nil, or_false, false_or, reduceCtorEq, Nat.reduceEqDiff, or_self, or_true, true_or, Option.map_some, Option.getD_some, Option.isSome_some, Bool.not_true, Bool.not_false, Bool.and_true, Bool.true_and, Bool.and_eq_true, decide_eq_true_eq, Nat.zero_lt_succ, Nat.lt_add_one, Nat.succ_ne_self, Nat.add_one_ne_zero, not_true_eq_false, not_false_eq_true, wv_frz, shift_nil, shift_cons, Option.bind_some, wv_mutF, wv_mutV, wv_meth, wv_make, wv_callW, ws_setF, wg_un, kFld_obj, setO_obj, mutO_obj, hasL_obj, isO_obj, asL_own, bare_at, frzs_nil, frzs_cons, foks_nil, foks_cons]
      rintro ρ rfl
      refine ws_mid (fun ρ => ρ = eA ns dr i (some (.lst (Wf rs))) none (some (.nd (.lst o) (I (flat (rs.take n))))) (some (.own (I (szs rs n)))) (some (.lst (I r))) (some (.own (I r))) none none none) ?_ ?_
      · simp only [ws_asg, ws_ret, ws_retN, ws_drop, ws_pass, ws_bk, ws_ct, ws_if, ws_aug, ws_augI, ws_for, wv_cp, wv_mk, wv_share, wv_move, wv_1, wv_2, wv_A, wa_nil, wa_cons, wa_io, wv_tup, wv_lst, wv_call, wv_if, wv_sl, wv_ixN, wv_mt, wv_mut, wv_and, wv_or, wv_not, wv_lc, wi_arg, wb_q, wb_t, wb_v, wb_and, wb_or, wb_not, wb_yes, wq_var, wq_c, wq_2, wq_1, wq_A, wq_lNil, wq_lCons, wq_sl, wo_none, wo_some, wg_item, wg_set, wg_tup, wg_cons, wg_nil, wR_rb, wR_rp, wO_some, wO_none, wO_bind, wO_map, wO_iteN, look_zero, look_succ, Ed.turn, kIx_lst, kIx_tup, kIx_T, atI_0, atI_1, atI_2, atI_3, atI_4, atI_5, atI_6, atI_cast, ixN_0, ixN_1, ixN_2, ixN_3, asI_int, asB_bl, asS_str, oI_int, cT_true, kAdd_int, kAdd_T, kAdd_lst, kAdd_tup, kInt_int, kInt_bl, kMin_int, kMax_int, kLen_lst, kLen_tup, kLen_T, nOw_at, nOw_tup, nOw_lstF, nOw_own, nOws_nil, nOws_cons, nOws_append, nOws_ints, kEq_int, kNe_int, kEq_T, kNe_T, kEq_bl, kIsN_at, kNotN_at, kIsN_nd, kNotN_nd, kList_lst, kList_tup, kTuple_lst, kAppend_one, kSl_lst, kSl_T, kSl_tup, kRng1_int, kRng2_int, isL_own, frz_at, fok_at, frz_lst, fok_lst, frz_tup, fok_tup, kItL_lst, kItT_tup, kItS_T, kZip_lst, kEnum_lst, hole_none, hole_succ, putB_nil, putB_cons, finD_nil, finD_cons, lowE_nil, lowE_cons, lowS_some, lowS_none, wipeE_nil, wipeE_cons, backE_nil, backE_cons, kMod_int, kGe_int, kIn_T, List.map_cons, List.map_nil, List.length_cons, List.length_nil, List.length_map, List.length_set, List.cons_append, List.nil_append, Nat.reduceAdd, Nat.reduceSub, Nat.reduceLT, Nat.reduceLeDiff, Nat.zero_add, List.replicate_succ, List.replicate_zero, List.set_cons_zero, List.set_cons_succ, List.getElem?_cons_zero, List.getElem?_cons_succ, List.getElem?_nil, true_and, and_true, and_self, if_true, if_false, Bool.false_eq_true, reduceIte, List.mem_cons, List.not_mem_nil, or_false, false_or, reduceCtorEq, Nat.reduceEqDiff, or_self, or_true, true_or, Option.map_some, Option.getD_some, Option.isSome_some, Bool.not_true, Bool.not_false, Bool.and_true, Bool.true_and, Bool.and_eq_true, decide_eq_true_eq, Nat.zero_lt_succ, Nat.lt_add_one, Nat.succ_ne_self, Nat.add_one_ne_zero, not_true_eq_false, not_false_eq_true, wv_frz, shift_nil, shift_cons, Option.bind_some, wv_mutF, wv_mutV, wv_meth, wv_make, wv_callW, ws_setF, wg_un, kFld_obj, setO_obj, mutO_obj, hasL_obj, isO_obj, asL_own, bare_at, frzs_nil, frzs_cons, foks_nil, foks_cons]
        rw [kNe_I]
        simp only [ws_asg, ws_ret, ws_retN, ws_drop, ws_pass, ws_bk, ws_ct, ws_if, ws_aug, ws_augI, ws_for, wv_cp, wv_mk, wv_share, wv_move, wv_1, wv_2, wv_A, wa_nil, wa_cons, wa_io, wv_tup, wv_lst, wv_call, wv_if, wv_sl, wv_ixN, wv_mt, wv_mut, wv_and, wv_or, wv_not, wv_lc, wi_arg, wb_q, wb_t, wb_v, wb_and, wb_or, wb_not, wb_yes, wq_var, wq_c, wq_2, wq_1, wq_A, wq_lNil, wq_lCons, wq_sl, wo_none, wo_some, wg_item, wg_set, wg_tup, wg_cons, wg_nil, wR_rb, wR_rp, wO_some, wO_none, wO_bind, wO_map, wO_iteN, look_zero, look_succ, Ed.turn, kIx_lst, kIx_tup, kIx_T, atI_0, atI_1, atI_2, atI_3, atI_4, atI_5, atI_6, atI_cast, ixN_0, ixN_1, ixN_2, ixN_3, asI_int, asB_bl, asS_str, oI_int, cT_true, kAdd_int, kAdd_T, kAdd_lst, kAdd_tup, kInt_int, kInt_bl, kMin_int, kMax_int, kLen_lst, kLen_tup, kLen_T, nOw_at, nOw_tup, nOw_lstF, nOw_own, nOws_nil, nOws_cons, nOws_append, nOws_ints, kEq_int, kNe_int, kEq_T, kNe_T, kEq_bl, kIsN_at, kNotN_at, kIsN_nd, kNotN_nd, kList_lst, kList_tup, kTuple_lst, kAppend_one, kSl_lst, kSl_T, kSl_tup, kRng1_int, kRng2_int, isL_own, frz_at, fok_at, frz_lst, fok_lst, frz_tup, fok_tup, kItL_lst, kItT_tup, kItS_T, kZip_lst, kEnum_lst, hole_none, hole_succ, putB_nil, putB_cons, finD_nil, finD_cons, lowE_nil, lowE_cons, lowS_some, lowS_none, wipeE_nil, wipeE_cons, backE_nil, backE_cons, kMod_int, kGe_int, kIn_T, List.map_cons, List.map_nil, List.length_cons, List.length_nil, List.length_map, List.length_set, List.cons_append, List.nil_append, Nat.reduceAdd, Nat.reduceSub, Nat.reduceLT, Nat.reduceLeDiff, Nat.zero_add, List.replicate_succ, List.replicate_zero, List.set_cons_zero, List.set_cons_succ, List.getElem?_cons_zero, List.getElem?_cons_succ, List.getElem?_nil, true_and, and_true, and_self, if_true, if_false, Bool.false_eq_true, reduceIte, List.mem_cons, List.not_mem_nil, or_false, false_or, reduceCtorEq, Nat.reduceEqDiff, or_self, or_true, true_or, Option.map_some, Option.getD_some, Option.isSome_some, Bool.not_true, Bool.not_false, Bool.and_true, Bool.true_and, Bool.and_eq_true, decide_eq_true_eq, Nat.zero_lt_succ, Nat.lt_add_one, Nat.succ_ne_self, Nat.add_one_ne_zero, not_true_eq_false, not_false_eq_true, wv_frz, shift_nil, shift_cons, Option.bind_some, wv_mutF, wv_mutV, wv_meth, wv_make, wv_callW, ws_setF, wg_un, kFld_obj, setO_obj, mutO_obj, hasL_obj, isO_obj, asL_own, bare_at, frzs_nil, frzs_cons, foks_nil, foks_cons]
      rintro ρ rfl
      refine ws_mid (fun ρ => ρ = eA ns dr i (some (.lst (Wf rs))) none (some (.own (I (flat (rs.take (n + 1)))))) (some (.own (I (szs rs n)))) (some (.lst (I r))) (some (.own (I r))) none none none) ?_ ?_
      · simp only [ws_asg, ws_ret, ws_retN, ws_drop, ws_pass, ws_bk, ws_ct, ws_if, ws_aug, ws_augI, ws_for, wv_cp, wv_mk, wv_share, wv_move, wv_1, wv_2, wv_A, wa_nil, wa_cons, wa_io, wv_tup, wv_lst, wv_call, wv_if, wv_sl, wv_ixN, wv_mt, wv_mut, wv_and, wv_or, wv_not, wv_lc, wi_arg, wb_q, wb_t, wb_v, wb_and, wb_or, wb_not, wb_yes, wq_var, wq_c, wq_2, wq_1, wq_A, wq_lNil, wq_lCons, wq_sl, wo_none, wo_some, wg_item, wg_set, wg_tup, wg_cons, wg_nil, wR_rb, wR_rp, wO_some, wO_none, wO_bind, wO_map, wO_iteN, look_zero, look_succ, Ed.turn, kIx_lst, kIx_tup, kIx_T, atI_0, atI_1, atI_2, atI_3, atI_4, atI_5, atI_6, atI_cast, ixN_0, ixN_1, ixN_2, ixN_3, asI_int, asB_bl, asS_str, oI_int, cT_true, kAdd_int, kAdd_T, kAdd_lst, kAdd_tup, kInt_int, kInt_bl, kMin_int, kMax_int, kLen_lst, kLen_tup, kLen_T, nOw_at, nOw_tup, nOw_lstF, nOw_own, nOws_nil, nOws_cons, nOws_append, nOws_ints, kEq_int, kNe_int, kEq_T, kNe_T, kEq_bl, kIsN_at, kNotN_at, kIsN_nd, kNotN_nd, kList_lst, kList_tup, kTuple_lst, kAppend_one, kSl_lst, kSl_T, kSl_tup, kRng1_int, kRng2_int, isL_own, frz_at, fok_at, frz_lst, fok_lst, frz_tup, fok_tup, kItL_lst, kItT_tup, kItS_T, kZip_lst, kEnum_lst, hole_none, hole_succ, putB_nil, putB_cons, finD_nil, finD_cons, lowE_nil, lowE_cons, lowS_some, lowS_none, wipeE_nil, wipeE_cons, backE_nil, backE_cons, kMod_int, kGe_int, kIn_T, List.map_cons, List.map_nil, List.length_cons, List.length_nil, List.length_map, List.length_set, List.cons_append, List.nil_append, Nat.reduceAdd, Nat.reduceSub, Nat.reduceLT, Nat.reduceLeDiff, Nat.zero_add, List.replicate_succ, List.replicate_zero, List.set_cons_zero, List.set_cons_succ, List.getElem?_cons_zero, List.getElem?_cons_succ, List.getElem?_nil, true_and, and_true, and_self, if_true, if_false, Bool.false_eq_true, reduceIte, List.mem_cons, List.not_mem_nil, or_false, false_or, reduceCtorEq, Nat.reduceEqDiff, or_self, or_true, true_or, Option.map_some, Option.getD_some, Option.isSome_some, Bool.not_true, Bool.not_false, Bool.and_true, Bool.true_and, Bool.and_eq_true, decide_eq_true_eq, Nat.zero_lt_succ, Nat.lt_add_one, Nat.succ_ne_self, Nat.add_one_ne_zero, not_true_eq_false, not_false_eq_true, wv_frz, shift_nil, shift_cons, Option.bind_some, wv_mutF, wv_mutV, wv_meth, wv_make, wv_callW, ws_setF, wg_un, kFld_obj, setO_obj, mutO_obj, hasL_obj, isO_obj, asL_own, bare_at, frzs_nil, frzs_cons, foks_nil, foks_cons, foks_I, frzs_I]
        refine wD_mono (law_record_ok (l := r) (by omega) hrk.1) ?_ fun _ _ h => h.elim
        rintro d as rfl
        simp only [ws_asg, ws_ret, ws_retN, ws_drop, ws_pass, ws_bk, ws_ct, ws_if, ws_aug, ws_augI, ws_for, wv_cp, wv_mk, wv_share, wv_move, wv_1, wv_2, wv_A, wa_nil, wa_cons, wa_io, wv_tup, wv_lst, wv_call, wv_if, wv_sl, wv_ixN, wv_mt, wv_mut, wv_and, wv_or, wv_not, wv_lc, wi_arg, wb_q, wb_t, wb_v, wb_and, wb_or, wb_not, wb_yes, wq_var, wq_c, wq_2, wq_1, wq_A, wq_lNil, wq_lCons, wq_sl, wo_none, wo_some, wg_item, wg_set, wg_tup, wg_cons, wg_nil, wR_rb, wR_rp, wO_some, wO_none, wO_bind, wO_map, wO_iteN, look_zero, look_succ, Ed.turn, kIx_lst, kIx_tup, kIx_T, atI_0, atI_1, atI_2, atI_3, atI_4, atI_5, atI_6, atI_cast, ixN_0, ixN_1, ixN_2, ixN_3, asI_int, asB_bl, asS_str, oI_int, cT_true, kAdd_int, kAdd_T, kAdd_lst, kAdd_tup, kInt_int, kInt_bl, kMin_int, kMax_int, kLen_lst, kLen_tup, kLen_T, nOw_at, nOw_tup, nOw_lstF, nOw_own, nOws_nil, nOws_cons, nOws_append, nOws_ints, kEq_int, kNe_int, kEq_T, kNe_T, kEq_bl, kIsN_at, kNotN_at, kIsN_nd, kNotN_nd, kList_lst, kList_tup, kTuple_lst, kAppend_one, kSl_lst, kSl_T, kSl_tup, kRng1_int, kRng2_int, isL_own, frz_at, fok_at, frz_lst, fok_lst, frz_tup, fok_tup, kItL_lst, kItT_tup, kItS_T, kZip_lst, kEnum_lst, hole_none, hole_succ, putB_nil, putB_cons, finD_nil, finD_cons, lowE_nil, lowE_cons, lowS_some, lowS_none, wipeE_nil, wipeE_cons, backE_nil, backE_cons, kMod_int, kGe_int, kIn_T, List.map_cons, List.map_nil, List.length_cons, List.length_nil, List.length_map, List.length_set, List.cons_append, List.nil_append, Nat.reduceAdd, Nat.reduceSub, Nat.reduceLT, Nat.reduceLeDiff, Nat.zero_add, List.replicate_succ, List.replicate_zero, List.set_cons_zero, List.set_cons_succ, List.getElem?_cons_zero, List.getElem?_cons_succ, List.getElem?_nil, true_and, and_true, and_self, if_true, if_false, Bool.false_eq_true, reduceIte, List.mem_cons, List.not_mem_nil, or_false, false_or, reduceCtorEq, Nat.reduceEqDiff, or_self, or_true, true_or, Option.map_some, Option.getD_some, Option.isSome_some, Bool.not_true, Bool.not_false, Bool.and_true, Bool.true_and, Bool.and_eq_true, decide_eq_true_eq, Nat.zero_lt_succ, Nat.lt_add_one, Nat.succ_ne_self, Nat.add_one_ne_zero, not_true_eq_false, not_false_eq_true, wv_frz, shift_nil, shift_cons, Option.bind_some, wv_mutF, wv_mutV, wv_meth, wv_make, wv_callW, ws_setF, wg_un, kFld_obj, setO_obj, mutO_obj, hasL_obj, isO_obj, asL_own, bare_at, frzs_nil, frzs_cons, foks_nil, foks_cons, nOws_I, bare_own, bares_I]
        refine ⟨by simp only [sizeLine]; omega, ?_⟩
        rw [hfs]
        simp
      rintro ρ rfl
      have hsl : (szs rs n).length = n + 1 := by unfold szs; simp
      simp only [ws_asg, ws_ret, ws_retN, ws_drop, ws_pass, ws_bk, ws_ct, ws_if, ws_aug, ws_augI, ws_for, wv_cp, wv_mk, wv_share, wv_move, wv_1, wv_2, wv_A, wa_nil, wa_cons, wa_io, wv_tup, wv_lst, wv_call, wv_if, wv_sl, wv_ixN, wv_mt, wv_mut, wv_and, wv_or, wv_not, wv_lc, wi_arg, wb_q, wb_t, wb_v, wb_and, wb_or, wb_not, wb_yes, wq_var, wq_c, wq_2, wq_1, wq_A, wq_lNil, wq_lCons, wq_sl, wo_none, wo_some, wg_item, wg_set, wg_tup, wg_cons, wg_nil, wR_rb, wR_rp, wO_some, wO_none, wO_bind, wO_map, wO_iteN, look_zero, look_succ, Ed.turn, kIx_lst, kIx_tup, kIx_T, atI_0, atI_1, atI_2, atI_3, atI_4, atI_5, atI_6, atI_cast, ixN_0, ixN_1, ixN_2, ixN_3, asI_int, asB_bl, asS_str, oI_int, cT_true, kAdd_int, kAdd_T, kAdd_lst, kAdd_tup, kInt_int, kInt_bl, kMin_int, kMax_int, kLen_lst, kLen_tup, kLen_T, nOw_at, nOw_tup, nOw_lstF, nOw_own, nOws_nil, nOws_cons, nOws_append, nOws_ints, kEq_int, kNe_int, kEq_T, kNe_T, kEq_bl, kIsN_at, kNotN_at, kIsN_nd, kNotN_nd, kList_lst, kList_tup, kTuple_lst, kAppend_one, kSl_lst, kSl_T, kSl_tup, kRng1_int, kRng2_int, isL_own, frz_at, fok_at, frz_lst, fok_lst, frz_tup, fok_tup, kItL_lst, kItT_tup, kItS_T, kZip_lst, kEnum_lst, hole_none, hole_succ, putB_nil, putB_cons, finD_nil, finD_cons, lowE_nil, lowE_cons, lowS_some, lowS_none, wipeE_nil, wipeE_cons, backE_nil, backE_cons, kMod_int, kGe_int, kIn_T, List.map_cons, List.map_nil, List.length_cons, List.length_nil, List.length_map, List.length_set, List.cons_append, List.nil_append, Nat.reduceAdd, Nat.reduceSub, Nat.reduceLT, Nat.reduceLeDiff, Nat.zero_add, List.replicate_succ, List.replicate_zero, List.set_cons_zero, List.set_cons_succ, List.getElem?_cons_zero, List.getElem?_cons_succ, List.getElem?_nil, true_and, and_true, and_self, if_true, if_false, Bool.false_eq_true, reduceIte, List.mem_cons, List.not_mem_nil, or_false, false_or, reduceCtorEq, Nat.reduceEqDiff, or_self, or_true, true_or, Option.map_some, Option.getD_some, Option.isSome_some, Bool.not_true, Bool.not_false, Bool.and_true, Bool.true_and, Bool.and_eq_true, decide_eq_true_eq, Nat.zero_lt_succ, Nat.lt_add_one, Nat.succ_ne_self, Nat.add_one_ne_zero, not_true_eq_false, not_false_eq_true, wv_frz, shift_nil, shift_cons, Option.bind_some, wv_mutF, wv_mutV, wv_meth, wv_make, wv_callW, ws_setF, wg_un, kFld_obj, setO_obj, mutO_obj, hasL_obj, isO_obj, asL_own, bare_at, frzs_nil, frzs_cons, foks_nil, foks_cons]
      refine ⟨by simp only [sizeLine]; omega, some (.lst (I r)), some (.own (I r)), true, ?_⟩
      rw [I_snoc, szs_succ]
      rfl
    · rintro ρ ⟨x6, x7, o, rfl⟩
      rw [List.length_map, List.take_length]
      exact ⟨x6, x7, o, rfl⟩
  rintro ρ ⟨x6, x7, o, rfl⟩
  refine ws_mid (fun ρ => ∃ (x : List Int) (i' : Int), Stuck x ∧ ByteL x ∧ x.length ≤ 10000 ∧ 20 ≤ i' ∧ i' ≤ 200 ∧ ρ = eA ns dr i' (some (.lst (Wf rs))) none (some (.lst (I (flat rs)))) (some (.own (I (szs rs rs.length)))) x6 x7 (some (.own (I (flat rs ++ x)))) none none) ?_ ?_
  · simp only [ws_asg, ws_ret, ws_retN, ws_drop, ws_pass, ws_bk, ws_ct, ws_if, ws_aug, ws_augI, ws_for, wv_cp, wv_mk, wv_share, wv_move, wv_1, wv_2, wv_A, wa_nil, wa_cons, wa_io, wv_tup, wv_lst, wv_call, wv_if, wv_sl, wv_ixN, wv_mt, wv_mut, wv_and, wv_or, wv_not, wv_lc, wi_arg, wb_q, wb_t, wb_v, wb_and, wb_or, wb_not, wb_yes, wq_var, wq_c, wq_2, wq_1, wq_A, wq_lNil, wq_lCons, wq_sl, wo_none, wo_some, wg_item, wg_set, wg_tup, wg_cons, wg_nil, wR_rb, wR_rp, wO_some, wO_none, wO_bind, wO_map, wO_iteN, look_zero, look_succ, Ed.turn, kIx_lst, kIx_tup, kIx_T, atI_0, atI_1, atI_2, atI_3, atI_4, atI_5, atI_6, atI_cast, ixN_0, ixN_1, ixN_2, ixN_3, asI_int, asB_bl, asS_str, oI_int, cT_true, kAdd_int, kAdd_T, kAdd_lst, kAdd_tup, kInt_int, kInt_bl, kMin_int, kMax_int, kLen_lst, kLen_tup, kLen_T, nOw_at, nOw_tup, nOw_lstF, nOw_own, nOws_nil, nOws_cons, nOws_append, nOws_ints, kEq_int, kNe_int, kEq_T, kNe_T, kEq_bl, kIsN_at, kNotN_at, kIsN_nd, kNotN_nd, kList_lst, kList_tup, kTuple_lst, kAppend_one, kSl_lst, kSl_T, kSl_tup, kRng1_int, kRng2_int, isL_own, frz_at, fok_at, frz_lst, fok_lst, frz_tup, fok_tup, kItL_lst, kItT_tup, kItS_T, kZip_lst, kEnum_lst, hole_none, hole_succ, putB_nil, putB_cons, finD_nil, finD_cons, lowE_nil, lowE_cons, lowS_some, lowS_none, wipeE_nil, wipeE_cons, backE_nil, backE_cons, kMod_int, kGe_int, kIn_T, List.map_cons, List.map_nil, List.length_cons, List.length_nil, List.length_map, List.length_set, List.cons_append, List.nil_append, Nat.reduceAdd, Nat.reduceSub, Nat.reduceLT, Nat.reduceLeDiff, Nat.zero_add, List.replicate_succ, List.replicate_zero, List.set_cons_zero, List.set_cons_succ, List.getElem?_cons_zero, List.getElem?_cons_succ, List.getElem?_nil, true_and, and_true, and_self, if_true, if_false, Bool.false_eq_true, reduceIte, List.mem_cons, List.not_mem_nil, or_false, false_or, reduceCtorEq, Nat.reduceEqDiff, or_self, or_true, true_or, Option.map_some, Option.getD_some, Option.isSome_some, Bool.not_true, Bool.not_false, Bool.and_true, Bool.true_and, Bool.and_eq_true, decide_eq_true_eq, Nat.zero_lt_succ, Nat.lt_add_one, Nat.succ_ne_self, Nat.add_one_ne_zero, not_true_eq_false, not_false_eq_true, wv_frz, shift_nil, shift_cons, Option.bind_some, wv_mutF, wv_mutV, wv_meth, wv_make, wv_callW, ws_setF, wg_un, kFld_obj, setO_obj, mutO_obj, hasL_obj, isO_obj, asL_own, bare_at, frzs_nil, frzs_cons, foks_nil, foks_cons, foks_I, frzs_I]
    refine wD_mono (behind_ok hd (i := i) (by omega) (by omega)) ?_ fun _ _ h => h.elim
    rintro _ _ ⟨x, i', hst, hxb, hxl, j0, j1, rfl, rfl⟩
    simp only [ws_asg, ws_ret, ws_retN, ws_drop, ws_pass, ws_bk, ws_ct, ws_if, ws_aug, ws_augI, ws_for, wv_cp, wv_mk, wv_share, wv_move, wv_1, wv_2, wv_A, wa_nil, wa_cons, wa_io, wv_tup, wv_lst, wv_call, wv_if, wv_sl, wv_ixN, wv_mt, wv_mut, wv_and, wv_or, wv_not, wv_lc, wi_arg, wb_q, wb_t, wb_v, wb_and, wb_or, wb_not, wb_yes, wq_var, wq_c, wq_2, wq_1, wq_A, wq_lNil, wq_lCons, wq_sl, wo_none, wo_some, wg_item, wg_set, wg_tup, wg_cons, wg_nil, wR_rb, wR_rp, wO_some, wO_none, wO_bind, wO_map, wO_iteN, look_zero, look_succ, Ed.turn, kIx_lst, kIx_tup, kIx_T, atI_0, atI_1, atI_2, atI_3, atI_4, atI_5, atI_6, atI_cast, ixN_0, ixN_1, ixN_2, ixN_3, asI_int, asB_bl, asS_str, oI_int, cT_true, kAdd_int, kAdd_T, kAdd_lst, kAdd_tup, kInt_int, kInt_bl, kMin_int, kMax_int, kLen_lst, kLen_tup, kLen_T, nOw_at, nOw_tup, nOw_lstF, nOw_own, nOws_nil, nOws_cons, nOws_append, nOws_ints, kEq_int, kNe_int, kEq_T, kNe_T, kEq_bl, kIsN_at, kNotN_at, kIsN_nd, kNotN_nd, kList_lst, kList_tup, kTuple_lst, kAppend_one, kSl_lst, kSl_T, kSl_tup, kRng1_int, kRng2_int, isL_own, frz_at, fok_at, frz_lst, fok_lst, frz_tup, fok_tup, kItL_lst, kItT_tup, kItS_T, kZip_lst, kEnum_lst, hole_none, hole_succ, putB_nil, putB_cons, finD_nil, finD_cons, lowE_nil, lowE_cons, lowS_some, lowS_none, wipeE_nil, wipeE_cons, backE_nil, backE_cons, kMod_int, kGe_int, kIn_T, List.map_cons, List.map_nil, List.length_cons, List.length_nil, List.length_map, List.length_set, List.cons_append, List.nil_append, Nat.reduceAdd, Nat.reduceSub, Nat.reduceLT, Nat.reduceLeDiff, Nat.zero_add, List.replicate_succ, List.replicate_zero, List.set_cons_zero, List.set_cons_succ, List.getElem?_cons_zero, List.getElem?_cons_succ, List.getElem?_nil, true_and, and_true, and_self, if_true, if_false, Bool.false_eq_true, reduceIte, List.mem_cons, List.not_mem_nil, or_false, false_or, reduceCtorEq, Nat.reduceEqDiff, or_self, or_true, true_or, Option.map_some, Option.getD_some, Option.isSome_some, Bool.not_true, Bool.not_false, Bool.and_true, Bool.true_and, Bool.and_eq_true, decide_eq_true_eq, Nat.zero_lt_succ, Nat.lt_add_one, Nat.succ_ne_self, Nat.add_one_ne_zero, not_true_eq_false, not_false_eq_true, wv_frz, shift_nil, shift_cons, Option.bind_some, wv_mutF, wv_mutV, wv_meth, wv_make, wv_callW, ws_setF, wg_un, kFld_obj, setO_obj, mutO_obj, hasL_obj, isO_obj, asL_own, bare_at, frzs_nil, frzs_cons, foks_nil, foks_cons, nOws_I]
    exact ⟨by simp only [sizeLine]; omega, x, i', hst, hxb, hxl, by omega, by omega, by simp⟩
  rintro ρ ⟨x, i', hst, hxb, hxl, j0, j1, rfl⟩
  refine ws_mid (fun ρ => ρ = eA ns dr i' (some (.lst (Wf rs))) none (some (.lst (I (flat rs)))) (some (.own (I (szs rs rs.length)))) x6 (some (.own (I (flat rs ++ x)))) (some (.own (I (flat rs ++ x)))) none none) ?_ ?_
  · simp only [ws_asg, ws_ret, ws_retN, ws_drop, ws_pass, ws_bk, ws_ct, ws_if, ws_aug, ws_augI, ws_for, wv_cp, wv_mk, wv_share, wv_move, wv_1, wv_2, wv_A, wa_nil, wa_cons, wa_io, wv_tup, wv_lst, wv_call, wv_if, wv_sl, wv_ixN, wv_mt, wv_mut, wv_and, wv_or, wv_not, wv_lc, wi_arg, wb_q, wb_t, wb_v, wb_and, wb_or, wb_not, wb_yes, wq_var, wq_c, wq_2, wq_1, wq_A, wq_lNil, wq_lCons, wq_sl, wo_none, wo_some, wg_item, wg_set, wg_tup, wg_cons, wg_nil, wR_rb, wR_rp, wO_some, wO_none, wO_bind, wO_map, wO_iteN, look_zero, look_succ, Ed.turn, kIx_lst, kIx_tup, kIx_T, atI_0, atI_1, atI_2, atI_3, atI_4, atI_5, atI_6, atI_cast, ixN_0, ixN_1, ixN_2, ixN_3, asI_int, asB_bl, asS_str, oI_int, cT_true, kAdd_int, kAdd_T, kAdd_lst, kAdd_tup, kInt_int, kInt_bl, kMin_int, kMax_int, kLen_lst, kLen_tup, kLen_T, nOw_at, nOw_tup, nOw_lstF, nOw_own, nOws_nil, nOws_cons, nOws_append, nOws_ints, kEq_int, kNe_int, kEq_T, kNe_T, kEq_bl, kIsN_at, kNotN_at, kIsN_nd, kNotN_nd, kList_lst, kList_tup, kTuple_lst, kAppend_one, kSl_lst, kSl_T, kSl_tup, kRng1_int, kRng2_int, isL_own, frz_at, fok_at, frz_lst, fok_lst, frz_tup, fok_tup, kItL_lst, kItT_tup, kItS_T, kZip_lst, kEnum_lst, hole_none, hole_succ, putB_nil, putB_cons, finD_nil, finD_cons, lowE_nil, lowE_cons, lowS_some, lowS_none, wipeE_nil, wipeE_cons, backE_nil, backE_cons, kMod_int, kGe_int, kIn_T, List.map_cons, List.map_nil, List.length_cons, List.length_nil, List.length_map, List.length_set, List.cons_append, List.nil_append, Nat.reduceAdd, Nat.reduceSub, Nat.reduceLT, Nat.reduceLeDiff, Nat.zero_add, List.replicate_succ, List.replicate_zero, List.set_cons_zero, List.set_cons_succ, List.getElem?_cons_zero, List.getElem?_cons_succ, List.getElem?_nil, true_and, and_true, and_self, if_true, if_false, Bool.false_eq_true, reduceIte, List.mem_cons, List.not_mem_nil, or_false, false_or, reduceCtorEq, Nat.reduceEqDiff, or_self, or_true, true_or, Option.map_some, Option.getD_some, Option.isSome_some, Bool.not_true, Bool.not_false, Bool.and_true, Bool.true_and, Bool.and_eq_true, decide_eq_true_eq, Nat.zero_lt_succ, Nat.lt_add_one, Nat.succ_ne_self, Nat.add_one_ne_zero, not_true_eq_false, not_false_eq_true, wv_frz, shift_nil, shift_cons, Option.bind_some, wv_mutF, wv_mutV, wv_meth, wv_make, wv_callW, ws_setF, wg_un, kFld_obj, setO_obj, mutO_obj, hasL_obj, isO_obj, asL_own, bare_at, frzs_nil, frzs_cons, foks_nil, foks_cons, nOws_I]
  rintro ρ rfl
  refine ws_mid (fun ρ => ρ = eA ns dr i' (some (.lst (Wf rs))) none (some (.lst (I (flat rs)))) (some (.own (I (szs rs rs.length)))) x6 (some (.own (I (flat rs ++ x)))) (some (.own (I (flat rs ++ x)))) none none) ?_ ?_
  · simp only [ws_asg, ws_ret, ws_retN, ws_drop, ws_pass, ws_bk, ws_ct, ws_if, ws_aug, ws_augI, ws_for, wv_cp, wv_mk, wv_share, wv_move, wv_1, wv_2, wv_A, wa_nil, wa_cons, wa_io, wv_tup, wv_lst, wv_call, wv_if, wv_sl, wv_ixN, wv_mt, wv_mut, wv_and, wv_or, wv_not, wv_lc, wi_arg, wb_q, wb_t, wb_v, wb_and, wb_or, wb_not, wb_yes, wq_var, wq_c, wq_2, wq_1, wq_A, wq_lNil, wq_lCons, wq_sl, wo_none, wo_some, wg_item, wg_set, wg_tup, wg_cons, wg_nil, wR_rb, wR_rp, wO_some, wO_none, wO_bind, wO_map, wO_iteN, look_zero, look_succ, Ed.turn, kIx_lst, kIx_tup, kIx_T, atI_0, atI_1, atI_2, atI_3, atI_4, atI_5, atI_6, atI_cast, ixN_0, ixN_1, ixN_2, ixN_3, asI_int, asB_bl, asS_str, oI_int, cT_true, kAdd_int, kAdd_T, kAdd_lst, kAdd_tup, kInt_int, kInt_bl, kMin_int, kMax_int, kLen_lst, kLen_tup, kLen_T, nOw_at, nOw_tup, nOw_lstF, nOw_own, nOws_nil, nOws_cons, nOws_append, nOws_ints, kEq_int, kNe_int, kEq_T, kNe_T, kEq_bl, kIsN_at, kNotN_at, kIsN_nd, kNotN_nd, kList_lst, kList_tup, kTuple_lst, kAppend_one, kSl_lst, kSl_T, kSl_tup, kRng1_int, kRng2_int, isL_own, frz_at, fok_at, frz_lst, fok_lst, frz_tup, fok_tup, kItL_lst, kItT_tup, kItS_T, kZip_lst, kEnum_lst, hole_none, hole_succ, putB_nil, putB_cons, finD_nil, finD_cons, lowE_nil, lowE_cons, lowS_some, lowS_none, wipeE_nil, wipeE_cons, backE_nil, backE_cons, kMod_int, kGe_int, kIn_T, List.map_cons, List.map_nil, List.length_cons, List.length_nil, List.length_map, List.length_set, List.cons_append, List.nil_append, Nat.reduceAdd, Nat.reduceSub, Nat.reduceLT, Nat.reduceLeDiff, Nat.zero_add, List.replicate_succ, List.replicate_zero, List.set_cons_zero, List.set_cons_succ, List.getElem?_cons_zero, List.getElem?_cons_succ, List.getElem?_nil, true_and, and_true, and_self, if_true, if_false, Bool.false_eq_true, reduceIte, List.mem_cons, List.not_mem_nil, or_false, false_or, reduceCtorEq, Nat.reduceEqDiff, or_self, or_true, true_or, Option.map_some, Option.getD_some, Option.isSome_some, Bool.not_true, Bool.not_false, Bool.and_true, Bool.true_and, Bool.and_eq_true, decide_eq_true_eq, Nat.zero_lt_succ, Nat.lt_add_one, Nat.succ_ne_self, Nat.add_one_ne_zero, not_true_eq_false, not_false_eq_true, wv_frz, shift_nil, shift_cons, Option.bind_some, wv_mutF, wv_mutV, wv_meth, wv_make, wv_callW, ws_setF, wg_un, kFld_obj, setO_obj, mutO_obj, hasL_obj, isO_obj, asL_own, bare_at, frzs_nil, frzs_cons, foks_nil, foks_cons, foks_I, frzs_I]
    have hby : ByteL (flat rs ++ x) := fun z hz => (List.mem_append.mp hz).elim (flat_byte hok z) (hxb z)
    refine wD_mono (recs_ok (d := flat rs ++ x) (by rw [List.length_append]; omega) hby (run_0 hok x) (hst (flat rs))) ?_ fun _ _ h => h.elim
    rintro d as rfl
    simp only [ws_asg, ws_ret, ws_retN, ws_drop, ws_pass, ws_bk, ws_ct, ws_if, ws_aug, ws_augI, ws_for, wv_cp, wv_mk, wv_share, wv_move, wv_1, wv_2, wv_A, wa_nil, wa_cons, wa_io, wv_tup, wv_lst, wv_call, wv_if, wv_sl, wv_ixN, wv_mt, wv_mut, wv_and, wv_or, wv_not, wv_lc, wi_arg, wb_q, wb_t, wb_v, wb_and, wb_or, wb_not, wb_yes, wq_var, wq_c, wq_2, wq_1, wq_A, wq_lNil, wq_lCons, wq_sl, wo_none, wo_some, wg_item, wg_set, wg_tup, wg_cons, wg_nil, wR_rb, wR_rp, wO_some, wO_none, wO_bind, wO_map, wO_iteN, look_zero, look_succ, Ed.turn, kIx_lst, kIx_tup, kIx_T, atI_0, atI_1, atI_2, atI_3, atI_4, atI_5, atI_6, atI_cast, ixN_0, ixN_1, ixN_2, ixN_3, asI_int, asB_bl, asS_str, oI_int, cT_true, kAdd_int, kAdd_T, kAdd_lst, kAdd_tup, kInt_int, kInt_bl, kMin_int, kMax_int, kLen_lst, kLen_tup, kLen_T, nOw_at, nOw_tup, nOw_lstF, nOw_own, nOws_nil, nOws_cons, nOws_append, nOws_ints, kEq_int, kNe_int, kEq_T, kNe_T, kEq_bl, kIsN_at, kNotN_at, kIsN_nd, kNotN_nd, kList_lst, kList_tup, kTuple_lst, kAppend_one, kSl_lst, kSl_T, kSl_tup, kRng1_int, kRng2_int, isL_own, frz_at, fok_at, frz_lst, fok_lst, frz_tup, fok_tup, kItL_lst, kItT_tup, kItS_T, kZip_lst, kEnum_lst, hole_none, hole_succ, putB_nil, putB_cons, finD_nil, finD_cons, lowE_nil, lowE_cons, lowS_some, lowS_none, wipeE_nil, wipeE_cons, backE_nil, backE_cons, kMod_int, kGe_int, kIn_T, List.map_cons, List.map_nil, List.length_cons, List.length_nil, List.length_map, List.length_set, List.cons_append, List.nil_append, Nat.reduceAdd, Nat.reduceSub, Nat.reduceLT, Nat.reduceLeDiff, Nat.zero_add, List.replicate_succ, List.replicate_zero, List.set_cons_zero, List.set_cons_succ, List.getElem?_cons_zero, List.getElem?_cons_succ, List.getElem?_nil, true_and, and_true, and_self, if_true, if_false, Bool.false_eq_true, reduceIte, List.mem_cons, List.not_mem_nil, or_false, false_or, reduceCtorEq, Nat.reduceEqDiff, or_self, or_true, true_or, Option.map_some, Option.getD_some, Option.isSome_some, Bool.not_true, Bool.not_false, Bool.and_true, Bool.true_and, Bool.and_eq_true, decide_eq_true_eq, Nat.zero_lt_succ, Nat.lt_add_one, Nat.succ_ne_self, Nat.add_one_ne_zero, not_true_eq_false, not_false_eq_true, wv_frz, shift_nil, shift_cons, Option.bind_some, wv_mutF, wv_mutV, wv_meth, wv_make, wv_callW, ws_setF, wg_un, kFld_obj, setO_obj, mutO_obj, hasL_obj, isO_obj, asL_own, bare_at, frzs_nil, frzs_cons, foks_nil, foks_cons, bare_tup, bares, bare_own, bares_W, foks_W, frzs_W, foks_Wf, frzs_Wf]
    refine ⟨by decide, wD_mono (same5 (n := 4) (by decide) (plR (fun r hr => (hok r hr).2) (by omega))) ?_ fun _ _ h => h.elim⟩
    rintro d as rfl
    simp only [ws_asg, ws_ret, ws_retN, ws_drop, ws_pass, ws_bk, ws_ct, ws_if, ws_aug, ws_augI, ws_for, wv_cp, wv_mk, wv_share, wv_move, wv_1, wv_2, wv_A, wa_nil, wa_cons, wa_io, wv_tup, wv_lst, wv_call, wv_if, wv_sl, wv_ixN, wv_mt, wv_mut, wv_and, wv_or, wv_not, wv_lc, wi_arg, wb_q, wb_t, wb_v, wb_and, wb_or, wb_not, wb_yes, wq_var, wq_c, wq_2, wq_1, wq_A, wq_lNil, wq_lCons, wq_sl, wo_none, wo_some, wg_item, wg_set, wg_tup, wg_cons, wg_nil, wR_rb, wR_rp, wO_some, wO_none, wO_bind, wO_map, wO_iteN, look_zero, look_succ, Ed.turn, kIx_lst, kIx_tup, kIx_T, atI_0, atI_1, atI_2, atI_3, atI_4, atI_5, atI_6, atI_cast, ixN_0, ixN_1, ixN_2, ixN_3, asI_int, asB_bl, asS_str, oI_int, cT_true, kAdd_int, kAdd_T, kAdd_lst, kAdd_tup, kInt_int, kInt_bl, kMin_int, kMax_int, kLen_lst, kLen_tup, kLen_T, nOw_at, nOw_tup, nOw_lstF, nOw_own, nOws_nil, nOws_cons, nOws_append, nOws_ints, kEq_int, kNe_int, kEq_T, kNe_T, kEq_bl, kIsN_at, kNotN_at, kIsN_nd, kNotN_nd, kList_lst, kList_tup, kTuple_lst, kAppend_one, kSl_lst, kSl_T, kSl_tup, kRng1_int, kRng2_int, isL_own, frz_at, fok_at, frz_lst, fok_lst, frz_tup, fok_tup, kItL_lst, kItT_tup, kItS_T, kZip_lst, kEnum_lst, hole_none, hole_succ, putB_nil, putB_cons, finD_nil, finD_cons, lowE_nil, lowE_cons, lowS_some, lowS_none, wipeE_nil, wipeE_cons, backE_nil, backE_cons, kMod_int, kGe_int, kIn_T, List.map_cons, List.map_nil, List.length_cons, List.length_nil, List.length_map, List.length_set, List.cons_append, List.nil_append, Nat.reduceAdd, Nat.reduceSub, Nat.reduceLT, Nat.reduceLeDiff, Nat.zero_add, List.replicate_succ, List.replicate_zero, List.set_cons_zero, List.set_cons_succ, List.getElem?_cons_zero, List.getElem?_cons_succ, List.getElem?_nil, true_and, and_true, and_self, if_true, if_false, Bool.false_eq_true, reduceIte, List.mem_cons, List.not_mem_nil, or_false, false_or, reduceCtorEq, Nat.reduceEqDiff, or_self, or_true, true_or, Option.map_some, Option.getD_some, Option.isSome_some, Bool.not_true, Bool.not_false, Bool.and_true, Bool.true_and, Bool.and_eq_true, decide_eq_true_eq, Nat.zero_lt_succ, Nat.lt_add_one, Nat.succ_ne_self, Nat.add_one_ne_zero, not_true_eq_false, not_false_eq_true, wv_frz, shift_nil, shift_cons, Option.bind_some, wv_mutF, wv_mutV, wv_meth, wv_make, wv_callW, ws_setF, wg_un, kFld_obj, setO_obj, mutO_obj, hasL_obj, isO_obj, asL_own, bare_at, frzs_nil, frzs_cons, foks_nil, foks_cons]
    rw [kNe_I]
    simp only [ws_asg, ws_ret, ws_retN, ws_drop, ws_pass, ws_bk, ws_ct, ws_if, ws_aug, ws_augI, ws_for, wv_cp, wv_mk, wv_share, wv_move, wv_1, wv_2, wv_A, wa_nil, wa_cons, wa_io, wv_tup, wv_lst, wv_call, wv_if, wv_sl, wv_ixN, wv_mt, wv_mut, wv_and, wv_or, wv_not, wv_lc, wi_arg, wb_q, wb_t, wb_v, wb_and, wb_or, wb_not, wb_yes, wq_var, wq_c, wq_2, wq_1, wq_A, wq_lNil, wq_lCons, wq_sl, wo_none, wo_some, wg_item, wg_set, wg_tup, wg_cons, wg_nil, wR_rb, wR_rp, wO_some, wO_none, wO_bind, wO_map, wO_iteN, look_zero, look_succ, Ed.turn, kIx_lst, kIx_tup, kIx_T, atI_0, atI_1, atI_2, atI_3, atI_4, atI_5, atI_6, atI_cast, ixN_0, ixN_1, ixN_2, ixN_3, asI_int, asB_bl, asS_str, oI_int, cT_true, kAdd_int, kAdd_T, kAdd_lst, kAdd_tup, kInt_int, kInt_bl, kMin_int, kMax_int, kLen_lst, kLen_tup, kLen_T, nOw_at, nOw_tup, nOw_lstF, nOw_own, nOws_nil, nOws_cons, nOws_append, nOws_ints, kEq_int, kNe_int, kEq_T, kNe_T, kEq_bl, kIsN_at, kNotN_at, kIsN_nd, kNotN_nd, kList_lst, kList_tup, kTuple_lst, kAppend_one, kSl_lst, kSl_T, kSl_tup, kRng1_int, kRng2_int, isL_own, frz_at, fok_at, frz_lst, fok_lst, frz_tup, fok_tup, kItL_lst, kItT_tup, kItS_T, kZip_lst, kEnum_lst, hole_none, hole_succ, putB_nil, putB_cons, finD_nil, finD_cons, lowE_nil, lowE_cons, lowS_some, lowS_none, wipeE_nil, wipeE_cons, backE_nil, backE_cons, kMod_int, kGe_int, kIn_T, List.map_cons, List.map_nil, List.length_cons, List.length_nil, List.length_map, List.length_set, List.cons_append, List.nil_append, Nat.reduceAdd, Nat.reduceSub, Nat.reduceLT, Nat.reduceLeDiff, Nat.zero_add, List.replicate_succ, List.replicate_zero, List.set_cons_zero, List.set_cons_succ, List.getElem?_cons_zero, List.getElem?_cons_succ, List.getElem?_nil, true_and, and_true, and_self, if_true, if_false, Bool.false_eq_true, reduceIte, List.mem_cons, List.not_mem_nil, or_false, false_or, reduceCtorEq, Nat.reduceEqDiff, or_self, or_true, true_or, Option.map_some, Option.getD_some, Option.isSome_some, Bool.not_true, Bool.not_false, Bool.and_true, Bool.true_and, Bool.and_eq_true, decide_eq_true_eq, Nat.zero_lt_succ, Nat.lt_add_one, Nat.succ_ne_self, Nat.add_one_ne_zero, not_true_eq_false, not_false_eq_true, wv_frz, shift_nil, shift_cons, Option.bind_some, wv_mutF, wv_mutV, wv_meth, wv_make, wv_callW, ws_setF, wg_un, kFld_obj, setO_obj, mutO_obj, hasL_obj, isO_obj, asL_own, bare_at, frzs_nil, frzs_cons, foks_nil, foks_cons]
  rintro ρ rfl
  refine ws_mid (fun ρ => ∃ i x3 x5 x6 x7 x9 x10, ρ = eA ns dr i (some (.lst (Wf rs))) x3 (some (.lst (I (flat rs)))) x5 x6 x7 (some (.own (I (flat rs ++ x)))) x9 x10) ?_ ?_
  · simp only [ws_asg, ws_ret, ws_retN, ws_drop, ws_pass, ws_bk, ws_ct, ws_if, ws_aug, ws_augI, ws_for, wv_cp, wv_mk, wv_share, wv_move, wv_1, wv_2, wv_A, wa_nil, wa_cons, wa_io, wv_tup, wv_lst, wv_call, wv_if, wv_sl, wv_ixN, wv_mt, wv_mut, wv_and, wv_or, wv_not, wv_lc, wi_arg, wb_q, wb_t, wb_v, wb_and, wb_or, wb_not, wb_yes, wq_var, wq_c, wq_2, wq_1, wq_A, wq_lNil, wq_lCons, wq_sl, wo_none, wo_some, wg_item, wg_set, wg_tup, wg_cons, wg_nil, wR_rb, wR_rp, wO_some, wO_none, wO_bind, wO_map, wO_iteN, look_zero, look_succ, Ed.turn, kIx_lst, kIx_tup, kIx_T, atI_0, atI_1, atI_2, atI_3, atI_4, atI_5, atI_6, atI_cast, ixN_0, ixN_1, ixN_2, ixN_3, asI_int, asB_bl, asS_str, oI_int, cT_true, kAdd_int, kAdd_T, kAdd_lst, kAdd_tup, kInt_int, kInt_bl, kMin_int, kMax_int, kLen_lst, kLen_tup, kLen_T, nOw_at, nOw_tup, nOw_lstF, nOw_own, nOws_nil, nOws_cons, nOws_append, nOws_ints, kEq_int, kNe_int, kEq_T, kNe_T, kEq_bl, kIsN_at, kNotN_at, kIsN_nd, kNotN_nd, kList_lst, kList_tup, kTuple_lst, kAppend_one, kSl_lst, kSl_T, kSl_tup, kRng1_int, kRng2_int, isL_own, frz_at, fok_at, frz_lst, fok_lst, frz_tup, fok_tup, kItL_lst, kItT_tup, kItS_T, kZip_lst, kEnum_lst, hole_none, hole_succ, putB_nil, putB_cons, finD_nil, finD_cons, lowE_nil, lowE_cons, lowS_some, lowS_none, wipeE_nil, wipeE_cons, backE_nil, backE_cons, kMod_int, kGe_int, kIn_T, List.map_cons, List.map_nil, List.length_cons, List.length_nil, List.length_map, List.length_set, List.cons_append, List.nil_append, Nat.reduceAdd, Nat.reduceSub, Nat.reduceLT, Nat.reduceLeDiff, Nat.zero_add, List.replicate_succ, List.replicate_zero, List.set_cons_zero, List.set_cons_succ, List.getElem?_cons_zero, List.getElem?_cons_succ, List.getElem?_nil, true_and, and_true, and_self, if_true, if_false, Bool.false_eq_true, reduceIte, List.mem_cons, List.not_mem_nil, or_false, false_or, reduceCtorEq, Nat.reduceEqDiff, or_self, or_true, true_or, Option.map_some, Option.getD_some, Option.isSome_some, Bool.not_true, Bool.not_false, Bool.and_true, Bool.true_and, Bool.and_eq_true, decide_eq_true_eq, Nat.zero_lt_succ, Nat.lt_add_one, Nat.succ_ne_self, Nat.add_one_ne_zero, not_true_eq_false, not_false_eq_true, wv_frz, shift_nil, shift_cons, Option.bind_some, wv_mutF, wv_mutV, wv_meth, wv_make, wv_callW, ws_setF, wg_un, kFld_obj, setO_obj, mutO_obj, hasL_obj, isO_obj, asL_own, bare_at, frzs_nil, frzs_cons, foks_nil, foks_cons]
    refine ⟨by decide, w_for (fun n ρ => ∃ (i : Int) (x3 : Option D) (o : Bool) (x7 x9 x10 : Option D), 20 ≤ i ∧ i ≤ 200 + n ∧ ρ = eA ns dr i (some (.lst (Wf rs))) x3 (some (.lst (I (flat rs)))) (some (.nd (.lst o) (I (szs rs rs.length)))) x6 x7 (some (.own (I (flat rs ++ x)))) x9 x10) ⟨i', none, true, _, none, none, j0, by omega, rfl⟩ ?_ ?_⟩
    · rintro n d ρ hdd ⟨i, x3, o, x7, x9, x10, i0, i1, rfl⟩
      obtain ⟨hn, rfl⟩ := rngD_get hdd
      have hn : n < 4 := hn
      simp only [wg_set]
      refine ⟨by simp, ?_⟩
      refine ws_mid (fun ρ => ∃ e : Nat, e ≤ (flat rs).length ∧ ρ = eA ns dr (i + 1) (some (.lst (Wf rs))) (some (.at (.int (0 + (n : Int))))) (some (.lst (I (flat rs)))) (some (.nd (.lst o) (I (szs rs rs.length)))) x6 x7 (some (.own (I (flat rs ++ x)))) (some (.at (.int (e : Nat)))) x10) ?_ ?_
      · simp only [ws_asg, ws_ret, ws_retN, ws_drop, ws_pass, ws_bk, ws_ct, ws_if, ws_aug, ws_augI, ws_for, wv_cp, wv_mk, wv_share, wv_move, wv_1, wv_2, wv_A, wa_nil, wa_cons, wa_io, wv_tup, wv_lst, wv_call, wv_if, wv_sl, wv_ixN, wv_mt, wv_mut, wv_and, wv_or, wv_not, wv_lc, wi_arg, wb_q, wb_t, wb_v, wb_and, wb_or, wb_not, wb_yes, wq_var, wq_c, wq_2, wq_1, wq_A, wq_lNil, wq_lCons, wq_sl, wo_none, wo_some, wg_item, wg_set, wg_tup, wg_cons, wg_nil, wR_rb, wR_rp, wO_some, wO_none, wO_bind, wO_map, wO_iteN, look_zero, look_succ, Ed.turn, kIx_lst, kIx_tup, kIx_T, atI_0, atI_1, atI_2, atI_3, atI_4, atI_5, atI_6, atI_cast, ixN_0, ixN_1, ixN_2, ixN_3, asI_int, asB_bl, asS_str, oI_int, cT_true, kAdd_int, kAdd_T, kAdd_lst, kAdd_tup, kInt_int, kInt_bl, kMin_int, kMax_int, kLen_lst, kLen_tup, kLen_T, nOw_at, nOw_tup, nOw_lstF, nOw_own, nOws_nil, nOws_cons, nOws_append, nOws_ints, kEq_int, kNe_int, kEq_T, kNe_T, kEq_bl, kIsN_at, kNotN_at, kIsN_nd, kNotN_nd, kList_lst, kList_tup, kTuple_lst, kAppend_one, kSl_lst, kSl_T, kSl_tup, kRng1_int, kRng2_int, isL_own, frz_at, fok_at, frz_lst, fok_lst, frz_tup, fok_tup, kItL_lst, kItT_tup, kItS_T, kZip_lst, kEnum_lst, hole_none, hole_succ, putB_nil, putB_cons, finD_nil, finD_cons, lowE_nil, lowE_cons, lowS_some, lowS_none, wipeE_nil, wipeE_cons, backE_nil, backE_cons, kMod_int, kGe_int, kIn_T, List.map_cons, List.map_nil, List.length_cons, List.length_nil, List.length_map, List.length_set, List.cons_append, List.nil_append, Nat.reduceAdd, Nat.reduceSub, Nat.reduceLT, Nat.reduceLeDiff, Nat.zero_add, List.replicate_succ, List.replicate_zero, List.set_cons_zero, List.set_cons_succ, List.getElem?_cons_zero, List.getElem?_cons_succ, List.getElem?_nil, true_and, and_true, and_self, if_true, if_false, Bool.false_eq_true, reduceIte, List.mem_cons, List.not_mem_nil, or_false, false_or, reduceCtorEq, Nat.reduceEqDiff, or_self, or_true, true_or, Option.map_some, Option.getD_some, Option.isSome_some, Bool.not_true, Bool.not_false, Bool.and_true, Bool.true_and, Bool.and_eq_true, decide_eq_true_eq, Nat.zero_lt_succ, Nat.lt_add_one, Nat.succ_ne_self, Nat.add_one_ne_zero, not_true_eq_false, not_false_eq_true, wv_frz, shift_nil, shift_cons, Option.bind_some, wv_mutF, wv_mutV, wv_meth, wv_make, wv_callW, ws_setF, wg_un, kFld_obj, setO_obj, mutO_obj, hasL_obj, isO_obj, asL_own, bare_at, frzs_nil, frzs_cons, foks_nil, foks_cons]
        refine wD_mono (next_ok hd (by omega) (by omega) (by omega)) ?_ fun _ _ h => h.elim
        rintro _ _ ⟨a, rfl, rfl, a0, a1⟩
        simp only [ws_asg, ws_ret, ws_retN, ws_drop, ws_pass, ws_bk, ws_ct, ws_if, ws_aug, ws_augI, ws_for, wv_cp, wv_mk, wv_share, wv_move, wv_1, wv_2, wv_A, wa_nil, wa_cons, wa_io, wv_tup, wv_lst, wv_call, wv_if, wv_sl, wv_ixN, wv_mt, wv_mut, wv_and, wv_or, wv_not, wv_lc, wi_arg, wb_q, wb_t, wb_v, wb_and, wb_or, wb_not, wb_yes, wq_var, wq_c, wq_2, wq_1, wq_A, wq_lNil, wq_lCons, wq_sl, wo_none, wo_some, wg_item, wg_set, wg_tup, wg_cons, wg_nil, wR_rb, wR_rp, wO_some, wO_none, wO_bind, wO_map, wO_iteN, look_zero, look_succ, Ed.turn, kIx_lst, kIx_tup, kIx_T, atI_0, atI_1, atI_2, atI_3, atI_4, atI_5, atI_6, atI_cast, ixN_0, ixN_1, ixN_2, ixN_3, asI_int, asB_bl, asS_str, oI_int, cT_true, kAdd_int, kAdd_T, kAdd_lst, kAdd_tup, kInt_int, kInt_bl, kMin_int, kMax_int, kLen_lst, kLen_tup, kLen_T, nOw_at, nOw_tup, nOw_lstF, nOw_own, nOws_nil, nOws_cons, nOws_append, nOws_ints, kEq_int, kNe_int, kEq_T, kNe_T, kEq_bl, kIsN_at, kNotN_at, kIsN_nd, kNotN_nd, kList_lst, kList_tup, kTuple_lst, kAppend_one, kSl_lst, kSl_T, kSl_tup, kRng1_int, kRng2_int, isL_own, frz_at, fok_at, frz_lst, fok_lst, frz_tup, fok_tup, kItL_lst, kItT_tup, kItS_T, kZip_lst, kEnum_lst, hole_none, hole_succ, putB_nil, putB_cons, finD_nil, finD_cons, lowE_nil, lowE_cons, lowS_some, lowS_none, wipeE_nil, wipeE_cons, backE_nil, backE_cons, kMod_int, kGe_int, kIn_T, List.map_cons, List.map_nil, List.length_cons, List.length_nil, List.length_map, List.length_set, List.cons_append, List.nil_append, Nat.reduceAdd, Nat.reduceSub, Nat.reduceLT, Nat.reduceLeDiff, Nat.zero_add, List.replicate_succ, List.replicate_zero, List.set_cons_zero, List.set_cons_succ, List.getElem?_cons_zero, List.getElem?_cons_succ, List.getElem?_nil, true_and, and_true, and_self, if_true, if_false, Bool.false_eq_true, reduceIte, List.mem_cons, List.not_mem_nil, or_false, false_or, reduceCtorEq, Nat.reduceEqDiff, or_self, or_true, true_or, Option.map_some, Option.getD_some, Option.isSome_some, Bool.not_true, Bool.not_false, Bool.and_true, Bool.true_and, Bool.and_eq_true, decide_eq_true_eq, Nat.zero_lt_succ, Nat.lt_add_one, Nat.succ_ne_self, Nat.add_one_ne_zero, not_true_eq_false, not_false_eq_true, wv_frz, shift_nil, shift_cons, Option.bind_some, wv_mutF, wv_mutV, wv_meth, wv_make, wv_callW, ws_setF, wg_un, kFld_obj, setO_obj, mutO_obj, hasL_obj, isO_obj, asL_own, bare_at, frzs_nil, frzs_cons, foks_nil, foks_cons]
        exact ⟨a.toNat, by omega, by rw [Int.toNat_of_nonneg a0]⟩
      rintro ρ ⟨e, he, rfl⟩
      obtain ⟨c, hc, hcut⟩ := cut_at (rs := rs) (e := e)
      have hsl : (szs rs rs.length).length = rs.length + 1 := by unfold szs; simp
      refine ws_mid (fun ρ => ρ = eA ns dr (i + 1) (some (.lst (Wf rs))) (some (.at (.int (0 + (n : Int))))) (some (.lst (I (flat rs)))) (some (.lst (I (szs rs rs.length)))) x6 x7 (some (.own (I (flat rs ++ x)))) (some (.at (.int (e : Nat)))) (some (.at (.int (c : Nat))))) ?_ ?_
      · simp only [ws_asg, ws_ret, ws_retN, ws_drop, ws_pass, ws_bk, ws_ct, ws_if, ws_aug, ws_augI, ws_for, wv_cp, wv_mk, wv_share, wv_move, wv_1, wv_2, wv_A, wa_nil, wa_cons, wa_io, wv_tup, wv_lst, wv_call, wv_if, wv_sl, wv_ixN, wv_mt, wv_mut, wv_and, wv_or, wv_not, wv_lc, wi_arg, wb_q, wb_t, wb_v, wb_and, wb_or, wb_not, wb_yes, wq_var, wq_c, wq_2, wq_1, wq_A, wq_lNil, wq_lCons, wq_sl, wo_none, wo_some, wg_item, wg_set, wg_tup, wg_cons, wg_nil, wR_rb, wR_rp, wO_some, wO_none, wO_bind, wO_map, wO_iteN, look_zero, look_succ, Ed.turn, kIx_lst, kIx_tup, kIx_T, atI_0, atI_1, atI_2, atI_3, atI_4, atI_5, atI_6, atI_cast, ixN_0, ixN_1, ixN_2, ixN_3, asI_int, asB_bl, asS_str, oI_int, cT_true, kAdd_int, kAdd_T, kAdd_lst, kAdd_tup, kInt_int, kInt_bl, kMin_int, kMax_int, kLen_lst, kLen_tup, kLen_T, nOw_at, nOw_tup, nOw_lstF, nOw_own, nOws_nil, nOws_cons, nOws_append, nOws_ints, kEq_int, kNe_int, kEq_T, kNe_T, kEq_bl, kIsN_at, kNotN_at, kIsN_nd, kNotN_nd, kList_lst, kList_tup, kTuple_lst, kAppend_one, kSl_lst, kSl_T, kSl_tup, kRng1_int, kRng2_int, isL_own, frz_at, fok_at, frz_lst, fok_lst, frz_tup, fok_tup, kItL_lst, kItT_tup, kItS_T, kZip_lst, kEnum_lst, hole_none, hole_succ, putB_nil, putB_cons, finD_nil, finD_cons, lowE_nil, lowE_cons, lowS_some, lowS_none, wipeE_nil, wipeE_cons, backE_nil, backE_cons, kMod_int, kGe_int, kIn_T, List.map_cons, List.map_nil, List.length_cons, List.length_nil, List.length_map, List.length_set, List.cons_append, List.nil_append, Nat.reduceAdd, Nat.reduceSub, Nat.reduceLT, Nat.reduceLeDiff, Nat.zero_add, List.replicate_succ, List.replicate_zero, List.set_cons_zero, List.set_cons_succ, List.getElem?_cons_zero, List.getElem?_cons_succ, List.getElem?_nil, true_and, and_true, and_self, if_true, if_false, Bool.false_eq_true, reduceIte, List.mem_cons, List.not_mem_nil, or_false, false_or, reduceCtorEq, Nat.reduceEqDiff, or_self, or_true, true_or, Option.map_some, Option.getD_some, Option.isSome_some, Bool.not_true, Bool.not_false, Bool.and_true, Bool.true_and, Bool.and_eq_true, decide_eq_true_eq, Nat.zero_lt_succ, Nat.lt_add_one, Nat.succ_ne_self, Nat.add_one_ne_zero, not_true_eq_false, not_false_eq_true, wv_frz, shift_nil, shift_cons, Option.bind_some, wv_mutF, wv_mutV, wv_meth, wv_make, wv_callW, ws_setF, wg_un, kFld_obj, setO_obj, mutO_obj, hasL_obj, isO_obj, asL_own, bare_at, frzs_nil, frzs_cons, foks_nil, foks_cons, foks_I, frzs_I]
        refine w_lc (fun k acc ρ => acc = I (((szs rs rs.length).take k).filter fun x => decide (x ≤ (e : Int))) ∧ ρ = eA ns dr (i + 1) (some (.lst (Wf rs))) (some (.at (.int (0 + (n : Int))))) (some (.lst (I (flat rs)))) (some (.lst (I (szs rs rs.length)))) x6 x7 (some (.own (I (flat rs ++ x)))) (some (.at (.int (e : Nat)))) x10) ⟨rfl, rfl⟩ ?_ ?_
        · rintro k d acc ρ hdd ⟨rfl, rfl⟩
          rw [List.getElem?_map] at hdd
          obtain ⟨s, hs, rfl⟩ := Option.map_eq_some_iff.mp hdd
          obtain ⟨hk, _⟩ := List.getElem?_eq_some_iff.mp hs
          have hfl2 : (((szs rs rs.length).take k).filter fun x => decide (x ≤ (e : Int))).length ≤ k := Nat.le_trans (List.length_filter_le _ _) (by simp; omega)
          simp only [ws_asg, ws_ret, ws_retN, ws_drop, ws_pass, ws_bk, ws_ct, ws_if, ws_aug, ws_augI, ws_for, wv_cp, wv_mk, wv_share, wv_move, wv_1, wv_2, wv_A, wa_nil, wa_cons, wa_io, wv_tup, wv_lst, wv_call, wv_if, wv_sl, wv_ixN, wv_mt, wv_mut, wv_and, wv_or, wv_not, wv_lc, wi_arg, wb_q, wb_t, wb_v, wb_and, wb_or, wb_not, wb_yes, wq_var, wq_c, wq_2, wq_1, wq_A, wq_lNil, wq_lCons, wq_sl, wo_none, wo_some, wg_item, wg_set, wg_tup, wg_cons, wg_nil, wR_rb, wR_rp, wO_some, wO_none, wO_bind, wO_map, wO_iteN, look_zero, look_succ, Ed.turn, kIx_lst, kIx_tup, kIx_T, atI_0, atI_1, atI_2, atI_3, atI_4, atI_5, atI_6, atI_cast, ixN_0, ixN_1, ixN_2, ixN_3, asI_int, asB_bl, asS_str, oI_int, cT_true, kAdd_int, kAdd_T, kAdd_lst, kAdd_tup, kInt_int, kInt_bl, kMin_int, kMax_int, kLen_lst, kLen_tup, kLen_T, nOw_at, nOw_tup, nOw_lstF, nOw_own, nOws_nil, nOws_cons, nOws_append, nOws_ints, kEq_int, kNe_int, kEq_T, kNe_T, kEq_bl, kIsN_at, kNotN_at, kIsN_nd, kNotN_nd, kList_lst, kList_tup, kTuple_lst, kAppend_one, kSl_lst, kSl_T, kSl_tup, kRng1_int, kRng2_int, isL_own, frz_at, fok_at, frz_lst, fok_lst, frz_tup, fok_tup, kItL_lst, kItT_tup, kItS_T, kZip_lst, kEnum_lst, hole_none, hole_succ, putB_nil, putB_cons, finD_nil, finD_cons, lowE_nil, lowE_cons, lowS_some, lowS_none, wipeE_nil, wipeE_cons, backE_nil, backE_cons, kMod_int, kGe_int, kIn_T, List.map_cons, List.map_nil, List.length_cons, List.length_nil, List.length_map, List.length_set, List.cons_append, List.nil_append, Nat.reduceAdd, Nat.reduceSub, Nat.reduceLT, Nat.reduceLeDiff, Nat.zero_add, List.replicate_succ, List.replicate_zero, List.set_cons_zero, List.set_cons_succ, List.getElem?_cons_zero, List.getElem?_cons_succ, List.getElem?_nil, true_and, and_true, and_self, if_true, if_false, Bool.false_eq_true, reduceIte, List.mem_cons, List.not_mem_nil, or_false, false_or, reduceCtorEq, Nat.reduceEqDiff, or_self, or_true, true_or, Option.map_some, Option.getD_some, Option.isSome_some, Bool.not_true, Bool.not_false, Bool.and_true, Bool.true_and, Bool.and_eq_true, decide_eq_true_eq, Nat.zero_lt_succ, Nat.lt_add_one, Nat.succ_ne_self, Nat.add_one_ne_zero, not_true_eq_false, not_false_eq_true, wv_frz, shift_nil, shift_cons, Option.bind_some, wv_mutF, wv_mutV, wv_meth, wv_make, wv_callW, ws_setF, wg_un, kFld_obj, setO_obj, mutO_obj, hasL_obj, isO_obj, asL_own, bare_at, frzs_nil, frzs_cons, foks_nil, foks_cons]
          have hss : ((szs rs rs.length).take (k + 1)).filter (fun x => decide (x ≤ (e : Int))) = ((szs rs rs.length).take k).filter (fun x => decide (x ≤ (e : Int))) ++ if s ≤ (e : Int) then [s] else [] := by
            rw [List.take_succ, hs, List.filter_append]
            congr 1
            by_cases hse : s ≤ (e : Int)
            · simp [hse]
            · simp [hse]
          split
          · rename_i hse
            rw [if_pos hse] at hss
            refine ⟨by simp only [sizeLine]; omega, ?_⟩
            rw [hss, I_snoc]
          · rename_i hse
            rw [if_neg hse, List.append_nil] at hss
            rw [hss]
        · rintro acc ρ ⟨rfl, rfl⟩
          rw [List.length_map, List.take_length]
          have hf := szs_filter hc hcut
          simp only [ws_asg, ws_ret, ws_retN, ws_drop, ws_pass, ws_bk, ws_ct, ws_if, ws_aug, ws_augI, ws_for, wv_cp, wv_mk, wv_share, wv_move, wv_1, wv_2, wv_A, wa_nil, wa_cons, wa_io, wv_tup, wv_lst, wv_call, wv_if, wv_sl, wv_ixN, wv_mt, wv_mut, wv_and, wv_or, wv_not, wv_lc, wi_arg, wb_q, wb_t, wb_v, wb_and, wb_or, wb_not, wb_yes, wq_var, wq_c, wq_2, wq_1, wq_A, wq_lNil, wq_lCons, wq_sl, wo_none, wo_some, wg_item, wg_set, wg_tup, wg_cons, wg_nil, wR_rb, wR_rp, wO_some, wO_none, wO_bind, wO_map, wO_iteN, look_zero, look_succ, Ed.turn, kIx_lst, kIx_tup, kIx_T, atI_0, atI_1, atI_2, atI_3, atI_4, atI_5, atI_6, atI_cast, ixN_0, ixN_1, ixN_2, ixN_3, asI_int, asB_bl, asS_str, oI_int, cT_true, kAdd_int, kAdd_T, kAdd_lst, kAdd_tup, kInt_int, kInt_bl, kMin_int, kMax_int, kLen_lst, kLen_tup, kLen_T, nOw_at, nOw_tup, nOw_lstF, nOw_own, nOws_nil, nOws_cons, nOws_append, nOws_ints, kEq_int, kNe_int, kEq_T, kNe_T, kEq_bl, kIsN_at, kNotN_at, kIsN_nd, kNotN_nd, kList_lst, kList_tup, kTuple_lst, kAppend_one, kSl_lst, kSl_T, kSl_tup, kRng1_int, kRng2_int, isL_own, frz_at, fok_at, frz_lst, fok_lst, frz_tup, fok_tup, kItL_lst, kItT_tup, kItS_T, kZip_lst, kEnum_lst, hole_none, hole_succ, putB_nil, putB_cons, finD_nil, finD_cons, lowE_nil, lowE_cons, lowS_some, lowS_none, wipeE_nil, wipeE_cons, backE_nil, backE_cons, kMod_int, kGe_int, kIn_T, List.map_cons, List.map_nil, List.length_cons, List.length_nil, List.length_map, List.length_set, List.cons_append, List.nil_append, Nat.reduceAdd, Nat.reduceSub, Nat.reduceLT, Nat.reduceLeDiff, Nat.zero_add, List.replicate_succ, List.replicate_zero, List.set_cons_zero, List.set_cons_succ, List.getElem?_cons_zero, List.getElem?_cons_succ, List.getElem?_nil, true_and, and_true, and_self, if_true, if_false, Bool.false_eq_true, reduceIte, List.mem_cons, List.not_mem_nil, or_false, false_or, reduceCtorEq, Nat.reduceEqDiff, or_self, or_true, true_or, Option.map_some, Option.getD_some, Option.isSome_some, Bool.not_true, Bool.not_false, Bool.and_true, Bool.true_and, Bool.and_eq_true, decide_eq_true_eq, Nat.zero_lt_succ, Nat.lt_add_one, Nat.succ_ne_self, Nat.add_one_ne_zero, not_true_eq_false, not_false_eq_true, wv_frz, shift_nil, shift_cons, Option.bind_some, wv_mutF, wv_mutV, wv_meth, wv_make, wv_callW, ws_setF, wg_un, kFld_obj, setO_obj, mutO_obj, hasL_obj, isO_obj, asL_own, bare_at, frzs_nil, frzs_cons, foks_nil, foks_cons, hf, kSub_int]
          rw [show (((c + 1 : Nat) : Int) - 1) = (c : Int) by omega]
      rintro ρ rfl
      refine ws_mid (fun ρ => ρ = eA ns dr (i + 1) (some (.lst (Wf rs))) (some (.at (.int (0 + (n : Int))))) (some (.lst (I (flat rs)))) (some (.lst (I (szs rs rs.length)))) x6 (some (.own (I ((flat rs).take e)))) (some (.own (I (flat rs ++ x)))) (some (.at (.int (e : Nat)))) (some (.at (.int (c : Nat))))) ?_ ?_
      · simp only [ws_asg, ws_ret, ws_retN, ws_drop, ws_pass, ws_bk, ws_ct, ws_if, ws_aug, ws_augI, ws_for, wv_cp, wv_mk, wv_share, wv_move, wv_1, wv_2, wv_A, wa_nil, wa_cons, wa_io, wv_tup, wv_lst, wv_call, wv_if, wv_sl, wv_ixN, wv_mt, wv_mut, wv_and, wv_or, wv_not, wv_lc, wi_arg, wb_q, wb_t, wb_v, wb_and, wb_or, wb_not, wb_yes, wq_var, wq_c, wq_2, wq_1, wq_A, wq_lNil, wq_lCons, wq_sl, wo_none, wo_some, wg_item, wg_set, wg_tup, wg_cons, wg_nil, wR_rb, wR_rp, wO_some, wO_none, wO_bind, wO_map, wO_iteN, look_zero, look_succ, Ed.turn, kIx_lst, kIx_tup, kIx_T, atI_0, atI_1, atI_2, atI_3, atI_4, atI_5, atI_6, atI_cast, ixN_0, ixN_1, ixN_2, ixN_3, asI_int, asB_bl, asS_str, oI_int, cT_true, kAdd_int, kAdd_T, kAdd_lst, kAdd_tup, kInt_int, kInt_bl, kMin_int, kMax_int, kLen_lst, kLen_tup, kLen_T, nOw_at, nOw_tup, nOw_lstF, nOw_own, nOws_nil, nOws_cons, nOws_append, nOws_ints, kEq_int, kNe_int, kEq_T, kNe_T, kEq_bl, kIsN_at, kNotN_at, kIsN_nd, kNotN_nd, kList_lst, kList_tup, kTuple_lst, kAppend_one, kSl_lst, kSl_T, kSl_tup, kRng1_int, kRng2_int, isL_own, frz_at, fok_at, frz_lst, fok_lst, frz_tup, fok_tup, kItL_lst, kItT_tup, kItS_T, kZip_lst, kEnum_lst, hole_none, hole_succ, putB_nil, putB_cons, finD_nil, finD_cons, lowE_nil, lowE_cons, lowS_some, lowS_none, wipeE_nil, wipeE_cons, backE_nil, backE_cons, kMod_int, kGe_int, kIn_T, List.map_cons, List.map_nil, List.length_cons, List.length_nil, List.length_map, List.length_set, List.cons_append, List.nil_append, Nat.reduceAdd, Nat.reduceSub, Nat.reduceLT, Nat.reduceLeDiff, Nat.zero_add, List.replicate_succ, List.replicate_zero, List.set_cons_zero, List.set_cons_succ, List.getElem?_cons_zero, List.getElem?_cons_succ, List.getElem?_nil, true_and, and_true, and_self, if_true, if_false, Bool.false_eq_true, reduceIte, List.mem_cons, List.not_mem_nil, or_false, false_or, reduceCtorEq, Nat.reduceEqDiff, or_self, or_true, true_or, Option.map_some, Option.getD_some, Option.isSome_some, Bool.not_true, Bool.not_false, Bool.and_true, Bool.true_and, Bool.and_eq_true, decide_eq_true_eq, Nat.zero_lt_succ, Nat.lt_add_one, Nat.succ_ne_self, Nat.add_one_ne_zero, not_true_eq_false, not_false_eq_true, wv_frz, shift_nil, shift_cons, Option.bind_some, wv_mutF, wv_mutV, wv_meth, wv_make, wv_callW, ws_setF, wg_un, kFld_obj, setO_obj, mutO_obj, hasL_obj, isO_obj, asL_own, bare_at, frzs_nil, frzs_cons, foks_nil, foks_cons, nOws_I, cut_to]
      rintro ρ rfl
      have hlk : (I (szs rs rs.length))[c]? = some (D.at (.int ((S rs c : Nat) : Int))) := by
        rw [List.getElem?_map]
        unfold szs
        rw [List.getElem?_map, List.getElem?_range (by omega)]
        rfl
      obtain ⟨hrun, hnx⟩ := run_cut hok hc he hcut
      simp only [ws_asg, ws_ret, ws_retN, ws_drop, ws_pass, ws_bk, ws_ct, ws_if, ws_aug, ws_augI, ws_for, wv_cp, wv_mk, wv_share, wv_move, wv_1, wv_2, wv_A, wa_nil, wa_cons, wa_io, wv_tup, wv_lst, wv_call, wv_if, wv_sl, wv_ixN, wv_mt, wv_mut, wv_and, wv_or, wv_not, wv_lc, wi_arg, wb_q, wb_t, wb_v, wb_and, wb_or, wb_not, wb_yes, wq_var, wq_c, wq_2, wq_1, wq_A, wq_lNil, wq_lCons, wq_sl, wo_none, wo_some, wg_item, wg_set, wg_tup, wg_cons, wg_nil, wR_rb, wR_rp, wO_some, wO_none, wO_bind, wO_map, wO_iteN, look_zero, look_succ, Ed.turn, kIx_lst, kIx_tup, kIx_T, atI_0, atI_1, atI_2, atI_3, atI_4, atI_5, atI_6, atI_cast, ixN_0, ixN_1, ixN_2, ixN_3, asI_int, asB_bl, asS_str, oI_int, cT_true, kAdd_int, kAdd_T, kAdd_lst, kAdd_tup, kInt_int, kInt_bl, kMin_int, kMax_int, kLen_lst, kLen_tup, kLen_T, nOw_at, nOw_tup, nOw_lstF, nOw_own, nOws_nil, nOws_cons, nOws_append, nOws_ints, kEq_int, kNe_int, kEq_T, kNe_T, kEq_bl, kIsN_at, kNotN_at, kIsN_nd, kNotN_nd, kList_lst, kList_tup, kTuple_lst, kAppend_one, kSl_lst, kSl_T, kSl_tup, kRng1_int, kRng2_int, isL_own, frz_at, fok_at, frz_lst, fok_lst, frz_tup, fok_tup, kItL_lst, kItT_tup, kItS_T, kZip_lst, kEnum_lst, hole_none, hole_succ, putB_nil, putB_cons, finD_nil, finD_cons, lowE_nil, lowE_cons, lowS_some, lowS_none, wipeE_nil, wipeE_cons, backE_nil, backE_cons, kMod_int, kGe_int, kIn_T, List.map_cons, List.map_nil, List.length_cons, List.length_nil, List.length_map, List.length_set, List.cons_append, List.nil_append, Nat.reduceAdd, Nat.reduceSub, Nat.reduceLT, Nat.reduceLeDiff, Nat.zero_add, List.replicate_succ, List.replicate_zero, List.set_cons_zero, List.set_cons_succ, List.getElem?_cons_zero, List.getElem?_cons_succ, List.getElem?_nil, true_and, and_true, and_self, if_true, if_false, Bool.false_eq_true, reduceIte, List.mem_cons, List.not_mem_nil, or_false, false_or, reduceCtorEq, Nat.reduceEqDiff, or_self, or_true, true_or, Option.map_some, Option.getD_some, Option.isSome_some, Bool.not_true, Bool.not_false, Bool.and_true, Bool.true_and, Bool.and_eq_true, decide_eq_true_eq, Nat.zero_lt_succ, Nat.lt_add_one, Nat.succ_ne_self, Nat.add_one_ne_zero, not_true_eq_false, not_false_eq_true, wv_frz, shift_nil, shift_cons, Option.bind_some, wv_mutF, wv_mutV, wv_meth, wv_make, wv_callW, ws_setF, wg_un, kFld_obj, setO_obj, mutO_obj, hasL_obj, isO_obj, asL_own, bare_at, frzs_nil, frzs_cons, foks_nil, foks_cons, foks_I, frzs_I]
      refine wD_mono (recs_ok (d := (flat rs).take e) (by rw [List.length_take]; omega) (fun z hz => flat_byte hok z (List.mem_of_mem_take hz)) hrun hnx) ?_ fun _ _ h => h.elim
      rintro d as rfl
      simp only [ws_asg, ws_ret, ws_retN, ws_drop, ws_pass, ws_bk, ws_ct, ws_if, ws_aug, ws_augI, ws_for, wv_cp, wv_mk, wv_share, wv_move, wv_1, wv_2, wv_A, wa_nil, wa_cons, wa_io, wv_tup, wv_lst, wv_call, wv_if, wv_sl, wv_ixN, wv_mt, wv_mut, wv_and, wv_or, wv_not, wv_lc, wi_arg, wb_q, wb_t, wb_v, wb_and, wb_or, wb_not, wb_yes, wq_var, wq_c, wq_2, wq_1, wq_A, wq_lNil, wq_lCons, wq_sl, wo_none, wo_some, wg_item, wg_set, wg_tup, wg_cons, wg_nil, wR_rb, wR_rp, wO_some, wO_none, wO_bind, wO_map, wO_iteN, look_zero, look_succ, Ed.turn, kIx_lst, kIx_tup, kIx_T, atI_0, atI_1, atI_2, atI_3, atI_4, atI_5, atI_6, atI_cast, ixN_0, ixN_1, ixN_2, ixN_3, asI_int, asB_bl, asS_str, oI_int, cT_true, kAdd_int, kAdd_T, kAdd_lst, kAdd_tup, kInt_int, kInt_bl, kMin_int, kMax_int, kLen_lst, kLen_tup, kLen_T, nOw_at, nOw_tup, nOw_lstF, nOw_own, nOws_nil, nOws_cons, nOws_append, nOws_ints, kEq_int, kNe_int, kEq_T, kNe_T, kEq_bl, kIsN_at, kNotN_at, kIsN_nd, kNotN_nd, kList_lst, kList_tup, kTuple_lst, kAppend_one, kSl_lst, kSl_T, kSl_tup, kRng1_int, kRng2_int, isL_own, frz_at, fok_at, frz_lst, fok_lst, frz_tup, fok_tup, kItL_lst, kItT_tup, kItS_T, kZip_lst, kEnum_lst, hole_none, hole_succ, putB_nil, putB_cons, finD_nil, finD_cons, lowE_nil, lowE_cons, lowS_some, lowS_none, wipeE_nil, wipeE_cons, backE_nil, backE_cons, kMod_int, kGe_int, kIn_T, List.map_cons, List.map_nil, List.length_cons, List.length_nil, List.length_map, List.length_set, List.cons_append, List.nil_append, Nat.reduceAdd, Nat.reduceSub, Nat.reduceLT, Nat.reduceLeDiff, Nat.zero_add, List.replicate_succ, List.replicate_zero, List.set_cons_zero, List.set_cons_succ, List.getElem?_cons_zero, List.getElem?_cons_succ, List.getElem?_nil, true_and, and_true, and_self, if_true, if_false, Bool.false_eq_true, reduceIte, List.mem_cons, List.not_mem_nil, or_false, false_or, reduceCtorEq, Nat.reduceEqDiff, or_self, or_true, true_or, Option.map_some, Option.getD_some, Option.isSome_some, Bool.not_true, Bool.not_false, Bool.and_true, Bool.true_and, Bool.and_eq_true, decide_eq_true_eq, Nat.zero_lt_succ, Nat.lt_add_one, Nat.succ_ne_self, Nat.add_one_ne_zero, not_true_eq_false, not_false_eq_true, wv_frz, shift_nil, shift_cons, Option.bind_some, wv_mutF, wv_mutV, wv_meth, wv_make, wv_callW, ws_setF, wg_un, kFld_obj, setO_obj, mutO_obj, hasL_obj, isO_obj, asL_own, bare_at, frzs_nil, frzs_cons, foks_nil, foks_cons, bare_tup, bares, bare_own, bares_W, foks_W, frzs_W, foks_Wf, frzs_Wf, nOws_Wf, cutW_to, atI_cast, hlk]
      refine ⟨by decide, wD_mono (same5 (n := 4) (by decide) (plR (fun r hr => (hok r (List.mem_of_mem_take hr)).2) (by rw [List.length_take]; omega))) ?_ fun _ _ h => h.elim⟩
      rintro d as rfl
      simp only [ws_asg, ws_ret, ws_retN, ws_drop, ws_pass, ws_bk, ws_ct, ws_if, ws_aug, ws_augI, ws_for, wv_cp, wv_mk, wv_share, wv_move, wv_1, wv_2, wv_A, wa_nil, wa_cons, wa_io, wv_tup, wv_lst, wv_call, wv_if, wv_sl, wv_ixN, wv_mt, wv_mut, wv_and, wv_or, wv_not, wv_lc, wi_arg, wb_q, wb_t, wb_v, wb_and, wb_or, wb_not, wb_yes, wq_var, wq_c, wq_2, wq_1, wq_A, wq_lNil, wq_lCons, wq_sl, wo_none, wo_some, wg_item, wg_set, wg_tup, wg_cons, wg_nil, wR_rb, wR_rp, wO_some, wO_none, wO_bind, wO_map, wO_iteN, look_zero, look_succ, Ed.turn, kIx_lst, kIx_tup, kIx_T, atI_0, atI_1, atI_2, atI_3, atI_4, atI_5, atI_6, atI_cast, ixN_0, ixN_1, ixN_2, ixN_3, asI_int, asB_bl, asS_str, oI_int, cT_true, kAdd_int, kAdd_T, kAdd_lst, kAdd_tup, kInt_int, kInt_bl, kMin_int, kMax_int, kLen_lst, kLen_tup, kLen_T, nOw_at, nOw_tup, nOw_lstF, nOw_own, nOws_nil, nOws_cons, nOws_append, nOws_ints, kEq_int, kNe_int, kEq_T, kNe_T, kEq_bl, kIsN_at, kNotN_at, kIsN_nd, kNotN_nd, kList_lst, kList_tup, kTuple_lst, kAppend_one, kSl_lst, kSl_T, kSl_tup, kRng1_int, kRng2_int, isL_own, frz_at, fok_at, frz_lst, fok_lst, frz_tup, fok_tup, kItL_lst, kItT_tup, kItS_T, kZip_lst, kEnum_lst, hole_none, hole_succ, putB_nil, putB_cons, finD_nil, finD_cons, lowE_nil, lowE_cons, lowS_some, lowS_none, wipeE_nil, wipeE_cons, backE_nil, backE_cons, kMod_int, kGe_int, kIn_T, List.map_cons, List.map_nil, List.length_cons, List.length_nil, List.length_map, List.length_set, List.cons_append, List.nil_append, Nat.reduceAdd, Nat.reduceSub, Nat.reduceLT, Nat.reduceLeDiff, Nat.zero_add, List.replicate_succ, List.replicate_zero, List.set_cons_zero, List.set_cons_succ, List.getElem?_cons_zero, List.getElem?_cons_succ, List.getElem?_nil, true_and, and_true, and_self, if_true, if_false, Bool.false_eq_true, reduceIte, List.mem_cons, List.not_mem_nil, or_false, false_or, reduceCtorEq, Nat.reduceEqDiff, or_self, or_true, true_or, Option.map_some, Option.getD_some, Option.isSome_some, Bool.not_true, Bool.not_false, Bool.and_true, Bool.true_and, Bool.and_eq_true, decide_eq_true_eq, Nat.zero_lt_succ, Nat.lt_add_one, Nat.succ_ne_self, Nat.add_one_ne_zero, not_true_eq_false, not_false_eq_true, wv_frz, shift_nil, shift_cons, Option.bind_some, wv_mutF, wv_mutV, wv_meth, wv_make, wv_callW, ws_setF, wg_un, kFld_obj, setO_obj, mutO_obj, hasL_obj, isO_obj, asL_own, bare_at, frzs_nil, frzs_cons, foks_nil, foks_cons, nOws_I, cut_to]
      rw [kNe_I]
      simp only [ws_asg, ws_ret, ws_retN, ws_drop, ws_pass, ws_bk, ws_ct, ws_if, ws_aug, ws_augI, ws_for, wv_cp, wv_mk, wv_share, wv_move, wv_1, wv_2, wv_A, wa_nil, wa_cons, wa_io, wv_tup, wv_lst, wv_call, wv_if, wv_sl, wv_ixN, wv_mt, wv_mut, wv_and, wv_or, wv_not, wv_lc, wi_arg, wb_q, wb_t, wb_v, wb_and, wb_or, wb_not, wb_yes, wq_var, wq_c, wq_2, wq_1, wq_A, wq_lNil, wq_lCons, wq_sl, wo_none, wo_some, wg_item, wg_set, wg_tup, wg_cons, wg_nil, wR_rb, wR_rp, wO_some, wO_none, wO_bind, wO_map, wO_iteN, look_zero, look_succ, Ed.turn, kIx_lst, kIx_tup, kIx_T, atI_0, atI_1, atI_2, atI_3, atI_4, atI_5, atI_6, atI_cast, ixN_0, ixN_1, ixN_2, ixN_3, asI_int, asB_bl, asS_str, oI_int, cT_true, kAdd_int, kAdd_T, kAdd_lst, kAdd_tup, kInt_int, kInt_bl, kMin_int, kMax_int, kLen_lst, kLen_tup, kLen_T, nOw_at, nOw_tup, nOw_lstF, nOw_own, nOws_nil, nOws_cons, nOws_append, nOws_ints, kEq_int, kNe_int, kEq_T, kNe_T, kEq_bl, kIsN_at, kNotN_at, kIsN_nd, kNotN_nd, kList_lst, kList_tup, kTuple_lst, kAppend_one, kSl_lst, kSl_T, kSl_tup, kRng1_int, kRng2_int, isL_own, frz_at, fok_at, frz_lst, fok_lst, frz_tup, fok_tup, kItL_lst, kItT_tup, kItS_T, kZip_lst, kEnum_lst, hole_none, hole_succ, putB_nil, putB_cons, finD_nil, finD_cons, lowE_nil, lowE_cons, lowS_some, lowS_none, wipeE_nil, wipeE_cons, backE_nil, backE_cons, kMod_int, kGe_int, kIn_T, List.map_cons, List.map_nil, List.length_cons, List.length_nil, List.length_map, List.length_set, List.cons_append, List.nil_append, Nat.reduceAdd, Nat.reduceSub, Nat.reduceLT, Nat.reduceLeDiff, Nat.zero_add, List.replicate_succ, List.replicate_zero, List.set_cons_zero, List.set_cons_succ, List.getElem?_cons_zero, List.getElem?_cons_succ, List.getElem?_nil, true_and, and_true, and_self, if_true, if_false, Bool.false_eq_true, reduceIte, List.mem_cons, List.not_mem_nil, or_false, false_or, reduceCtorEq, Nat.reduceEqDiff, or_self, or_true, true_or, Option.map_some, Option.getD_some, Option.isSome_some, Bool.not_true, Bool.not_false, Bool.and_true, Bool.true_and, Bool.and_eq_true, decide_eq_true_eq, Nat.zero_lt_succ, Nat.lt_add_one, Nat.succ_ne_self, Nat.add_one_ne_zero, not_true_eq_false, not_false_eq_true, wv_frz, shift_nil, shift_cons, Option.bind_some, wv_mutF, wv_mutV, wv_meth, wv_make, wv_callW, ws_setF, wg_un, kFld_obj, setO_obj, mutO_obj, hasL_obj, isO_obj, asL_own, bare_at, frzs_nil, frzs_cons, foks_nil, foks_cons]
      exact ⟨i + 1, _, _, _, _, _, by omega, by omega, rfl⟩
    · rintro ρ ⟨i, x3, o, x7, x9, x10, i0, i1, rfl⟩
      exact ⟨i, x3, _, x6, x7, x9, x10, rfl⟩
  rintro ρ ⟨i, x3, x5, x6, x7, x9, x10, rfl⟩
  have r0 : Run [] 0 [] 0 := .nil
  have b0 : ByteL [] := fun _ h => nomatch h
  simp only [ws_asg, ws_ret, ws_retN, ws_drop, ws_pass, ws_bk, ws_ct, ws_if, ws_aug, ws_augI, ws_for, wv_cp, wv_mk, wv_share, wv_move, wv_1, wv_2, wv_A, wa_nil, wa_cons, wa_io, wv_tup, wv_lst, wv_call, wv_if, wv_sl, wv_ixN, wv_mt, wv_mut, wv_and, wv_or, wv_not, wv_lc, wi_arg, wb_q, wb_t, wb_v, wb_and, wb_or, wb_not, wb_yes, wq_var, wq_c, wq_2, wq_1, wq_A, wq_lNil, wq_lCons, wq_sl, wo_none, wo_some, wg_item, wg_set, wg_tup, wg_cons, wg_nil, wR_rb, wR_rp, wO_some, wO_none, wO_bind, wO_map, wO_iteN, look_zero, look_succ, Ed.turn, kIx_lst, kIx_tup, kIx_T, atI_0, atI_1, atI_2, atI_3, atI_4, atI_5, atI_6, atI_cast, ixN_0, ixN_1, ixN_2, ixN_3, asI_int, asB_bl, asS_str, oI_int, cT_true, kAdd_int, kAdd_T, kAdd_lst, kAdd_tup, kInt_int, kInt_bl, kMin_int, kMax_int, kLen_lst, kLen_tup, kLen_T, nOw_at, nOw_tup, nOw_lstF, nOw_own, nOws_nil, nOws_cons, nOws_append, nOws_ints, kEq_int, kNe_int, kEq_T, kNe_T, kEq_bl, kIsN_at, kNotN_at, kIsN_nd, kNotN_nd, kList_lst, kList_tup, kTuple_lst, kAppend_one, kSl_lst, kSl_T, kSl_tup, kRng1_int, kRng2_int, isL_own, frz_at, fok_at, frz_lst, fok_lst, frz_tup, fok_tup, kItL_lst, kItT_tup, kItS_T, kZip_lst, kEnum_lst, hole_none, hole_succ, putB_nil, putB_cons, finD_nil, finD_cons, lowE_nil, lowE_cons, lowS_some, lowS_none, wipeE_nil, wipeE_cons, backE_nil, backE_cons, kMod_int, kGe_int, kIn_T, List.map_cons, List.map_nil, List.length_cons, List.length_nil, List.length_map, List.length_set, List.cons_append, List.nil_append, Nat.reduceAdd, Nat.reduceSub, Nat.reduceLT, Nat.reduceLeDiff, Nat.zero_add, List.replicate_succ, List.replicate_zero, List.set_cons_zero, List.set_cons_succ, List.getElem?_cons_zero, List.getElem?_cons_succ, List.getElem?_nil, true_and, and_true, and_self, if_true, if_false, Bool.false_eq_true, reduceIte, List.mem_cons, List.not_mem_nil, or_false, false_or, reduceCtorEq, Nat.reduceEqDiff, or_self, or_true, true_or, Option.map_some, Option.getD_some, Option.isSome_some, Bool.not_true, Bool.not_false, Bool.and_true, Bool.true_and, Bool.and_eq_true, decide_eq_true_eq, Nat.zero_lt_succ, Nat.lt_add_one, Nat.succ_ne_self, Nat.add_one_ne_zero, not_true_eq_false, not_false_eq_true, wv_frz, shift_nil, shift_cons, Option.bind_some, wv_mutF, wv_mutV, wv_meth, wv_make, wv_callW, ws_setF, wg_un, kFld_obj, setO_obj, mutO_obj, hasL_obj, isO_obj, asL_own, bare_at, frzs_nil, frzs_cons, foks_nil, foks_cons]
  refine ⟨by decide, wD_mono (recs_ok (d := []) (by decide) b0 r0 stuck_end) ?_ fun _ _ h => h.elim⟩
  rintro d as rfl
  simp only [ws_asg, ws_ret, ws_retN, ws_drop, ws_pass, ws_bk, ws_ct, ws_if, ws_aug, ws_augI, ws_for, wv_cp, wv_mk, wv_share, wv_move, wv_1, wv_2, wv_A, wa_nil, wa_cons, wa_io, wv_tup, wv_lst, wv_call, wv_if, wv_sl, wv_ixN, wv_mt, wv_mut, wv_and, wv_or, wv_not, wv_lc, wi_arg, wb_q, wb_t, wb_v, wb_and, wb_or, wb_not, wb_yes, wq_var, wq_c, wq_2, wq_1, wq_A, wq_lNil, wq_lCons, wq_sl, wo_none, wo_some, wg_item, wg_set, wg_tup, wg_cons, wg_nil, wR_rb, wR_rp, wO_some, wO_none, wO_bind, wO_map, wO_iteN, look_zero, look_succ, Ed.turn, kIx_lst, kIx_tup, kIx_T, atI_0, atI_1, atI_2, atI_3, atI_4, atI_5, atI_6, atI_cast, ixN_0, ixN_1, ixN_2, ixN_3, asI_int, asB_bl, asS_str, oI_int, cT_true, kAdd_int, kAdd_T, kAdd_lst, kAdd_tup, kInt_int, kInt_bl, kMin_int, kMax_int, kLen_lst, kLen_tup, kLen_T, nOw_at, nOw_tup, nOw_lstF, nOw_own, nOws_nil, nOws_cons, nOws_append, nOws_ints, kEq_int, kNe_int, kEq_T, kNe_T, kEq_bl, kIsN_at, kNotN_at, kIsN_nd, kNotN_nd, kList_lst, kList_tup, kTuple_lst, kAppend_one, kSl_lst, kSl_T, kSl_tup, kRng1_int, kRng2_int, isL_own, frz_at, fok_at, frz_lst, fok_lst, frz_tup, fok_tup, kItL_lst, kItT_tup, kItS_T, kZip_lst, kEnum_lst, hole_none, hole_succ, putB_nil, putB_cons, finD_nil, finD_cons, lowE_nil, lowE_cons, lowS_some, lowS_none, wipeE_nil, wipeE_cons, backE_nil, backE_cons, kMod_int, kGe_int, kIn_T, List.map_cons, List.map_nil, List.length_cons, List.length_nil, List.length_map, List.length_set, List.cons_append, List.nil_append, Nat.reduceAdd, Nat.reduceSub, Nat.reduceLT, Nat.reduceLeDiff, Nat.zero_add, List.replicate_succ, List.replicate_zero, List.set_cons_zero, List.set_cons_succ, List.getElem?_cons_zero, List.getElem?_cons_succ, List.getElem?_nil, true_and, and_true, and_self, if_true, if_false, Bool.false_eq_true, reduceIte, List.mem_cons, List.not_mem_nil, or_false, false_or, reduceCtorEq, Nat.reduceEqDiff, or_self, or_true, true_or, Option.map_some, Option.getD_some, Option.isSome_some, Bool.not_true, Bool.not_false, Bool.and_true, Bool.true_and, Bool.and_eq_true, decide_eq_true_eq, Nat.zero_lt_succ, Nat.lt_add_one, Nat.succ_ne_self, Nat.add_one_ne_zero, not_true_eq_false, not_false_eq_true, wv_frz, shift_nil, shift_cons, Option.bind_some, wv_mutF, wv_mutV, wv_meth, wv_make, wv_callW, ws_setF, wg_un, kFld_obj, setO_obj, mutO_obj, hasL_obj, isO_obj, asL_own, bare_at, frzs_nil, frzs_cons, foks_nil, foks_cons]
  refine ⟨by decide, by decide, wD_mono (same5 (n := 4) (by decide) (plR (rs := []) (e := 0) (fun _ h => nomatch h) (by decide))) ?_ fun _ _ h => h.elim⟩
  rintro d as rfl
  simp only [ws_asg, ws_ret, ws_retN, ws_drop, ws_pass, ws_bk, ws_ct, ws_if, ws_aug, ws_augI, ws_for, wv_cp, wv_mk, wv_share, wv_move, wv_1, wv_2, wv_A, wa_nil, wa_cons, wa_io, wv_tup, wv_lst, wv_call, wv_if, wv_sl, wv_ixN, wv_mt, wv_mut, wv_and, wv_or, wv_not, wv_lc, wi_arg, wb_q, wb_t, wb_v, wb_and, wb_or, wb_not, wb_yes, wq_var, wq_c, wq_2, wq_1, wq_A, wq_lNil, wq_lCons, wq_sl, wo_none, wo_some, wg_item, wg_set, wg_tup, wg_cons, wg_nil, wR_rb, wR_rp, wO_some, wO_none, wO_bind, wO_map, wO_iteN, look_zero, look_succ, Ed.turn, kIx_lst, kIx_tup, kIx_T, atI_0, atI_1, atI_2, atI_3, atI_4, atI_5, atI_6, atI_cast, ixN_0, ixN_1, ixN_2, ixN_3, asI_int, asB_bl, asS_str, oI_int, cT_true, kAdd_int, kAdd_T, kAdd_lst, kAdd_tup, kInt_int, kInt_bl, kMin_int, kMax_int, kLen_lst, kLen_tup, kLen_T, nOw_at, nOw_tup, nOw_lstF, nOw_own, nOws_nil, nOws_cons, nOws_append, nOws_ints, kEq_int, kNe_int, kEq_T, kNe_T, kEq_bl, kIsN_at, kNotN_at, kIsN_nd, kNotN_nd, kList_lst, kList_tup, kTuple_lst, kAppend_one, kSl_lst, kSl_T, kSl_tup, kRng1_int, kRng2_int, isL_own, frz_at, fok_at, frz_lst, fok_lst, frz_tup, fok_tup, kItL_lst, kItT_tup, kItS_T, kZip_lst, kEnum_lst, hole_none, hole_succ, putB_nil, putB_cons, finD_nil, finD_cons, lowE_nil, lowE_cons, lowS_some, lowS_none, wipeE_nil, wipeE_cons, backE_nil, backE_cons, kMod_int, kGe_int, kIn_T, List.map_cons, List.map_nil, List.length_cons, List.length_nil, List.length_map, List.length_set, List.cons_append, List.nil_append, Nat.reduceAdd, Nat.reduceSub, Nat.reduceLT, Nat.reduceLeDiff, Nat.zero_add, List.replicate_succ, List.replicate_zero, List.set_cons_zero, List.set_cons_succ, List.getElem?_cons_zero, List.getElem?_cons_succ, List.getElem?_nil, true_and, and_true, and_self, if_true, if_false, Bool.false_eq_true, reduceIte, List.mem_cons, List.not_mem_nil, or_false, false_or, reduceCtorEq, Nat.reduceEqDiff, or_self, or_true, true_or, Option.map_some, Option.getD_some, Option.isSome_some, Bool.not_true, Bool.not_false, Bool.and_true, Bool.true_and, Bool.and_eq_true, decide_eq_true_eq, Nat.zero_lt_succ, Nat.lt_add_one, Nat.succ_ne_self, Nat.add_one_ne_zero, not_true_eq_false, not_false_eq_true, wv_frz, shift_nil, shift_cons, Option.bind_some, wv_mutF, wv_mutV, wv_meth, wv_make, wv_callW, ws_setF, wg_un, kFld_obj, setO_obj, mutO_obj, hasL_obj, isO_obj, asL_own, bare_at, frzs_nil, frzs_cons, foks_nil, foks_cons]
  refine ⟨by decide, wD_mono (write_record_ok (l := []) (by decide) b0) ?_ fun _ _ h => h.elim⟩
  rintro d as rfl
  have e5 : rcd [] = [0, 0, 0, 0, 7] := by unfold rcd; rw [wn_small (by decide)]; rfl
  rw [e5]
  simp only [ws_asg, ws_ret, ws_retN, ws_drop, ws_pass, ws_bk, ws_ct, ws_if, ws_aug, ws_augI, ws_for, wv_cp, wv_mk, wv_share, wv_move, wv_1, wv_2, wv_A, wa_nil, wa_cons, wa_io, wv_tup, wv_lst, wv_call, wv_if, wv_sl, wv_ixN, wv_mt, wv_mut, wv_and, wv_or, wv_not, wv_lc, wi_arg, wb_q, wb_t, wb_v, wb_and, wb_or, wb_not, wb_yes, wq_var, wq_c, wq_2, wq_1, wq_A, wq_lNil, wq_lCons, wq_sl, wo_none, wo_some, wg_item, wg_set, wg_tup, wg_cons, wg_nil, wR_rb, wR_rp, wO_some, wO_none, wO_bind, wO_map, wO_iteN, look_zero, look_succ, Ed.turn, kIx_lst, kIx_tup, kIx_T, atI_0, atI_1, atI_2, atI_3, atI_4, atI_5, atI_6, atI_cast, ixN_0, ixN_1, ixN_2, ixN_3, asI_int, asB_bl, asS_str, oI_int, cT_true, kAdd_int, kAdd_T, kAdd_lst, kAdd_tup, kInt_int, kInt_bl, kMin_int, kMax_int, kLen_lst, kLen_tup, kLen_T, nOw_at, nOw_tup, nOw_lstF, nOw_own, nOws_nil, nOws_cons, nOws_append, nOws_ints, kEq_int, kNe_int, kEq_T, kNe_T, kEq_bl, kIsN_at, kNotN_at, kIsN_nd, kNotN_nd, kList_lst, kList_tup, kTuple_lst, kAppend_one, kSl_lst, kSl_T, kSl_tup, kRng1_int, kRng2_int, isL_own, frz_at, fok_at, frz_lst, fok_lst, frz_tup, fok_tup, kItL_lst, kItT_tup, kItS_T, kZip_lst, kEnum_lst, hole_none, hole_succ, putB_nil, putB_cons, finD_nil, finD_cons, lowE_nil, lowE_cons, lowS_some, lowS_none, wipeE_nil, wipeE_cons, backE_nil, backE_cons, kMod_int, kGe_int, kIn_T, List.map_cons, List.map_nil, List.length_cons, List.length_nil, List.length_map, List.length_set, List.cons_append, List.nil_append, Nat.reduceAdd, Nat.reduceSub, Nat.reduceLT, Nat.reduceLeDiff, Nat.zero_add, List.replicate_succ, List.replicate_zero, List.set_cons_zero, List.set_cons_succ, List.getElem?_cons_zero, List.getElem?_cons_succ, List.getElem?_nil, true_and, and_true, and_self, if_true, if_false, Bool.false_eq_true, reduceIte, List.mem_cons, List.not_mem_nil, or_false, false_or, reduceCtorEq, Nat.reduceEqDiff, or_self, or_true, true_or, Option.map_some, Option.getD_some, Option.isSome_some, Bool.not_true, Bool.not_false, Bool.and_true, Bool.true_and, Bool.and_eq_true, decide_eq_true_eq, Nat.zero_lt_succ, Nat.lt_add_one, Nat.succ_ne_self, Nat.add_one_ne_zero, not_true_eq_false, not_false_eq_true, wv_frz, shift_nil, shift_cons, Option.bind_some, wv_mutF, wv_mutV, wv_meth, wv_make, wv_callW, ws_setF, wg_un, kFld_obj, setO_obj, mutO_obj, hasL_obj, isO_obj, asL_own, bare_at, frzs_nil, frzs_cons, foks_nil, foks_cons]
  refine ⟨by decide, wD_mono (same5 (n := 2) (by decide) (plI (l := [0, 0, 0, 0, 7]) (by decide))) ?_ fun _ _ h => h.elim⟩
  rintro d as rfl
  simp only [ws_asg, ws_ret, ws_retN, ws_drop, ws_pass, ws_bk, ws_ct, ws_if, ws_aug, ws_augI, ws_for, wv_cp, wv_mk, wv_share, wv_move, wv_1, wv_2, wv_A, wa_nil, wa_cons, wa_io, wv_tup, wv_lst, wv_call, wv_if, wv_sl, wv_ixN, wv_mt, wv_mut, wv_and, wv_or, wv_not, wv_lc, wi_arg, wb_q, wb_t, wb_v, wb_and, wb_or, wb_not, wb_yes, wq_var, wq_c, wq_2, wq_1, wq_A, wq_lNil, wq_lCons, wq_sl, wo_none, wo_some, wg_item, wg_set, wg_tup, wg_cons, wg_nil, wR_rb, wR_rp, wO_some, wO_none, wO_bind, wO_map, wO_iteN, look_zero, look_succ, Ed.turn, kIx_lst, kIx_tup, kIx_T, atI_0, atI_1, atI_2, atI_3, atI_4, atI_5, atI_6, atI_cast, ixN_0, ixN_1, ixN_2, ixN_3, asI_int, asB_bl, asS_str, oI_int, cT_true, kAdd_int, kAdd_T, kAdd_lst, kAdd_tup, kInt_int, kInt_bl, kMin_int, kMax_int, kLen_lst, kLen_tup, kLen_T, nOw_at, nOw_tup, nOw_lstF, nOw_own, nOws_nil, nOws_cons, nOws_append, nOws_ints, kEq_int, kNe_int, kEq_T, kNe_T, kEq_bl, kIsN_at, kNotN_at, kIsN_nd, kNotN_nd, kList_lst, kList_tup, kTuple_lst, kAppend_one, kSl_lst, kSl_T, kSl_tup, kRng1_int, kRng2_int, isL_own, frz_at, fok_at, frz_lst, fok_lst, frz_tup, fok_tup, kItL_lst, kItT_tup, kItS_T, kZip_lst, kEnum_lst, hole_none, hole_succ, putB_nil, putB_cons, finD_nil, finD_cons, lowE_nil, lowE_cons, lowS_some, lowS_none, wipeE_nil, wipeE_cons, backE_nil, backE_cons, kMod_int, kGe_int, kIn_T, List.map_cons, List.map_nil, List.length_cons, List.length_nil, List.length_map, List.length_set, List.cons_append, List.nil_append, Nat.reduceAdd, Nat.reduceSub, Nat.reduceLT, Nat.reduceLeDiff, Nat.zero_add, List.replicate_succ, List.replicate_zero, List.set_cons_zero, List.set_cons_succ, List.getElem?_cons_zero, List.getElem?_cons_succ, List.getElem?_nil, true_and, and_true, and_self, if_true, if_false, Bool.false_eq_true, reduceIte, List.mem_cons, List.not_mem_nil, or_false, false_or, reduceCtorEq, Nat.reduceEqDiff, or_self, or_true, true_or, Option.map_some, Option.getD_some, Option.isSome_some, Bool.not_true, Bool.not_false, Bool.and_true, Bool.true_and, Bool.and_eq_true, decide_eq_true_eq, Nat.zero_lt_succ, Nat.lt_add_one, Nat.succ_ne_self, Nat.add_one_ne_zero, not_true_eq_false, not_false_eq_true, wv_frz, shift_nil, shift_cons, Option.bind_some, wv_mutF, wv_mutV, wv_meth, wv_make, wv_callW, ws_setF, wg_un, kFld_obj, setO_obj, mutO_obj, hasL_obj, isO_obj, asL_own, bare_at, frzs_nil, frzs_cons, foks_nil, foks_cons]
end K11

set_option maxRecDepth 100000
set_option maxHeartbeats 4000000
namespace K11
open PySem L2 DL PyProof.Rows
theorem all_mk {l : PySem.W.OpenLaw} {w : World} {K : PySem.W.Frag} {h : Heap} {mg : Str → Option Value} {fa : Addr} (X : K.In h) (G : h.Ns mainGlobals mg) (hfa : mg "law" = some (.ref fa))
    {f0 : Addr} {od0 an0 : Option Addr} {sl0 : Array (Option Value)} {oc0 kV0 dc0 pm0 cd0 ct0 : Value}
    {f1 : Addr} {od1 an1 : Option Addr} {sl1 : Array (Option Value)} {oc1 kV1 dc1 pm1 cd1 ct1 : Value}
    {f2 : Addr} {od2 an2 : Option Addr} {sl2 : Array (Option Value)} {oc2 kV2 dc2 pm2 cd2 ct2 : Value}
    {f3 : Addr} {od3 an3 : Option Addr} {sl3 : Array (Option Value)} {oc3 kV3 dc3 pm3 cd3 ct3 : Value}
    {f4 : Addr} {od4 an4 : Option Addr} {sl4 : Array (Option Value)} {oc4 kV4 dc4 pm4 cd4 ct4 : Value}
    {f5 : Addr} {od5 an5 : Option Addr} {sl5 : Array (Option Value)} {oc5 kV5 dc5 pm5 cd5 ct5 : Value}
    {f6 : Addr} {od6 an6 : Option Addr} {sl6 : Array (Option Value)} {oc6 kV6 dc6 pm6 cd6 ct6 : Value}
    {f7 : Addr} {od7 an7 : Option Addr} {sl7 : Array (Option Value)} {oc7 kV7 dc7 pm7 cd7 ct7 : Value}
    {f8 : Addr} {od8 an8 : Option Addr} {sl8 : Array (Option Value)} {oc8 kV8 dc8 pm8 cd8 ct8 : Value}
    {f9 : Addr} {od9 an9 : Option Addr} {sl9 : Array (Option Value)} {oc9 kV9 dc9 pm9 cd9 ct9 : Value}
    {f10 : Addr} {od10 an10 : Option Addr} {sl10 : Array (Option Value)} {oc10 kV10 dc10 pm10 cd10 ct10 : Value}
    {f11 : Addr} {od11 an11 : Option Addr} {sl11 : Array (Option Value)} {oc11 kV11 dc11 pm11 cd11 ct11 : Value}
    {f12 : Addr} {od12 an12 : Option Addr} {sl12 : Array (Option Value)} {oc12 kV12 dc12 pm12 cd12 ct12 : Value}
    {f13 : Addr} {od13 an13 : Option Addr} {sl13 : Array (Option Value)} {oc13 kV13 dc13 pm13 cd13 ct13 : Value}
    {f14 : Addr} {od14 an14 : Option Addr} {sl14 : Array (Option Value)} {oc14 kV14 dc14 pm14 cd14 ct14 : Value}
    {f15 : Addr} {od15 an15 : Option Addr} {sl15 : Array (Option Value)} {oc15 kV15 dc15 pm15 cd15 ct15 : Value}
    {f16 : Addr} {od16 an16 : Option Addr} {sl16 : Array (Option Value)} {oc16 kV16 dc16 pm16 cd16 ct16 : Value}
    {f17 : Addr} {od17 an17 : Option Addr} {sl17 : Array (Option Value)} {oc17 kV17 dc17 pm17 cd17 ct17 : Value}
    {f18 : Addr} {od18 an18 : Option Addr} {sl18 : Array (Option Value)} {oc18 kV18 dc18 pm18 cd18 ct18 : Value}
    {f19 : Addr} {od19 an19 : Option Addr} {sl19 : Array (Option Value)} {oc19 kV19 dc19 pm19 cd19 ct19 : Value}
    {C_Reader : Addr}
    {C_DamagedPacket : Addr}
    (a0 : PySem.W.findIn K (.ref C_Reader) "__init__" = some (some (.ref f0))) (i0 : PySem.W.isFn K (.ref f0) = true) (l0 : K.lookup f0 = some ⟨oc0, od0, .func (PySem.W.fnOf "__init__" "Reader.__init__" (defArgs s_Reader_init) (defBody s_Reader_init) (defScope s_Reader_init) .none kV0 dc0 pm0 an0 cd0 ct0), sl0⟩) (c0 : PySem.W.codeIn K cd0 "Reader.__init__" = true) (k0 : PySem.W.keepIn K (.ref f0) = true)
    (a1 : PySem.W.findIn K (.ref C_Reader) "read_byte" = some (some (.ref f1))) (i1 : PySem.W.isFn K (.ref f1) = true) (l1 : K.lookup f1 = some ⟨oc1, od1, .func (PySem.W.fnOf "read_byte" "Reader.read_byte" (defArgs s_Reader_read_byte) (defBody s_Reader_read_byte) (defScope s_Reader_read_byte) .none kV1 dc1 pm1 an1 cd1 ct1), sl1⟩) (c1 : PySem.W.codeIn K cd1 "Reader.read_byte" = true) (k1 : PySem.W.keepIn K (.ref f1) = true)
    (a2 : PySem.W.findIn K (.ref C_Reader) "read_number" = some (some (.ref f2))) (i2 : PySem.W.isFn K (.ref f2) = true) (l2 : K.lookup f2 = some ⟨oc2, od2, .func (PySem.W.fnOf "read_number" "Reader.read_number" (defArgs s_Reader_read_number) (defBody s_Reader_read_number) (defScope s_Reader_read_number) .none kV2 dc2 pm2 an2 cd2 ct2), sl2⟩) (c2 : PySem.W.codeIn K cd2 "Reader.read_number" = true) (k2 : PySem.W.keepIn K (.ref f2) = true)
    (a3 : PySem.W.nsIn K mainGlobals "write_number" = some (some (.ref f3))) (l3 : K.lookup f3 = some ⟨oc3, od3, .func (PySem.W.fnOf "write_number" "write_number" (defArgs s_write_number) (defBody s_write_number) (defScope s_write_number) .none kV3 dc3 pm3 an3 cd3 ct3), sl3⟩) (c3 : PySem.W.codeIn K cd3 "write_number" = true) (k3 : PySem.W.keepIn K (.ref f3) = true)
    (a4 : PySem.W.nsIn K mainGlobals "checksum" = some (some (.ref f4))) (l4 : K.lookup f4 = some ⟨oc4, od4, .func (PySem.W.fnOf "checksum" "checksum" (defArgs s_checksum) (defBody s_checksum) (defScope s_checksum) .none kV4 dc4 pm4 an4 cd4 ct4), sl4⟩) (c4 : PySem.W.codeIn K cd4 "checksum" = true) (k4 : PySem.W.keepIn K (.ref f4) = true)
    (a5 : PySem.W.nsIn K mainGlobals "write_record" = some (some (.ref f5))) (l5 : K.lookup f5 = some ⟨oc5, od5, .func (PySem.W.fnOf "write_record" "write_record" (defArgs s_write_record) (defBody s_write_record) (defScope s_write_record) .none kV5 dc5 pm5 an5 cd5 ct5), sl5⟩) (c5 : PySem.W.codeIn K cd5 "write_record" = true) (k5 : PySem.W.keepIn K (.ref f5) = true)
    (a6 : PySem.W.nsIn K mainGlobals "_read_size" = some (some (.ref f6))) (l6 : K.lookup f6 = some ⟨oc6, od6, .func (PySem.W.fnOf "_read_size" "_read_size" (defArgs s_read_size) (defBody s_read_size) (defScope s_read_size) .none kV6 dc6 pm6 an6 cd6 ct6), sl6⟩) (c6 : PySem.W.codeIn K cd6 "_read_size" = true) (k6 : PySem.W.keepIn K (.ref f6) = true)
    (a7 : PySem.W.nsIn K mainGlobals "read_records" = some (some (.ref f7))) (l7 : K.lookup f7 = some ⟨oc7, od7, .func (PySem.W.fnOf "read_records" "read_records" (defArgs s_read_records) (defBody s_read_records) (defScope s_read_records) .none kV7 dc7 pm7 an7 cd7 ct7), sl7⟩) (c7 : PySem.W.codeIn K cd7 "read_records" = true) (k7 : PySem.W.keepIn K (.ref f7) = true)
    (a8 : PySem.W.nsIn K mainGlobals "_law_mix" = some (some (.ref f8))) (l8 : K.lookup f8 = some ⟨oc8, od8, .func (PySem.W.fnOf "_law_mix" "_law_mix" (defArgs s_law_mix) (defBody s_law_mix) (defScope s_law_mix) .none kV8 dc8 pm8 an8 cd8 ct8), sl8⟩) (c8 : PySem.W.codeIn K cd8 "_law_mix" = true) (k8 : PySem.W.keepIn K (.ref f8) = true)
    (a9 : PySem.W.nsIn K mainGlobals "_law_draws" = some (some (.ref f9))) (l9 : K.lookup f9 = some ⟨oc9, od9, .func (PySem.W.fnOf "_law_draws" "_law_draws" (defArgs s_law_draws) (defBody s_law_draws) (defScope s_law_draws) .none kV9 dc9 pm9 an9 cd9 ct9), sl9⟩) (c9 : PySem.W.codeIn K cd9 "_law_draws" = true) (k9 : PySem.W.keepIn K (.ref f9) = true)
    (a10 : PySem.W.nsIn K mainGlobals "_law_at" = some (some (.ref f10))) (l10 : K.lookup f10 = some ⟨oc10, od10, .func (PySem.W.fnOf "_law_at" "_law_at" (defArgs s_law_at) (defBody s_law_at) (defScope s_law_at) .none kV10 dc10 pm10 an10 cd10 ct10), sl10⟩) (c10 : PySem.W.codeIn K cd10 "_law_at" = true) (k10 : PySem.W.keepIn K (.ref f10) = true)
    (a11 : PySem.W.nsIn K mainGlobals "_law_is_integer" = some (some (.ref f11))) (l11 : K.lookup f11 = some ⟨oc11, od11, .func (PySem.W.fnOf "_law_is_integer" "_law_is_integer" (defArgs s_law_is_integer) (defBody s_law_is_integer) (defScope s_law_is_integer) .none kV11 dc11 pm11 an11 cd11 ct11), sl11⟩) (c11 : PySem.W.codeIn K cd11 "_law_is_integer" = true) (k11 : PySem.W.keepIn K (.ref f11) = true)
    (a12 : PySem.W.nsIn K mainGlobals "_law_same" = some (some (.ref f12))) (l12 : K.lookup f12 = some ⟨oc12, od12, .func (PySem.W.fnOf "_law_same" "_law_same" (defArgs s_law_same) (defBody s_law_same) (defScope s_law_same) .none kV12 dc12 pm12 an12 cd12 ct12), sl12⟩) (c12 : PySem.W.codeIn K cd12 "_law_same" = true) (k12 : PySem.W.keepIn K (.ref f12) = true)
    (a13 : PySem.W.nsIn K mainGlobals "_law_next" = some (some (.ref f13))) (l13 : K.lookup f13 = some ⟨oc13, od13, .func (PySem.W.fnOf "_law_next" "_law_next" (defArgs s_law_next) (defBody s_law_next) (defScope s_law_next) .none kV13 dc13 pm13 an13 cd13 ct13), sl13⟩) (c13 : PySem.W.codeIn K cd13 "_law_next" = true) (k13 : PySem.W.keepIn K (.ref f13) = true)
    (a14 : PySem.W.nsIn K mainGlobals "_law_number" = some (some (.ref f14))) (l14 : K.lookup f14 = some ⟨oc14, od14, .func (PySem.W.fnOf "_law_number" "_law_number" (defArgs s_law_number) (defBody s_law_number) (defScope s_law_number) .none kV14 dc14 pm14 an14 cd14 ct14), sl14⟩) (c14 : PySem.W.codeIn K cd14 "_law_number" = true) (k14 : PySem.W.keepIn K (.ref f14) = true)
    (a15 : PySem.W.nsIn K mainGlobals "_law_checksum" = some (some (.ref f15))) (l15 : K.lookup f15 = some ⟨oc15, od15, .func (PySem.W.fnOf "_law_checksum" "_law_checksum" (defArgs s_law_checksum) (defBody s_law_checksum) (defScope s_law_checksum) .none kV15 dc15 pm15 an15 cd15 ct15), sl15⟩) (c15 : PySem.W.codeIn K cd15 "_law_checksum" = true) (k15 : PySem.W.keepIn K (.ref f15) = true)
    (a16 : PySem.W.nsIn K mainGlobals "_law_record" = some (some (.ref f16))) (l16 : K.lookup f16 = some ⟨oc16, od16, .func (PySem.W.fnOf "_law_record" "_law_record" (defArgs s_law_record) (defBody s_law_record) (defScope s_law_record) .none kV16 dc16 pm16 an16 cd16 ct16), sl16⟩) (c16 : PySem.W.codeIn K cd16 "_law_record" = true) (k16 : PySem.W.keepIn K (.ref f16) = true)
    (a17 : PySem.W.nsIn K mainGlobals "_law_bytes" = some (some (.ref f17))) (l17 : K.lookup f17 = some ⟨oc17, od17, .func (PySem.W.fnOf "_law_bytes" "_law_bytes" (defArgs s_law_bytes) (defBody s_law_bytes) (defScope s_law_bytes) .none kV17 dc17 pm17 an17 cd17 ct17), sl17⟩) (c17 : PySem.W.codeIn K cd17 "_law_bytes" = true) (k17 : PySem.W.keepIn K (.ref f17) = true)
    (a18 : PySem.W.nsIn K mainGlobals "_law_behind" = some (some (.ref f18))) (l18 : K.lookup f18 = some ⟨oc18, od18, .func (PySem.W.fnOf "_law_behind" "_law_behind" (defArgs s_law_behind) (defBody s_law_behind) (defScope s_law_behind) .none kV18 dc18 pm18 an18 cd18 ct18), sl18⟩) (c18 : PySem.W.codeIn K cd18 "_law_behind" = true) (k18 : PySem.W.keepIn K (.ref f18) = true)
    (a19 : PySem.W.nsIn K mainGlobals "law" = some (some (.ref f19))) (l19 : K.lookup f19 = some ⟨oc19, od19, .func (PySem.W.fnOf "law" "law" (defArgs s_law) (defBody s_law) (defScope s_law) .none kV19 dc19 pm19 an19 cd19 ct19), sl19⟩) (c19 : PySem.W.codeIn K cd19 "law" = true) (k19 : PySem.W.keepIn K (.ref f19) = true)
    (q_Reader : PySem.W.nsIn K mainGlobals "Reader" = some (some (.ref C_Reader))) (pg_Reader : PySem.W.plainGet K C_Reader Str.empty = true) (hd_Reader : PySem.W.hasDictIn K C_Reader = true) (po_Reader : PySem.W.plainOver K C_Reader = true) (sa_Reader : PySem.W.findIn K (.ref C_Reader) "__setattr__" = some (some (.builtin "object.__setattr__"))) (mk_Reader : PySem.W.makesIn K C_Reader = true) (kc_Reader : PySem.W.keepIn K (.ref C_Reader) = true)
    (n0_Reader : PySem.W.findIn K (.ref C_Reader) "data" = some none) (n1_Reader : PySem.W.findIn K (.ref C_Reader) "at" = some none)
    (q_DamagedPacket : PySem.W.nsIn K mainGlobals "DamagedPacket" = some (some (.ref C_DamagedPacket))) (x_DamagedPacket : PySem.W.excIn K C_DamagedPacket [.type "ValueError", .type "Exception", .type "BaseException", .type "object"] "ValueError.__new__" = true) (kc_DamagedPacket : PySem.W.keepIn K (.ref C_DamagedPacket) = true) (sb_DamagedPacket : PySem.W.subIn K (.ref C_DamagedPacket) (.type "BaseException") = some true) (ty_DamagedPacket : PySem.W.typeIn K (.ref C_DamagedPacket) = some (.type "type")) (hd_DamagedPacket : PySem.W.hasDictIn K C_DamagedPacket = true) (ss_DamagedPacket : PySem.W.subIn K (.ref C_DamagedPacket) (.ref C_DamagedPacket) = some true)
    (z0 : PySem.W.nsIn K mainGlobals "list" = some none) (z1 : PySem.W.nsIn K mainGlobals "len" = some none) (z2 : PySem.W.nsIn K mainGlobals "range" = some none) (z3 : PySem.W.nsIn K mainGlobals "int" = some none) (z4 : PySem.W.nsIn K mainGlobals "min" = some none) (z5 : PySem.W.nsIn K mainGlobals "isinstance" = some none) (z6 : PySem.W.nsIn K mainGlobals "bool" = some none) (z7 : PySem.W.nsIn K mainGlobals "tuple" = some none) (z8 : PySem.W.nsIn K mainGlobals "str" = some none) {tk0 : _} (y0 : PySem.W.nsIn K mainGlobals "NUMBER_BYTES" = some (some (.int 60 tk0))) {tk1 : _} (y1 : PySem.W.nsIn K mainGlobals "CHECKSUM_LIMIT" = some (some (.int 4294967296 tk1))) :
    ∃ fd : FuncData, (∀ (s : Shared) (v : Value), BindsTo s fd ⟨[v], []⟩ [("script", v)]) ∧ ∀ base : Heap, K.In base → base.Ns mainGlobals mg → FnOk l.prog w K mg base (L2.CX l.prog w) 7 fa fd ["script"] (fun vs H Q E => ∀ cl, spD K cl 1 F_law vs H Q E) := by
  have e := hfa.symm.trans (PySem.W.mg_of X G a19)
  cases e
  have B : Blt mg := ⟨PySem.W.mg_none_of X G z0, PySem.W.mg_none_of X G z1, PySem.W.mg_none_of X G z2, PySem.W.mg_none_of X G z3, PySem.W.mg_none_of X G z4, PySem.W.mg_none_of X G z5, PySem.W.mg_none_of X G z6, PySem.W.mg_none_of X G z7, PySem.W.mg_none_of X G z8, ⟨_, PySem.W.mg_of X G y0, ⟨_, rfl⟩⟩, ⟨_, PySem.W.mg_of X G y1, ⟨_, rfl⟩⟩⟩
  refine ⟨PySem.W.fnOf "law" "law" (defArgs s_law) (defBody s_law) (defScope s_law) .none kV19 dc19 pm19 an19 cd19 ct19, fun s v => .of_eq rfl, fun base _ _ => ?_⟩
  have kl_Reader : Kls K (fun c : Str => if c = "Reader" then some C_Reader else if c = "DamagedPacket" then some C_DamagedPacket else none) "Reader" C_Reader ["data", "at"] := ⟨by first | rfl | decide +kernel | simp, ⟨pg_Reader, hd_Reader, po_Reader, sa_Reader⟩, fun f hf => by
    simp only [List.mem_cons, List.not_mem_nil, or_false] at hf
    rcases hf with rfl | rfl
    · exact n0_Reader
    · exact n1_Reader⟩
  have xc_DamagedPacket : Xc K mg (fun c : Str => if c = "Reader" then some C_Reader else if c = "DamagedPacket" then some C_DamagedPacket else none) "DamagedPacket" C_DamagedPacket := ⟨by first | rfl | decide +kernel | simp, PySem.W.mg_of X G q_DamagedPacket, x_DamagedPacket, kc_DamagedPacket, sb_DamagedPacket, ty_DamagedPacket⟩
  have gx_DamagedPacket := PySem.W.mg_of X G q_DamagedPacket
  have em_DamagedPacket : ∀ n b C, mt_DamagedPacket n = some b → (fun c : Str => if c = "Reader" then some C_Reader else if c = "DamagedPacket" then some C_DamagedPacket else none) n = some C → PySem.W.exmOne K (.ref C) (.ref C_DamagedPacket) = some b := fun n b C h1 h2 => by
    unfold mt_DamagedPacket at h1
    split at h1
    · rename_i hn
      cases h1
      subst hn
      cases (h2.symm.trans xc_DamagedPacket.at_)
      exact PySem.W.exm_ref sb_DamagedPacket hd_DamagedPacket ty_DamagedPacket ss_DamagedPacket
    · cases h1
  have F0 := fun_mk (st := s_Reader_init) l0 c0 k0
  have C0 := ok_Reader_init (P := l.prog) (w0 := w) (base := base) (cl := (fun c : Str => if c = "Reader" then some C_Reader else if c = "DamagedPacket" then some C_DamagedPacket else none)) F0 (PySem.W.mg_of X G q_Reader) ⟨mk_Reader, a0, i0, kc_Reader⟩ B kl_Reader
  have F1 := fun_mk (st := s_Reader_read_byte) l1 c1 k1
  have C1 := ok_Reader_read_byte (P := l.prog) (w0 := w) (base := base) (cl := (fun c : Str => if c = "Reader" then some C_Reader else if c = "DamagedPacket" then some C_DamagedPacket else none)) F1 ⟨a1, i1, k1⟩ B kl_Reader xc_DamagedPacket
  have F2 := fun_mk (st := s_Reader_read_number) l2 c2 k2
  have C2 := ok_Reader_read_number (P := l.prog) (w0 := w) (base := base) (cl := (fun c : Str => if c = "Reader" then some C_Reader else if c = "DamagedPacket" then some C_DamagedPacket else none)) F2 ⟨a2, i2, k2⟩ B kl_Reader xc_DamagedPacket C1
  have F3 := fun_mk (st := s_write_number) l3 c3 k3
  have C3 := ok_write_number (P := l.prog) (w0 := w) (base := base) (cl := (fun c : Str => if c = "Reader" then some C_Reader else if c = "DamagedPacket" then some C_DamagedPacket else none)) F3 (PySem.W.mg_of X G a3) B 
  have F4 := fun_mk (st := s_checksum) l4 c4 k4
  have C4 := ok_checksum (P := l.prog) (w0 := w) (base := base) (cl := (fun c : Str => if c = "Reader" then some C_Reader else if c = "DamagedPacket" then some C_DamagedPacket else none)) F4 (PySem.W.mg_of X G a4) B 
  have F5 := fun_mk (st := s_write_record) l5 c5 k5
  have C5 := ok_write_record (P := l.prog) (w0 := w) (base := base) (cl := (fun c : Str => if c = "Reader" then some C_Reader else if c = "DamagedPacket" then some C_DamagedPacket else none)) F5 (PySem.W.mg_of X G a5) B C4 C3
  have F6 := fun_mk (st := s_read_size) l6 c6 k6
  have C6 := ok_read_size (P := l.prog) (w0 := w) (base := base) (cl := (fun c : Str => if c = "Reader" then some C_Reader else if c = "DamagedPacket" then some C_DamagedPacket else none)) F6 (PySem.W.mg_of X G a6) B kl_Reader gx_DamagedPacket em_DamagedPacket C0 C2
  have F7 := fun_mk (st := s_read_records) l7 c7 k7
  have C7 := ok_read_records (P := l.prog) (w0 := w) (base := base) (cl := (fun c : Str => if c = "Reader" then some C_Reader else if c = "DamagedPacket" then some C_DamagedPacket else none)) F7 (PySem.W.mg_of X G a7) B C6 C5
  have F8 := fun_mk (st := s_law_mix) l8 c8 k8
  have C8 := ok_law_mix (P := l.prog) (w0 := w) (base := base) (cl := (fun c : Str => if c = "Reader" then some C_Reader else if c = "DamagedPacket" then some C_DamagedPacket else none)) F8 (PySem.W.mg_of X G a8) B 
  have F9 := fun_mk (st := s_law_draws) l9 c9 k9
  have C9 := ok_law_draws (P := l.prog) (w0 := w) (base := base) (cl := (fun c : Str => if c = "Reader" then some C_Reader else if c = "DamagedPacket" then some C_DamagedPacket else none)) F9 (PySem.W.mg_of X G a9) B C8
  have F10 := fun_mk (st := s_law_at) l10 c10 k10
  have C10 := ok_law_at (P := l.prog) (w0 := w) (base := base) (cl := (fun c : Str => if c = "Reader" then some C_Reader else if c = "DamagedPacket" then some C_DamagedPacket else none)) F10 (PySem.W.mg_of X G a10) B C8
  have F11 := fun_mk (st := s_law_is_integer) l11 c11 k11
  have C11 := ok_law_is_integer (P := l.prog) (w0 := w) (base := base) (cl := (fun c : Str => if c = "Reader" then some C_Reader else if c = "DamagedPacket" then some C_DamagedPacket else none)) F11 (PySem.W.mg_of X G a11) B 
  have F12 := fun_mk (st := s_law_same) l12 c12 k12
  have C12 := ok_law_same (P := l.prog) (w0 := w) (base := base) (cl := (fun c : Str => if c = "Reader" then some C_Reader else if c = "DamagedPacket" then some C_DamagedPacket else none)) F12 (PySem.W.mg_of X G a12) B C11
  have F13 := fun_mk (st := s_law_next) l13 c13 k13
  have C13 := ok_law_next (P := l.prog) (w0 := w) (base := base) (cl := (fun c : Str => if c = "Reader" then some C_Reader else if c = "DamagedPacket" then some C_DamagedPacket else none)) F13 (PySem.W.mg_of X G a13) B C10
  have F14 := fun_mk (st := s_law_number) l14 c14 k14
  have C14 := ok_law_number (P := l.prog) (w0 := w) (base := base) (cl := (fun c : Str => if c = "Reader" then some C_Reader else if c = "DamagedPacket" then some C_DamagedPacket else none)) F14 (PySem.W.mg_of X G a14) B 
  have F15 := fun_mk (st := s_law_checksum) l15 c15 k15
  have C15 := ok_law_checksum (P := l.prog) (w0 := w) (base := base) (cl := (fun c : Str => if c = "Reader" then some C_Reader else if c = "DamagedPacket" then some C_DamagedPacket else none)) F15 (PySem.W.mg_of X G a15) B 
  have F16 := fun_mk (st := s_law_record) l16 c16 k16
  have C16 := ok_law_record (P := l.prog) (w0 := w) (base := base) (cl := (fun c : Str => if c = "Reader" then some C_Reader else if c = "DamagedPacket" then some C_DamagedPacket else none)) F16 (PySem.W.mg_of X G a16) B C15 C14
  have F17 := fun_mk (st := s_law_bytes) l17 c17 k17
  have C17 := ok_law_bytes (P := l.prog) (w0 := w) (base := base) (cl := (fun c : Str => if c = "Reader" then some C_Reader else if c = "DamagedPacket" then some C_DamagedPacket else none)) F17 (PySem.W.mg_of X G a17) B C13
  have F18 := fun_mk (st := s_law_behind) l18 c18 k18
  have C18 := ok_law_behind (P := l.prog) (w0 := w) (base := base) (cl := (fun c : Str => if c = "Reader" then some C_Reader else if c = "DamagedPacket" then some C_DamagedPacket else none)) F18 (PySem.W.mg_of X G a18) B C17 C16 C13 C14
  have F19 := fun_mk (st := s_law) l19 c19 k19
  exact (ok_law (cl := (fun c : Str => if c = "Reader" then some C_Reader else if c = "DamagedPacket" then some C_DamagedPacket else none)) F19 B C9 C13 C17 (C12 5) C15 C4 C16 C5 C18 C7).imp fun vs H Q E h => h _
theorem walk {l : PySem.W.OpenLaw} {q : Program} {loose : List Str} {XP : (Str → Option Value) → Heap → Prop} {YP : World → Heap → Prop} {d : DefRec} {K : Params → PySem.W.Frag} (hn : l.most = some 63) (hdf : d.params.defaults = [])
    (hY : ∀ (w : World) (h : Heap), YP w h → (K w.params).In h)
    (F : ∀ (w : World) (mg : Str → Option Value) (fa : Addr) (h : Heap), (K w.params).In h → h.Ns mainGlobals mg → mg d.name = some (.ref fa) →
      ∃ fd : FuncData, (∀ (s : Shared) (u : Value), BindsTo s fd ⟨[u], []⟩ [("script", u)]) ∧ ∀ base : Heap, (K w.params).In base → base.Ns mainGlobals mg → FnOk l.prog w (K w.params) mg base (L2.CX l.prog w) 7 fa fd ["script"] (fun vs H Q E => ∀ cl, spD (K w.params) cl 1 F_law vs H Q E)) :
    PySem.W.WalkO q loose XP YP l.row.toRowW d [] (fun f vs => PySem.call f vs) :=
  L2.walk_ofB (n := 63) (k := 7) (x := "script") (CX := fun w => L2.CX l.prog w) (sp := fun w vs H Q E => ∀ cl, spD (K w.params) cl 1 F_law vs H Q E) hn (by decide) hdf ⟨rfl, by decide, by decide⟩ hY F (fun w H a ns hl hb _ hS _ => sp_law hS (run_law ns hl hb)) fun _ _ _ _ _ h => by
    obtain ⟨_, _, _, _, _, _, _, _, _, _, _, _, z⟩ := h
    exact z.elim
end K11
open PySem PySem.W PyProof.Rows
set_option maxRecDepth 100000 in
set_option maxHeartbeats 0 in
theorem PySem.Challenge.cw_lorewhole_k11_records_holds : PySem.Challenge.rw_lorewhole_k11_records.Holds := by
  w_on; o_law; k_head; (case hw => w_witness2)
  k_fill
  refine K11.walk (l := PySem.Challenge.rw_lorewhole_k11_records) rfl rfl (fun w h Y => PySem.W.kIn_of Y) ?F
  case F =>
    intro w mg fa h KX G hmg
    refine' K11.all_mk KX G hmg ?a0 ?i0 ?l0 ?c0 ?k0 ?a1 ?i1 ?l1 ?c1 ?k1 ?a2 ?i2 ?l2 ?c2 ?k2 ?a3 ?l3 ?c3 ?k3 ?a4 ?l4 ?c4 ?k4 ?a5 ?l5 ?c5 ?k5 ?a6 ?l6 ?c6 ?k6 ?a7 ?l7 ?c7 ?k7 ?a8 ?l8 ?c8 ?k8 ?a9 ?l9 ?c9 ?k9 ?a10 ?l10 ?c10 ?k10 ?a11 ?l11 ?c11 ?k11 ?a12 ?l12 ?c12 ?k12 ?a13 ?l13 ?c13 ?k13 ?a14 ?l14 ?c14 ?k14 ?a15 ?l15 ?c15 ?k15 ?a16 ?l16 ?c16 ?k16 ?a17 ?l17 ?c17 ?k17 ?a18 ?l18 ?c18 ?k18 ?a19 ?l19 ?c19 ?k19 ?q_Reader ?pg_Reader ?hd_Reader ?po_Reader ?sa_Reader ?mk_Reader ?kc_Reader ?n0_Reader ?n1_Reader ?q_DamagedPacket ?x_DamagedPacket ?kc_DamagedPacket ?sb_DamagedPacket ?ty_DamagedPacket ?hd_DamagedPacket ?ss_DamagedPacket ?z0 ?z1 ?z2 ?z3 ?z4 ?z5 ?z6 ?z7 ?z8 ?y0 ?y1
    (case q_Reader => k_is); (case pg_Reader => k_is); (case hd_Reader => k_is); (case po_Reader => k_is); (case sa_Reader => k_is); (case mk_Reader => k_is)
    (case kc_Reader => k_is); (case q_DamagedPacket => k_is); (case a0 => k_is); (case i0 => k_is); (case l0 => k_is); (case c0 => k_is)
    (case k0 => k_is); (case a1 => k_is); (case i1 => k_is); (case l1 => k_is); (case c1 => k_is); (case k1 => k_is)
    (case a2 => k_is); (case i2 => k_is); (case l2 => k_is); (case c2 => k_is); (case k2 => k_is); (case a3 => k_is)
    (case l3 => k_is); (case c3 => k_is); (case k3 => k_is); (case a4 => k_is); (case l4 => k_is); (case c4 => k_is)
    (case k4 => k_is); (case a5 => k_is); (case l5 => k_is); (case c5 => k_is); (case k5 => k_is); (case a6 => k_is)
    (case l6 => k_is); (case c6 => k_is); (case k6 => k_is); (case a7 => k_is); (case l7 => k_is); (case c7 => k_is)
    (case k7 => k_is); (case a8 => k_is); (case l8 => k_is); (case c8 => k_is); (case k8 => k_is); (case a9 => k_is)
    (case l9 => k_is); (case c9 => k_is); (case k9 => k_is); (case a10 => k_is); (case l10 => k_is); (case c10 => k_is)
    (case k10 => k_is); (case a11 => k_is); (case l11 => k_is); (case c11 => k_is); (case k11 => k_is); (case a12 => k_is)
    (case l12 => k_is); (case c12 => k_is); (case k12 => k_is); (case a13 => k_is); (case l13 => k_is); (case c13 => k_is)
    (case k13 => k_is); (case a14 => k_is); (case l14 => k_is); (case c14 => k_is); (case k14 => k_is); (case a15 => k_is)
    (case l15 => k_is); (case c15 => k_is); (case k15 => k_is); (case a16 => k_is); (case l16 => k_is); (case c16 => k_is)
    (case k16 => k_is); (case a17 => k_is); (case l17 => k_is); (case c17 => k_is); (case k17 => k_is); (case a18 => k_is)
    (case l18 => k_is); (case c18 => k_is); (case k18 => k_is); (case a19 => k_is); (case l19 => k_is); (case c19 => k_is)
    (case k19 => k_is); (case n0_Reader => k_is); (case n1_Reader => k_is); (case x_DamagedPacket => k_exc); (case kc_DamagedPacket => k_is); (case sb_DamagedPacket => k_is)
    (case ty_DamagedPacket => k_is); (case hd_DamagedPacket => k_is); (case ss_DamagedPacket => k_is); (case z0 => k_is); (case z1 => k_is); (case z2 => k_is)
    (case z3 => k_is); (case z4 => k_is); (case z5 => k_is); (case z6 => k_is); (case z7 => k_is); (case z8 => k_is)
    (case y0 => k_is); (case y1 => k_is)
#print axioms PySem.Challenge.cw_lorewhole_k11_records_holds

