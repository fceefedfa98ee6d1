import PyProof.Rows.All
import Wide.All
import OpenK.AllK
import Wide.FinOn
import HandS.ForMost
import HandS.Exc
import HandS.ExcOwn
import HandS.WordsExc
import HandS.IsInst
import HandS.Zip
import HandS.TupAny
import HandS.TupLe
import HandS.TupMul
import HandS.Style
import HandS.Flow
import HandS.Wide
import HandS.Lambda
import HandS.Nested
import HandS.HotCalls
import HandS.TryMany
import HandS.ExcIs
import HandS.SortInts
import KE.GoesNew
import HandS.Sort
import HandS.Iter
import KE.KDictDisplayH
import HandS.TupSets
import HandS.Conv
import HandS.More
import HandS.TupLen
import HandS.SetFor
import HandS.Strs
import HandS.EndTab
import HandS.Deep
import HandS.ExcCtx
import PyProof.ZipIter
import KE.GoesMore
import KE.GoesZip
import HandS.Hot
import PyProof.ExcBaseAll.ValueError
import PyProof.ListNew
import HandS.Flt
import HandS.WideMore
import PySem.Challenge.RW_oneremote_k20_whole_lamps_that_are_left
set_option Elab.async false
set_option linter.all false
set_option maxRecDepth 100000
/-! D: data without addresses, over the layer. -/
namespace DL
open PySem PySem.Spec PyProof.Rows L2

/-- a class of the module, by its name -/
def exOf (K : PySem.W.Frag) (nm : Str) : Addr := match PySem.W.nsIn K mainGlobals nm with
  | some (some (.ref a)) => a
  | _ => 0
inductive D where
  | non | bl (b : Bool) | int (i : Int) | str (x : Str)
  | tup (ds : List D) | lst (ds : List D)
  | ins (c : Str) (fs : List (Str × D))
  | obj (a : Addr)
  | rng (lo hi : Int)
  | kl (ns : List Int)
  | dic (kds : List (List Key × D))
  | raw (v : V)

inductive MO where
  | lst (ds : List D)
  | ins (c : Str) (fs : List (Str × D))
  | xd (fs : List (Str × D))
  | dK (kvs : List (Key × D))
  | dT (kvs : List (List Key × D))
  | tbl (q : Str)

abbrev Mm := List (Addr × MO)
abbrev Rho := List (Option D)

mutual
inductive Rep (K : PySem.W.Frag) (F : Hp) : V → D → Prop
  | non : Rep K F .non .non
  | bl (b : Bool) : Rep K F (.bl b) (.bl b)
  | int (i : Int) : Rep K F (.int i) (.int i)
  | str (x : Str) : Rep K F (.str x) (.str x)
  | tup {a : Addr} {vs : List V} {ds : List D} : F a = some (.tup vs) → Reps K F vs ds → Rep K F (.ref a) (.tup ds)
  | lst {a : Addr} {vs : List V} {ds : List D} : Rd F a (.lst vs) → Reps K F vs ds → Rep K F (.ref a) (.lst ds)
  | ins {a dx : Addr} {c : Str} {fs : List (Str × V)} {ds : List (Str × D)} : F a = some (.ins (exOf K c) dx fs) → RepF K F fs ds → Rep K F (.ref a) (.ins c ds)
  | obj (a : Addr) : Rep K F (.ref a) (.obj a)
  | kl {a : Addr} {ns : List Int} : SqL K F a (ns.map V.int) → Rep K F (.ref a) (.kl ns)
  | rng {a : Addr} {lo hi : Int} : F a = some (.rng lo hi) → Rep K F (.ref a) (.rng lo hi)
  | dic {a : Addr} {kvs : List (List Key × V)} {kds : List (List Key × D)} : Rd F a (.dT kvs) → RepT K F kvs kds → Rep K F (.ref a) (.dic kds)
  | raw (v : V) : Rep K F v (.raw v)
inductive Reps (K : PySem.W.Frag) (F : Hp) : List V → List D → Prop
  | nil : Reps K F [] []
  | cons {v : V} {d : D} {vs : List V} {ds : List D} : Rep K F v d → Reps K F vs ds → Reps K F (v :: vs) (d :: ds)
inductive RepT (K : PySem.W.Frag) (F : Hp) : List (List Key × V) → List (List Key × D) → Prop
  | nil : RepT K F [] []
  | cons {k : List Key} {v : V} {d : D} {vs : List (List Key × V)} {ds : List (List Key × D)} : Rep K F v d → RepT K F vs ds → RepT K F ((k, v) :: vs) ((k, d) :: ds)
inductive RepF (K : PySem.W.Frag) (F : Hp) : List (Str × V) → List (Str × D) → Prop
  | nil : RepF K F [] []
  | cons {x : Str} {v : V} {d : D} {vs : List (Str × V)} {ds : List (Str × D)} : Rep K F v d → RepF K F vs ds → RepF K F ((x, v) :: vs) ((x, d) :: ds)
end

variable {K : PySem.W.Frag} {F F' G G' H H' : Hp}

theorem Same.sqt {a : Addr} {xs : List V} (e : Same F F') (h : SqT K F a xs) : SqT K F' a xs := by
  rcases h with (h | ⟨o, h⟩) | h
  · exact .inl (.inl (e _ _ h))
  · exact .inl (.inr ⟨o, e _ _ h⟩)
  · exact .inr h

theorem Same.rd {a : Addr} {u : HO} (e : Same F F') (h : Rd F a u) : Rd F' a u := h.elim (fun z => .inl (e _ _ z)) fun ⟨o, z⟩ => .inr ⟨o, e _ _ z⟩

mutual
theorem Rep.mono (e : Same F F') : ∀ {v : V} {d : D}, Rep K F v d → Rep K F' v d
  | _, _, .non => .non
  | _, _, .bl b => .bl b
  | _, _, .int i => .int i
  | _, _, .str x => .str x
  | _, _, .tup s r => .tup (e _ _ s) (Reps.mono e r)
  | _, _, .lst s r => .lst (Same.rd e s) (Reps.mono e r)
  | _, _, .ins s r => .ins (e _ _ s) (RepF.mono e r)
  | _, _, .obj a => .obj a
  | _, _, .rng h => .rng (e _ _ h)
  | _, _, .kl h => .kl (e.seq h)
  | _, _, .dic s r => .dic (Same.rd e s) (RepT.mono e r)
  | _, _, .raw v => .raw v
theorem Reps.mono (e : Same F F') : ∀ {vs : List V} {ds : List D}, Reps K F vs ds → Reps K F' vs ds
  | _, _, .nil => .nil
  | _, _, .cons r t => .cons (Rep.mono e r) (Reps.mono e t)
theorem RepT.mono (e : Same F F') : ∀ {vs : List (List Key × V)} {ds : List (List Key × D)}, RepT K F vs ds → RepT K F' vs ds
  | _, _, .nil => .nil
  | _, _, .cons r t => .cons (Rep.mono e r) (RepT.mono e t)
theorem RepF.mono (e : Same F F') : ∀ {vs : List (Str × V)} {ds : List (Str × D)}, RepF K F vs ds → RepF K F' vs ds
  | _, _, .nil => .nil
  | _, _, .cons r t => .cons (Rep.mono e r) (RepF.mono e t)
end
end DL

namespace DL
open PySem PySem.Spec PyProof.Rows L2
variable {K : PySem.W.Frag} {F F' F1 F2 G G' H H' H1 H2 : Hp} {M M' : Mm} {ρ ρ' : Rho} {σ σ' : L2.St}

def EntD {κ : Type} (K : PySem.W.Frag) (F : Hp) (p : κ × V) (q : κ × D) : Prop := p.1 = q.1 ∧ Rep K F p.2 q.2
inductive RepO (K : PySem.W.Frag) (F : Hp) : HO → MO → Prop
  | lst {vs : List V} {ds : List D} : Reps K F vs ds → RepO K F (.lst vs) (.lst ds)
  | ins {dx : Addr} {c : Str} {fs : List (Str × V)} {ds : List (Str × D)} : RepF K F fs ds → RepO K F (.ins (exOf K c) dx fs) (.ins c ds)
  | xd {fs : List (Str × V)} {ds : List (Str × D)} : RepF K F fs ds → RepO K F (.xd fs) (.xd ds)
  | dK {kvs : List (Key × V)} {kds : List (Key × D)} : Paired (EntD K F) kvs kds → RepO K F (.dK kvs) (.dK kds)
  | dT {kvs : List (List Key × V)} {kds : List (List Key × D)} : Paired (EntD K F) kvs kds → RepO K F (.dT kvs) (.dT kds)
  | tbl {ps : Array Value} {q : Str} : TriplesOk ps.toList → (∀ (pos : Pos) (cv : Value), codeAmong pos ps.toList = some cv → ∃ c, cv = .ref c ∧ F c = some (LamX.CodeO c q)) → RepO K F (.tbl ps) (.tbl q)
theorem entMono {κ : Type} (e : Same F F') {l : List (κ × V)} {m : List (κ × D)} (h : Paired (EntD K F) l m) : Paired (EntD K F') l m :=
  Paired.mapP h fun _ _ q => ⟨q.1, q.2.mono e⟩
theorem RepO.mono (e : Same F F') {o : HO} {m : MO} (h : RepO K F o m) : RepO K F' o m := by
  cases h with
  | lst r => exact .lst (r.mono e)
  | ins r => exact .ins (r.mono e)
  | xd r => exact .xd (r.mono e)
  | dK r => exact .dK (entMono e r)
  | dT r => exact .dT (entMono e r)
  | tbl t h => exact .tbl t fun pos cv q => let ⟨c, e1, e2⟩ := h pos cv q; ⟨c, e1, e _ _ e2⟩

structure RelM (K : PySem.W.Frag) (F G : Hp) (M : Mm) (H : Hp) : Prop where
  fz : Same F H
  fr : Same G H
  nd : (M.map (·.1)).Nodup
  dj : ∀ b o, G b = some o → F b = none ∨ ∃ ys, o = .tup ys
  at' : ∀ p ∈ M, F p.1 = none ∧ G p.1 = none ∧ ∃ o, H p.1 = some o ∧ RepO K F o p.2

theorem same_new {p : Addr} {o : HO} (h : F p = none) : Same F (upd F p o) := fun b x e => by
  rw [upd_ne (ne_of_none e h)]; exact e
theorem same_upd2 {p : Addr} {o : HO} (s : Same F H) : Same (upd F p o) (upd H p o) := fun b x e => by
  by_cases hb : b = p
  · subst hb; rw [upd_same] at e ⊢; exact e
  · rw [upd_ne hb] at e ⊢; exact s b x e
theorem same_updR {p : Addr} {o : HO} (s : Same F H) (h : F p = none) : Same F (upd H p o) := fun b x e => by
  rw [upd_ne (ne_of_none e h)]; exact s b x e
theorem RelM.free (r : RelM K F G M H) {p : Addr} (h : H p = none) : F p = none := r.fz.free h
theorem RelM.freeG (r : RelM K F G M H) {p : Addr} (h : H p = none) : G p = none := r.fr.free h
theorem RelM.ne (r : RelM K F G M H) {p : Addr} (h : H p = none) {q : Addr × MO} (hq : q ∈ M) : q.1 ≠ p := by
  obtain ⟨_, _, o, e, _⟩ := r.at' q hq
  exact ne_of_none e h
/-- a new object that stays as it is -/
theorem RelM.newF (r : RelM K F G M H) {p : Addr} {o : HO} (h : H p = none) : RelM K (upd F p o) G M (upd H p o) := by
  refine ⟨same_upd2 r.fz, same_updR r.fr (r.freeG h), r.nd, fun b x e => by rw [upd_ne (ne_of_none e (r.freeG h))]; exact r.dj b x e, fun q hq => ?_⟩
  obtain ⟨a, b, u, e, z⟩ := r.at' q hq
  have ne := r.ne h hq
  exact ⟨by rw [upd_ne ne]; exact a, b, u, by rw [upd_ne ne]; exact e, z.mono (same_new (r.free h))⟩
/-- a new object that may change -/
theorem RelM.newM (r : RelM K F G M H) {p : Addr} {o : HO} {m : MO} (h : H p = none) (z : RepO K F o m) : RelM K F G ((p, m) :: M) (upd H p o) := by
  refine ⟨same_updR r.fz (r.free h), same_updR r.fr (r.freeG h), ?_, r.dj, fun q hq => ?_⟩
  · rw [List.map_cons, List.nodup_cons]
    refine ⟨fun hm => ?_, r.nd⟩
    obtain ⟨q, hq, e⟩ := List.mem_map.mp hm
    exact r.ne h hq e
  · rcases List.mem_cons.mp hq with rfl | hq
    · exact ⟨r.free h, r.freeG h, o, upd_same, z⟩
    · obtain ⟨a, b, u, e, z⟩ := r.at' q hq
      exact ⟨a, b, u, by rw [upd_ne (r.ne h hq)]; exact e, z⟩
/-- untracked news -/
theorem RelM.newH (r : RelM K F G M H) {p : Addr} {o : HO} (h : H p = none) : RelM K F G M (upd H p o) := by
  refine ⟨same_updR r.fz (r.free h), same_updR r.fr (r.freeG h), r.nd, r.dj, fun q hq => ?_⟩
  obtain ⟨a, b, u, e, z⟩ := r.at' q hq
  exact ⟨a, b, u, by rw [upd_ne (r.ne h hq)]; exact e, z⟩
def putM : Mm → Addr → MO → Mm
  | [], _, _ => []
  | (b, n) :: r, a, m => if b = a then (a, m) :: r else (b, n) :: putM r a m
theorem putM_top (a : Addr) (m m' : MO) (M : Mm) : putM ((a, m) :: M) a m' = (a, m') :: M := by unfold putM; rw [if_pos rfl]
theorem putM_under {a b : Addr} (m m' : MO) (M : Mm) (h : b ≠ a) : putM ((a, m) :: M) b m' = (a, m) :: putM M b m' := by
  show (if a = b then (b, m') :: M else (a, m) :: putM M b m') = _
  rw [if_neg (Ne.symm h)]
theorem putM_keys (a : Addr) (m : MO) : ∀ M : Mm, (putM M a m).map (·.1) = M.map (·.1)
  | [] => rfl
  | (b, n) :: r => by
    unfold putM
    by_cases h : b = a
    · rw [if_pos h, List.map_cons, List.map_cons, h]
    · rw [if_neg h, List.map_cons, List.map_cons, putM_keys a m r]
theorem putM_mem {a : Addr} {m : MO} {q : Addr × MO} : ∀ {M : Mm}, (M.map (·.1)).Nodup → q ∈ putM M a m → q = (a, m) ∨ (q ∈ M ∧ q.1 ≠ a)
  | [], _, h => by simp [putM] at h
  | (b, n) :: r, nd, h => by
    rw [List.map_cons, List.nodup_cons] at nd
    unfold putM at h
    by_cases hb : b = a
    · rw [if_pos hb] at h
      rcases List.mem_cons.mp h with h | h
      · exact .inl h
      · exact .inr ⟨List.mem_cons_of_mem _ h, fun e => nd.1 (List.mem_map.mpr ⟨q, h, e.trans hb.symm⟩)⟩
    · rw [if_neg hb] at h
      rcases List.mem_cons.mp h with h | h
      · subst h; exact .inr ⟨List.mem_cons_self, hb⟩
      · rcases putM_mem nd.2 h with h | ⟨h, e⟩
        · exact .inl h
        · exact .inr ⟨List.mem_cons_of_mem _ h, e⟩
theorem lookup_mem {a : Addr} {m : MO} : ∀ {M : Mm}, M.lookup a = some m → (a, m) ∈ M
  | (b, n) :: r, h => by
    rw [List.lookup_cons] at h
    cases e : a == b with
    | true =>
      rw [e] at h
      have e' : a = b := by simpa using e
      cases h; subst e'
      exact List.mem_cons_self
    | false => rw [e] at h; exact List.mem_cons_of_mem _ (lookup_mem h)
theorem RelM.look (r : RelM K F G M H) {a : Addr} {m : MO} (h : M.lookup a = some m) : ∃ o, H a = some o ∧ RepO K F o m := (r.at' _ (lookup_mem h)).2.2
theorem RelM.put (r : RelM K F G M H) {a : Addr} {m m' : MO} {o : HO} (h : M.lookup a = some m) (z : RepO K F o m') : RelM K F G (putM M a m') (upd H a o) := by
  have hm := lookup_mem h
  obtain ⟨fa, ga, _⟩ := r.at' _ hm
  refine ⟨same_updR r.fz fa, same_updR r.fr ga, by rw [putM_keys]; exact r.nd, r.dj, fun q hq => ?_⟩
  rcases putM_mem r.nd hq with rfl | ⟨hq, hb⟩
  · exact ⟨fa, ga, o, upd_same, z⟩
  · obtain ⟨x, y, u, eu, zu⟩ := r.at' q hq
    exact ⟨x, y, u, by rw [upd_ne hb]; exact eu, zu⟩
theorem nodup_sub {α : Type} {l m : List α} (h : l.Sublist m) (n : m.Nodup) : l.Nodup := List.Pairwise.sublist h n
theorem RelM.drop (r : RelM K F G M H) (h : M'.Sublist M) : RelM K F G M' H := ⟨r.fz, r.fr, nodup_sub (h.map _) r.nd, r.dj, fun p hp => r.at' p (h.mem hp)⟩
/-- a list that may change no more -/
theorem RelM.freeze (r : RelM K F G M H) {a : Addr} {ds : List D} (h : ((a, MO.lst ds) :: M').Sublist M) : ∃ vs, Same F (upd F a (.lst vs)) ∧ RelM K (upd F a (.lst vs)) G M' H ∧ Reps K (upd F a (.lst vs)) vs ds := by
  have r' := r.drop h
  obtain ⟨fa, ga, o, e, z⟩ := r'.at' _ List.mem_cons_self
  have nd := r'.nd
  rw [List.map_cons, List.nodup_cons] at nd
  cases z with
  | @lst vs _ z =>
    have s : Same F (upd F a (.lst vs)) := same_new fa
    refine ⟨vs, s, ⟨fun b x q => ?_, r.fr, nd.2, fun b x q => by rw [upd_ne (ne_of_none q ga)]; exact r.dj b x q, fun q hq => ?_⟩, z.mono s⟩
    · by_cases hb : b = a
      · subst hb; rw [upd_same] at q; cases q; exact e
      · rw [upd_ne hb] at q; exact r.fz b x q
    · obtain ⟨x, y, u, eu, zu⟩ := r'.at' q (List.mem_cons_of_mem _ hq)
      have ne : q.1 ≠ a := fun w => nd.1 (List.mem_map.mpr ⟨q, hq, w⟩)
      exact ⟨by rw [upd_ne ne]; exact x, y, u, eu, zu.mono s⟩

inductive EnvR (K : PySem.W.Frag) (F : Hp) : Rho → L2.St → Prop
  | nil : EnvR K F [] []
  | no {x : Option V} {ρ : Rho} {σ : L2.St} : EnvR K F ρ σ → EnvR K F (none :: ρ) (x :: σ)
  | yes {v : V} {d : D} {ρ : Rho} {σ : L2.St} : Rep K F v d → EnvR K F ρ σ → EnvR K F (some d :: ρ) (some v :: σ)
theorem EnvR.mono (e : Same F F') : ∀ {ρ : Rho} {σ : L2.St}, EnvR K F ρ σ → EnvR K F' ρ σ
  | _, _, .nil => .nil
  | _, _, .no r => .no (EnvR.mono e r)
  | _, _, .yes q r => .yes (q.mono e) (EnvR.mono e r)
theorem EnvR.get : ∀ {ρ : Rho} {σ : L2.St} {i : Nat} {d : D}, EnvR K F ρ σ → ρ[i]? = some (some d) → ∃ v, σ[i]? = some (some v) ∧ Rep K F v d
  | _, _, 0, d, .yes q r, h => by
    simp at h; subst h; exact ⟨_, rfl, q⟩
  | _, _, 0, d, .no r, h => by simp at h
  | _, _, i + 1, d, .yes q r, h => by
    obtain ⟨v, e, z⟩ := EnvR.get (i := i) (d := d) r (by simpa using h)
    exact ⟨v, by simpa using e, z⟩
  | _, _, i + 1, d, .no r, h => by
    obtain ⟨v, e, z⟩ := EnvR.get (i := i) (d := d) r (by simpa using h)
    exact ⟨v, by simpa using e, z⟩
theorem EnvR.set {v : V} {d : D} (q : Rep K F v d) : ∀ {ρ : Rho} {σ : L2.St} (i : Nat), EnvR K F ρ σ → EnvR K F (ρ.set i (some d)) (σ.set i (some v))
  | _, _, _, .nil => .nil
  | _, _, 0, .yes _ r => .yes q r
  | _, _, 0, .no r => .yes q r
  | _, _, i + 1, .yes p r => .yes p (EnvR.set q i r)
  | _, _, i + 1, .no r => .no (EnvR.set q i r)
theorem EnvR.unset {x : Option V} : ∀ {ρ : Rho} {σ : L2.St} (i : Nat), EnvR K F ρ σ → EnvR K F (ρ.set i none) (σ.set i x)
  | _, _, _, .nil => .nil
  | _, _, 0, .yes _ r => .no r
  | _, _, 0, .no r => .no r
  | _, _, i + 1, .yes p r => .yes p (EnvR.unset i r)
  | _, _, i + 1, .no r => .no (EnvR.unset i r)
def wipeD (ρ : Rho) : List Nat → Rho
  | [] => ρ
  | v :: vs => (wipeD ρ vs).set v none
theorem EnvR.wipe (h : EnvR K F ρ σ) : ∀ vs, EnvR K F (wipeD ρ vs) (wipe σ vs)
  | [] => h
  | v :: vs => (EnvR.wipe h vs).unset v

structure Lo where
  F : Hp
  G : Hp
structure At (K : PySem.W.Frag) (lo : Lo) (F G : Hp) (ρ : Rho) (M : Mm) (σ : L2.St) (H : Hp) : Prop where
  f : Same lo.F F
  g : Same lo.G G
  rel : RelM K F G M H
  env : EnvR K F ρ σ
theorem At.next {lo : Lo} (a : At K lo F G ρ M σ H) (s : Same F F') (r : RelM K F' G M' H') : At K lo F' G ρ M' σ H' := ⟨a.f.trans s, a.g, r, a.env.mono s⟩

abbrev TDE := Rho → Mm → (D → Mm → Prop) → Prop
abbrev TDT := Rho → Mm → (Bool → Mm → Prop) → Prop
abbrev TDA := Rho → Mm → (List D → Mm → Prop) → Prop
structure DEnds where
  nx : Rho → Mm → Prop
  rt : D → Mm → Prop
  bk : Rho → Mm → Prop := fun _ _ => False
  ct : Rho → Mm → Prop := fun _ _ => False
abbrev TDS := DEnds → Rho → Mm → Prop

def liftE (K : PySem.W.Frag) (lo : Lo) (t : TDE) : TE := fun σ H Qv => ∃ F G ρ M Q, At K lo F G ρ M σ H ∧ t ρ M Q ∧ ∀ v H' F' d M', Same F F' → RelM K F' G M' H' → Rep K F' v d → Q d M' → Qv v H'
def liftT (K : PySem.W.Frag) (lo : Lo) (t : TDT) : TT := fun σ H Qv => ∃ F G ρ M Q, At K lo F G ρ M σ H ∧ t ρ M Q ∧ ∀ b H' F' M', Same F F' → RelM K F' G M' H' → Q b M' → Qv b H'
def liftA (K : PySem.W.Frag) (lo : Lo) (t : TDA) : TA := fun σ H Qv => ∃ F G ρ M Q, At K lo F G ρ M σ H ∧ t ρ M Q ∧ ∀ vs H' F' ds M', Same F F' → RelM K F' G M' H' → Reps K F' vs ds → Q ds M' → Qv vs H'
structure EndsR (K : PySem.W.Frag) (F0 G : Hp) (De : DEnds) (Dv : Ends) : Prop where
  nx : ∀ σ H F ρ M, Same F0 F → RelM K F G M H → EnvR K F ρ σ → De.nx ρ M → Dv.nx σ H
  rt : ∀ v H F d M, Same F0 F → RelM K F G M H → Rep K F v d → De.rt d M → Dv.rt v H
  bk : ∀ σ H F ρ M, Same F0 F → RelM K F G M H → EnvR K F ρ σ → De.bk ρ M → Dv.bk σ H
  ct : ∀ σ H F ρ M, Same F0 F → RelM K F G M H → EnvR K F ρ σ → De.ct ρ M → Dv.ct σ H
def liftS (K : PySem.W.Frag) (lo : Lo) (t : TDS) : TS := fun Dv σ H => ∃ F G ρ M De, At K lo F G ρ M σ H ∧ t De ρ M ∧ EndsR K F G De Dv
theorem EndsR.later {De : DEnds} {Dv : Ends} (e : EndsR K F G De Dv) (s : Same F F') : EndsR K F' G De Dv :=
  ⟨fun σ H F ρ M a => e.nx σ H F ρ M (s.trans a), fun v H F d M a => e.rt v H F d M (s.trans a), fun σ H F ρ M a => e.bk σ H F ρ M (s.trans a), fun σ H F ρ M a => e.ct σ H F ρ M (s.trans a)⟩

abbrev DPE (X : Cx) (lo : Lo) (e : Expr) (t : TDE) : Prop := PE X e (liftE X.K lo t)
abbrev DPT (X : Cx) (lo : Lo) (e : Expr) (t : TDT) : Prop := PT X e (liftT X.K lo t)
abbrev DPW (X : Cx) (lo : Lo) (e : Expr) (t : TDT) : Prop := PW X e (liftT X.K lo t)
abbrev DPA (X : Cx) (lo : Lo) (es : List Expr) (t : TDA) : Prop := PA X es (liftA X.K lo t)
abbrev DPS (X : Cx) (lo : Lo) (st : Stmt) (t : TDS) : Prop := PS X st (liftS X.K lo t)
abbrev DPSs (X : Cx) (lo : Lo) (st : List Stmt) (t : TDS) : Prop := PSs X st (liftS X.K lo t)

/-! consequence -/
theorem PE.of {X : Cx} {e : Expr} {t t' : TE} (h : PE X e t) (i : ∀ σ H Q, t' σ H Q → t σ H Q) : PE X e t' := ⟨fun p s σ H Q I q => h.run p s σ H Q I (i _ _ _ q)⟩
theorem PT.of {X : Cx} {e : Expr} {t t' : TT} (h : PT X e t) (i : ∀ σ H Q, t' σ H Q → t σ H Q) : PT X e t' := ⟨fun p s σ H Q I q => h.run p s σ H Q I (i _ _ _ q)⟩
theorem PW.of {X : Cx} {e : Expr} {t t' : TT} (h : PW X e t) (i : ∀ σ H Q, t' σ H Q → t σ H Q) : PW X e t' := ⟨fun w p s σ H Q I q => h.run w p s σ H Q I (i _ _ _ q)⟩
theorem PA.of {X : Cx} {e : List Expr} {t t' : TA} (h : PA X e t) (i : ∀ σ H Q, t' σ H Q → t σ H Q) : PA X e t' := ⟨fun po p s σ H Q I q => h.run po p s σ H Q I (i _ _ _ q)⟩
theorem PS.of {X : Cx} {e : Stmt} {t t' : TS} (h : PS X e t) (i : ∀ σ H Q, t' Q σ H → t Q σ H) : PS X e t' := ⟨fun p s σ H Q I q => h.run p s σ H Q I (i _ _ _ q)⟩
theorem PSs.of {X : Cx} {e : List Stmt} {t t' : TS} (h : PSs X e t) (i : ∀ σ H Q, t' Q σ H → t Q σ H) : PSs X e t' := ⟨fun p s σ H Q I q => h.run p s σ H Q I (i _ _ _ q)⟩
end DL

namespace DL
open PySem PySem.Spec PyProof.Rows L2
variable {K : PySem.W.Frag} {F F' F1 F2 G G' H H' H1 H2 : Hp} {M M' : Mm} {ρ ρ' : Rho} {σ σ' : L2.St}

/-! ### what is read of a value -/
def asInts : List D → Option (List Int)
  | [] => some []
  | .int i :: r => (asInts r).map (i :: ·)
  | _ :: _ => none
@[simp] theorem asInts_nil : asInts [] = some [] := rfl
@[simp] theorem asInts_cons (i : Int) (r : List D) : asInts (.int i :: r) = (asInts r).map (i :: ·) := rfl
@[simp] theorem asInts_map : ∀ ns : List Int, asInts (ns.map D.int) = some ns
  | [] => rfl
  | n :: r => by rw [List.map_cons, asInts_cons, asInts_map r]; rfl
def asBools : List D → Option (List Bool)
  | [] => some []
  | .bl i :: r => (asBools r).map (i :: ·)
  | _ :: _ => none
@[simp] theorem asBools_nil : asBools [] = some [] := rfl
@[simp] theorem asBools_cons (i : Bool) (r : List D) : asBools (.bl i :: r) = (asBools r).map (i :: ·) := rfl
@[simp] theorem asBools_map : ∀ ns : List Bool, asBools (ns.map D.bl) = some ns
  | [] => rfl
  | n :: r => by rw [List.map_cons, asBools_cons, asBools_map r]; rfl
theorem asInts_eq : ∀ {ds : List D} {ns : List Int}, asInts ds = some ns → ds = ns.map D.int
  | [], ns, h => by cases h; rfl
  | .int i :: r, ns, h => by
    rw [asInts_cons] at h
    cases e : asInts r with
    | none => rw [e] at h; cases h
    | some m => rw [e] at h; cases h; rw [asInts_eq e]; rfl
  | .non :: r, ns, h => by cases h
  | .bl _ :: r, ns, h => by cases h
  | .str _ :: r, ns, h => by cases h
  | .tup _ :: r, ns, h => by cases h
  | .lst _ :: r, ns, h => by cases h
  | .ins _ _ :: r, ns, h => by cases h
  | .obj _ :: r, ns, h => by cases h
  | .raw _ :: r, ns, h => by cases h
  | .rng _ _ :: r, ns, h => by cases h
  | .kl _ :: r, ns, h => by cases h
theorem asBools_eq : ∀ {ds : List D} {ns : List Bool}, asBools ds = some ns → ds = ns.map D.bl
  | [], ns, h => by cases h; rfl
  | .bl i :: r, ns, h => by
    rw [asBools_cons] at h
    cases e : asBools r with
    | none => rw [e] at h; cases h
    | some m => rw [e] at h; cases h; rw [asBools_eq e]; rfl
  | .non :: r, ns, h => by cases h
  | .int _ :: r, ns, h => by cases h
  | .str _ :: r, ns, h => by cases h
  | .tup _ :: r, ns, h => by cases h
  | .lst _ :: r, ns, h => by cases h
  | .ins _ _ :: r, ns, h => by cases h
  | .obj _ :: r, ns, h => by cases h
  | .raw _ :: r, ns, h => by cases h
  | .rng _ _ :: r, ns, h => by cases h
  | .kl _ :: r, ns, h => by cases h
theorem Reps.ints : ∀ {ns : List Int} {vs : List V}, Reps K F vs (ns.map D.int) → vs = ns.map V.int
  | [], _, .nil => rfl
  | n :: r, _, .cons (.int _) t => by rw [Reps.ints t]; rfl
theorem Reps.bools : ∀ {ns : List Bool} {vs : List V}, Reps K F vs (ns.map D.bl) → vs = ns.map V.bl
  | [], _, .nil => rfl
  | n :: r, _, .cons (.bl _) t => by rw [Reps.bools t]; rfl
theorem Reps.of_ints : ∀ ns : List Int, Reps K F (ns.map V.int) (ns.map D.int)
  | [] => .nil
  | n :: r => .cons (.int n) (Reps.of_ints r)
theorem Reps.length : ∀ {vs : List V} {ds : List D}, Reps K F vs ds → vs.length = ds.length
  | _, _, .nil => rfl
  | _, _, .cons _ t => by rw [List.length_cons, List.length_cons, Reps.length t]
theorem Reps.append : ∀ {vs ws : List V} {ds es : List D}, Reps K F vs ds → Reps K F ws es → Reps K F (vs ++ ws) (ds ++ es)
  | _, _, _, _, .nil, s => s
  | _, _, _, _, .cons r t, s => .cons r (Reps.append t s)
theorem Reps.get : ∀ {vs : List V} {ds : List D} {i : Nat} {d : D}, Reps K F vs ds → ds[i]? = some d → ∃ v, vs[i]? = some v ∧ Rep K F v d
  | _, _, i, d, .nil, h => by simp at h
  | _, _, 0, d, .cons r t, h => by simp at h; subst h; exact ⟨_, rfl, r⟩
  | _, _, i + 1, d, .cons r t, h => by
    obtain ⟨v, e, q⟩ := Reps.get (i := i) (d := d) t (by simpa using h)
    exact ⟨v, by simpa using e, q⟩
theorem Reps.take : ∀ {vs : List V} {ds : List D} (n : Nat), Reps K F vs ds → Reps K F (vs.take n) (ds.take n)
  | _, _, 0, _ => by rw [List.take_zero, List.take_zero]; exact .nil
  | _, _, n + 1, .nil => .nil
  | _, _, n + 1, .cons r t => .cons r (Reps.take n t)
theorem Reps.drop : ∀ {vs : List V} {ds : List D} (n : Nat), Reps K F vs ds → Reps K F (vs.drop n) (ds.drop n)
  | _, _, 0, r => r
  | _, _, n + 1, .nil => .nil
  | _, _, n + 1, .cons r t => Reps.drop n t
theorem Reps.set {v : V} {d : D} (q : Rep K F v d) : ∀ {vs : List V} {ds : List D} (n : Nat), Reps K F vs ds → Reps K F (vs.set n v) (ds.set n d)
  | _, _, _, .nil => .nil
  | _, _, 0, .cons r t => .cons q t
  | _, _, n + 1, .cons r t => .cons r (Reps.set q n t)
theorem Reps.reverse : ∀ {vs : List V} {ds : List D}, Reps K F vs ds → Reps K F vs.reverse ds.reverse
  | _, _, .nil => .nil
  | _, _, .cons r t => by rw [List.reverse_cons, List.reverse_cons]; exact (Reps.reverse t).append (.cons r .nil)
theorem Reps.one {vs : List V} {d : D} (r : Reps K F vs [d]) : ∃ v, vs = [v] ∧ Rep K F v d := by
  cases r with
  | cons a t => cases t; exact ⟨_, rfl, a⟩
theorem Reps.two {vs : List V} {d e : D} (r : Reps K F vs [d, e]) : ∃ v w, vs = [v, w] ∧ Rep K F v d ∧ Rep K F w e := by
  cases r with
  | cons a t => obtain ⟨w, rfl, b⟩ := t.one; exact ⟨_, w, rfl, a, b⟩

def lstOf : Option MO → Option (List D)
  | some (.lst ds) => some ds
  | _ => none
/-- a list -/
def resL (M : Mm) : D → Option (List D)
  | .lst ds => some ds
  | .obj a => lstOf (M.lookup a)
  | _ => none
def resT : D → Option (List D)
  | .tup ds => some ds
  | _ => none
def resS (M : Mm) : D → Option (List D)
  | .tup ds => some ds
  | d => resL M d
@[simp] theorem resL_lst (ds : List D) : resL M (.lst ds) = some ds := rfl
@[simp] theorem resS_lst (ds : List D) : resS M (.lst ds) = some ds := rfl
@[simp] theorem resS_tup (ds : List D) : resS M (.tup ds) = some ds := rfl
@[simp] theorem resL_tup (ds : List D) : resL M (.tup ds) = none := rfl
@[simp] theorem resL_int (i : Int) : resL M (.int i) = none := rfl
@[simp] theorem resL_str (i : Str) : resL M (.str i) = none := rfl
@[simp] theorem resL_non : resL M .non = none := rfl
@[simp] theorem resL_bl (b : Bool) : resL M (.bl b) = none := rfl
theorem resL_obj {a : Addr} {ds : List D} (h : M.lookup a = some (.lst ds)) : resL M (.obj a) = some ds := by show lstOf (M.lookup a) = _; rw [h]; rfl
theorem resS_obj {a : Addr} {ds : List D} (h : M.lookup a = some (.lst ds)) : resS M (.obj a) = some ds := resL_obj h
theorem lookup_top (a : Addr) (m : MO) (M : Mm) : List.lookup a ((a, m) :: M) = some m := by rw [List.lookup_cons]; simp
theorem lookup_under {a b : Addr} (m : MO) (M : Mm) (h : b ≠ a) : List.lookup b ((a, m) :: M) = M.lookup b := by
  rw [List.lookup_cons]
  have : (b == a) = false := by simpa using h
  rw [this]
theorem resL_ok (r : RelM K F G M H) {v : V} {d : D} {ds : List D} (p : Rep K F v d) (h : resL M d = some ds) : ∃ a vs, v = .ref a ∧ Rd H a (.lst vs) ∧ Reps K F vs ds := by
  cases p with
  | lst s q => cases h; exact ⟨_, _, rfl, Same.rd r.fz s, q⟩
  | obj a =>
    have h : lstOf (M.lookup a) = some ds := h
    cases e : M.lookup a with
    | none => rw [e] at h; cases h
    | some m =>
      rw [e] at h
      obtain ⟨o, ho, z⟩ := r.look e
      cases z with
      | @lst vs _ z => cases h; exact ⟨_, vs, rfl, .inl ho, z⟩
      | ins _ => cases h
      | xd _ => cases h
      | dK _ => cases h
      | dT _ => cases h
      | tbl _ _ => cases h
  | non => cases h
  | bl => cases h
  | int => cases h
  | str => cases h
  | tup => cases h
  | ins => cases h
  | raw => cases h
  | rng => cases h
  | kl => cases h
  | dic => cases h
theorem resT_ok (r : RelM K F G M H) {v : V} {d : D} {ds : List D} (p : Rep K F v d) (h : resT d = some ds) : ∃ a vs, v = .ref a ∧ SqT K H a vs ∧ Reps K F vs ds := by
  cases p with
  | tup s q => cases h; exact ⟨_, _, rfl, .inl (Same.rd r.fz (.inl s)), q⟩
  | lst s q => cases h
  | obj a => cases h
  | non => cases h
  | bl => cases h
  | int => cases h
  | str => cases h
  | ins => cases h
  | raw => cases h
  | rng => cases h
  | kl => cases h
  | dic => cases h
theorem resS_ok (r : RelM K F G M H) {v : V} {d : D} {ds : List D} (p : Rep K F v d) (h : resS M d = some ds) : ∃ a vs, v = .ref a ∧ (SqL K H a vs ∨ SqT K H a vs) ∧ Reps K F vs ds := by
  cases p with
  | tup s q => cases h; exact ⟨_, _, rfl, .inr (.inl (Same.rd r.fz (.inl s))), q⟩
  | lst s q => obtain ⟨a, vs, e, z, w⟩ := resL_ok r (Rep.lst s q) h; exact ⟨a, vs, e, .inl (.inl z), w⟩
  | obj a => obtain ⟨a, vs, e, z, w⟩ := resL_ok r (Rep.obj a) h; exact ⟨a, vs, e, .inl (.inl z), w⟩
  | non => cases h
  | bl => cases h
  | int => cases h
  | str => cases h
  | ins => cases h
  | raw => cases h
  | rng => cases h
  | kl => cases h
  | dic => cases h

/-! ### names, constants -/
def eVar (i : Nat) : TDE := fun ρ M Q => match ρ[i]? with
  | some (some d) => Q d M
  | _ => False
def eC (d : D) : TDE := fun _ M Q => Q d M
section
variable {X : Cx} {lo : Lo} {pos : Pos}
theorem de_var {i : Nat} {x : Str} (hN : X.N[i]? = some x) (hv : Vis X.env.scope x) (hd : (x == ("__debug__" : Str)) = false := by decide) (hcd : (x == ("__classdict__" : Str)) = false := by decide) : DPE X lo (.Name x pos) (eVar i) :=
  PE.of (pe_var hN hv hd hcd) fun σ H Qv ⟨F, G, ρ, M, Q, a, h, q⟩ => by
    unfold eVar at h
    split at h
    · rename_i d e
      obtain ⟨v, ev, r⟩ := a.env.get e
      exact ⟨v, ev, q v H F d M (Same.refl F) a.rel r h⟩
    · exact h.elim
theorem de_const {e : Expr} {v : V} {d : D} (h : PE X e (tC v)) (r : ∀ F, Rep X.K F v d) : DPE X lo e (eC d) :=
  PE.of h fun σ H Qv ⟨F, G, ρ, M, Q, a, h, q⟩ => q v H F d M (Same.refl F) a.rel (r F) h
theorem de_int {i : Int} {j} : DPE X lo (.Constant (.int i) j pos) (eC (.int i)) := de_const pe_int fun _ => .int i
theorem de_bl {i : Bool} {j} : DPE X lo (.Constant (.bool i) j pos) (eC (.bl i)) := de_const pe_bl fun _ => .bl i
theorem de_non {j} : DPE X lo (.Constant .none j pos) (eC .non) := de_const pe_non fun _ => .non
theorem de_str {x : Str} {j} : DPE X lo (.Constant (.str x) j pos) (eC (.str x)) := de_const pe_str fun _ => .str x
theorem de_globI {x : Str} {i : Int} {t : Tok} (hg : Gl X x) (hm : X.mg x = some (.int i t)) (hd : (x == ("__debug__" : Str)) = false := by decide) : DPE X lo (.Name x pos) (eC (.int i)) :=
  de_const (pe_glob (v := .int i) hg hm ⟨t, rfl⟩ hd) fun _ => .int i
theorem de_globR {x : Str} {a : Addr} (hg : Gl X x) (hm : X.mg x = some (.ref a)) (hd : (x == ("__debug__" : Str)) = false := by decide) : DPE X lo (.Name x pos) (eC (.raw (.ref a))) :=
  de_const (pe_glob (v := .ref a) hg hm rfl hd) fun _ => .raw _
theorem de_bltT {x : Str} {T : String} (hg : Gl X x) (hm : X.mg x = none) (hv : bootBuiltins x = some (.type T)) (hn : x ≠ "__name__" := by decide) (hd : (x == ("__debug__" : Str)) = false := by decide) : DPE X lo (.Name x pos) (eC (.raw (.ty T))) :=
  de_const (pe_bltn (v := .ty T) hg hm hv rfl hn hd) fun _ => .raw _
end

/-! ### operators by values -/
abbrev GD2 := D → D → Mm → (D → Mm → Prop) → Prop
abbrev GD1 := D → Mm → (D → Mm → Prop) → Prop
abbrev GDL := List D → Mm → (D → Mm → Prop) → Prop
def Kont (K : PySem.W.Frag) (F G : Hp) (Q : D → Mm → Prop) (Qv : VK) : Prop := ∀ v H' F' d M', Same F F' → RelM K F' G M' H' → Rep K F' v d → Q d M' → Qv v H'
def OkR2 (K : PySem.W.Frag) (r : R2) (g : GD2) : Prop := ∀ F G M H x y d e Q Qv, RelM K F G M H → Rep K F x d → Rep K F y e → g d e M Q → Kont K F G Q Qv → r x y H Qv
def OkR1 (K : PySem.W.Frag) (r : V → Hp → VK → Prop) (g : GD1) : Prop := ∀ F G M H x d Q Qv, RelM K F G M H → Rep K F x d → g d M Q → Kont K F G Q Qv → r x H Qv
def OkRL (K : PySem.W.Frag) (r : List V → Hp → VK → Prop) (g : GDL) : Prop := ∀ F G M H xs ds Q Qv, RelM K F G M H → Reps K F xs ds → g ds M Q → Kont K F G Q Qv → r xs H Qv
theorem Kont.here {Q : D → Mm → Prop} {Qv : VK} (k : Kont K F G Q Qv) (r : RelM K F G M H) {v : V} {d : D} (p : Rep K F v d) (q : Q d M) : Qv v H := k v H F d M (Same.refl F) r p q
theorem Kont.new {Q : D → Mm → Prop} {Qv : VK} (k : Kont K F G Q Qv) (r : RelM K F G M H) {p : Addr} {o : HO} {d : D} (hp : H p = none) (z : Same F (upd F p o) → Rep K (upd F p o) (.ref p) d) (q : Q d M) : Qv (.ref p) (upd H p o) :=
  have s := same_new (o := o) (r.free hp)
  k _ _ _ d M s (r.newF hp) (z s) q
def eOp2 (g : GD2) (ta tb : TDE) : TDE := fun ρ M Q => ta ρ M fun d M1 => tb ρ M1 fun e M2 => g d e M2 Q
def eOp1 (g : GD1) (ta : TDE) : TDE := fun ρ M Q => ta ρ M fun d M1 => g d M1 Q
def eCB (g : GDL) (t : TDA) : TDE := fun ρ M Q => t ρ M fun ds M1 => g ds M1 Q
def onB (P : Bool → Prop) : D → Prop
  | .bl k => P k
  | _ => False
@[simp] theorem onB_bl (P : Bool → Prop) (k : Bool) : onB P (.bl k) = P k := rfl
def tVal (t : TDE) : TDT := fun ρ M Q => t ρ M fun d M1 => onB (fun k => Q k M1) d
theorem onB_ok {P : Bool → Prop} {v : V} {d : D} (p : Rep K F v d) (h : onB P d) : ∃ k, v = .bl k ∧ d = .bl k ∧ P k := by
  cases p with
  | bl b => exact ⟨b, rfl, rfl, h⟩
  | non => exact h.elim
  | int => exact h.elim
  | str => exact h.elim
  | tup => exact h.elim
  | lst => exact h.elim
  | ins => exact h.elim
  | obj => exact h.elim
  | raw => exact h.elim
  | rng => exact h.elim
  | kl => exact h.elim
  | dic => exact h.elim
section
variable {X : Cx} {lo : Lo} {pos : Pos} {a b c : Expr} {ta tb : TDE}
theorem lift2 {r : R2} {g : GD2} (hk : OkR2 X.K r g) {σ : L2.St} {H : Hp} {Qv : VK} (h : liftE X.K lo (eOp2 g ta tb) σ H Qv) : tOp r (liftE X.K lo ta) (liftE X.K lo tb) σ H Qv := by
  obtain ⟨F, G, ρ, M, Q, a, h, q⟩ := h
  exact ⟨F, G, ρ, M, _, a, h, fun v H1 F1 d M1 s1 r1 p1 h1 => ⟨F1, G, ρ, M1, _, a.next s1 r1, h1, fun w H2 F2 e M2 s2 r2 p2 h2 =>
    hk F2 G M2 H2 v w d e Q Qv r2 (p1.mono s2) p2 h2 fun v H' F' d M' s r p z => q v H' F' d M' ((s1.trans s2).trans s) r p z⟩⟩
theorem de_op {op : Operator} {r : R2} {g : GD2} (ho : OpR X (binaryOp op) r) (hk : OkR2 X.K r g) (ha : DPE X lo a ta) (hb : DPE X lo b tb) : DPE X lo (.BinOp a op b pos) (eOp2 g ta tb) :=
  PE.of (pe_op ho ha hb) fun _ _ _ h => lift2 hk h
theorem de_cmp {op : CmpOp} {r : R2} {g : GD2} (ho : OpR X (compareOp op) r) (hk : OkR2 X.K r g) (ha : DPE X lo a ta) (hb : DPE X lo b tb) (hm : behindInMarks op b = false) : DPE X lo (.Compare a [op] [b] pos) (eOp2 g ta tb) :=
  PE.of (pe_cmpR ho ha hb hm) fun _ _ _ h => lift2 hk h
theorem dt_cmp {op : CmpOp} {r : R2} {g : GD2} (ho : OpR X (compareOp op) r) (hk : OkR2 X.K r g) (ha : DPE X lo a ta) (hb : DPE X lo b tb) (hm : behindInMarks op b = false) : DPT X lo (.Compare a [op] [b] pos) (tVal (eOp2 g ta tb)) :=
  PT.of (pt_cmpR ho ha hb hm) fun σ H Qv ⟨F, G, ρ, M, Q, a, h, q⟩ => lift2 hk ⟨F, G, ρ, M, _, a, h, fun v H' F' d M' s r p z => by
    obtain ⟨k, e, _, z⟩ := onB_ok p z
    exact ⟨k, e, q k H' F' M' s r z⟩⟩
theorem de_un {op : UnaryOp} {r : V → Hp → VK → Prop} {g : GD1} (ho : UnR X (unaryOp op) r) (hk : OkR1 X.K r g) (ha : DPE X lo a ta) : DPE X lo (.UnaryOp op a pos) (eOp1 g ta) :=
  PE.of (pe_un ho ha) fun σ H Qv ⟨F, G, ρ, M, Q, a, h, q⟩ => ⟨F, G, ρ, M, _, a, h, fun v H1 F1 d M1 s1 r1 p1 h1 => hk F1 G M1 H1 v d Q Qv r1 p1 h1 fun v H' F' d M' s r p z => q v H' F' d M' (s1.trans s) r p z⟩
/-- a value that is a bool, as a test -/
theorem dt_val {e : Expr} {t : TDE} (h : DPE X lo e t) (he : ∀ whole, isTrue e X.env whole = (do let v ← whole; standAt e.pos; holding [v] (truthy v)) := by intro _; rfl) : DPT X lo e (tVal t) :=
  PT.of (pt_val h he) fun σ H Qv ⟨F, G, ρ, M, Q, a, h, q⟩ => ⟨F, G, ρ, M, _, a, h, fun v H' F' d M' s r p z => by
    obtain ⟨k, e, _, z⟩ := onB_ok p z
    exact ⟨k, e, q k H' F' M' s r z⟩⟩
/-! chains a op b op c -/
def eCh (g g' : GD2) (ta tb tc : TDE) : TDE := fun ρ M Q => ta ρ M fun d M1 => tb ρ M1 fun e M2 => g d e M2 fun z M3 => onB (fun k => if k = true then tc ρ M3 fun f M4 => g' e f M4 Q else Q (.bl false) M3) z
theorem liftCh {tc : TDE} {r r' : R2} {g g' : GD2} (hk : OkR2 X.K r g) (hk' : OkR2 X.K r' g') {σ : L2.St} {H : Hp} {Qv : VK} (h : liftE X.K lo (eCh g g' ta tb tc) σ H Qv) : tChain r r' (liftE X.K lo ta) (liftE X.K lo tb) (liftE X.K lo tc) σ H Qv := by
  obtain ⟨F, G, ρ, M, Q, a, h, q⟩ := h
  refine ⟨F, G, ρ, M, _, a, h, fun v H1 F1 d M1 s1 r1 p1 h1 => ⟨F1, G, ρ, M1, _, a.next s1 r1, h1, fun w H2 F2 e M2 s2 r2 p2 h2 => ?_⟩⟩
  refine hk F2 G M2 H2 v w d e _ _ r2 (p1.mono s2) p2 h2 fun z H3 F3 zd M3 s3 r3 p3 h3 => ?_
  obtain ⟨k, e1, _, h3⟩ := onB_ok p3 h3
  refine ⟨k, e1, ?_⟩
  cases k with
  | true =>
    rw [if_pos rfl] at h3 ⊢
    refine ⟨F3, G, ρ, M3, _, (a.next s1 r1).next (s2.trans s3) r3, h3, fun u H4 F4 f M4 s4 r4 p4 h4 => ?_⟩
    exact hk' F4 G M4 H4 w u e f Q Qv r4 (p2.mono (s3.trans s4)) p4 h4 fun v H' F' d M' s r p z => q v H' F' d M' ((((s1.trans s2).trans s3).trans s4).trans s) r p z
  | false =>
    rw [if_neg Bool.false_ne_true] at h3 ⊢
    exact q _ H3 F3 _ M3 ((s1.trans s2).trans s3) r3 (.bl false) h3
theorem de_chain {op op' : CmpOp} {tc : TDE} {r r' : R2} {g g' : GD2} (ho : OpR X (compareOp op) r) (ho' : OpR X (compareOp op') r') (hk : OkR2 X.K r g) (hk' : OkR2 X.K r' g') (ha : DPE X lo a ta) (hb : DPE X lo b tb) (hc : DPE X lo c tc) (hm : lastMarks [op, op'] [b, c] = false := by rfl) : DPE X lo (.Compare a [op, op'] [b, c] pos) (eCh g g' ta tb tc) :=
  PE.of (pe_chain ho ho' ha hb hc hm) fun _ _ _ h => liftCh hk hk' h
theorem dt_chain {op op' : CmpOp} {tc : TDE} {r r' : R2} {g g' : GD2} (ho : OpR X (compareOp op) r) (ho' : OpR X (compareOp op') r') (hk : OkR2 X.K r g) (hk' : OkR2 X.K r' g') (ha : DPE X lo a ta) (hb : DPE X lo b tb) (hc : DPE X lo c tc) (hm : lastMarks [op, op'] [b, c] = false := by rfl) : DPT X lo (.Compare a [op, op'] [b, c] pos) (tVal (eCh g g' ta tb tc)) :=
  PT.of (pt_chain ho ho' ha hb hc hm) fun σ H Qv ⟨F, G, ρ, M, Q, a, h, q⟩ => liftCh hk hk' ⟨F, G, ρ, M, _, a, h, fun v H' F' d M' s r p z => by
    obtain ⟨k, e, _, z⟩ := onB_ok p z
    exact ⟨k, e, q k H' F' M' s r z⟩⟩
end
end DL

namespace DL
open PySem PySem.Spec PyProof.Rows L2
variable {K : PySem.W.Frag} {F F' F1 F2 G G' H H' H1 H2 : Hp} {M M' : Mm} {ρ ρ' : Rho} {σ σ' : L2.St}

/-! ### two ints -/
def gI (C : Int → Int → Prop) (f : Int → Int → D) : GD2 := fun d e M Q => match d, e with
  | .int i, .int j => C i j ∧ Q (f i j) M
  | _, _ => False
def gI0 (f : Int → Int → D) : GD2 := fun d e M Q => match d, e with
  | .int i, .int j => Q (f i j) M
  | _, _ => False
theorem rep_int {v : V} {d : D} (p : Rep K F v d) {i : Int} (h : d = .int i) : v = .int i := by subst h; cases p; rfl
theorem gI_inv {C : Int → Int → Prop} {f : Int → Int → D} {d e : D} {Q : D → Mm → Prop} (h : gI C f d e M Q) : ∃ i j, d = .int i ∧ e = .int j ∧ C i j ∧ Q (f i j) M := by
  unfold gI at h
  split at h
  · exact ⟨_, _, rfl, rfl, h.1, h.2⟩
  · exact h.elim
theorem gI0_inv {f : Int → Int → D} {d e : D} {Q : D → Mm → Prop} (h : gI0 f d e M Q) : ∃ i j, d = .int i ∧ e = .int j ∧ Q (f i j) M := by
  unfold gI0 at h
  split at h
  · exact ⟨_, _, rfl, rfl, h⟩
  · exact h.elim
theorem ok_I {C : Int → Int → Prop} {f : Int → Int → V} {f' : Int → Int → D} (hf : ∀ F i j, Rep K F (f i j) (f' i j)) : OkR2 K (rI C f) (gI C f') := fun F G M H x y d e Q Qv r p q h k => by
  obtain ⟨i, j, e1, e2, hc, h⟩ := gI_inv h
  exact ⟨i, j, rep_int p e1, rep_int q e2, hc, k.here r (hf F i j) h⟩
theorem ok_I0 {f : Int → Int → V} {f' : Int → Int → D} (hf : ∀ F i j, Rep K F (f i j) (f' i j)) : OkR2 K (rI0 f) (gI0 f') := fun F G M H x y d e Q Qv r p q h k => by
  obtain ⟨i, j, e1, e2, h⟩ := gI0_inv h
  exact ⟨i, j, rep_int p e1, rep_int q e2, k.here r (hf F i j) h⟩
def gSub : GD2 := gI0 fun i j => .int (i - j)
/-- no great number -/
def Sm (i : Int) : Prop := i.natAbs < 2 ^ 200
theorem Sm.of {i : Int} (h1 : -10 ^ 50 ≤ i) (h2 : i ≤ 10 ^ 50) : Sm i := by
  have : (10 : Nat) ^ 50 < 2 ^ 200 := by decide +kernel
  unfold Sm
  omega
def gFdiv : GD2 := gI (fun _ j => 0 < j ∧ Sm j) fun i j => .int (i / j)
def gMod : GD2 := gI (fun _ j => 0 < j) fun i j => .int (i % j)
def gPow : GD2 := gI CPow fun i j => .int (i ^ j.toNat)
def gLt : GD2 := gI0 fun i j => .bl (decide (i < j))
def gLe : GD2 := gI0 fun i j => .bl (decide (i ≤ j))
def gGt : GD2 := gI0 fun i j => .bl (decide (j < i))
def gGe : GD2 := gI0 fun i j => .bl (decide (j ≤ i))
def rFdivW : R2 := rI (fun _ j => 0 < j ∧ Sm j) fun i j => .int (i / j)
section
variable {X : Cx}
theorem op_fdivX : OpR X (binaryOp .FloorDiv) rFdivW := fun pins s σ H x y v u Q I rx ry ⟨i, j, e1, e2, hc, q⟩ => op_fdivW pins s σ H x y v u Q I rx ry ⟨i, j, e1, e2, wide_div hc.1 hc.2 (by decide) (by decide), q⟩
theorem ok_sub : OkR2 K (rI0 fun i j => .int (i - j)) gSub := ok_I0 fun _ _ _ => .int _
theorem ok_fdiv : OkR2 K rFdivW gFdiv := ok_I fun _ _ _ => .int _
theorem ok_mod : OkR2 K (rI (fun _ j => 0 < j) fun i j => .int (i % j)) gMod := ok_I fun _ _ _ => .int _
theorem ok_pow : OkR2 K (rI CPow fun i j => .int (i ^ j.toNat)) gPow := ok_I fun _ _ _ => .int _
theorem ok_lt : OkR2 K (rI0 fun i j => .bl (decide (i < j))) gLt := ok_I0 fun _ _ _ => .bl _
theorem ok_le : OkR2 K (rI0 fun i j => .bl (decide (i ≤ j))) gLe := ok_I0 fun _ _ _ => .bl _
theorem ok_gt : OkR2 K (rI0 fun i j => .bl (decide (j < i))) gGt := ok_I0 fun _ _ _ => .bl _
theorem ok_ge : OkR2 K (rI0 fun i j => .bl (decide (j ≤ i))) gGe := ok_I0 fun _ _ _ => .bl _

/-! ### + -/
theorem lstR {pins : List (Addr × Obj)} {s : Shared} {σ : L2.St} {H : Hp} {l : Addr} {xs : List V} (I : Inv X pins σ H s) (h : Rd H l (.lst xs)) : xs.length ≤ sizeLine ∧ ∃ (its : List Value) (n : Nat), Vals xs its ∧ xs.length = its.length ∧ s.heap.get? l = some { cls := .type "list", data := .seq its.toArray n } := by
  obtain ⟨z, its, n, r, e⟩ := h.ok I.hok
  exact ⟨z, its, n, r, r.length, e⟩
def rCatR (K : PySem.W.Frag) : R2 := fun x y H Q => ∃ l b xs zs, x = .ref l ∧ y = .ref b ∧ Rd H l (.lst xs) ∧ SqL K H b zs ∧ xs.length + zs.length ≤ sizeLine ∧ ∀ p, H p = none → Q (.ref p) (upd H p (.lst (xs ++ zs)))
theorem op_catR : OpR X (binaryOp .Add) (rCatR X.K) := by
  intro pins s σ H x y v u Q I rx ry h
  obtain ⟨l, b, xs, zs, rfl, rfl, hH, hB, hz, q⟩ := h
  cases rx
  cases ry
  obtain ⟨its, r, pl, _⟩ := I.list (.inl hH)
  obtain ⟨its2, r2, pl2, _⟩ := I.list hB
  obtain ⟨⟨cls, dd, data, sl⟩, ho, hc, n, hd⟩ := pl.isList
  obtain ⟨⟨cls2, dd2, data2, sl2⟩, ho2, hc2, n2, hd2⟩ := pl2.isList
  simp only at hc hd hc2 hd2
  subst hc hd hc2 hd2
  have hl := r.length
  have hl2 := r2.length
  have ea : its.toArray ++ its2.toArray = (its ++ its2).toArray := by simp
  refine concat_meets ⟨_, ho, rfl⟩ ⟨_, ho2, rfl⟩ noFill_list_add seq_list_add F.slot_list_add F.entry_list_add (F.args_list_add_2 _ _) (list_addW l b its.toArray its2.toArray n n2 dd dd2 sl sl2 (by rw [List.size_toArray, List.size_toArray]; omega)) ⟨ho, ho2, ?_⟩
  rw [ea]
  exact ⟨.ref _, _, I.lnew (t' := s.toks) (r.append r2) (by rw [List.length_append]; omega), rfl, q _ I.fresh⟩
abbrev rAddI : R2 := rI0 fun i j => .int (i + j)
def rAddS : R2 := fun x y H Q => ∃ i j, x = .str i ∧ y = .str j ∧ i.length + j.length ≤ sizeLine ∧ Q (.str (i ++ j)) H
def rAddX (K : PySem.W.Frag) : R2 := fun x y H Q => rAddI x y H Q ∨ (rCatA K x y H Q ∨ (rCatR K x y H Q ∨ rAddS x y H Q))
theorem op_addX : OpR X (binaryOp .Add) (rAddX X.K) := OpR.or op_add (OpR.or op_catA (OpR.or op_catR op_add_str))
def gAddL : GD2 := fun d e M Q => match resL M d, resL M e with
  | some a, some b => a.length + b.length ≤ sizeLine ∧ Q (.lst (a ++ b)) M
  | _, _ => False
def gAddK : List D → List Int → Mm → (D → Mm → Prop) → Prop := fun a ns M Q => a.length + ns.length ≤ sizeLine ∧ Q (.lst (a ++ ns.map .int)) M
def gAdd : GD2 := fun d e M Q => match d, e with
  | .int i, .int j => Q (.int (i + j)) M
  | .tup a, .tup b => a.length + b.length ≤ sizeLine ∧ Q (.tup (a ++ b)) M
  | .str a, .str b => a.length + b.length ≤ sizeLine ∧ Q (.str (a ++ b)) M
  | .lst a, .kl ns => gAddK a ns M Q
  | d, e => gAddL d e M Q
theorem ok_add : OkR2 K (rAddX K) gAdd := fun F G M H x y d e Q Qv r p q h k => by
  unfold gAdd at h
  split at h
  · cases p; cases q
    exact .inl ⟨_, _, rfl, rfl, k.here r (.int _) h⟩
  · obtain ⟨hz, h⟩ := h
    cases p with
    | @tup a vs _ sa ra =>
      cases q with
      | @tup b ws _ sb rb =>
        have la := ra.length
        have lb := rb.length
        refine .inr (.inl ⟨a, b, vs, ws, rfl, rfl, (.inl (Same.rd r.fz (.inl sa))), (.inl (Same.rd r.fz (.inl sb))), by omega, fun e => ?_, fun _ e => ?_, fun _ _ p hp => ?_⟩)
        · subst e; cases ra
          exact k.here r (.tup sb rb) (by simpa using h)
        · subst e; cases rb
          exact k.here r (.tup sa ra) (by simpa using h)
        · exact k.new r hp (fun s => .tup upd_same ((ra.append rb).mono s)) h
  · cases p; cases q
    obtain ⟨hz, h⟩ := h
    exact .inr (.inr (.inr ⟨_, _, rfl, rfl, hz, k.here r (.str _) h⟩))
  · obtain ⟨hz, h⟩ := h
    cases q with
    | @kl b _ sb =>
      cases p with
      | @lst l vs _ sa ra =>
        have la := ra.length
        exact .inr (.inr (.inl ⟨l, b, vs, _, rfl, rfl, Same.rd r.fz sa, r.fz.seq sb, by rw [List.length_map]; omega, fun p hp => k.new r hp (fun s => .lst (.inl upd_same) ((ra.append (Reps.of_ints _)).mono s)) h⟩))
  · unfold gAddL at h
    split at h
    · rename_i a b ea eb
      obtain ⟨hz, h⟩ := h
      obtain ⟨l, vs, e1, s1, r1⟩ := resL_ok r p ea
      obtain ⟨m, ws, e2, s2, r2⟩ := resL_ok r q eb
      have la := r1.length
      have lb := r2.length
      exact .inr (.inr (.inl ⟨l, m, vs, ws, e1, e2, s1, .inl s2, by omega, fun p hp => k.new r hp (fun s => .lst (.inl upd_same) ((r1.append r2).mono s)) h⟩))
    · exact h.elim

/-! ### * : ints, a tuple times an int -/
theorem tuple_mul1 (l : Addr) (items : Array Value) (n : Nat) (dd : Option Addr) (sl : Array (Option Value)) (u : Tok) :
    Meets (Builtin.«tuple.__mul__» ⟨[.ref l, .int 1 u], []⟩) (fun _ R s => s.heap.get? l = some { cls := .type "tuple", dict := dd, data := .seq items n, slots := sl } ∧ R (.ok (.ret (Value.ref l))) s) :=
  .of_wp fun prog w A R s h => by
    obtain ⟨hp, g, d, tk, os⟩ := s
    obtain ⟨hl, h⟩ := h
    have f1 := AutoSeq1.idx_int
    wp_walk using wpAny_loadPart' hl
    exact ⟨_, rfl, h⟩
def rRep1 (K : PySem.W.Frag) : R2 := fun x y H Q => ∃ l xs, x = .ref l ∧ y = .int 1 ∧ SqT K H l xs ∧ Q (.ref l) H
theorem op_rep1 : OpR X (binaryOp .Mult) (rRep1 X.K) := by
  intro pins s σ H x y v u Q I rx ry h
  obtain ⟨l, xs, rfl, rfl, hT, q⟩ := h
  cases rx
  obtain ⟨t, rfl⟩ := ry
  obtain ⟨its, r, ⟨⟨cls, dd, data, sl⟩, ho, hc, n, hd⟩, hs⟩ := I.tuple hT
  simp only at hc hd
  subst hc hd
  refine wpAny_binaryOp_repeat_ref (T := "tuple") (U := "int") (by decide) ⟨_, ho, rfl⟩ (fun s' => typeIs_int s' 1 t) noFill_tuple_mul F.fills_int_mul F.slot_int_rmul repeat_tuple F.slot_int_index.lookup
    (call_meets F.slot_int_rmul (typeIs_int s 1 t) F.entry_int_rmul (F.args_int_rmul_2 _ _) (int_rmul_tuple 1 t l its.toArray n dd sl)
      ⟨ho, rfl, ⟨_, ho, rfl⟩, call_meets F.slot_tuple_mul ⟨_, ho, rfl⟩ F.entry_tuple_mul (F.args_tuple_mul_2 _ _) (tuple_mul1 l its.toArray n dd sl t) ⟨ho, ?_⟩⟩)
  exact ⟨.ref l, _, I, rfl, q⟩
def rMulX (K : PySem.W.Frag) : R2 := fun x y H Q => rI CMulW (fun i j => .int (i * j)) x y H Q ∨ (rRep1 K x y H Q ∨ rRepT K x y H Q)
theorem op_mulX : OpR X (binaryOp .Mult) (rMulX X.K) := OpR.or op_mulW (OpR.or op_rep1 op_repT)
def gMul : GD2 := fun d e M Q => match d, e with
  | .int i, .int j => (Sm i ∧ Sm j) ∧ Q (.int (i * j)) M
  | .tup a, .int k => (a ≠ [] ∧ 1 ≤ k ∧ k ≤ 1000 ∧ a.length ≤ 1000) ∧ Q (.tup (List.replicate k.toNat a).flatten) M
  | _, _ => False
theorem Reps.flat {vs : List V} {ds : List D} (r : Reps K F vs ds) : ∀ k : Nat, Reps K F (List.replicate k vs).flatten (List.replicate k ds).flatten
  | 0 => .nil
  | k + 1 => by rw [List.replicate_succ, List.replicate_succ, List.flatten_cons, List.flatten_cons]; exact r.append (Reps.flat r k)
theorem ok_mul : OkR2 K (rMulX K) gMul := fun F G M H x y d e Q Qv r p q h k => by
  unfold gMul at h
  split at h
  · cases p; cases q
    exact .inl ⟨_, _, rfl, rfl, wide_mul (a := 200) (b := 200) h.1.1 h.1.2 (by decide) (by decide) (by decide), k.here r (.int _) h.2⟩
  · obtain ⟨⟨h0, h1, h2, h3⟩, h⟩ := h
    cases q
    cases p with
    | @tup a vs _ sa ra =>
      have la := ra.length
      rename_i ds kk
      by_cases e1 : kk = 1
      · subst e1
        refine .inr (.inl ⟨a, vs, rfl, rfl, (.inl (Same.rd r.fz (.inl sa))), k.here r (.tup sa ra) ?_⟩)
        have : (List.replicate (1 : Int).toNat ds).flatten = ds := by simp
        rw [this] at h; exact h
      · refine .inr (.inr ⟨a, kk, vs, rfl, rfl, (.inl (Same.rd r.fz (.inl sa))), fun z => h0 ?_, by omega, h2, by omega, fun p hp => k.new r hp (fun s => .tup upd_same ((ra.flat _).mono s)) h⟩)
        subst z; cases ra; rfl
  · exact h.elim

/-! ### - of an int -/
def gNeg : GD1 := fun d M Q => match d with
  | .int i => Q (.int (-i)) M
  | _ => False
theorem ok_neg : OkR1 K (rU fun i => .int (-i)) gNeg := fun F G M H x d Q Qv r p h k => by
  unfold gNeg at h
  split at h
  · cases p; exact ⟨_, rfl, k.here r (.int _) h⟩
  · exact h.elim

/-! ### == , != -/
mutual
def D.py : D → Option PyData
  | .non => some .none
  | .bl b => some (.bool b)
  | .int i => some (.int i)
  | .str x => some (.str x)
  | .tup ds => (D.pys ds).map .tuple
  | .lst ds => (D.pys ds).map .list
  | .ins _ _ => none
  | .obj _ => none
  | .raw _ => none
  | .rng _ _ => none
  | .kl _ => none
  | .dic _ => none
def D.pys : List D → Option (List PyData)
  | [] => some []
  | d :: r => match D.py d, D.pys r with
    | some a, some b => some (a :: b)
    | _, _ => none
end
def pyM (M : Mm) : D → Option PyData
  | .obj a => match lstOf (M.lookup a) with
    | some ds => (D.pys ds).map .list
    | none => none
  | d => d.py
mutual
theorem py_ok (hs : Same F H) : ∀ (d : D) (v : V) (a : PyData), Rep K F v d → d.py = some a → Dp K H v a
  | .non, _, _, p, h => by cases p; unfold D.py at h; cases h; exact .non
  | .bl b, _, _, p, h => by cases p; unfold D.py at h; cases h; exact .bl b
  | .int b, _, _, p, h => by cases p; unfold D.py at h; cases h; exact .int b
  | .str b, _, _, p, h => by cases p; unfold D.py at h; cases h; exact .str b
  | .tup ds, _, a, p, h => by
    unfold D.py at h
    obtain ⟨as, e, rfl⟩ := Option.map_eq_some_iff.mp h
    cases p with
    | tup s r => exact .tup (.inl (Same.rd hs (.inl s))) (pys_ok hs ds _ as r e)
  | .lst ds, _, a, p, h => by
    unfold D.py at h
    obtain ⟨as, e, rfl⟩ := Option.map_eq_some_iff.mp h
    cases p with
    | lst s r => exact .lst (.inl (Same.rd hs s)) (pys_ok hs ds _ as r e)
  | .ins _ _, _, _, _, h => by unfold D.py at h; cases h
  | .obj _, _, _, _, h => by unfold D.py at h; cases h
  | .raw _, _, _, _, h => by unfold D.py at h; cases h
  | .rng _ _, _, _, _, h => by unfold D.py at h; cases h
  | .kl _, _, _, _, h => by unfold D.py at h; cases h
  | .dic _, _, _, _, h => by unfold D.py at h; cases h
theorem pys_ok (hs : Same F H) : ∀ (ds : List D) (vs : List V) (as : List PyData), Reps K F vs ds → D.pys ds = some as → DpAll K H vs as
  | [], _, _, p, h => by cases p; unfold D.pys at h; cases h; exact .nil
  | d :: r, _, as, p, h => by
    unfold D.pys at h
    split at h
    · rename_i a b ea eb
      cases h
      cases p with
      | cons p1 p2 => exact .cons (py_ok hs d _ a p1 ea) (pys_ok hs r _ b p2 eb)
    · cases h
end
theorem pyM_ok (r : RelM K F G M H) {d : D} {v : V} {a : PyData} (p : Rep K F v d) (h : pyM M d = some a) : Dp K H v a := by
  cases d with
  | obj b =>
    cases p
    unfold pyM at h
    simp only at h
    cases e : lstOf (M.lookup b) with
    | none => rw [e] at h; cases h
    | some ds =>
      rw [e] at h
      obtain ⟨as, e2, rfl⟩ := Option.map_eq_some_iff.mp h
      obtain ⟨c, vs, e3, s, q⟩ := resL_ok (d := .obj b) r (Rep.obj b) e
      cases e3
      exact .lst (.inl s) (pys_ok r.fz ds vs as q e2)
  | _ => exact py_ok r.fz _ _ _ p h
def gEq : GD2 := fun d e M Q => ∃ a b, pyM M d = some a ∧ pyM M e = some b ∧ SeqAt.shaped a = true ∧ SeqAt.shaped b = true ∧ Q (.bl (PyData.eqv a b)) M
def gNe : GD2 := fun d e M Q => ∃ a b, pyM M d = some a ∧ pyM M e = some b ∧ SeqAt.shaped a = true ∧ SeqAt.shaped b = true ∧ Q (.bl (!PyData.eqv a b)) M
theorem ok_eq : OkR2 K (rEqD K) gEq := fun F G M H x y d e Q Qv r p q ⟨a, b, ea, eb, sa, sb, h⟩ k => ⟨a, b, pyM_ok r p ea, pyM_ok r q eb, sa, sb, k.here r (.bl _) h⟩
theorem ok_ne : OkR2 K (rNeD K) gNe := fun F G M H x y d e Q Qv r p q ⟨a, b, ea, eb, sa, sb, h⟩ k => ⟨a, b, pyM_ok r p ea, pyM_ok r q eb, sa, sb, k.here r (.bl _) h⟩

/-! ### is, is not -/
def D.isNon : D → Bool
  | .non => true
  | .raw v => decide (v = .non)
  | _ => false
theorem isNon_ok {v : V} {d : D} (p : Rep K F v d) : d.isNon = decide (v = .non) := by cases p <;> rfl
def rIsX : R2 := fun x y H Q => (y = .non ∧ Q (.bl (decide (x = .non))) H) ∨ rIsB x y H Q
def rNotX : R2 := fun x y H Q => (y = .non ∧ Q (.bl (!decide (x = .non))) H) ∨ rNotB x y H Q
theorem op_isX : OpR X (compareOp .Is) rIsX := OpR.or op_isN op_isBl
theorem op_notX : OpR X (compareOp .IsNot) rNotX := OpR.or op_notN op_notBl
def gIs : GD2 := fun d e M Q => match d, e with
  | d, .non => Q (.bl d.isNon) M
  | .bl a, .bl b => Q (.bl (decide (a = b))) M
  | _, _ => False
def gIsNot : GD2 := fun d e M Q => match d, e with
  | d, .non => Q (.bl (!d.isNon)) M
  | .bl a, .bl b => Q (.bl (!decide (a = b))) M
  | _, _ => False
theorem ok_is : OkR2 K rIsX gIs := fun F G M H x y d e Q Qv r p q h k => by
  unfold gIs at h
  split at h
  · cases q
    rw [isNon_ok p] at h
    exact .inl ⟨rfl, k.here r (.bl _) h⟩
  · cases p; cases q
    exact .inr ⟨_, _, rfl, rfl, k.here r (.bl _) h⟩
  · exact h.elim
theorem ok_isNot : OkR2 K rNotX gIsNot := fun F G M H x y d e Q Qv r p q h k => by
  unfold gIsNot at h
  split at h
  · cases q
    rw [isNon_ok p] at h
    exact .inl ⟨rfl, k.here r (.bl _) h⟩
  · cases p; cases q
    exact .inr ⟨_, _, rfl, rfl, k.here r (.bl _) h⟩
  · exact h.elim
end
end DL

namespace DL
open PySem PySem.Spec PyProof.Rows L2
variable {K : PySem.W.Frag} {F F' F1 F2 G G' H H' H1 H2 : Hp} {M M' : Mm} {ρ ρ' : Rho} {σ σ' : L2.St}

/-! ### tests -/
def dAnd (t u : TDT) : TDT := fun ρ M Q => t ρ M fun c M1 => if c = true then u ρ M1 Q else Q false M1
def dOr (t u : TDT) : TDT := fun ρ M Q => t ρ M fun c M1 => if c = true then Q true M1 else u ρ M1 Q
def dNot (t : TDT) : TDT := fun ρ M Q => t ρ M fun c M1 => Q (!c) M1
def eAnd (ta tb : TDE) : TDE := fun ρ M Q => ta ρ M fun d M1 => onB (fun c => if c = true then tb ρ M1 Q else Q (.bl false) M1) d
def eOr (ta tb : TDE) : TDE := fun ρ M Q => ta ρ M fun d M1 => onB (fun c => if c = true then Q (.bl true) M1 else tb ρ M1 Q) d
def eNot (ta : TDE) : TDE := fun ρ M Q => ta ρ M fun d M1 => onB (fun c => Q (.bl (!c)) M1) d
def eIf (t : TDT) (ta tb : TDE) : TDE := fun ρ M Q => t ρ M fun c M1 => if c = true then ta ρ M1 Q else tb ρ M1 Q
section
variable {X : Cx} {lo : Lo} {pos : Pos} {a b c e : Expr} {ta tb te : TDE} {tA tB' : TDT} {rest es : List Expr}
theorem dw_pt {e : Expr} {t : TDT} (h : DPW X lo e t) : DPT X lo e t := PW.pt h
theorem dw_and1 (ha : DPT X lo a tA) : DPW X lo (.BoolOp .And [a] pos) tA := pw_and1 ha
theorem dw_or1 (ha : DPT X lo a tA) : DPW X lo (.BoolOp .Or [a] pos) tA := pw_or1 ha
theorem dw_and (ha : DPT X lo a tA) (hb : DPW X lo (.BoolOp .And (b :: rest) pos) tB') : DPW X lo (.BoolOp .And (a :: b :: rest) pos) (dAnd tA tB') :=
  PW.of (pw_and ha hb) fun σ H Qv ⟨F, G, ρ, M, Q, a, h, q⟩ => ⟨F, G, ρ, M, _, a, h, fun k H1 F1 M1 s1 r1 h1 => by
    cases k with
    | true => exact ⟨F1, G, ρ, M1, _, a.next s1 r1, h1, fun b H' F' M' s r z => q b H' F' M' (s1.trans s) r z⟩
    | false => exact q false H1 F1 M1 s1 r1 h1⟩
theorem dw_or (ha : DPT X lo a tA) (hb : DPW X lo (.BoolOp .Or (b :: rest) pos) tB') : DPW X lo (.BoolOp .Or (a :: b :: rest) pos) (dOr tA tB') :=
  PW.of (pw_or ha hb) fun σ H Qv ⟨F, G, ρ, M, Q, a, h, q⟩ => ⟨F, G, ρ, M, _, a, h, fun k H1 F1 M1 s1 r1 h1 => by
    cases k with
    | false => exact ⟨F1, G, ρ, M1, _, a.next s1 r1, h1, fun b H' F' M' s r z => q b H' F' M' (s1.trans s) r z⟩
    | true => exact q true H1 F1 M1 s1 r1 h1⟩
theorem dt_not (ha : DPT X lo a tA) : DPT X lo (.UnaryOp .Not a pos) (dNot tA) :=
  PT.of (pt_not ha) fun σ H Qv ⟨F, G, ρ, M, Q, a, h, q⟩ => ⟨F, G, ρ, M, _, a, h, fun k H1 F1 M1 s1 r1 h1 => q (!k) H1 F1 M1 s1 r1 h1⟩
theorem de_one {op} {t : TDE} (h : DPE X lo a t) : DPE X lo (.BoolOp op [a] pos) t := pe_one h
theorem de_and (ha : DPE X lo a ta) (hb : DPE X lo (.BoolOp .And (b :: rest) pos) tb) : DPE X lo (.BoolOp .And (a :: b :: rest) pos) (eAnd ta tb) :=
  PE.of (pe_and ha hb) fun σ H Qv ⟨F, G, ρ, M, Q, a, h, q⟩ => ⟨F, G, ρ, M, _, a, h, fun v H1 F1 d M1 s1 r1 p1 h1 => by
    obtain ⟨k, e1, _, h1⟩ := onB_ok p1 h1
    refine ⟨k, e1, ?_⟩
    cases k with
    | true => exact ⟨F1, G, ρ, M1, _, a.next s1 r1, h1, fun v H' F' d M' s r p z => q v H' F' d M' (s1.trans s) r p z⟩
    | false => exact q _ H1 F1 _ M1 s1 r1 (.bl false) h1⟩
theorem de_or (ha : DPE X lo a ta) (hb : DPE X lo (.BoolOp .Or (b :: rest) pos) tb) : DPE X lo (.BoolOp .Or (a :: b :: rest) pos) (eOr ta tb) :=
  PE.of (pe_or ha hb) fun σ H Qv ⟨F, G, ρ, M, Q, a, h, q⟩ => ⟨F, G, ρ, M, _, a, h, fun v H1 F1 d M1 s1 r1 p1 h1 => by
    obtain ⟨k, e1, _, h1⟩ := onB_ok p1 h1
    refine ⟨k, e1, ?_⟩
    cases k with
    | false => exact ⟨F1, G, ρ, M1, _, a.next s1 r1, h1, fun v H' F' d M' s r p z => q v H' F' d M' (s1.trans s) r p z⟩
    | true => exact q _ H1 F1 _ M1 s1 r1 (.bl true) h1⟩
theorem de_not (ha : DPE X lo a ta) : DPE X lo (.UnaryOp .Not a pos) (eNot ta) :=
  PE.of (pe_not ha) fun σ H Qv ⟨F, G, ρ, M, Q, a, h, q⟩ => ⟨F, G, ρ, M, _, a, h, fun v H1 F1 d M1 s1 r1 p1 h1 => by
    obtain ⟨k, e1, _, h1⟩ := onB_ok p1 h1
    exact ⟨k, e1, q _ H1 F1 _ M1 s1 r1 (.bl _) h1⟩⟩
theorem de_if (hc : DPT X lo c tA) (ha : DPE X lo a ta) (hb : DPE X lo b tb) : DPE X lo (.IfExp c a b pos) (eIf tA ta tb) :=
  PE.of (pe_ifExp hc ha hb) fun σ H Qv ⟨F, G, ρ, M, Q, a, h, q⟩ => ⟨F, G, ρ, M, _, a, h, fun k H1 F1 M1 s1 r1 h1 => by
    cases k with
    | true => exact ⟨F1, G, ρ, M1, _, a.next s1 r1, h1, fun v H' F' d M' s r p z => q v H' F' d M' (s1.trans s) r p z⟩
    | false => exact ⟨F1, G, ρ, M1, _, a.next s1 r1, h1, fun v H' F' d M' s r p z => q v H' F' d M' (s1.trans s) r p z⟩⟩

/-! ### arguments, displays -/
def aNil : TDA := fun _ M Q => Q [] M
def aCons (t : TDE) (u : TDA) : TDA := fun ρ M Q => t ρ M fun d M1 => u ρ M1 fun ds M2 => Q (d :: ds) M2
theorem da_nil : DPA X lo [] aNil := PA.of pa_nil fun σ H Qv ⟨F, G, ρ, M, Q, a, h, q⟩ => q [] H F [] M (Same.refl F) a.rel .nil h
theorem da_cons {u : TDA} (ha : DPE X lo e te) (hr : DPA X lo es u) (hs : starEach (e :: es) X.env = (false, eval e X.env) :: starEach es X.env := by rfl) : DPA X lo (e :: es) (aCons te u) :=
  PA.of (pa_cons ha hr hs) fun σ H Qv ⟨F, G, ρ, M, Q, a, h, q⟩ => ⟨F, G, ρ, M, _, a, h, fun v H1 F1 d M1 s1 r1 p1 h1 => ⟨F1, G, ρ, M1, _, a.next s1 r1, h1, fun vs H' F' ds M' s r p z =>
    q (v :: vs) H' F' (d :: ds) M' (s1.trans s) r (.cons (p1.mono s) p) z⟩⟩
def eTup (t : TDA) : TDE := fun ρ M Q => t ρ M fun ds M1 => ds.length ≤ sizeLine ∧ Q (.tup ds) M1
def eLst (t : TDA) : TDE := fun ρ M Q => t ρ M fun ds M1 => ds.length ≤ sizeLine ∧ Q (.lst ds) M1
/-- a list that will be changed -/
def eLstO (t : TDA) : TDE := fun ρ M Q => t ρ M fun ds M1 => ds.length ≤ sizeLine ∧ ∀ a, M1.lookup a = none → Q (.obj a) ((a, .lst ds) :: M1)
theorem lookup_none {a : Addr} : ∀ {M : Mm}, (∀ q ∈ M, q.1 ≠ a) → M.lookup a = none
  | [], _ => rfl
  | (b, m) :: r, h => by
    have hb : a ≠ b := fun e => h (b, m) List.mem_cons_self e.symm
    rw [lookup_under m r hb]
    exact lookup_none fun q hq => h q (List.mem_cons_of_mem _ hq)
theorem RelM.lookup_new (r : RelM K F G M H) {p : Addr} (h : H p = none) : M.lookup p = none := lookup_none fun q hq => r.ne h hq
theorem de_tup {x1} {t : TDA} (h : DPA X lo es t) : DPE X lo (.Tuple es x1 pos) (eTup t) :=
  PE.of (pe_tup h) fun σ H Qv ⟨F, G, ρ, M, Q, a, h, q⟩ => ⟨F, G, ρ, M, _, a, h, fun vs H1 F1 ds M1 s1 r1 p1 h1 =>
    ⟨by rw [p1.length]; exact h1.1, fun p hp => q _ _ _ (.tup ds) M1 (s1.trans (same_new (r1.free hp))) (r1.newF hp) (.tup upd_same (p1.mono (same_new (r1.free hp)))) h1.2⟩⟩
theorem de_lst {t : TDA} (h : DPA X lo es t) : DPE X lo (.List es pos) (eLst t) :=
  PE.of (pe_lst h) fun σ H Qv ⟨F, G, ρ, M, Q, a, h, q⟩ => ⟨F, G, ρ, M, _, a, h, fun vs H1 F1 ds M1 s1 r1 p1 h1 =>
    ⟨by rw [p1.length]; exact h1.1, fun p hp => q _ _ _ (.lst ds) M1 (s1.trans (same_new (r1.free hp))) (r1.newF hp) (.lst (.inl upd_same) (p1.mono (same_new (r1.free hp)))) h1.2⟩⟩
theorem de_lstO {t : TDA} (h : DPA X lo es t) : DPE X lo (.List es pos) (eLstO t) :=
  PE.of (pe_lst h) fun σ H Qv ⟨F, G, ρ, M, Q, a, h, q⟩ => ⟨F, G, ρ, M, _, a, h, fun vs H1 F1 ds M1 s1 r1 p1 h1 =>
    ⟨by rw [p1.length]; exact h1.1, fun p hp => q _ _ F1 (.obj p) ((p, .lst ds) :: M1) s1 (r1.newM hp (.lst p1)) (.obj p) (h1.2 p (r1.lookup_new hp))⟩⟩

/-! ### built-in functions and types by values -/
theorem de_callB {x : Str} {p : Pos} {id : String} {r : List V → Hp → VK → Prop} {g : GDL} {t : TDA} (hc : CallR X (.builtin id) r) (hk : OkRL X.K r g) (hg : Gl X x) (hm : X.mg x = none) (hv : bootBuiltins x = some (.builtin id)) (ha : DPA X lo (e :: es) t)
    (hn : x ≠ "__name__" := by decide) (hdb : (x == ("__debug__" : Str)) = false := by decide)
    (he : starEach (e :: es) X.env = (false, eval e X.env) :: starEach es X.env := by rfl) (hpl : (backTo pos (starEach es X.env)).any (·.1) = false := by rfl) : DPE X lo (.Call (.Name x p) (e :: es) [] pos) (eCB g t) :=
  PE.of (pe_callB hc hg hm hv ha hn hdb he hpl) fun σ H Qv ⟨F, G, ρ, M, Q, a, h, q⟩ => ⟨F, G, ρ, M, _, a, h, fun vs H1 F1 ds M1 s1 r1 p1 h1 =>
    hk F1 G M1 H1 vs ds Q Qv r1 p1 h1 fun v H' F' d M' s r p z => q v H' F' d M' (s1.trans s) r p z⟩
theorem de_callTy {x : Str} {p : Pos} {T : String} {r : List V → Hp → VK → Prop} {g : GDL} {t : TDA} (hc : CallR X (.type T) r) (hk : OkRL X.K r g) (hg : Gl X x) (hm : X.mg x = none) (hv : bootBuiltins x = some (.type T)) (ha : DPA X lo (e :: es) t)
    (hn : x ≠ "__name__" := by decide) (hdb : (x == ("__debug__" : Str)) = false := by decide)
    (he : starEach (e :: es) X.env = (false, eval e X.env) :: starEach es X.env := by rfl) (hpl : (backTo pos (starEach es X.env)).any (·.1) = false := by rfl) : DPE X lo (.Call (.Name x p) (e :: es) [] pos) (eCB g t) :=
  PE.of (pe_callTy hc hg hm hv ha hn hdb he hpl) fun σ H Qv ⟨F, G, ρ, M, Q, a, h, q⟩ => ⟨F, G, ρ, M, _, a, h, fun vs H1 F1 ds M1 s1 r1 p1 h1 =>
    hk F1 G M1 H1 vs ds Q Qv r1 p1 h1 fun v H' F' d M' s r p z => q v H' F' d M' (s1.trans s) r p z⟩
end
/-- one argument -/
def on1 (g : GD1) : GDL := fun ds M Q => match ds with
  | [d] => g d M Q
  | _ => False
def on2 (g : GD2) : GDL := fun ds M Q => match ds with
  | [d, e] => g d e M Q
  | _ => False
theorem on1_inv {g : GD1} {ds : List D} {Q : D → Mm → Prop} {xs : List V} (p : Reps K F xs ds) (h : on1 g ds M Q) : ∃ v d, xs = [v] ∧ Rep K F v d ∧ g d M Q := by
  unfold on1 at h
  split at h
  · obtain ⟨v, e, r⟩ := p.one; exact ⟨v, _, e, r, h⟩
  · exact h.elim
theorem on2_inv {g : GD2} {ds : List D} {Q : D → Mm → Prop} {xs : List V} (p : Reps K F xs ds) (h : on2 g ds M Q) : ∃ v w d e, xs = [v, w] ∧ Rep K F v d ∧ Rep K F w e ∧ g d e M Q := by
  unfold on2 at h
  split at h
  · obtain ⟨v, w, e, r, r'⟩ := p.two; exact ⟨v, w, _, _, e, r, r', h⟩
  · exact h.elim
def gLen1 : GD1 := fun d M Q => match resS M d with
  | some ds => Q (.int (ds.length : Nat)) M
  | none => False
def gLen : GDL := on1 gLen1
def rLen (K : PySem.W.Frag) : List V → Hp → VK → Prop := fun xs H Q => ∃ x n, xs = [x] ∧ LenV K x H n ∧ Q (.int n) H
theorem ok_len : OkRL K (rLen K) gLen := fun F G M H xs ds Q Qv r p h k => by
  obtain ⟨v, d, e, p, h⟩ := on1_inv p h
  unfold gLen1 at h
  split at h
  · rename_i es er
    obtain ⟨a, vs, rfl, s, q⟩ := resS_ok r p er
    refine ⟨_, es.length, e, ?_, k.here r (.int _) h⟩
    rcases s with s | s
    · exact .inl ⟨vs, s, q.length.symm⟩
    · exact .inr ⟨vs, s, q.length.symm⟩
  · exact h.elim
def gAbs : GDL := on1 fun d M Q => match d with
  | .int i => Q (.int (i.natAbs : Nat)) M
  | _ => False
theorem ok_abs : OkRL K (fun xs H Q => ∃ i, xs = [.int i] ∧ Q (.int (if i < 0 then -i else i)) H) gAbs := fun F G M H xs ds Q Qv r p h k => by
  obtain ⟨v, d, e, p, h⟩ := on1_inv p h
  split at h
  · cases p
    rename_i i
    refine ⟨i, e, k.here r (.int _) ?_⟩
    have : (if i < 0 then -i else i) = (i.natAbs : Nat) := by split <;> omega
    rw [this]; exact h
  · exact h.elim
def gMax2 : GD2 := gI0 fun i j => .int (max i j)
def gMin2 : GD2 := gI0 fun i j => .int (min i j)
theorem ok_max2 : OkRL K (fun xs H Q => ∃ i j, xs = [.int i, .int j] ∧ Q (.int (if j > i then j else i)) H) (on2 gMax2) := fun F G M H xs ds Q Qv r p h k => by
  obtain ⟨v, w, d, e, e1, p, p', h⟩ := on2_inv p h
  obtain ⟨i, j, e2, e3, h⟩ := gI0_inv h
  subst e2 e3; cases p; cases p'
  refine ⟨i, j, e1, k.here r (.int _) ?_⟩
  have : (if j > i then j else i) = max i j := by split <;> omega
  rw [this]; exact h
theorem ok_min2 : OkRL K (fun xs H Q => ∃ i j, xs = [.int i, .int j] ∧ Q (.int (if j < i then j else i)) H) (on2 gMin2) := fun F G M H xs ds Q Qv r p h k => by
  obtain ⟨v, w, d, e, e1, p, p', h⟩ := on2_inv p h
  obtain ⟨i, j, e2, e3, h⟩ := gI0_inv h
  subst e2 e3; cases p; cases p'
  refine ⟨i, j, e1, k.here r (.int _) ?_⟩
  have : (if j < i then j else i) = min i j := by split <;> omega
  rw [this]; exact h
def gInt : GDL := on1 fun d M Q => match d with
  | .int i => Q (.int i) M
  | .bl b => Q (.int (if b then 1 else 0)) M
  | _ => False
theorem ok_int : OkRL K (fun xs H Q => (∃ i, xs = [.int i] ∧ Q (.int i) H) ∨ ∃ k, xs = [.bl k] ∧ Q (.int (if k then 1 else 0)) H) gInt := fun F G M H xs ds Q Qv r p h k => by
  obtain ⟨v, d, e, p, h⟩ := on1_inv p h
  split at h
  · cases p; exact .inl ⟨_, e, k.here r (.int _) h⟩
  · cases p; exact .inr ⟨_, e, k.here r (.int _) h⟩
  · exact h.elim
def gSum : GDL := on1 fun d M Q => match (resL M d).bind asInts with
  | some ns => Q (.int ns.sum) M
  | none => False
theorem resInts_ok (r : RelM K F G M H) {v : V} {d : D} {ns : List Int} (p : Rep K F v d) (h : (resL M d).bind asInts = some ns) : ∃ a, v = .ref a ∧ SqL K H a (ns.map V.int) := by
  obtain ⟨ds, e1, e2⟩ := Option.bind_eq_some_iff.mp h
  obtain ⟨a, vs, rfl, s, q⟩ := resL_ok r p e1
  rw [asInts_eq e2] at q
  rw [Reps.ints q] at s
  exact ⟨a, rfl, .inl s⟩
theorem resBools_ok (r : RelM K F G M H) {v : V} {d : D} {ns : List Bool} (p : Rep K F v d) (h : (resL M d).bind asBools = some ns) : ∃ a, v = .ref a ∧ SqL K H a (ns.map V.bl) := by
  obtain ⟨ds, e1, e2⟩ := Option.bind_eq_some_iff.mp h
  obtain ⟨a, vs, rfl, s, q⟩ := resL_ok r p e1
  rw [asBools_eq e2] at q
  rw [Reps.bools q] at s
  exact ⟨a, rfl, .inl s⟩
theorem ok_sum : OkRL K (rSum K) gSum := fun F G M H xs ds Q Qv r p h k => by
  obtain ⟨v, d, e, p, h⟩ := on1_inv p h
  split at h
  · rename_i ns en
    obtain ⟨a, rfl, s⟩ := resInts_ok r p en
    exact ⟨a, ns, e, s, k.here r (.int _) h⟩
  · exact h.elim
def gAll : GDL := on1 fun d M Q => match (resL M d).bind asBools with
  | some ns => Q (.bl (ns.all id)) M
  | none => False
def gAny : GDL := on1 fun d M Q => match (resL M d).bind asBools with
  | some ns => Q (.bl (ns.any id)) M
  | none => False
theorem ok_all : OkRL K (rAll K) gAll := fun F G M H xs ds Q Qv r p h k => by
  obtain ⟨v, d, e, p, h⟩ := on1_inv p h
  split at h
  · rename_i ns en
    obtain ⟨a, rfl, s⟩ := resBools_ok r p en
    exact ⟨a, ns, e, s, k.here r (.bl _) h⟩
  · exact h.elim
theorem ok_any : OkRL K (rAny K) gAny := fun F G M H xs ds Q Qv r p h k => by
  obtain ⟨v, d, e, p, h⟩ := on1_inv p h
  split at h
  · rename_i ns en
    obtain ⟨a, rfl, s⟩ := resBools_ok r p en
    exact ⟨a, ns, e, s, k.here r (.bl _) h⟩
  · exact h.elim
def gMaxL : GDL := on1 fun d M Q => match (resL M d).bind asInts with
  | some ns => 0 < ns.length ∧ ∀ m, m ∈ ns → (∀ y, y ∈ ns → y ≤ m) → Q (.int m) M
  | none => False
theorem ok_maxL : OkRL K (rMax K) gMaxL := fun F G M H xs ds Q Qv r p h k => by
  obtain ⟨v, d, e, p, h⟩ := on1_inv p h
  split at h
  · rename_i ns en
    obtain ⟨a, rfl, s⟩ := resInts_ok r p en
    exact ⟨a, ns, e, s, h.1, fun m h1 h2 => k.here r (.int _) (h.2 m h1 h2)⟩
  · exact h.elim
def gSorted : GDL := on1 fun d M Q => match (resL M d).bind asInts with
  | some ns => ∀ ns' : List Int, ns'.Perm ns → ns'.Pairwise (· ≤ ·) → Q (.lst (ns'.map .int)) M
  | none => False
theorem ok_sorted : OkRL K (rSortedI K) gSorted := fun F G M H xs ds Q Qv r p h k => by
  obtain ⟨v, d, e, p, h⟩ := on1_inv p h
  split at h
  · rename_i ns en
    obtain ⟨a, rfl, s⟩ := resInts_ok r p en
    exact ⟨a, ns, e, s, fun ns' p h1 h2 hp => k.new r hp (fun _ => .lst (.inl upd_same) (Reps.of_ints _)) (h ns' h1 h2)⟩
  · exact h.elim
def gTuple : GDL := on1 fun d M Q => match resS M d with
  | some ds => Q (.tup ds) M
  | none => False
theorem ok_tuple : OkRL K (fun xs H Q => ∃ p ys, xs = [.ref p] ∧ ((SqL K H p ys ∧ ∀ l, H l = none → Q (.ref l) (upd H l (.tup ys))) ∨ (SqT K H p ys ∧ Q (.ref p) H))) gTuple := fun F G M H xs ds Q Qv r p h k => by
  obtain ⟨v, d, e, p, h⟩ := on1_inv p h
  split at h
  · rename_i es er
    cases p with
    | tup s q =>
      cases er
      exact ⟨_, _, e, .inr ⟨(.inl (Same.rd r.fz (.inl s))), k.here r (.tup s q) h⟩⟩
    | lst s q =>
      obtain ⟨a, vs, e2, s, q⟩ := resL_ok r (Rep.lst s q) er
      cases e2
      exact ⟨_, vs, e, .inl ⟨.inl s, fun l hl => k.new r hl (fun s => .tup upd_same (q.mono s)) h⟩⟩
    | obj a =>
      obtain ⟨a, vs, e2, s, q⟩ := resL_ok r (Rep.obj a) er
      cases e2
      exact ⟨_, vs, e, .inl ⟨.inl s, fun l hl => k.new r hl (fun s => .tup upd_same (q.mono s)) h⟩⟩
    | non => cases er
    | bl => cases er
    | int => cases er
    | str => cases er
    | ins => cases er
    | raw => cases er
    | rng => cases er
    | kl => cases er
    | dic => cases er
  · exact h.elim
def gList : GDL := on1 fun d M Q => match resS M d with
  | some ds => Q (.lst ds) M
  | none => False
theorem ok_list : OkRL K (fun xs H Q => ∃ p ys, xs = [.ref p] ∧ (SqL K H p ys ∨ SqT K H p ys) ∧ ∀ l, H l = none → Q (.ref l) (upd H l (.lst ys))) gList := fun F G M H xs ds Q Qv r p h k => by
  obtain ⟨v, d, e, p, h⟩ := on1_inv p h
  split at h
  · rename_i es er
    obtain ⟨a, vs, rfl, s, q⟩ := resS_ok r p er
    exact ⟨_, vs, e, s, fun l hl => k.new r hl (fun s => .lst (.inl upd_same) (q.mono s)) h⟩
  · exact h.elim

/-! ### subscripts, slices -/
def gIx : GD2 := fun d e M Q => match resS M d, e with
  | some ds, .int i => match atI ds i with
    | some x => Q x M
    | none => False
  | _, _ => False
theorem Reps.atI {vs : List V} {ds : List D} {i : Int} {d : D} (r : Reps K F vs ds) (h : atI ds i = some d) : ∃ v, L2.atI vs i = some v ∧ Rep K F v d := by
  unfold L2.atI at h ⊢
  rw [r.length]
  cases e : ixN ds.length i with
  | none => rw [e] at h; cases h
  | some j => rw [e] at h; exact r.get h
theorem ok_ix : OkR2 K (rIx K) gIx := fun F G M H x y d e Q Qv r p q h k => by
  unfold gIx at h
  split at h
  · rename_i ds i er
    split at h
    · rename_i z ez
      cases q
      obtain ⟨a, vs, rfl, s, q⟩ := resS_ok r p er
      obtain ⟨v, ev, rv⟩ := q.atI ez
      rcases s with s | s
      · exact .inl ⟨a, vs, i, v, rfl, rfl, s, ev, k.here r rv h⟩
      · exact .inr (.inl ⟨a, vs, i, v, rfl, rfl, s, ev, k.here r rv h⟩)
    · exact h.elim
  · exact h.elim
abbrev TDO := Rho → Mm → (Option Int → Mm → Prop) → Prop
def liftO (K : PySem.W.Frag) (lo : Lo) (t : TDO) : TO := fun σ H Qv => ∃ F G ρ M Q, At K lo F G ρ M σ H ∧ t ρ M Q ∧ ∀ o H' F' M', Same F F' → RelM K F' G M' H' → Q o M' → Qv o H'
abbrev DPO (X : Cx) (lo : Lo) (e : Option Expr) (t : TDO) : Prop := PO X e (liftO X.K lo t)
def oNone : TDO := fun _ M Q => Q none M
def oSome (t : TDE) : TDO := fun ρ M Q => t ρ M fun d M1 => match d with
  | .int i => Q (some i) M1
  | _ => False
theorem PO.of {X : Cx} {e : Option Expr} {t t' : TO} (h : PO X e t) (i : ∀ σ H Q, t' σ H Q → t σ H Q) : PO X e t' := ⟨fun p s σ H Q I q => h.run p s σ H Q I (i _ _ _ q)⟩
def cutD (xs : List D) (lo hi : Option Int) : List D := (xs.drop (HT.sIx xs.length 0 lo)).take (HT.sIx xs.length xs.length hi - HT.sIx xs.length 0 lo)
theorem Reps.cut {vs : List V} {ds : List D} (r : Reps K F vs ds) (lo hi : Option Int) : Reps K F (cutV vs lo hi) (cutD ds lo hi) := by
  unfold cutV cutD
  rw [r.length]
  exact (r.drop _).take _
abbrev GDS := D → Option Int → Option Int → Mm → (D → Mm → Prop) → Prop
def gSl : GDS := fun d lo hi M Q => match d with
  | .tup ds => Q (.tup (cutD ds lo hi)) M
  | d => match resL M d with
    | some ds => Q (.lst (cutD ds lo hi)) M
    | none => False
def eSl (te : TDE) (tl th : TDO) : TDE := fun ρ M Q => te ρ M fun d M1 => tl ρ M1 fun l M2 => th ρ M2 fun u M3 => gSl d l u M3 Q
section
variable {X : Cx} {lo : Lo} {pos p2 : Pos} {a b e : Expr} {l h : Option Expr} {ta tb te : TDE} {tl th : TDO}
theorem do_none : DPO X lo none oNone := PO.of po_none fun σ H Qv ⟨F, G, ρ, M, Q, a, h, q⟩ => q none H F M (Same.refl F) a.rel h
theorem do_some (he : DPE X lo e te) : DPO X lo (some e) (oSome te) := PO.of (po_some he) fun σ H Qv ⟨F, G, ρ, M, Q, a, h, q⟩ => ⟨F, G, ρ, M, _, a, h, fun v H1 F1 d M1 s1 r1 p1 h1 => by
  split at h1
  · cases p1; exact ⟨_, rfl, q _ H1 F1 M1 s1 r1 h1⟩
  · exact h1.elim⟩
theorem de_ix (ha : DPE X lo a ta) (hb : DPE X lo b tb) (hs : PlainIx b := by exact fun _ _ => rfl) : DPE X lo (.Subscript a b pos) (eOp2 gIx ta tb) :=
  PE.of (pe_ix ix_seq ha hb hs) fun _ _ _ h => lift2 ok_ix h
def rSlX (K : PySem.W.Frag) : V → Option Int → Option Int → Hp → VK → Prop := fun x l u H Q => rSlL K x l u H Q ∨ rSlA K x l u H Q
theorem de_sl (he : DPE X lo e te) (hl : DPO X lo l tl) (hu : DPO X lo h th) : DPE X lo (.Subscript e (.Slice l h none p2) pos) (eSl te tl th) :=
  PE.of (pe_slice (SlR.or sl_list sl_tupA) he hl hu) fun σ H Qv ⟨F, G, ρ, M, Q, a, h, q⟩ => ⟨F, G, ρ, M, _, a, h, fun v H1 F1 d M1 s1 r1 p1 h1 => ⟨F1, G, ρ, M1, _, a.next s1 r1, h1, fun l H2 F2 M2 s2 r2 h2 =>
    ⟨F2, G, ρ, M2, _, (a.next s1 r1).next s2 r2, h2, fun u H3 F3 M3 s3 r3 h3 => by
      have p3 := p1.mono (s2.trans s3)
      have k : Kont X.K F3 G Q Qv := fun v H' F' d M' s r p z => q v H' F' d M' (((s1.trans s2).trans s3).trans s) r p z
      unfold gSl at h3
      split at h3
      · rename_i ds
        cases p3 with
        | @tup b vs _ s w =>
          refine .inr ⟨b, vs, rfl, (.inl (Same.rd r3.fz (.inl s))), fun hw => k.here r3 (.tup s w) ?_, fun _ p hp => k.new r3 hp (fun s => .tup upd_same ((w.cut l u).mono s)) h3⟩
          have : cutD ds l u = ds := by
            unfold cutD
            rw [← w.length, hw.1, hw.2, List.drop_zero, Nat.sub_zero, w.length, List.take_length]
          rw [this] at h3; exact h3
      · split at h3
        · rename_i ds er
          obtain ⟨b, vs, rfl, s, w⟩ := resL_ok r3 p3 er
          exact .inl ⟨b, vs, rfl, .inl s, fun p hp => k.new r3 hp (fun s => .lst (.inl upd_same) ((w.cut l u).mono s)) h3⟩
        · exact h3.elim⟩⟩⟩
end
end DL

namespace DL
open PySem PySem.Spec PyProof.Rows L2
variable {K : PySem.W.Frag} {F F' F1 F2 G G' H H' H1 H2 : Hp} {M M' : Mm} {ρ ρ' : Rho} {σ σ' : L2.St}

/-! ### blocks and small statements -/
def dNext : TDS := fun De ρ M => De.nx ρ M
def dSeq (t u : TDS) : TDS := fun De ρ M => t { De with nx := u De } ρ M
def dRet (te : TDE) : TDS := fun De ρ M => te ρ M De.rt
def dRetN : TDS := fun De _ M => De.rt .non M
def dDrop (te : TDE) : TDS := fun De ρ M => te ρ M fun _ M1 => De.nx ρ M1
def dSet (i : Nat) (te : TDE) : TDS := fun De ρ M => te ρ M fun d M1 => De.nx (ρ.set i (some d)) M1
def dIf (c : TDT) (t u : TDS) : TDS := fun De ρ M => c ρ M fun b M1 => if b = true then t De ρ M1 else u De ρ M1
def dAug (i : Nat) (g : GD2) (te : TDE) : TDS := fun De ρ M => match ρ[i]? with
  | some (some x) => te ρ M fun y M1 => g x y M1 fun z M2 => De.nx (ρ.set i (some z)) M2
  | _ => False
def dPar (i j : Nat) (ta : TDA) : TDS := fun De ρ M => ta ρ M fun ds M1 => match ds with
  | [d, e] => De.nx ((ρ.set i (some d)).set j (some e)) M1
  | _ => False
def dNever : TDS := fun _ _ _ => False
def dBreak : TDS := fun De ρ M => De.bk ρ M
def dCont : TDS := fun De ρ M => De.ct ρ M
/-- the list in slot i may change no more -/
def dFrz (i : Nat) (t : TDS) : TDS := fun De ρ M => ∃ a ds M', ρ[i]? = some (some (.obj a)) ∧ ((a, MO.lst ds) :: M').Sublist M ∧ t De (ρ.set i (some (.lst ds))) M'
section
variable {X : Cx} {lo : Lo} {st : Stmt} {rest sa sb : List Stmt} {t u : TDS} {e c : Expr} {te : TDE} {tc : TDT} {pos : Pos}
theorem dss_nil : DPSs X lo [] dNext := PSs.of pss_nil fun σ H Dv ⟨F, G, ρ, M, De, a, h, er⟩ => er.nx σ H F ρ M (Same.refl F) a.rel a.env h
theorem dss_cons (h1 : DPS X lo st t) (h2 : DPSs X lo rest u) : DPSs X lo (st :: rest) (dSeq t u) :=
  PSs.of (pss_cons h1 h2) fun σ H Dv ⟨F, G, ρ, M, De, a, h, er⟩ => ⟨F, G, ρ, M, _, a, h,
    ⟨fun σ' H' F' ρ' M' s r en q => ⟨F', G, ρ', M', De, ⟨a.f.trans s, a.g, r, en⟩, q, er.later s⟩, er.rt, er.bk, er.ct⟩⟩
theorem dss_one (h1 : DPS X lo st t) : DPSs X lo [st] t := pss_one h1
theorem ds_ret (he : DPE X lo e te) : DPS X lo (.Return (some e) pos) (dRet te) :=
  PS.of (ps_ret he) fun σ H Dv ⟨F, G, ρ, M, De, a, h, er⟩ => ⟨F, G, ρ, M, _, a, h, fun v H' F' d M' s r p q => er.rt v H' F' d M' s r p q⟩
theorem ds_retN : DPS X lo (.Return none pos) dRetN :=
  PS.of ps_retN fun σ H Dv ⟨F, G, ρ, M, De, a, h, er⟩ => er.rt _ H F .non M (Same.refl F) a.rel .non h
theorem ds_expr (he : DPE X lo e te) (hs : swapsWith e none pos.line X.env = pure false := by rfl) : DPS X lo (.Expr e pos) (dDrop te) :=
  PS.of (ps_expr he hs) fun σ H Dv ⟨F, G, ρ, M, De, a, h, er⟩ => ⟨F, G, ρ, M, _, a, h, fun v H' F' d M' s r p q => er.nx σ H' F' ρ M' s r (a.env.mono s) q⟩
theorem ds_pass : DPS X lo (.Pass pos) dNext := PS.of ps_pass fun σ H Dv ⟨F, G, ρ, M, De, a, h, er⟩ => er.nx σ H F ρ M (Same.refl F) a.rel a.env h
theorem ds_break : DPS X lo (.Break pos) dBreak := PS.of ps_break fun σ H Dv ⟨F, G, ρ, M, De, a, h, er⟩ => er.bk σ H F ρ M (Same.refl F) a.rel a.env h
theorem ds_never : DPS X lo st dNever := PS.of ps_never fun σ H Dv ⟨F, G, ρ, M, De, a, h, er⟩ => h.elim
theorem dss_never : DPSs X lo sa dNever := PSs.of pss_never fun σ H Dv ⟨F, G, ρ, M, De, a, h, er⟩ => h.elim
theorem ds_set {i : Nat} {x : Str} {pos' : Pos} (hN : X.N.Nodup) (hi : X.N[i]? = some x) (hx : Loc X.env.scope x) (he : DPE X lo e te) (hs : swapsWith e (some (.Name x pos')) pos.line X.env = pure false := by rfl)
    (hf : X.fn x = true ∨ X.env.scope.names.lookup x = some .local := by first | exact .inl rfl | exact .inr rfl | assumption) : DPS X lo (.Assign [.Name x pos'] e pos) (dSet i te) :=
  PS.of (ps_set hN hi hx he hs hf) fun σ H Dv ⟨F, G, ρ, M, De, a, h, er⟩ => ⟨F, G, ρ, M, _, a, h, fun v H' F' d M' s r p q => er.nx _ H' F' _ M' s r ((a.env.mono s).set p i) q⟩
theorem ds_if (hc : DPT X lo c tc) (ha : DPSs X lo sa t) (hb : DPSs X lo sb u) : DPS X lo (.If c sa sb pos) (dIf tc t u) :=
  PS.of (ps_if hc ha hb) fun σ H Dv ⟨F, G, ρ, M, De, a, h, er⟩ => ⟨F, G, ρ, M, _, a, h, fun k H' F' M' s r q => by
    cases k with
    | true => exact ⟨F', G, ρ, M', De, a.next s r, q, er.later s⟩
    | false => exact ⟨F', G, ρ, M', De, a.next s r, q, er.later s⟩⟩
theorem ds_frz {i : Nat} (h : DPSs X lo sa t) : DPSs X lo sa (dFrz i t) :=
  PSs.of h fun σ H Dv ⟨F, G, ρ, M, De, a, ⟨b, ds, M', hi, hs, h⟩, er⟩ => by
    obtain ⟨vs, s, r, q⟩ := a.rel.freeze hs
    obtain ⟨v, ev, rv⟩ := a.env.get hi
    cases rv
    refine ⟨_, G, _, M', De, ⟨a.f.trans s, a.g, r, ?_⟩, h, er.later s⟩
    have := (a.env.mono s).set (Rep.lst (.inl upd_same) q) i
    have e2 : σ.set i (some (V.ref b)) = σ := by
      apply List.ext_getElem?
      intro j
      by_cases hj : i = j
      · subst hj
        rw [ev]
        obtain ⟨hl, _⟩ := List.getElem?_eq_some_iff.mp ev
        exact List.getElem?_set_self hl
      · exact List.getElem?_set_ne hj
    rw [e2] at this
    exact this
theorem ds_par {i j : Nat} {x y : Str} {a b : Expr} {ta : TDA} {px py pt : Pos} {kt k2 pt2} (hc : X.calm = true) (hN : X.N.Nodup) (hi : X.N[i]? = some x) (hj : X.N[j]? = some y) (hij : i ≠ j)
    (hx : X.env.scope.names.lookup x = some .local) (hy : X.env.scope.names.lookup y = some .local) (ha : DPA X lo [a, b] ta)
    (hw : swappedStores [.Tuple [.Name x px, .Name y py] kt pt] (.Tuple [a, b] k2 pt2) X.env = pure (some [x, y]))
    (hs : swapsWithSole [.Tuple [.Name x px, .Name y py] kt pt] (.Tuple [a, b] k2 pt2) pos.line X.env = pure false := by rfl) :
    DPS X lo (.Assign [.Tuple [.Name x px, .Name y py] kt pt] (.Tuple [a, b] k2 pt2) pos) (dPar i j ta) :=
  PS.of (ps_par hc hN hi hj hij hx hy ha hw hs) fun σ H Dv ⟨F, G, ρ, M, De, a, h, er⟩ => ⟨F, G, ρ, M, _, a, h, fun vs H' F' ds M' s r p q => by
    split at q
    · obtain ⟨v, w, rfl, p1, p2⟩ := p.two
      exact ⟨v, w, rfl, er.nx _ H' F' _ M' s r (((a.env.mono s).set p1 i).set p2 j) q⟩
    · exact q.elim⟩
def OkIp (K : PySem.W.Frag) (r : TIp) (g : GD2) : Prop := ∀ F G M H x y d e Q Qv, RelM K F G M H → Rep K F x d → Rep K F y e → g d e M Q → Kont K F G Q Qv → r x y H Qv
theorem ds_aug {i : Nat} {x : Str} {op : Operator} {ti : TIp} {g : GD2} {pos' : Pos} (hN : X.N.Nodup) (hi : X.N[i]? = some x) (hx : Loc X.env.scope x) (he : DPE X lo e te) (ho : PIp X op ti) (hk : OkIp X.K ti g)
    (hf : X.fn x = true ∨ X.env.scope.names.lookup x = some .local := by first | exact .inl rfl | exact .inr rfl | assumption) : DPS X lo (.AugAssign (.Name x pos') op e pos) (dAug i g te) :=
  PS.of (ps_aug hN hi hx he ho hf) fun σ H Dv ⟨F, G, ρ, M, De, a, h, er⟩ => by
    unfold dAug at h
    split at h
    · rename_i d ed
      obtain ⟨v, ev, rv⟩ := a.env.get ed
      refine ⟨v, ev, F, G, ρ, M, _, a, h, fun w H1 F1 f M1 s1 r1 p1 h1 => hk F1 G M1 H1 v w d f _ _ r1 (rv.mono s1) p1 h1 fun z H2 F2 g2 M2 s2 r2 p2 h2 => er.nx _ H2 F2 _ M2 (s1.trans s2) r2 ((a.env.mono (s1.trans s2)).set p2 i) h2⟩
    · exact h.elim
def gAddI : GD2 := gI0 fun i j => .int (i + j)
theorem ok_ipadd : OkIp K (ipI fun i j => i + j) gAddI := fun F G M H x y d e Q Qv r p q h k => by
  obtain ⟨i, j, e1, e2, h⟩ := gI0_inv h
  exact ⟨i, j, rep_int p e1, rep_int q e2, k.here r (.int _) h⟩

/-! ### targets -/
abbrev TDG := D → Rho → Mm → (Rho → Mm → Prop) → Prop
abbrev TDGs := List D → Rho → Mm → (Rho → Mm → Prop) → Prop
def liftG (K : PySem.W.Frag) (lo : Lo) (ws : List Nat) (g : TDG) : TG := fun v σ H Qv => ∃ F G ρ M d Q, At K lo F G ρ M σ H ∧ Rep K F v d ∧ g d ρ M Q ∧
  ∀ ρ' σ' H' F' M', Same F F' → RelM K F' G M' H' → EnvR K F' ρ' σ' → (∀ vs : List Nat, (∀ i ∈ ws, i ∈ vs) → wipe σ' vs = wipe σ vs) → Q ρ' M' → Qv σ' H'
def liftGs (K : PySem.W.Frag) (lo : Lo) (ws : List Nat) (g : TDGs) : TGs := fun vs σ H Qv => ∃ F G ρ M ds Q, At K lo F G ρ M σ H ∧ Reps K F vs ds ∧ g ds ρ M Q ∧
  ∀ ρ' σ' H' F' M', Same F F' → RelM K F' G M' H' → EnvR K F' ρ' σ' → (∀ vs : List Nat, (∀ i ∈ ws, i ∈ vs) → wipe σ' vs = wipe σ vs) → Q ρ' M' → Qv σ' H'
abbrev DPG (X : Cx) (lo : Lo) (ws : List Nat) (tg : Expr) (g : TDG) : Prop := PG X tg (liftG X.K lo ws g)
abbrev DPGs (X : Cx) (lo : Lo) (ws : List Nat) (tg : List Expr) (g : TDGs) : Prop := PGs X tg (liftGs X.K lo ws g)
theorem PG.of {X : Cx} {e : Expr} {t t' : TG} (h : PG X e t) (i : ∀ v σ H Q, t' v σ H Q → t v σ H Q) : PG X e t' := ⟨fun p s σ H v u Q I r q => h.run p s σ H v u Q I r (i _ _ _ _ q)⟩
theorem PGs.of {X : Cx} {e : List Expr} {t t' : TGs} (h : PGs X e t) (i : ∀ v σ H Q, t' v σ H Q → t v σ H Q) : PGs X e t' := ⟨fun p s σ H v u Q I r q => h.run p s σ H v u Q I r (i _ _ _ _ q)⟩
theorem wipe_set_ne {σ : L2.St} {x : Option V} {i : Nat} : ∀ {vs : List Nat}, i ∉ vs → wipe (σ.set i x) vs = (wipe σ vs).set i x
  | [], _ => rfl
  | v :: vs, h => by
    have h1 : i ≠ v := fun e => h (by rw [e]; exact List.mem_cons_self)
    unfold wipe
    rw [wipe_set_ne fun z => h (List.mem_cons_of_mem _ z), List.set_comm _ _ h1]
theorem wipe_set {σ : L2.St} {x : Option V} {i : Nat} : ∀ {vs : List Nat}, i ∈ vs → wipe (σ.set i x) vs = wipe σ vs
  | v :: vs, h => by
    unfold wipe
    by_cases hi : i ∈ vs
    · rw [wipe_set hi]
    · have e : i = v := (List.mem_cons.mp h).elim id fun z => absurd z hi
      subst e
      rw [wipe_set_ne hi, List.set_set]
def dgName (i : Nat) : TDG := fun d ρ M Q => Q (ρ.set i (some d)) M
def dgNil : TDGs := fun ds ρ M Q => match ds with
  | [] => Q ρ M
  | _ => False
def dgCons (g : TDG) (gs : TDGs) : TDGs := fun ds ρ M Q => match ds with
  | d :: r => g d ρ M fun ρ1 M1 => gs r ρ1 M1 Q
  | [] => False
def dgTup (n : Nat) (gs : TDGs) : TDG := fun d ρ M Q => match d with
  | .tup ds => ds.length = n ∧ gs ds ρ M Q
  | _ => False
theorem dg_name {i : Nat} {x : Str} (hN : X.N.Nodup) (hi : X.N[i]? = some x) (hx : Loc X.env.scope x) (hf : X.fn x = true ∨ X.env.scope.names.lookup x = some .local := by first | exact .inl rfl | exact .inr rfl | assumption) : DPG X lo [i] (.Name x pos) (dgName i) :=
  PG.of (pg_name hN hi hx hf) fun v σ H Qv ⟨F, G, ρ, M, d, Q, a, p, h, q⟩ => q _ _ H F M (Same.refl F) a.rel (a.env.set p i) (fun vs hv => wipe_set (hv i (by simp))) h
theorem dgs_nil : DPGs X lo [] [] dgNil := PGs.of pgs_nil fun vs σ H Qv ⟨F, G, ρ, M, ds, Q, a, p, h, q⟩ => by
  cases p with
  | nil => exact ⟨rfl, q _ _ H F M (Same.refl F) a.rel a.env (fun _ _ => rfl) h⟩
  | cons _ _ => exact h.elim
theorem dgs_cons {es : List Expr} {g : TDG} {gs : TDGs} {w1 w2 : List Nat} (h1 : DPG X lo w1 e g) (h2 : DPGs X lo w2 es gs)
    (hs : (assignEach (e :: es) X.env).map (·.2) = assign e X.env :: (assignEach es X.env).map (·.2) := by rfl) : DPGs X lo (w1 ++ w2) (e :: es) (dgCons g gs) :=
  PGs.of (pgs_cons h1 h2 hs) fun vs σ H Qv ⟨F, G, ρ, M, ds, Q, a, p, h, q⟩ => by
    cases p with
    | nil => exact h.elim
    | @cons v d vs ds p1 p2 =>
      exact ⟨v, vs, rfl, F, G, ρ, M, d, _, a, p1, h, fun ρ1 σ1 H1 F1 M1 s1 r1 e1 w1 h1 => ⟨F1, G, ρ1, M1, ds, _, ⟨a.f.trans s1, a.g, r1, e1⟩, p2.mono s1, h1, fun ρ2 σ2 H2 F2 M2 s2 r2 e2 w2 h2 =>
        q ρ2 σ2 H2 F2 M2 (s1.trans s2) r2 e2 (fun vs hv => (w2 vs fun i hi => hv i (List.mem_append_right _ hi)).trans (w1 vs fun i hi => hv i (List.mem_append_left _ hi))) h2⟩⟩
theorem dg_tup {es : List Expr} {k n : Nat} {gs : TDGs} {ws : List Nat} (hc : X.calm = true) (h : DPGs X lo ws es gs)
    (hn : (assignEach es X.env).length = n := by rfl) (hst : (assignEach es X.env).findIdx? (·.1) = none := by rfl) : DPG X lo ws (.Tuple es k pos) (dgTup n gs) :=
  PG.of (pg_tup hc h hn hst) fun v σ H Qv ⟨F, G, ρ, M, d, Q, a, p, h, q⟩ => by
    unfold dgTup at h
    split at h
    · rename_i ds
      cases p with
      | @tup b vs _ s w => exact ⟨b, vs, rfl, (.inl (Same.rd a.rel.fz (.inl s))), w.length.trans h.1, F, G, ρ, M, ds, Q, a, w, h.2, q⟩
    · exact h.elim
def dAsg (te : TDE) (g : TDG) : TDS := fun De ρ M => te ρ M fun d M1 => g d ρ M1 De.nx
theorem ds_asg {tg : Expr} {g : TDG} {ws : List Nat} (he : DPE X lo e te) (hg : DPG X lo ws tg g) (hs : swapsWithSole [tg] e pos.line X.env = pure false := by rfl) (hw : swappedStores [tg] e X.env = pure none := by rfl)
    (h1 : (assignEach [tg] X.env).map (·.2) = [assign tg X.env] := by rfl) : DPS X lo (.Assign [tg] e pos) (dAsg te g) :=
  PS.of (ps_asg he hg hs hw h1) fun σ H Dv ⟨F, G, ρ, M, De, a, h, er⟩ => ⟨F, G, ρ, M, _, a, h, fun v H1 F1 d M1 s1 r1 p1 h1 => ⟨F1, G, ρ, M1, d, _, a.next s1 r1, p1, h1, fun ρ2 σ2 H2 F2 M2 s2 r2 e2 w2 h2 =>
    er.nx σ2 H2 F2 ρ2 M2 (s1.trans s2) r2 e2 h2⟩⟩
end
end DL

namespace DL
open PySem PySem.Spec PyProof.Rows L2
variable {K : PySem.W.Frag} {F F' F0 F1 F2 G G' H H' H1 H2 : Hp} {M M' : Mm} {ρ ρ' : Rho} {σ σ' : L2.St}

/-! ### what is walked -/
abbrev TDI := Rho → Mm → (List D → Mm → Prop) → Prop
def ItD (K : PySem.W.Frag) (F0 : Hp) (J : It) (ds : List D) : Prop := ∀ F G M H (i : Nat), Same F0 F → RelM K F G M H →
  (i = ds.length → J.stop i H) ∧ ∀ d, ds[i]? = some d → J.go i H ∧ ∀ x H', J.yld i H x H' → ∃ F', Same F F' ∧ RelM K F' G M H' ∧ Rep K F' x d
theorem ItD.later {J : It} {ds : List D} (h : ItD K F J ds) (s : Same F F') : ItD K F' J ds := fun F G M H i a r => h F G M H i (s.trans a) r
def liftI (K : PySem.W.Frag) (lo : Lo) (t : TDI) : TI := fun σ H R => ∃ F G ρ M Q, At K lo F G ρ M σ H ∧ t ρ M Q ∧ ∀ J H' F' ds M', Same F F' → RelM K F' G M' H' → ItD K F' J ds → Q ds M' → R J H'
abbrev DPI (X : Cx) (lo : Lo) (tg iter : Expr) (t : TDI) : Prop := PI X tg iter (liftI X.K lo t)
theorem PI.of {X : Cx} {tg e : Expr} {t t' : TI} (h : PI X tg e t) (i : ∀ σ H Q, t' σ H Q → t σ H Q) : PI X tg e t' := ⟨fun p s σ H R I q => h.run p s σ H R I (i _ _ _ q)⟩
theorem PI.or {X : Cx} {tg e : Expr} {t t' : TI} (h : PI X tg e t) (h' : PI X tg e t') : PI X tg e (fun σ H Q => t σ H Q ∨ t' σ H Q) := ⟨fun p s σ H R I q => q.elim (h.run p s σ H R I) (h'.run p s σ H R I)⟩

theorem it_list {a : Addr} {vs : List V} {ds : List D} (h : Rd F0 a (.lst vs)) (p : Reps K F0 vs ds) : ItD K F0 (Itl K a) ds := fun F G M H i s r => by
  have hq : SqL K H a vs := .inl (Same.rd (s.trans r.fz) h)
  refine ⟨fun hl => ⟨vs, hq, by rw [p.length]; omega⟩, fun d e => ?_⟩
  obtain ⟨v, ev, rv⟩ := p.get e
  refine ⟨⟨vs, v, hq, ev⟩, fun x H' y => ?_⟩
  obtain ⟨rfl, y⟩ := y
  have := (y vs hq).symm.trans ev
  cases this
  exact ⟨F, Same.refl F, r, rv.mono s⟩
theorem it_tup {a : Addr} {vs : List V} {ds : List D} (h : Rd F0 a (.tup vs)) (p : Reps K F0 vs ds) : ItD K F0 (Itt K a) ds := fun F G M H i s r => by
  have hq : SqT K H a vs := .inl (Same.rd (s.trans r.fz) h)
  refine ⟨fun hl => ⟨vs, hq, by rw [p.length]; omega⟩, fun d e => ?_⟩
  obtain ⟨v, ev, rv⟩ := p.get e
  refine ⟨⟨vs, v, hq, ev⟩, fun x H' y => ?_⟩
  obtain ⟨rfl, y⟩ := y
  have := (y vs hq).symm.trans ev
  cases this
  exact ⟨F, Same.refl F, r, rv.mono s⟩
/-- lo, lo + 1, .. -/
def rngD (lo : Int) (n : Nat) : List D := (List.range n).map fun (i : Nat) => D.int (lo + i)
theorem rngD_len (lo : Int) (n : Nat) : (rngD lo n).length = n := by simp [rngD]
theorem it_rng (lo : Int) (n : Nat) : ItD K F0 (Itr lo n) (rngD lo n) := fun F G M H i s r => by
  refine ⟨fun hl => by rw [rngD_len] at hl; exact Nat.le_of_eq hl.symm, fun d e => ?_⟩
  have hi : i < n := by
    have := (List.getElem?_eq_some_iff.mp e).1
    rw [rngD_len] at this; exact this
  have ed : d = .int (lo + i) := by
    unfold rngD at e
    rw [List.getElem?_map, List.getElem?_range hi] at e
    exact (Option.some.inj e).symm
  refine ⟨hi, fun x H' y => ?_⟩
  obtain ⟨rfl, rfl⟩ := y
  rw [ed]
  exact ⟨F, Same.refl F, r, .int _⟩
/-- a list or a tuple that stays as it is -/
def iSeq (t : TDE) : TDI := fun ρ M Q => t ρ M fun d M1 => match d with
  | .tup ds => Q ds M1
  | .lst ds => Q ds M1
  | _ => False
def iRng1 (t : TDA) : TDI := fun ρ M Q => t ρ M fun ds M1 => match ds with
  | [.int j] => (-(2 ^ 62) ≤ j ∧ j < 2 ^ 62) ∧ Q (rngD 0 j.toNat) M1
  | _ => False
def iRng2 (t : TDA) : TDI := fun ρ M Q => t ρ M fun ds M1 => match ds with
  | [.int i, .int j] => (-(2 ^ 62) ≤ i ∧ i < 2 ^ 62 ∧ -(2 ^ 62) ≤ j ∧ j < 2 ^ 62) ∧ Q (rngD i (j - i).toNat) M1
  | _ => False
section
variable {X : Cx} {lo : Lo} {tg e c : Expr} {te : TDE} {pos : Pos}
def iSeqV (K : PySem.W.Frag) (tl : TE) : TI := fun σ H R => tl σ H fun x H1 => ∃ a, x = .ref a ∧ (((∃ xs, SqL K H1 a xs) ∧ R (Itl K a) H1) ∨ ((∃ xs, SqT K H1 a xs) ∧ R (Itt K a) H1))
theorem pi_seq {l : Expr} {tl : TE} (hl : PE X l tl) : PI X tg l (iSeqV X.K tl) :=
  ⟨fun pins s σ H R I h => wpAny_mono (hl.run pins s σ H _ I h) (fun v s1 ⟨x, H1, I1, r1, a, e, q⟩ => by
    have put : ∀ {o : Obj} {J : It} {tn : Nat → Heap → Prop}, Turn X.prog X.w X.K tg J [s1.heap.objs.size] s1.heap.objs.size tn → tn 0 (s1.heap.push o) → R J H1 → PIE X pins σ tg R (.ref s1.heap.objs.size) { s1 with heap := s1.heap.push o } := fun T st q =>
      ⟨_, _, _, _, _, rfl, I1.kept (t' := s1.toks) fun _ _ => Heap.get?_push_of_some _, T, st, by simpa using I1.fpOk (Nat.le_refl _) (I1.hok.fresh (Nat.le_refl _)), q⟩
    subst e
    cases r1
    rcases q with ⟨⟨xs, hq⟩, q⟩ | ⟨⟨xs, hq⟩, q⟩
    · obtain ⟨its, rv, p, _⟩ := I1.list hq
      exact wpAny_pyIter_list p.isList (put (turn_list a _) ⟨_, Heap.get?_push_size _ rfl, rfl, rfl⟩ q)
    · obtain ⟨its, rv, p, _⟩ := I1.tuple hq
      exact wpAny_pyIter_tuple (show s1.heap.IsTuple a its.toArray from p) (put (turn_tuple a _) ⟨_, Heap.get?_push_size _ rfl, rfl, rfl⟩ q)) fun _ _ z => z⟩
theorem di_seq (he : DPE X lo e te) : DPI X lo tg e (iSeq te) :=
  PI.of (pi_seq he) fun σ H R ⟨F, G, ρ, M, Q, a, h, q⟩ => ⟨F, G, ρ, M, _, a, h, fun v H1 F1 d M1 s1 r1 p1 h1 => by
    split at h1
    · cases p1 with
      | @tup b vs _ s w => exact ⟨b, rfl, .inr ⟨⟨vs, .inl (Same.rd r1.fz (.inl s))⟩, q _ H1 F1 _ M1 s1 r1 (it_tup (.inl s) w) h1⟩⟩
    · cases p1 with
      | @lst b vs _ s w => exact ⟨b, rfl, .inl ⟨⟨vs, .inl (Same.rd r1.fz s)⟩, q _ H1 F1 _ M1 s1 r1 (it_list s w) h1⟩⟩
    · exact h1.elim⟩
theorem di_rng1 {a : Expr} {ta : TDA} {p : Pos} (hg : Gl X "range") (hm : X.mg "range" = none) (ha : DPA X lo [a] ta) (hs : starEach [a] X.env = [(false, eval a X.env)] := by rfl) : DPI X lo tg (.Call (.Name "range" p) [a] [] pos) (iRng1 ta) :=
  PI.of (pi_range1 hg hm ha hs) fun σ H R ⟨F, G, ρ, M, Q, a, h, q⟩ => ⟨F, G, ρ, M, _, a, h, fun vs H1 F1 ds M1 s1 r1 p1 h1 => by
    split at h1
    · obtain ⟨v, rfl, p⟩ := p1.one
      cases p
      exact ⟨_, rfl, h1.1.1, h1.1.2, q _ H1 F1 _ M1 s1 r1 (it_rng _ _) h1.2⟩
    · exact h1.elim⟩
theorem di_rng2 {a b : Expr} {ta : TDA} {p : Pos} (hg : Gl X "range") (hm : X.mg "range" = none) (ha : DPA X lo [a, b] ta) (hs : starEach [a, b] X.env = [(false, eval a X.env), (false, eval b X.env)] := by rfl) (hs2 : starEach [b] X.env = [(false, eval b X.env)] := by rfl) :
    DPI X lo tg (.Call (.Name "range" p) [a, b] [] pos) (iRng2 ta) :=
  PI.of (pi_range2 hg hm ha hs hs2) fun σ H R ⟨F, G, ρ, M, Q, a, h, q⟩ => ⟨F, G, ρ, M, _, a, h, fun vs H1 F1 ds M1 s1 r1 p1 h1 => by
    split at h1
    · obtain ⟨v, w, rfl, p, p'⟩ := p1.two
      cases p; cases p'
      exact ⟨_, _, rfl, h1.1, q _ H1 F1 _ M1 s1 r1 (it_rng _ _) h1.2⟩
    · exact h1.elim⟩

/-! ### for -/
def forL (g : TDG) (tb : TDS) : List D → TDS
  | [], De, ρ, M => De.nx ρ M
  | d :: ds, De, ρ, M => g d ρ M fun ρ1 M1 => tb { De with nx := forL g tb ds De, ct := forL g tb ds De, bk := De.nx } ρ1 M1
def dFor (ti : TDI) (g : TDG) (tb : TDS) : TDS := fun De ρ M => ti ρ M fun ds M1 => forL g tb ds De ρ M1
theorem drop_at {α : Type} {l : List α} {i : Nat} {d : α} (h : l[i]? = some d) : l.drop i = d :: l.drop (i + 1) := by
  obtain ⟨hi, e⟩ := List.getElem?_eq_some_iff.mp h
  rw [List.drop_eq_getElem_cons hi, e]
theorem ds_for {iter : Expr} {body : List Stmt} {ti : TDI} {g : TDG} {ws : List Nat} {tb : TDS} (hp : PassesOwn (model X.prog X.w) X.A X.env X.xe) (hc : X.calm = true) (hi : DPI X lo tg iter ti) (hg : DPG X lo ws tg g) (hb : DPSs X lo body tb)
    (hs : ∀ x, foldedSetIterable iter X.env x = pure x := by intro _; rfl) : DPS X lo (.For tg iter body [] pos) (dFor ti g tb) :=
  PS.of (ps_for hp hc hi hg hb hs) fun σ H Dv ⟨F, G, ρ, M, De, a, h, er⟩ => ⟨F, G, ρ, M, _, a, h, fun J H1 F1 ds M1 s1 r1 it h1 => by
    refine ⟨fun i m σ H => m = ds.length - i ∧ i ≤ ds.length ∧ ∃ F2 ρ M, Same F1 F2 ∧ RelM X.K F2 G M H ∧ EnvR X.K F2 ρ σ ∧ forL g tb (ds.drop i) De ρ M, ⟨ds.length, by simp, Nat.zero_le _, F1, ρ, M1, Same.refl F1, r1, a.env.mono s1, h1⟩, ?_⟩
    rintro i m σ H ⟨rfl, hi, F2, ρ, M, s2, r2, e2, h2⟩
    obtain ⟨i1, i2⟩ := it F2 G M H i s2 r2
    have f2 : Same lo.F F2 := (a.f.trans s1).trans s2
    by_cases hlt : i < ds.length
    · have hd : ds[i]? = some ds[i] := List.getElem?_eq_getElem hlt
      obtain ⟨go, yl⟩ := i2 _ hd
      refine .inr ⟨go, fun σ H => i + 1 ≤ ds.length ∧ ∃ F2 ρ M, Same F1 F2 ∧ RelM X.K F2 G M H ∧ EnvR X.K F2 ρ σ ∧ forL g tb (ds.drop (i + 1)) De ρ M, fun σ' H' z => ⟨ds.length - (i + 1), by omega, rfl, z⟩, fun x H' y => ?_⟩
      obtain ⟨F3, s3, r3, p3⟩ := yl x H' y
      rw [drop_at hd] at h2
      refine ⟨F3, G, ρ, M, _, _, ⟨f2.trans s3, a.g, r3, e2.mono s3⟩, p3, h2, fun ρ4 σ4 H4 F4 M4 s4 r4 e4 w4 h4 => ?_⟩
      refine ⟨F4, G, ρ4, M4, _, ⟨(f2.trans s3).trans s4, a.g, r4, e4⟩, h4, ⟨fun σ' H' F' ρ' M' s r en z => ?_, fun v H' F' d M' s r p z => ?_, fun σ' H' F' ρ' M' s r en z => ?_, fun σ' H' F' ρ' M' s r en z => ?_⟩⟩
      · exact ⟨hlt, F', ρ', M', ((s2.trans s3).trans s4).trans s, r, en, z⟩
      · exact er.rt v H' F' d M' ((((s1.trans s2).trans s3).trans s4).trans s) r p z
      · exact er.nx σ' H' F' ρ' M' ((((s1.trans s2).trans s3).trans s4).trans s) r en z
      · exact ⟨hlt, F', ρ', M', ((s2.trans s3).trans s4).trans s, r, en, z⟩
    · have e : i = ds.length := by omega
      subst e
      rw [List.drop_length] at h2
      exact .inl ⟨i1 rfl, er.nx σ H F2 ρ M (s1.trans s2) r2 e2 h2⟩⟩

/-! ### while -/
def whileN (c : TDT) (tb : TDS) (De : DEnds) : Nat → Rho → Mm → Prop
  | 0, _, _ => False
  | n + 1, ρ, M => c ρ M fun b M1 => if b = true then tb { De with nx := whileN c tb De n, ct := whileN c tb De n, bk := De.nx } ρ M1 else De.nx ρ M1
def dWhile (c : TDT) (tb : TDS) : TDS := fun De ρ M => ∃ n, whileN c tb De n ρ M
theorem ds_while {body : List Stmt} {tc : TDT} {tb : TDS} (hp : PassesOwn (model X.prog X.w) X.A X.env X.xe) (hc : DPT X lo c tc) (hb : DPSs X lo body tb) : DPS X lo (.While c body [] pos) (dWhile tc tb) :=
  PS.of (ps_while hp hc hb) fun σ H Dv ⟨F, G, ρ, M, De, a, ⟨n, h⟩, er⟩ => by
    refine ⟨fun m σ H => ∃ F2 ρ M, Same F F2 ∧ RelM X.K F2 G M H ∧ EnvR X.K F2 ρ σ ∧ whileN tc tb De m ρ M, ⟨n, F, ρ, M, Same.refl F, a.rel, a.env, h⟩, ?_⟩
    rintro m σ H ⟨F2, ρ, M, s2, r2, e2, h2⟩
    cases m with
    | zero => exact h2.elim
    | succ m =>
      refine ⟨F2, G, ρ, M, _, ⟨a.f.trans s2, a.g, r2, e2⟩, h2, fun b H3 F3 M3 s3 r3 h3 => ?_⟩
      cases b with
      | true =>
        rw [if_pos rfl] at h3 ⊢
        refine ⟨fun σ H => ∃ F2 ρ M, Same F F2 ∧ RelM X.K F2 G M H ∧ EnvR X.K F2 ρ σ ∧ whileN tc tb De m ρ M, fun σ' H' z => ⟨m, by omega, z⟩, ?_⟩
        refine ⟨F3, G, ρ, M3, _, ⟨(a.f.trans s2).trans s3, a.g, r3, e2.mono s3⟩, h3, ⟨fun σ' H' F' ρ' M' s r en z => ?_, fun v H' F' d M' s r p z => ?_, fun σ' H' F' ρ' M' s r en z => ?_, fun σ' H' F' ρ' M' s r en z => ?_⟩⟩
        · exact ⟨F', ρ', M', (s2.trans s3).trans s, r, en, z⟩
        · exact er.rt v H' F' d M' ((s2.trans s3).trans s) r p z
        · exact er.nx σ' H' F' ρ' M' ((s2.trans s3).trans s) r en z
        · exact ⟨F', ρ', M', (s2.trans s3).trans s, r, en, z⟩
      | false =>
        rw [if_neg Bool.false_ne_true] at h3 ⊢
        exact er.nx σ H3 F3 ρ M3 (s2.trans s3) r3 (e2.mono s3) h3

/-! ### list comprehensions -/
def lcL (g : TDG) (tt : TDT) (te : TDE) (ρw : Rho) (Q : D → Mm → Prop) : List D → List D → Mm → Prop
  | [], acc, M => Q (.lst acc) M
  | d :: ds, acc, M => g d ρw M fun ρ2 M2 => tt ρ2 M2 fun b M3 => if b = true then te ρ2 M3 fun y M4 => lcL g tt te ρw Q ds (acc ++ [y]) M4 else lcL g tt te ρw Q ds acc M3
def eLc (ti : TDI) (g : TDG) (tt : TDT) (te : TDE) (vs : List Nat) : TDE := fun ρ M Q => ti ρ M fun ds M1 => ds.length ≤ sizeLine ∧ lcL g tt te (wipeD ρ vs) Q ds [] M1
def tYesD : TDT := fun _ M Q => Q true M
theorem wipe_idem (σ : L2.St) (vs : List Nat) : wipe (wipe σ vs) vs = wipe σ vs := by
  have step : ∀ (us : List Nat) (τ : L2.St), (∀ i ∈ us, i ∈ vs) → wipe (wipe τ us) vs = wipe τ vs := by
    intro us
    induction us with
    | nil => intro τ _; rfl
    | cons u us ih =>
      intro τ h
      show wipe ((wipe τ us).set u none) vs = wipe τ vs
      rw [wipe_set (h u List.mem_cons_self)]
      exact ih τ fun i hi => h i (List.mem_cons_of_mem _ hi)
  exact step vs σ fun _ h => h
/-- with one more object of the frame -/
theorem RelM.addG (r : RelM K F G M H) {a : Addr} {o : HO} (h : H a = some o) (f : F a = none) (k : ∀ p ∈ M, p.1 ≠ a) : RelM K F (upd G a o) M H := by
  refine ⟨r.fz, fun b x e => ?_, r.nd, fun b x e => ?_, fun p hp => ?_⟩
  · by_cases hb : b = a
    · subst hb; rw [upd_same] at e; cases e; exact h
    · rw [upd_ne hb] at e; exact r.fr b x e
  · by_cases hb : b = a
    · subst hb; exact .inl f
    · rw [upd_ne hb] at e; exact r.dj b x e
  · obtain ⟨x, y, z⟩ := r.at' p hp
    exact ⟨x, by rw [upd_ne (k p hp)]; exact y, z⟩
/-- the frame's object changed, and given back -/
theorem RelM.cutG {a : Addr} {o o' : HO} (r : RelM K F (upd G a o) M H) (g : G a = none) (hn : ∀ ys, o ≠ .tup ys := by intro _ z; cases z) : RelM K F G M (upd H a o') ∧ F a = none ∧ H a = some o ∧ ∀ p ∈ M, p.1 ≠ a := by
  have fa : F a = none := (r.dj a o upd_same).resolve_right fun ⟨ys, e⟩ => hn ys e
  have k : ∀ p ∈ M, p.1 ≠ a := fun p hp e => by
    obtain ⟨_, y, _⟩ := r.at' p hp
    rw [e, upd_same] at y; cases y
  refine ⟨⟨same_updR r.fz fa, fun b x e => ?_, r.nd, fun b x e => r.dj b x ?_, fun p hp => ?_⟩, fa, r.fr _ _ upd_same, k⟩
  · have hb : b ≠ a := ne_of_none e g
    rw [upd_ne hb]
    exact r.fr b x (by rw [upd_ne hb]; exact e)
  · rw [upd_ne (ne_of_none e g)]; exact e
  · obtain ⟨x, y, u, eu, z⟩ := r.at' p hp
    exact ⟨x, by rw [upd_ne (k p hp)] at y; exact y, u, by rw [upd_ne (k p hp)]; exact eu, z⟩
/-- given back as it stands -/
theorem RelM.offG {a : Addr} {o : HO} (r : RelM K F (upd G a o) M H) (g : G a = none) : RelM K F G M H := by
  refine ⟨r.fz, fun b x e => r.fr b x ?_, r.nd, fun b x e => r.dj b x ?_, fun p hp => ?_⟩
  · rw [upd_ne (ne_of_none e g)]; exact e
  · rw [upd_ne (ne_of_none e g)]; exact e
  · obtain ⟨x, y, z⟩ := r.at' p hp
    refine ⟨x, ?_, z⟩
    have k : p.1 ≠ a := fun e => by rw [e, upd_same] at y; cases y
    rw [upd_ne k] at y; exact y
theorem lift_lc {K : PySem.W.Frag} {lo : Lo} {ti : TDI} {g : TDG} {ws vs : List Nat} {tt : TDT} {te : TDE} (hw : ∀ i ∈ ws, i ∈ vs) {σ : L2.St} {H : Hp} {Qv : VK} (h : liftE K lo (eLc ti g tt te vs) σ H Qv) :
    tLc (liftI K lo ti) (liftG K lo ws g) (liftT K lo tt) (liftE K lo te) vs σ H Qv := by
  obtain ⟨F, G, ρ, M, Q, a, h, q⟩ := h
  refine ⟨F, G, ρ, M, _, a, h, fun J H1 F1 ds M1 s1 r1 it h1 => fun A hA => ?_⟩
  obtain ⟨hz, h1⟩ := h1
  have gA : G A = none := r1.freeG hA
  have fA : F1 A = none := r1.free hA
  refine ⟨fun i m H => m = ds.length - i ∧ i ≤ ds.length ∧ ∃ F2 M2 acc xs, Same F1 F2 ∧ RelM K F2 G M2 H ∧ H A = some (.lst xs) ∧ F2 A = none ∧ (∀ p ∈ M2, p.1 ≠ A) ∧ Reps K F2 xs acc ∧ acc.length ≤ i ∧ lcL g tt te (wipeD ρ vs) Q (ds.drop i) acc M2,
    ⟨ds.length, by simp, Nat.zero_le _, F1, M1, [], [], Same.refl F1, r1.newH hA, upd_same, fA, fun p hp => r1.ne hA hp, .nil, Nat.zero_le _, h1⟩, ?_⟩
  rintro i m H ⟨rfl, hi, F2, M2, acc, xs, s2, r2, eA, f2, k2, p2, l2, h2⟩
  have r2' := r2.addG eA f2 k2
  obtain ⟨i1, i2⟩ := it F2 _ M2 H i s2 r2'
  have ff2 : Same lo.F F2 := (a.f.trans s1).trans s2
  by_cases hlt : i < ds.length
  · have hd : ds[i]? = some ds[i] := List.getElem?_eq_getElem hlt
    obtain ⟨go, yl⟩ := i2 _ hd
    refine .inr ⟨go, fun H => i + 1 ≤ ds.length ∧ ∃ F2 M2 acc xs, Same F1 F2 ∧ RelM K F2 G M2 H ∧ H A = some (.lst xs) ∧ F2 A = none ∧ (∀ p ∈ M2, p.1 ≠ A) ∧ Reps K F2 xs acc ∧ acc.length ≤ i + 1 ∧ lcL g tt te (wipeD ρ vs) Q (ds.drop (i + 1)) acc M2,
      fun H' z => ⟨ds.length - (i + 1), by omega, rfl, z⟩, fun x H' y => ?_⟩
    obtain ⟨F3, s3, r3, p3⟩ := yl x H' y
    rw [drop_at hd] at h2
    have gg : Same lo.G (upd G A (.lst xs)) := fun b o e => by
      have := a.g b o e
      rw [upd_ne (ne_of_none this gA)]; exact this
    have e3 : EnvR K F3 (wipeD ρ vs) (wipe σ vs) := (a.env.mono ((s1.trans s2).trans s3)).wipe vs
    refine ⟨F3, upd G A (.lst xs), wipeD ρ vs, M2, _, _, ⟨ff2.trans s3, gg, r3, e3⟩, p3, h2, fun ρ4 σ4 H4 F4 M4 s4 r4 e4 w4 h4 => ?_⟩
    refine ⟨(w4 vs hw).trans (wipe_idem σ vs), F4, _, ρ4, M4, _, ⟨(ff2.trans s3).trans s4, gg, r4, e4⟩, h4, fun b H5 F5 M5 s5 r5 h5 => ?_⟩
    cases b with
    | true =>
      rw [if_pos rfl] at h5 ⊢
      refine ⟨F5, _, ρ4, M5, _, ⟨((ff2.trans s3).trans s4).trans s5, gg, r5, e4.mono s5⟩, h5, fun v H6 F6 d M6 s6 r6 p6 h6 => ?_⟩
      obtain ⟨c1, c2, c3, c4⟩ := r6.cutG (o' := .lst (xs ++ [v])) gA
      have s26 : Same F2 F6 := (((s3.trans s4).trans s5).trans s6)
      have lx := p2.length
      refine ⟨xs, c3, by omega, hlt, F6, M6, acc ++ [d], xs ++ [v], s2.trans s26, c1, upd_same, c2, c4, (p2.mono s26).append (.cons p6 .nil), by simp; omega, h6⟩
    | false =>
      rw [if_neg Bool.false_ne_true] at h5 ⊢
      obtain ⟨c1, c2, c3, c4⟩ := r5.cutG (o' := .lst xs) gA
      have s25 : Same F2 F5 := ((s3.trans s4).trans s5)
      exact ⟨hlt, F5, M5, acc, xs, s2.trans s25, r5.offG gA, c3, c2, c4, p2.mono s25, by omega, h5⟩
  · have e : i = ds.length := by omega
    subst e
    rw [List.drop_length] at h2
    have s3 : Same F2 (upd F2 A (.lst xs)) := same_new f2
    refine .inl ⟨i1 rfl, q _ H _ (.lst acc) M2 ((s1.trans s2).trans s3) ⟨fun b x e => ?_, r2.fr, r2.nd, fun b x e => ?_, fun p hp => ?_⟩ (.lst (.inl upd_same) (p2.mono s3)) h2⟩
    · by_cases hb : b = A
      · subst hb; rw [upd_same] at e; cases e; exact eA
      · rw [upd_ne hb] at e; exact r2.fz b x e
    · rw [upd_ne (ne_of_none e gA)]; exact r2.dj b x e
    · obtain ⟨x, y, u, eu, z⟩ := r2.at' p hp
      exact ⟨by rw [upd_ne (k2 p hp)]; exact x, y, u, eu, z.mono s3⟩
theorem de_lc {iter : Expr} {ifs : List Expr} {scope : Scope} {own : List (Str × Nat)} {ti : TDI} {g : TDG} {ws : List Nat} {tt : TDT} (hc : X.calm = true) (hN : X.N.Nodup) (hi : DPI X lo tg iter ti) (ok : BlkOk X.N X.env.scope scope own)
    (hw : ∀ i ∈ ws, i ∈ own.map (·.2))
    (hg : ∀ (s : Shared) (H : Hp) (C : Addr) (cl : List (Str × Addr)) (fp : List Addr), DPG (X.blk s H scope (compEnvC scope cl C X.env) fp) lo ws tg g)
    (ht : ∀ (s : Shared) (H : Hp) (C : Addr) (cl : List (Str × Addr)) (fp : List Addr), PTs (X.blk s H scope (compEnvC scope cl C X.env) fp) ifs (liftT X.K lo tt))
    (he : ∀ (s : Shared) (H : Hp) (C : Addr) (cl : List (Str × Addr)) (fp : List Addr), DPE (X.blk s H scope (compEnvC scope cl C X.env) fp) lo e te) (hs : ∀ x, foldedSetIterable iter X.env x = pure x := by intro _; rfl) :
    DPE X lo (.ListComp e [⟨tg, iter, ifs, 0⟩] scope pos) (eLc ti g tt te (own.map (·.2))) :=
  PE.of (pe_lc hc hN hi ok hg ht he hs) fun σ H Qv h => lift_lc hw h
theorem dts_nil {X : Cx} : PTs X [] (liftT X.K lo tYesD) := ⟨fun pins s σ H Qv I ⟨F, G, ρ, M, Q, a, h, q⟩ => pts_nil.run pins s σ H Qv I (q true H F M (Same.refl F) a.rel h)⟩
theorem dts_one {X : Cx} {c : Expr} {t : TDT} (h : DPT X lo c t) : PTs X [c] (liftT X.K lo t) := pts_one h
theorem ds_setLc {i : Nat} {y : Str} {py : Pos} {iter : Expr} {ifs : List Expr} {scope : Scope} {own : List (Str × Nat)} {spos : Pos} {ti : TDI} {g : TDG} {ws : List Nat} {tt : TDT} (hc : X.calm = true) (hN : X.N.Nodup) (hy : X.N[i]? = some y) (hyl : X.env.scope.names.lookup y = some .local)
    (hsw : swapsWith (.ListComp e [⟨tg, iter, ifs, 0⟩] scope pos) (some (.Name y py)) spos.line X.env = pure true) (hi : DPI X lo tg iter ti) (ok : BlkOk X.N X.env.scope scope own)
    (hw : ∀ i ∈ ws, i ∈ own.map (·.2))
    (hg : ∀ (s : Shared) (H : Hp) (C : Addr) (cl : List (Str × Addr)) (fp : List Addr), DPG (X.blk s H scope (compEnvC scope cl C X.env) fp) lo ws tg g)
    (ht : ∀ (s : Shared) (H : Hp) (C : Addr) (cl : List (Str × Addr)) (fp : List Addr), PTs (X.blk s H scope (compEnvC scope cl C X.env) fp) ifs (liftT X.K lo tt))
    (he : ∀ (s : Shared) (H : Hp) (C : Addr) (cl : List (Str × Addr)) (fp : List Addr), DPE (X.blk s H scope (compEnvC scope cl C X.env) fp) lo e te) (hs : ∀ x, foldedSetIterable iter X.env x = pure x := by intro _; rfl) :
    DPS X lo (.Assign [.Name y py] (.ListComp e [⟨tg, iter, ifs, 0⟩] scope pos) spos) (dSet i (eLc ti g tt te (own.map (·.2)))) :=
  PS.of (ps_setLc hc hN hy hyl hsw hi ok hg ht he hs) fun σ H Dv ⟨F, G, ρ, M, De, a, h, er⟩ => lift_lc hw ⟨F, G, ρ, M, _, a, h, fun v H' F' d M' s r p q => er.nx _ H' F' _ M' s r ((a.env.mono s).set p i) q⟩
end
end DL

namespace DL
open PySem PySem.Spec PyProof.Rows L2
variable {K : PySem.W.Frag} {F F' F0 F1 F2 G G' H H' H1 H2 : Hp} {M M' : Mm} {ρ ρ' : Rho} {σ σ' : L2.St}

/-! ### what a def promises -/
abbrev XD := Str → List (Str × D) → Mm → Prop
abbrev SpD := List D → Mm → (D → Mm → Prop) → XD → Prop
def noE : XD := fun _ _ _ => False
theorem RelM.lessG (r : RelM K F G M H) (s : Same G' G) : RelM K F G' M H :=
  ⟨r.fz, s.trans r.fr, r.nd, fun b o e => r.dj b o (s b o e), fun p hp => by
    obtain ⟨x, y, z⟩ := r.at' p hp
    exact ⟨x, s.free y, z⟩⟩
/-- the objects, with an exception's own dict -/
def XRel (K : PySem.W.Frag) (F G : Hp) (M : Mm) (H : Hp) (dx : Option Addr) (fs : List (Str × D)) : Prop := (dx = none ∧ fs = [] ∧ RelM K F G M H) ∨ ∃ d, dx = some d ∧ fs ≠ [] ∧ RelM K F G ((d, .xd fs) :: M) H
theorem XRel.lessG {dx : Option Addr} {fs : List (Str × D)} (r : XRel K F G M H dx fs) (s : Same G' G) : XRel K F G' M H dx fs :=
  r.elim (fun ⟨a, b, r⟩ => .inl ⟨a, b, r.lessG s⟩) fun ⟨d, a, b, r⟩ => .inr ⟨d, a, b, r.lessG s⟩
def KontX (K : PySem.W.Frag) (F G : Hp) (E : XD) (Ev : XK) : Prop := ∀ nm dx H' F' fs M', Same F F' → XRel K F' G M' H' dx fs → E nm fs M' → Ev (.ref (exOf K nm)) dx H'
def liftSp (K : PySem.W.Frag) (sp : SpD) : Sp := fun vs H Qv Ev => ∃ F G M ds Q E, RelM K F G M H ∧ Reps K F vs ds ∧ sp ds M Q E ∧ Kont K F G Q Qv ∧ KontX K F G E Ev
def wishD (K : PySem.W.Frag) (lo : Lo) (E : XD) : XK := fun cls dx H => ∃ nm, cls = .ref (exOf K nm) ∧ ∃ F fs M, Same lo.F F ∧ XRel K F lo.G M H dx fs ∧ E nm fs M
def eCall (sp : SpD) (E : XD) (t : TDA) : TDE := fun ρ M Q => t ρ M fun ds M1 => sp ds M1 Q E
section
variable {X : Cx} {lo : Lo} {pos : Pos} {e : Expr} {es : List Expr} {k : Nat} {f : Addr} {fd : FuncData} {ps : List Str} {sp : SpD} {E : XD} {x : Str} {p : Pos} {t : TDA}
theorem passN : Passes (L2N.CX X.prog X.w) X (wishD X.K lo noE) := fun _ _ _ _ _ _ _ h => by
  obtain ⟨_, _, _, _, _, _, _, _, _, _, _, _, z⟩ := h
  obtain ⟨_, _, _, _, _, _, _, z⟩ := z
  exact z.elim
theorem passT (tk : L2N.Takes X (fun cls d _ H => wishD X.K lo E cls d H)) : Passes (L2N.CX X.prog X.w) X (wishD X.K lo E) := L2N.passes_call tk fun _ _ _ _ h => h
theorem sp_run {vs : List V} {ds : List D} {H : Hp} {Q : D → Mm → Prop} {Qv : VK} (gl : Same lo.G G) (fl : Same lo.F F) (r : RelM K F G M H) (p : Reps K F vs ds) (h : sp ds M Q E) (k : Kont K F G Q Qv) : liftSp K sp vs H Qv (wishD K lo E) :=
  ⟨F, G, M, ds, Q, E, r, p, h, k, fun nm dx H' F' fs M' s r' e => ⟨nm, rfl, F', fs, M', fl.trans s, r'.lessG gl, e⟩⟩
theorem de_call (Fk : FnOk X.prog X.w X.K X.mg X.base (L2N.CX X.prog X.w) k f fd ps (liftSp X.K sp)) (hr : Room k X.A) (hg : Gl X x) (hm : X.mg x = some (.ref f)) (hk : PySem.W.keepIn X.K (.ref f) = true) (hb : Binds X.K fd ps []) (hx : Passes (L2N.CX X.prog X.w) X (wishD X.K lo E))
    (ha : DPA X lo (e :: es) t) (hdb : (x == ("__debug__" : Str)) = false := by decide) (he : starEach (e :: es) X.env = (false, eval e X.env) :: starEach es X.env := by rfl) (hpl : (backTo pos (starEach es X.env)).any (·.1) = false := by rfl) :
    DPE X lo (.Call (.Name x p) (e :: es) [] pos) (eCall sp E t) :=
  PE.of (pe_call Fk hr hg hm hk hb .nil hx ha hdb he hpl) fun σ H Qv ⟨F, G, ρ, M, Q, a, h, q⟩ => ⟨F, G, ρ, M, _, a, h, fun vs H1 F1 ds M1 s1 r1 p1 h1 => by
    show liftSp X.K sp (vs ++ []) H1 Qv (wishD X.K lo E)
    rw [List.append_nil]
    exact sp_run a.g (a.f.trans s1) r1 p1 h1 fun v H' F' d M' s r p z => q v H' F' d M' (s1.trans s) r p z⟩
theorem de_call0 (Fk : FnOk X.prog X.w X.K X.mg X.base (L2N.CX X.prog X.w) k f fd ps (liftSp X.K sp)) (hr : Room k X.A) (hg : Gl X x) (hm : X.mg x = some (.ref f)) (hk : PySem.W.keepIn X.K (.ref f) = true) (hb : Binds X.K fd ps []) (hx : Passes (L2N.CX X.prog X.w) X (wishD X.K lo E))
    (hdb : (x == ("__debug__" : Str)) = false := by decide) : DPE X lo (.Call (.Name x p) [] [] pos) (eCall sp E aNil) :=
  PE.of (pe_call0 Fk hr hg hm hk hb .nil hx hdb) fun σ H Qv ⟨F, G, ρ, M, Q, a, h, q⟩ => sp_run a.g a.f a.rel .nil h fun v H' F' d M' s r p z => q v H' F' d M' s r p z
/-! raise X('..') -/
def dRaise (E : XD) (nm : Str) : TDS := fun _ _ M => E nm [] M
theorem ds_raise {m : Str} {j : Nat} {p2 pos' : Pos} {bmB : List Value} {B newId initId : String} (hc : X.calm = true) (tk : L2N.Takes X (fun cls d _ H => wishD X.K lo E cls d H)) (Fe : ExcBaseFacts B newId initId bmB) (q : PySem.W.excIn X.K (exOf X.K x) bmB newId = true)
    (gC : X.mg x = some (.ref (exOf X.K x))) (kC : PySem.W.keepIn X.K (.ref (exOf X.K x)) = true) (r : Raises X (.ref (exOf X.K x))) (hg : Gl X x) (hdb : (x == ("__debug__" : Str)) = false := by decide) :
    DPS X lo (.Raise (some (.Call (.Name x p) [.Constant (.str m) j p2] [] pos)) none pos') (dRaise E x) :=
  PS.of (L2N.ps_raise hc tk (L2N.pmk_own Fe q gC kC r hg hdb)) fun σ H Dv ⟨F, G, ρ, M, De, a, h, er⟩ => ⟨x, rfl, F, [], M, a.f, .inl ⟨rfl, rfl, a.rel.lessG a.g⟩, h⟩
end

/-! ### a def's end -/
/-- what was made and is forgotten; a list that is handed back changes no more -/
def fin (Q : D → Mm → Prop) (d : D) (M : Mm) : Prop := (∃ M' : Mm, M'.Sublist M ∧ Q d M') ∨ ∃ a ds M', d = .obj a ∧ ((a, MO.lst ds) :: M').Sublist M ∧ Q (.lst ds) M'
theorem fin_same {Q : D → Mm → Prop} {d : D} {M : Mm} (h : Q d M) : fin Q d M := .inl ⟨M, List.Sublist.refl M, h⟩
theorem fin_drop {Q : D → Mm → Prop} {d : D} {M M' : Mm} (s : M'.Sublist M) (h : Q d M') : fin Q d M := .inl ⟨M', s, h⟩
theorem fin_frz {Q : D → Mm → Prop} {a : Addr} {ds : List D} {M M' : Mm} (s : ((a, MO.lst ds) :: M').Sublist M) (h : Q (.lst ds) M') : fin Q (.obj a) M := .inr ⟨a, ds, M', rfl, s, h⟩
theorem fin_top {Q : D → Mm → Prop} {a : Addr} {ds : List D} {M : Mm} (h : Q (.lst ds) M) : fin Q (.obj a) ((a, .lst ds) :: M) := fin_frz (List.Sublist.refl _) h
theorem fin_ok {Q : D → Mm → Prop} {Qv : VK} (k : Kont K F G Q Qv) {v : V} {d : D} (s : Same F F') (r : RelM K F' G M H) (p : Rep K F' v d) (h : fin Q d M) : Qv v H := by
  rcases h with ⟨M', hs, h⟩ | ⟨a, ds, M', rfl, hs, h⟩
  · exact k v H F' d M' s (r.drop hs) p h
  · obtain ⟨vs, s2, r2, q2⟩ := r.freeze hs
    cases p
    exact k _ H _ (.lst ds) M' (s.trans s2) r2 (.lst (.inl upd_same) q2) h
def startD (N : List Str) (ds : List D) : Rho := ds.map some ++ List.replicate (N.length - ds.length) none
theorem env_nones : ∀ n : Nat, EnvR K F (List.replicate n none) (List.replicate n none)
  | 0 => .nil
  | n + 1 => .no (env_nones n)
theorem env_start {N : List Str} : ∀ {vs : List V} {ds : List D} (n : Nat), Reps K F vs ds → EnvR K F (ds.map some ++ List.replicate n none) (vs.map some ++ List.replicate n none)
  | _, _, n, .nil => env_nones n
  | _, _, n, .cons r t => .yes r (env_start (N := N) n t)
section
variable {P : Program} {w : World} {K : PySem.W.Frag} {mg : Str → Option Value} {base : Heap}
theorem FunD.ok {x qual : Str} {st : Stmt} {f : Addr} {fd : FuncData} {N ps : List Str} {k : Nat} {sp : SpD} (Fu : Fun K x qual st f fd) (S : FnScope N ps (defScope st)) (len : ∀ ds M Q E, sp ds M Q E → ds.length = ps.length)
    (hbody : ∀ (cdv : Value) (A : Around) (outer : List Env) (s : Shared) (H : Hp) (Ev : XK) (lo : Lo) (ds : List D) (M : Mm) (Q : D → Mm → Prop) (E : XD), Room k (A.deeper (envOfC qual (defScope st) s.heap.objs.size f cdv)) →
      L2N.Takes (cxOf (L2N.CX P w) P w K mg base N qual (defScope st) f cdv A outer s H Ev) (fun cls d _ H => wishD K lo E cls d H) → sp ds M Q E →
      ∃ t, DPSs (cxOf (L2N.CX P w) P w K mg base N qual (defScope st) f cdv A outer s H Ev) lo (defBody st) t ∧ t { nx := fun _ M' => fin Q .non M', rt := fin Q } (startD N ds) M) :
    FnOk P w K mg base (L2N.CX P w) (k + 1) f fd ps (liftSp K sp) := by
  obtain ⟨oc, od, kV, doc, pm, an, cdv, ct, osl, rfl, lk, hcd⟩ := Fu.ex
  refine fn_of lk hcd S (fun vs H Q E ⟨F, G, M, ds, Q', E', r, p, h, _⟩ => p.length.trans (len _ _ _ _ h)) fun A outer s H vs Qv Ev hr h => ?_
  obtain ⟨F, G, M, ds, Q, E, r, p, h, kq, ke⟩ := h
  have tk : L2N.Takes (cxOf (L2N.CX P w) P w K mg base N qual (defScope st) f cdv A outer s H Ev) (fun cls d _ H => wishD K ⟨F, G⟩ E cls d H) :=
    L2N.Takes.imp (L2N.takes_of rfl rfl rfl rfl) fun c d σ H' ⟨nm, ec, F', fs, M', s, r, e⟩ => by subst ec; exact ke nm d H' F' fs M' s r e
  obtain ⟨t, hd, ht⟩ := hbody cdv A outer s H Ev ⟨F, G⟩ ds M Q E hr tk h
  refine ⟨_, hd, F, G, startD N ds, M, _, ⟨Same.refl F, Same.refl G, r, ?_⟩, ht, ⟨fun σ H F2 ρ M2 s2 r2 _ h2 => fin_ok kq s2 r2 .non h2, fun v H F2 d M2 s2 r2 p2 h2 => fin_ok kq s2 r2 p2 h2, fun _ _ _ _ _ _ _ _ z => z.elim, fun _ _ _ _ _ _ _ _ z => z.elim⟩⟩
  unfold startD L2.start
  rw [p.length]
  exact env_start (N := N) _ p
end
end DL

namespace DL
open PySem PySem.Spec PyProof.Rows L2
variable {K : PySem.W.Frag} {F F' F0 F1 F2 G G' H H' H1 H2 : Hp} {M M' : Mm} {ρ ρ' : Rho} {σ σ' : L2.St}

/-! ### what an iterator of a range draws -/
section
variable {prog : Program} {w : World} {A : Around} {E : Value → Shared → Prop} {s : Shared}
theorem draws_range (hh : A.handled = none) (it : Addr) (a : Int) (n : Nat) : Draws prog w A it [it] n (fun i v => ∃ t, v = .int (a + (i : Nat)) t) (fun i h => IsRangeIter h it (a + (i : Nat)) ((n : Int) - (i : Nat)) 1) where
  live := fun _ _ st => ⟨_, st⟩
  frame := fun _ _ _ st k => k it (by simp) _ st
  item := fun i s Q E hi st q => by
    have ty : s.TypeIs (.ref it) "range_iterator" := ⟨_, st, rfl⟩
    unfold Builtin.SmallTypes.nextOf
    refine wpAny_bind (wpAny_callSpecial?_slot (name := Str.ofString "__next__") ty F.slot_range_iterator_next
      (call_meets F.slot_range_iterator_next ty F.entry_range_iterator_next (F.args_range_iterator_next_1 _) (AutoRange.range_iterator___next___range_iterator_1 it _ _ 1 (by omega)) ⟨st, wpAny_pure (q _ _ _ ⟨_, rfl⟩ ?_ ((Heap.SameBut.update ..).trans (Heap.SameBut.update ..)))⟩))
    have z := Heap.get?_update_self (Obj.mapFields (·.setIfInBounds 1 (rawInt ((n : Int) - (i : Nat) - 1)))) (Heap.get?_update_self (Obj.mapFields (·.setIfInBounds 0 (rawInt (a + (i : Nat) + 1)))) st rfl) rfl
    have e1 : a + ((i + 1 : Nat) : Int) = a + (i : Nat) + 1 := by omega
    have e2 : (n : Int) - ((i + 1 : Nat) : Int) = (n : Int) - (i : Nat) - 1 := by omega
    show IsRangeIter _ it _ _ 1
    rw [e1, e2]
    exact z
  done := fun s Q E st hE => by
    have ty : s.TypeIs (.ref it) "range_iterator" := ⟨_, st, rfl⟩
    obtain ⟨h, g, d, t, os⟩ := s
    have le : (n : Int) - (n : Nat) ≤ 0 := by omega
    unfold Builtin.SmallTypes.nextOf
    refine wpAny_bind (wpAny_callSpecial?_slot (name := Str.ofString "__next__") ty F.slot_range_iterator_next (wpAny_call_entry F.slot_range_iterator_next ty F.entry_range_iterator_next ?_ (F.args_range_iterator_next_1 _)))
    have st : h.get? it = _ := st
    unfold Builtin.«range_iterator.__next__»
    wp_walk using wpAny_loadPart_at st
    exact wpAny_raiseNew_none hh (hE _ _ (fun b o _ e => Heap.get?_push_of_some _ (Heap.get?_push_of_some _ e)) ⟨_, Heap.get?_push_size _ rfl, rfl⟩)
end

/-! ### sources: what zip and enumerate walk -/
structure SrcT (P : Program) (w : World) (K : PySem.W.Frag) (F0 : Hp) (o : Obj) (tn : Addr → Nat → Heap → Prop) (ds : List D) : Prop where
  start : ∀ it h, h.get? it = some o → tn it 0 h
  obj : ∀ it i h, tn it i h → ∃ o, h.get? it = some o ∧ ∀ v, o.data ≠ .cell v
  keep : ∀ it i h h', tn it i h → (∀ o, h.get? it = some o → h'.get? it = some o) → tn it i h'
  draws : ∀ (X : Cx), X.prog = P → X.w = w → X.K = K → X.calm = true → ∀ (pins : List (Addr × Obj)) (s : Shared) (σ : L2.St) (H : Hp) (it : Addr), Inv X pins σ H s → Same F0 H → H it = none →
    ∃ (fp : List Addr) (Pt : Nat → Value → Prop) (St : Nat → Heap → Prop), Draws P w X.A.in1 it (it :: fp) ds.length Pt St ∧ (∀ b ∈ fp, ∃ o, H b = some o) ∧ (∀ i, tn it i s.heap → St i s.heap) ∧ (∀ i h', St i h' → tn it i h') ∧
      ∀ i v d, Pt i v → ds[i]? = some d → ∃ x : V, RelV x v ∧ Rep K F0 x d
def SrcOf (X : Cx) (F0 : Hp) (s : Shared) (u : Value) (ds : List D) : Prop := ∃ (o : Obj) (Hc : Heap → Prop) (tn : Addr → Nat → Heap → Prop), Begins u o Hc ∧ Hc s.heap ∧ SrcT X.prog X.w X.K F0 o tn ds
def D.items : D → Option (List D)
  | .tup ds => some ds
  | .lst ds => some ds
  | .rng lo hi => if -(2 ^ 62) ≤ lo ∧ lo < 2 ^ 62 ∧ -(2 ^ 62) ≤ hi ∧ hi < 2 ^ 62 then some (rngD lo (hi - lo).toNat) else none
  | _ => none
theorem srcT_tup {P : Program} {w : World} {K : PySem.W.Frag} {F0 : Hp} {t : Addr} {vs : List V} {ds : List D} (sq : Rd F0 t (.tup vs)) (rs : Reps K F0 vs ds) :
    SrcT P w K F0 { cls := .type "tuple_iterator", data := .fields #[.ref t, .int 0 0] } (fun it i h => h.IsTupleIter it t i) ds := by
  refine ⟨fun it h e => ⟨_, e, rfl, rfl⟩, fun it i h ⟨o, e, _, d⟩ => ⟨o, e, fun v z => by rw [d] at z; cases z⟩, fun it i h h' st k => st.at fun o e => k o e, ?_⟩
  intro X' hP hw hK hc pins' s' σ' H' it I' fz' hn
  subst hP hw hK
  obtain ⟨its', rv', ht', hz'⟩ := I'.tuple (.inl (Same.rd fz' sq))
  have hti : t ≠ it := fun e => by
    subst e
    rcases Same.rd fz' sq with z | ⟨_, z⟩ <;> rw [hn] at z <;> cases z
  have hl : its'.toArray.size = ds.length := by rw [List.size_toArray, ← rv'.length]; exact rs.length
  have D0 := Draws.tuple (prog := X'.prog) (w := X'.w) (A := X'.A.in1) (show X'.A.in1.handled = none from I'.ok.hd hc) it t hti its'.toArray
  rw [hl] at D0
  refine ⟨[t], _, _, D0, fun b hb => ?_, fun i st => ⟨st, ht'⟩, fun i h' st => st.1, fun i v d hv hd => ?_⟩
  · have e : b = t := by simpa using hb
    subst e
    rcases Same.rd fz' sq with z | ⟨_, z⟩ <;> exact ⟨_, z⟩
  · obtain ⟨x, hx, r⟩ := rs.get hd
    obtain ⟨u', hu', ru⟩ := rv'.get hx
    have : u' = v := by
      have e1 : its'[i]? = some v := by simpa using hv
      rw [hu'] at e1; exact Option.some.inj e1
    subst this
    exact ⟨x, ru, r⟩
theorem srcT_lst {P : Program} {w : World} {K : PySem.W.Frag} {F0 : Hp} {t : Addr} {vs : List V} {ds : List D} (sq : Rd F0 t (.lst vs)) (rs : Reps K F0 vs ds) :
    SrcT P w K F0 { cls := .type "list_iterator", data := .fields #[.ref t, .int 0 0] } (fun it i h => h.IsListIter it t i) ds := by
  refine ⟨fun it h e => ⟨_, e, rfl, rfl⟩, fun it i h ⟨o, e, _, d⟩ => ⟨o, e, fun v z => by rw [d] at z; cases z⟩, fun it i h h' st k => st.at fun o e => k o e, ?_⟩
  intro X' hP hw hK hc pins' s' σ' H' it I' fz' hn
  subst hP hw hK
  obtain ⟨its', rv', ht', hz'⟩ := I'.list (.inl (Same.rd fz' sq))
  have hti : t ≠ it := fun e => by
    subst e
    rcases Same.rd fz' sq with z | ⟨_, z⟩ <;> rw [hn] at z <;> cases z
  have hl : its'.toArray.size = ds.length := by rw [List.size_toArray, ← rv'.length]; exact rs.length
  have D0 := Draws.list (prog := X'.prog) (w := X'.w) (A := X'.A.in1) (show X'.A.in1.handled = none from I'.ok.hd hc) it t hti its'.toArray
  rw [hl] at D0
  refine ⟨[t], _, _, D0, fun b hb => ?_, fun i st => ⟨st, ht'.isList⟩, fun i h' st => st.1, fun i v d hv hd => ?_⟩
  · have e : b = t := by simpa using hb
    subst e
    rcases Same.rd fz' sq with z | ⟨_, z⟩ <;> exact ⟨_, z⟩
  · obtain ⟨x, hx, r⟩ := rs.get hd
    obtain ⟨u', hu', ru⟩ := rv'.get hx
    have : u' = v := by
      have e1 : its'[i]? = some v := by simpa using hv
      rw [hu'] at e1; exact Option.some.inj e1
    subst this
    exact ⟨x, ru, r⟩
theorem srcT_rng {P : Program} {w : World} {K : PySem.W.Frag} {F0 : Hp} {lo hi : Int} :
    SrcT P w K F0 { cls := .type "range_iterator", data := .fields #[rawInt lo, rawInt (Builtin.Range.rangeSize lo hi 1), rawInt 1] } (fun it i h => IsRangeIter h it (lo + (i : Nat)) (((hi - lo).toNat : Int) - (i : Nat)) 1) (rngD lo (hi - lo).toNat) := by
  refine ⟨fun it h e => ?_, fun it i h st => ⟨_, st, fun v z => nomatch z⟩, fun it i h h' st k => k _ st, ?_⟩
  · have e2 : (((hi - lo).toNat : Nat) : Int) - ((0 : Nat) : Int) = Builtin.Range.rangeSize lo hi 1 := by rw [rangeSize_one]; split <;> omega
    have e1 : lo + ((0 : Nat) : Int) = lo := by simp
    show IsRangeIter h it (lo + ((0 : Nat) : Int)) (((hi - lo).toNat : Int) - ((0 : Nat) : Int)) 1
    rw [e1, e2]
    exact e
  · intro X' hP hw hK hc pins' s' σ' H' it I' fz' hn
    subst hP hw hK
    have D0 := draws_range (prog := X'.prog) (w := X'.w) (A := X'.A.in1) (show X'.A.in1.handled = none from I'.ok.hd hc) it lo (hi - lo).toNat
    refine ⟨[], _, _, by rw [rngD_len]; exact D0, fun b hb => by simp at hb, fun i st => st, fun i h' st => st, fun i v d hv hd => ?_⟩
    have hi' : i < (hi - lo).toNat := by
      have := (List.getElem?_eq_some_iff.mp hd).1
      rw [rngD_len] at this; exact this
    have ed : d = .int (lo + i) := by
      unfold rngD at hd
      rw [List.getElem?_map, List.getElem?_range hi'] at hd
      exact (Option.some.inj hd).symm
    obtain ⟨t, rfl⟩ := hv
    exact ⟨.int (lo + i), ⟨t, rfl⟩, by rw [ed]; exact .int _⟩
theorem src_of {X : Cx} {pins : List (Addr × Obj)} {s : Shared} {σ : L2.St} {H F0 : Hp} {u : Value} {v : V} {d : D} {ds : List D} (I : Inv X pins σ H s) (fz : Same F0 H) (rv : RelV v u) (p : Rep X.K F0 v d) (h : d.items = some ds) : SrcOf X F0 s u ds := by
  cases p with
  | @tup t vs _ sq rs =>
    cases h
    cases rv
    obtain ⟨its, rv, ht, hz⟩ := I.tuple (.inl (Same.rd fz (.inl sq)))
    exact ⟨_, _, _, begins_tuple t its.toArray, ht, srcT_tup (.inl sq) rs⟩
  | @lst t vs _ sq rs =>
    cases h
    cases rv
    obtain ⟨its, rv, ht, hz⟩ := I.list (.inl (Same.rd fz sq))
    exact ⟨_, _, _, begins_list t its.toArray, ht.isList, srcT_lst sq rs⟩
  | @rng a lo hi sq =>
    cases rv
    have h : (if -(2 ^ 62) ≤ lo ∧ lo < 2 ^ 62 ∧ -(2 ^ 62) ≤ hi ∧ hi < 2 ^ 62 then some (rngD lo (hi - lo).toNat) else none) = some ds := h
    by_cases hb : -(2 ^ 62) ≤ lo ∧ lo < 2 ^ 62 ∧ -(2 ^ 62) ≤ hi ∧ hi < 2 ^ 62
    · rw [if_pos hb] at h
      cases h
      obtain ⟨t, u, v, ho⟩ := I.hok a _ (fz _ _ sq)
      exact ⟨_, fun h => IsRange h a lo hi 1 t u v, _, ⟨fun prog w A E s Q hr q => wpAny_pyIter_range hr (small_one hb.1 hb.2.1 hb.2.2.1 hb.2.2.2) q, fun h h' x k => k _ _ x, rfl⟩, ho, srcT_rng⟩
    · rw [if_neg hb] at h
      cases h
  | non => cases h
  | bl => cases h
  | int => cases h
  | str => cases h
  | ins => cases h
  | obj => cases h
  | raw => cases h
  | kl => cases h
  | dic => cases h

/-! ### iterators that hand out new tuples -/
def ItR (K : PySem.W.Frag) (F0 : Hp) (rows : List (List D)) : It :=
  ⟨fun i H => Same F0 H ∧ i < rows.length, fun i H v H' => ∃ T xs, v = .ref T ∧ H T = none ∧ H' = upd H T (.tup xs) ∧ ∀ ds, rows[i]? = some ds → Reps K F0 xs ds, fun i H => Same F0 H ∧ i = rows.length⟩
theorem it_rows {rows : List (List D)} : ItD K F0 (ItR K F0 rows) (rows.map .tup) := fun F G M H i s r => by
  rw [List.length_map]
  refine ⟨fun e => ⟨s.trans r.fz, e⟩, fun d e => ?_⟩
  rw [List.getElem?_map] at e
  obtain ⟨ds, q, rfl⟩ := Option.map_eq_some_iff.mp e
  refine ⟨⟨s.trans r.fz, (List.getElem?_eq_some_iff.mp q).1⟩, fun v H' ⟨T, xs, ev, n, eH, p⟩ => ?_⟩
  subst ev eH
  have sT : Same F (upd F T (.tup xs)) := same_new (r.free n)
  exact ⟨_, sT, r.newF n, .tup upd_same ((p ds q).mono (s.trans sT))⟩
theorem ne_tracked {H : Hp} {a b : Addr} (h : H a = none) (h' : ∃ o, H b = some o) : a ≠ b := fun e => by
  obtain ⟨o, q⟩ := h'
  rw [e, q] at h; cases h
theorem not_in {H : Hp} {a b : Addr} {fp : List Addr} (n : H a = none) (t : ∀ b ∈ fp, ∃ o, H b = some o) (ab : a ≠ b) : a ∉ b :: fp := by
  rw [List.mem_cons, not_or]
  exact ⟨ab, fun m => ne_tracked n (t a m) rfl⟩
/-- z hands out the rows as new tuples -/
structure RowsT (P : Program) (w : World) (K : PySem.W.Frag) (F0 : Hp) (tg : Expr) (z : Addr) (fp : List Addr) (tn : Nat → Heap → Prop) (rows : List (List D)) : Prop where
  mem : z ∈ fp
  obj : ∀ i h, tn i h → ∀ b ∈ fp, ∃ o, h.get? b = some o ∧ ∀ v, o.data ≠ .cell v
  keep : ∀ i h h', tn i h → (∀ b ∈ fp, ∀ o, h.get? b = some o → h'.get? b = some o) → tn i h'
  goes : ∀ (X : Cx), X.prog = P → X.w = w → X.K = K → X.calm = true → ∀ (pins : List (Addr × Obj)) (s : Shared) (σ : L2.St) (H : Hp), Inv X pins σ H s → Same F0 H → (∀ b ∈ fp, H b = none) →
    ∃ (fp' wr : List Addr) (Y : Nat → Heap → Value → Heap → Prop) (St : Nat → Heap → Prop), GoesN P w X.A tg z fp' wr rows.length Y St ∧ (∀ b ∈ wr, b ∈ fp) ∧ (∀ i, tn i s.heap → St i s.heap) ∧ (∀ i h, St i h → tn i h) ∧
      ∀ i h0 v h, Y i h0 v h → ∃ T us, v = .ref T ∧ h0.objs.size ≤ T ∧ h.IsTuple T us ∧ ∀ ds, rows[i]? = some ds → ds.length ≤ 3 ∧ ∃ xs, Vals xs us.toList ∧ Reps K F0 xs ds
  self : ∀ (A : Around) (i : Nat) (s : Shared) (Q : Value → Shared → Prop) (E : Value → Shared → Prop), tn i s.heap → Q (.ref z) s → wpAny (model P w) A (pyIter (.ref z)) Q E s
theorem RowsT.turn {P : Program} {w : World} {K : PySem.W.Frag} {F0 : Hp} {tg : Expr} {z : Addr} {fp : List Addr} {tn : Nat → Heap → Prop} {rows : List (List D)} (R : RowsT P w K F0 tg z fp tn rows) : Turn P w K tg (ItR K F0 rows) fp z tn where
  mem := R.mem
  obj := R.obj
  keep := R.keep
  self := R.self
  item X hP hw hK hc i pins s σ H E I hf st hg := by
    obtain ⟨fz, lt⟩ := hg
    obtain ⟨fp', wr, Y, St, W, sub, to, of, y⟩ := R.goes X hP hw hK hc pins s σ H I fz fun b m => (hf b m).1
    refine W.goes i s _ _ lt (to i st) fun v h' tk hY st' k _ => ?_
    obtain ⟨T, us, rfl, le, ⟨o, ho, hcl, m, hd⟩, val⟩ := y i _ v h' hY
    obtain ⟨sz, xs, rv, rp⟩ := val _ (List.getElem?_eq_getElem lt)
    have n := I.hok.fresh le
    subst hP hw hK
    have new : ObjOk X.prog X.w (upd H T (.tup xs)) h' T (.tup xs) := ⟨Nat.le_trans (rp.length ▸ sz) (by decide), us.toList, rv, ⟨o, ho, hcl, m, by simpa using hd⟩⟩
    refine ⟨.ref T, _, I.turnedNew (t' := tk) (fun c o out q => k c o (fun m => out (sub c m)) q) hf le new, rfl, ⟨T, xs, rfl, n, rfl, fun ds q => ?_⟩, of _ _ st', fun b m => ?_⟩
    · rw [List.getElem?_eq_getElem lt] at q
      cases q
      exact rp
    · obtain ⟨_, e, _⟩ := R.obj _ _ st b m
      rw [upd_ne (Nat.ne_of_lt (Nat.lt_of_lt_of_le (Heap.lt_size e) le))]
      exact (hf b m).1
  done X hP hw hK hc i pins s σ H E I hf st hg := by
    obtain ⟨fz, rfl⟩ := hg
    obtain ⟨fp', wr, Y, St, W, sub, to, of, y⟩ := R.goes X hP hw hK hc pins s σ H I fz fun b m => (hf b m).1
    exact W.stops s _ _ (to _ st) fun h' tk k _ => I.turnedL (fun c o out q => k c o (fun m => out (sub c m)) q) hf
/-! ### zip of two -/
def zip2D (xs ys : List D) : List D := List.zipWith (fun x y => D.tup [x, y]) xs ys
theorem pair_row {K : PySem.W.Frag} {F0 : Hp} {xs ys : List D} {i : Nat} {ds : List D} (e : (List.zipWith (fun x y => [x, y]) xs ys)[i]? = some ds) : ∃ x y, xs[i]? = some x ∧ ys[i]? = some y ∧ ds = [x, y] := by
  rw [List.getElem?_zipWith] at e
  cases ex : xs[i]? <;> cases ey : ys[i]? <;> simp_all
theorem rows_zip2 {P : Program} {w : World} {K : PySem.W.Frag} {F0 : Hp} {o1 o2 : Obj} {tn1 tn2 : Addr → Nat → Heap → Prop} {xs ys : List D} (S1 : SrcT P w K F0 o1 tn1 xs) (S2 : SrcT P w K F0 o2 tn2 ys) {elts : List Expr} {kk : Nat} {tpos : Pos} (N : Nat) :
    RowsT P w K F0 (.Tuple elts kk tpos) (N + 4) [N + 4, N + 2, N + 3, N, N + 1] (fun i h => IsZip h (N + 4) (N + 2) (N + 3) .none ∧ IsTupOf2 h (N + 2) (.ref N) (.ref (N + 1)) ∧ (∃ a1 a2, IsTupOf2 h (N + 3) a1 a2) ∧ tn1 N i h ∧ tn2 (N + 1) i h) (List.zipWith (fun x y => [x, y]) xs ys) where
  mem := List.mem_cons_self
  obj := fun i h ⟨a, b, ⟨_, _, c⟩, d, e⟩ => by
    simp only [List.mem_cons, List.not_mem_nil, or_false, forall_eq_or_imp, forall_eq]
    exact ⟨⟨_, a, nofun⟩, ⟨_, b, nofun⟩, ⟨_, c, nofun⟩, S1.obj _ _ _ d, S2.obj _ _ _ e⟩
  keep := fun i h h' ⟨a, b, ⟨_, _, c⟩, d, e⟩ k => ⟨k _ (by simp) _ a, k _ (by simp) _ b, ⟨_, _, k _ (by simp) _ c⟩, S1.keep _ _ _ _ d (k _ (by simp)), S2.keep _ _ _ _ e (k _ (by simp))⟩
  self := fun A i s Q E st q => wpAny_pyIter_zip st.1 q
  goes := fun X hP hw hK hc pins s σ H I fz n => by
    obtain ⟨f1, P1, St1, D1, t1, to1, of1, v1⟩ := S1.draws X hP hw hK hc pins s σ H N I fz (n _ (by simp))
    obtain ⟨f2, P2, St2, D2, t2, to2, of2, v2⟩ := S2.draws X hP hw hK hc pins s σ H (N + 1) I fz (n _ (by simp))
    have sep : ∀ {a b : Nat}, a ≠ b → N + a ≠ N + b := fun h e => h (Nat.add_left_cancel e)
    have W := GoesN.zip2 (elts := elts) (x1 := kk) (pos := tpos) (z := N + 4) (TI := N + 2) (TO := N + 3) ⟨sep (by decide), sep (by decide), sep (by decide), sep (a := 2) (b := 0) (by decide), List.mem_cons_self, not_in (n _ (by simp)) t1 (sep (a := 4) (b := 0) (by decide)), not_in (n _ (by simp)) t1 (sep (a := 3) (b := 0) (by decide)), sep (by decide),
      List.mem_cons_self, not_in (n _ (by simp)) t2 (sep (by decide)), not_in (n _ (by simp)) t2 (sep (by decide)), not_in (n _ (by simp)) t2 (sep (a := 0) (b := 1) (by decide)), not_in (n _ (by simp)) t1 (sep (a := 1) (b := 0) (by decide))⟩ D1 D2
    rw [← List.length_zipWith (f := fun x y => [x, y])] at W
    refine ⟨_, _, _, _, W, ?_, fun i st => ⟨st.1, st.2.1, st.2.2.1, to1 i st.2.2.2.1, to2 i st.2.2.2.2⟩, fun i h st => ⟨st.1, st.2.1, st.2.2.1, of1 i h st.2.2.2.1, of2 i h st.2.2.2.2⟩, ?_⟩
    · intro b m
      simp only [List.mem_cons, List.not_mem_nil, or_false] at m ⊢
      rcases m with z | z | z | z <;> simp [z]
    · rintro i h0 v h ⟨T, x, y, e, le, px, py, tp⟩
      refine ⟨T, _, e, le, tp, fun ds q => ?_⟩
      obtain ⟨d1, d2, q1, q2, rfl⟩ := pair_row (K := K) (F0 := F0) q
      obtain ⟨a, ra, pa⟩ := v1 i x _ px q1
      obtain ⟨b, rb, pb⟩ := v2 i y _ py q2
      exact ⟨by simp, [a, b], .cons ra (.cons rb .nil), .cons pa (.cons pb .nil)⟩
def iZip2 (t : TDA) : TDI := fun ρ M Q => t ρ M fun ds M1 => match ds with
  | [a, b] => ∃ xs ys, a.items = some xs ∧ b.items = some ys ∧ Q (zip2D xs ys) M1
  | _ => False
theorem fresh_fp {X : Cx} {pins : List (Addr × Obj)} {s : Shared} {σ : L2.St} {H : Hp} (I : Inv X pins σ H s) {fp : List Addr} (h : ∀ c ∈ fp, s.heap.objs.size ≤ c) : ∀ c ∈ fp, FpOk X pins H c := fun c hc => I.fpOk (h c hc) (I.hok.fresh (h c hc))
section
variable {X : Cx} {lo : Lo} {tg e e2 e3 c : Expr} {te : TDE} {pos : Pos}
theorem di_zip2 {ta : TDA} {p tpos : Pos} {elts : List Expr} {kk : Nat} (hg : Gl X "zip") (hm : X.mg "zip" = none) (ha : DPA X lo [e, e2] ta)
    (hs : starEach [e, e2] X.env = (false, eval e X.env) :: starEach [e2] X.env := by rfl) (hpl : (backTo pos (starEach [e2] X.env)).any (·.1) = false := by rfl) :
    DPI X lo (.Tuple elts kk tpos) (.Call (.Name "zip" p) [e, e2] [] pos) (iZip2 ta) :=
  ⟨fun pins s σ H R I ⟨F, G, ρ, M, Q, a, h, q⟩ => by
    have arg := ha.run pos pins s σ H (fun vs H1 => ∃ F1 ds M1, Same F F1 ∧ RelM X.K F1 G M1 H1 ∧ Reps X.K F1 vs ds ∧ (match ds with
      | [a, b] => ∃ xs ys, a.items = some xs ∧ b.items = some ys ∧ Q (zip2D xs ys) M1
      | _ => False)) I ⟨F, G, ρ, M, _, a, h, fun vs H' F' ds M' s r p z => ⟨F', ds, M', s, r, p, z⟩⟩
    refine Call_ (ld_blt I hg hm PyProof.Rows.boot_zip (PyProof.Rows.callWith_type1 (thn arg fun us s1 ⟨vs, H1, I1, r1, F1, ds, M1, s1', r1', p1, z⟩ => ?_) hs hpl))
    match ds, p1, z with
    | [_, _], p1, ⟨xs, ys, ex, ey, hq⟩ =>
      obtain ⟨v, w, rfl, pv, pw⟩ := p1.two
      obtain ⟨u, u', rfl, ru, ru'⟩ := vals2 r1
      obtain ⟨o1, C1, tn1, B1, c1, S1⟩ := src_of I1 r1'.fz ru pv ex
      obtain ⟨o2, C2, tn2, B2, c2, S2⟩ := src_of I1 r1'.fz ru' pw ey
      refine zip_begins2 B1 B2 c1 c2 fun h' hz hTI hTO g1 g2 hsz k => wpAny_pyIter_zip hz ?_
      have R := rows_zip2 S1 S2 (elts := elts) (kk := kk) (tpos := tpos) s1.heap.objs.size
      refine ⟨_, _, _, _, H1, rfl, I1.kept (t' := s1.toks) k, R.turn, ⟨hz, hTI, ⟨_, _, hTO⟩, S1.start _ _ g1, S2.start _ _ g2⟩, fresh_fp I1 fun c m => ?_, q _ H1 F1 _ M1 s1' r1' it_rows ?_⟩
      · simp only [List.mem_cons, List.not_mem_nil, or_false] at m
        rcases m with z | z | z | z | z <;> subst z <;> simp
      · rw [List.map_zipWith]
        exact hq⟩
end
end DL

namespace DL
open PySem PySem.Spec PyProof.Rows L2
variable {K : PySem.W.Frag} {F F' F0 F1 F2 G G' H H' H1 H2 : Hp} {M M' : Mm} {ρ ρ' : Rho} {σ σ' : L2.St}

/-! ### ranges as values -/
theorem cr_range1 {X : Cx} : CallR X (.type "range") (fun vs H Q => ∃ j, vs = [V.int j] ∧ ∀ p, H p = none → Q (.ref p) (upd H p (.rng 0 j))) := by
  intro pins s σ H vs us Q I r h
  obtain ⟨j, rfl, q⟩ := h
  obtain ⟨u1, rfl, rj⟩ := vals1 r
  obtain ⟨u, rfl⟩ := rj
  refine call_range_1 ⟨.ref s.heap.objs.size, upd H s.heap.objs.size (.rng 0 j), I.laid (t' := s.toks + 1 + 1) (fun b o e => Heap.get?_push_of_some _ e) (Nat.le_refl _) ?_, rfl, q _ (I.hok.fresh (Nat.le_refl _))⟩
  exact ⟨s.toks, u, s.toks + 1, Heap.get?_push_size _ rfl⟩
def rRange : List V → Hp → VK → Prop := fun vs H Q => (∃ j, vs = [V.int j] ∧ ∀ p, H p = none → Q (.ref p) (upd H p (.rng 0 j))) ∨ ∃ i j, vs = [V.int i, V.int j] ∧ ∀ p, H p = none → Q (.ref p) (upd H p (.rng i j))
theorem cr_range {X : Cx} : CallR X (.type "range") rRange := by
  intro pins s σ H vs us Q I r h
  rcases h with h | h
  · exact cr_range1 pins s σ H vs us Q I r h
  · exact cr_range2 pins s σ H vs us Q I r h
def gRange : GDL := fun ds M Q => match ds with
  | [.int j] => Q (.rng 0 j) M
  | [.int i, .int j] => Q (.rng i j) M
  | _ => False
theorem ok_range : OkRL K rRange gRange := fun F G M H xs ds Q Qv r p h k => by
  unfold gRange at h
  split at h
  · obtain ⟨v, rfl, p1⟩ := p.one
    have e := rep_int p1 rfl
    subst e
    exact .inl ⟨_, rfl, fun q hq => k.new r hq (fun _ => .rng upd_same) h⟩
  · obtain ⟨v, w, rfl, p1, p2⟩ := p.two
    cases p1; cases p2
    exact .inr ⟨_, _, rfl, fun q hq => k.new r hq (fun _ => .rng upd_same) h⟩
  · exact h.elim

/-! ### enumerate(v) -/
section
variable {prog : Program} {w : World} {A : Around} {E : Value → Shared → Prop} {s : Shared}
/-- the iterator of v, then the object of enumerate -/
abbrev enumHeap (h : Heap) (o : Obj) : Heap := (h.push o).push { cls := .type "enumerate", data := .fields #[.none, .bool false, .ref h.objs.size, rawInt 0, .none, .none] }
theorem enum_new {v : Value} {o : Obj} {C : Heap → Prop} (B : Begins v o C) : Meets (Builtin.«enumerate.__new__» ⟨[.type "enumerate", v], []⟩) (fun _ R s => C s.heap ∧ R (.ok (.ret (.ref (s.heap.push o).objs.size))) { s with heap := enumHeap s.heap o }) :=
  .of_wp fun prog w A R ⟨hp, g, d, tk, os⟩ ⟨c, r⟩ => by
    have known := sub_enumerate
    have walk : ∀ {A' : Around} {E : Value → Shared → Prop} {Q : Value → Shared → Prop}, Q (.ref hp.objs.size) ⟨hp.push o, g, d, tk, os⟩ → wpAny (model prog w) A' (pyIter v) Q E ⟨hp, g, d, tk, os⟩ := B.iter prog w _ _ ⟨hp, g, d, tk, os⟩ _ c
    wp_walk using walk
    refine wpAny_stack_any fun st => wpAny_pure ?_
    split
    case' h_1 c _ _ _ _ _ => cases (c == Value.type "enumerate")
    all_goals
      wp_walk using walk
      exact ⟨_, rfl, r⟩
theorem enum_made {v : Value} {o : Obj} {C : Heap → Prop} {Q : Value → Shared → Prop} (B : Begins v o C) (c : C s.heap)
    (h : ∀ h', IsEnum h' (s.heap.objs.size + 1) s.heap.objs.size 0 .none → h'.get? s.heap.objs.size = some o → (∀ b o, s.heap.get? b = some o → h'.get? b = some o) → Q (.ref (s.heap.objs.size + 1)) { s with heap := h' }) :
    wpAny (model prog w) A (call (.type "enumerate") [v]) Q E s := by
  have at' := Heap.get?_push_size (s.heap.push o) (o := { cls := .type "enumerate", data := .fields #[.none, .bool false, .ref s.heap.objs.size, rawInt 0, .none, .none] }) rfl
  have q := h (enumHeap s.heap o)
  rw [← Heap.size_push s.heap o] at q
  exact callType_new F.called_enumerate (by decide) (F.typeCall_enumerate_1 _) (F.newCall_enumerate_1 _) (fun obj => F.args_object_init_2 obj _) F.entry_enumerate_new (enum_new B)
    ⟨c, ⟨_, at', rfl⟩, q at' (Heap.get?_push_of_some _ (Heap.get?_push_size _ B.free)) fun b o x => Heap.get?_push_of_some _ (Heap.get?_push_of_some _ x)⟩
end
def enumD (xs : List D) : List D := xs.mapIdx fun i x => D.tup [.int (i : Nat), x]
theorem rows_enum {P : Program} {w : World} {K : PySem.W.Frag} {F0 : Hp} {o1 : Obj} {tn1 : Addr → Nat → Heap → Prop} {xs : List D} (S1 : SrcT P w K F0 o1 tn1 xs) {elts : List Expr} {kk : Nat} {tpos : Pos} (N : Nat) :
    RowsT P w K F0 (.Tuple elts kk tpos) (N + 1) [N + 1, N] (fun i h => (∃ old, IsEnum h (N + 1) N (0 + (i : Int)) old) ∧ tn1 N i h) (xs.mapIdx fun i x => [.int (i : Nat), x]) where
  mem := List.mem_cons_self
  obj := fun i h ⟨⟨_, a⟩, b⟩ => by
    simp only [List.mem_cons, List.not_mem_nil, or_false, forall_eq_or_imp, forall_eq]
    exact ⟨⟨_, a, nofun⟩, S1.obj _ _ _ b⟩
  keep := fun i h h' ⟨⟨_, a⟩, b⟩ k => ⟨⟨_, k _ (by simp) _ a⟩, S1.keep _ _ _ _ b (k _ (by simp))⟩
  self := fun A i s Q E ⟨⟨_, a⟩, _⟩ q => wpAny_pyIter_enum a q
  goes := fun X hP hw hK hc pins s σ H I fz n => by
    obtain ⟨f1, P1, St1, D1, t1, to1, of1, v1⟩ := S1.draws X hP hw hK hc pins s σ H N I fz (n _ (by simp))
    have W := GoesN.enumFrom (elts := elts) (x1 := kk) (pos := tpos) 0 D1 (N + 1) (Nat.succ_ne_self N) (not_in (n _ (by simp)) t1 (Nat.succ_ne_self N)) List.mem_cons_self
    rw [← List.length_mapIdx (l := xs) (f := fun i x => [D.int (i : Nat), x])] at W
    refine ⟨_, _, _, _, W, fun b m => m, fun i ⟨a, b⟩ => ⟨a, to1 i b⟩, fun i h ⟨a, b⟩ => ⟨a, of1 i h b⟩, ?_⟩
    rintro i h0 v h ⟨T, t, x, e, le, px, tp⟩
    refine ⟨T, _, e, le, tp, fun ds q => ?_⟩
    rw [List.getElem?_mapIdx] at q
    obtain ⟨d, q1, rfl⟩ := Option.map_eq_some_iff.mp q
    obtain ⟨a, ra, pa⟩ := v1 i x _ px q1
    exact ⟨by simp, [.int (i : Nat), a], .cons ⟨t, by rw [Int.zero_add]⟩ (.cons ra .nil), .cons (.int _) (.cons pa .nil)⟩
def iEnumD (t : TDA) : TDI := fun ρ M Q => t ρ M fun ds M1 => match ds with
  | [a] => ∃ xs, a.items = some xs ∧ Q (enumD xs) M1
  | _ => False
/-! ### zip of three -/
def zip3D : List D → List D → List D → List D
  | x :: xs, y :: ys, z :: zs => D.tup [x, y, z] :: zip3D xs ys zs
  | _, _, _ => []
theorem zip3D_len : ∀ xs ys zs : List D, (zip3D xs ys zs).length = min (min xs.length ys.length) zs.length
  | [], _, _ => by simp [zip3D]
  | _ :: _, [], _ => by simp [zip3D]
  | _ :: _, _ :: _, [] => by simp [zip3D]
  | x :: xs, y :: ys, z :: zs => by simp only [zip3D, List.length_cons]; rw [zip3D_len xs ys zs]; omega
theorem zip3D_get : ∀ (xs ys zs : List D) (i : Nat) (x y z : D), xs[i]? = some x → ys[i]? = some y → zs[i]? = some z → (zip3D xs ys zs)[i]? = some (.tup [x, y, z])
  | _ :: _, _ :: _, _ :: _, 0, _, _, _, hx, hy, hz => by simp at hx hy hz; subst hx hy hz; rfl
  | _ :: xs, _ :: ys, _ :: zs, i + 1, x, y, z, hx, hy, hz => by
    simp only [zip3D, List.getElem?_cons_succ] at *
    exact zip3D_get xs ys zs i x y z hx hy hz
  | [], _, _, _, _, _, _, hx, _, _ => by simp at hx
  | _ :: _, [], _, _, _, _, _, _, hy, _ => by simp at hy
  | _ :: _, _ :: _, [], _, _, _, _, _, _, hz => by simp at hz
def rows3 : List D → List D → List D → List (List D)
  | x :: xs, y :: ys, z :: zs => [x, y, z] :: rows3 xs ys zs
  | _, _, _ => []
theorem rows3_map : ∀ xs ys zs : List D, (rows3 xs ys zs).map .tup = zip3D xs ys zs
  | [], _, _ => rfl
  | _ :: _, [], _ => rfl
  | _ :: _, _ :: _, [] => rfl
  | _ :: xs, _ :: ys, _ :: zs => by
    simp only [rows3, zip3D, List.map_cons]
    rw [rows3_map xs ys zs]
theorem rows3_len (xs ys zs : List D) : (rows3 xs ys zs).length = min (min xs.length ys.length) zs.length := by
  rw [← zip3D_len, ← rows3_map, List.length_map]
theorem rows3_get {xs ys zs : List D} {i : Nat} {ds : List D} (e : (rows3 xs ys zs)[i]? = some ds) : ∃ x y z, xs[i]? = some x ∧ ys[i]? = some y ∧ zs[i]? = some z ∧ ds = [x, y, z] := by
  have lt := (List.getElem?_eq_some_iff.mp e).1
  rw [rows3_len] at lt
  have q1 := List.getElem?_eq_getElem (l := xs) (i := i) (by omega)
  have q2 := List.getElem?_eq_getElem (l := ys) (i := i) (by omega)
  have q3 := List.getElem?_eq_getElem (l := zs) (i := i) (by omega)
  have q := zip3D_get _ _ _ _ _ _ _ q1 q2 q3
  rw [← rows3_map, List.getElem?_map, e] at q
  cases q
  exact ⟨_, _, _, q1, q2, q3, rfl⟩
theorem rows_zip3 {P : Program} {w : World} {K : PySem.W.Frag} {F0 : Hp} {o1 o2 o3 : Obj} {tn1 tn2 tn3 : Addr → Nat → Heap → Prop} {xs ys zs : List D} (S1 : SrcT P w K F0 o1 tn1 xs) (S2 : SrcT P w K F0 o2 tn2 ys) (S3 : SrcT P w K F0 o3 tn3 zs) {elts : List Expr} {kk : Nat} {tpos : Pos} (N : Nat) :
    RowsT P w K F0 (.Tuple elts kk tpos) (N + 5) [N + 5, N + 3, N + 4, N, N + 1, N + 2] (fun i h => IsZip h (N + 5) (N + 3) (N + 4) .none ∧ IsTupOf3 h (N + 3) (.ref N) (.ref (N + 1)) (.ref (N + 2)) ∧ (∃ a1 a2 a3, IsTupOf3 h (N + 4) a1 a2 a3) ∧ tn1 N i h ∧ tn2 (N + 1) i h ∧ tn3 (N + 2) i h) (rows3 xs ys zs) where
  mem := List.mem_cons_self
  obj := fun i h ⟨a, b, ⟨_, _, _, c⟩, d, e, f⟩ => by
    simp only [List.mem_cons, List.not_mem_nil, or_false, forall_eq_or_imp, forall_eq]
    exact ⟨⟨_, a, nofun⟩, ⟨_, b, nofun⟩, ⟨_, c, nofun⟩, S1.obj _ _ _ d, S2.obj _ _ _ e, S3.obj _ _ _ f⟩
  keep := fun i h h' ⟨a, b, ⟨_, _, _, c⟩, d, e, f⟩ k => ⟨k _ (by simp) _ a, k _ (by simp) _ b, ⟨_, _, _, k _ (by simp) _ c⟩, S1.keep _ _ _ _ d (k _ (by simp)), S2.keep _ _ _ _ e (k _ (by simp)), S3.keep _ _ _ _ f (k _ (by simp))⟩
  self := fun A i s Q E st q => wpAny_pyIter_zip st.1 q
  goes := fun X hP hw hK hc pins s σ H I fz n => by
    obtain ⟨f1, P1, St1, D1, t1, to1, of1, v1⟩ := S1.draws X hP hw hK hc pins s σ H N I fz (n _ (by simp))
    obtain ⟨f2, P2, St2, D2, t2, to2, of2, v2⟩ := S2.draws X hP hw hK hc pins s σ H (N + 1) I fz (n _ (by simp))
    obtain ⟨f3, P3, St3, D3, t3, to3, of3, v3⟩ := S3.draws X hP hw hK hc pins s σ H (N + 2) I fz (n _ (by simp))
    have sep : ∀ (a b : Nat), a ≠ b → N + a ≠ N + b := fun _ _ h e => h (Nat.add_left_cancel e)
    have W := GoesN.zip3 (elts := elts) (x1 := kk) (pos := tpos) (z := N + 5) (TI := N + 3) (TO := N + 4)
      { TIz := sep _ _ (by decide), TOz := sep _ _ (by decide), TITO := sep _ _ (by decide), TIi1 := sep 3 0 (by decide), TIi2 := sep _ _ (by decide), TIi3 := sep _ _ (by decide), mem1 := List.mem_cons_self, mem2 := List.mem_cons_self, mem3 := List.mem_cons_self,
        zf1 := not_in (n _ (by simp)) t1 (sep 5 0 (by decide)), zf2 := not_in (n _ (by simp)) t2 (sep _ _ (by decide)), zf3 := not_in (n _ (by simp)) t3 (sep _ _ (by decide)), Tf1 := not_in (n _ (by simp)) t1 (sep 4 0 (by decide)), Tf2 := not_in (n _ (by simp)) t2 (sep _ _ (by decide)), Tf3 := not_in (n _ (by simp)) t3 (sep _ _ (by decide)),
        sep1_2 := not_in (n _ (by simp)) t2 (sep 0 1 (by decide)), sep1_3 := not_in (n _ (by simp)) t3 (sep 0 2 (by decide)), sep2_1 := not_in (n _ (by simp)) t1 (sep 1 0 (by decide)), sep2_3 := not_in (n _ (by simp)) t3 (sep _ _ (by decide)), sep3_1 := not_in (n _ (by simp)) t1 (sep 2 0 (by decide)), sep3_2 := not_in (n _ (by simp)) t2 (sep _ _ (by decide)) } D1 D2 D3
    rw [← rows3_len] at W
    refine ⟨_, _, _, _, W, ?_, fun i ⟨a, b, c, d, e, f⟩ => ⟨a, b, c, to1 i d, to2 i e, to3 i f⟩, fun i h ⟨a, b, c, d, e, f⟩ => ⟨a, b, c, of1 i h d, of2 i h e, of3 i h f⟩, ?_⟩
    · intro b m
      simp only [List.mem_cons, List.not_mem_nil, or_false] at m ⊢
      rcases m with z | z | z | z | z <;> simp [z]
    · rintro i h0 v h ⟨T, x, y, u, e, le, px, py, pu, tp⟩
      refine ⟨T, _, e, le, tp, fun ds q => ?_⟩
      obtain ⟨d1, d2, d3, q1, q2, q3, rfl⟩ := rows3_get q
      obtain ⟨a, ra, pa⟩ := v1 i x _ px q1
      obtain ⟨b, rb, pb⟩ := v2 i y _ py q2
      obtain ⟨c, rc, pc⟩ := v3 i u _ pu q3
      exact ⟨by simp, [a, b, c], .cons ra (.cons rb (.cons rc .nil)), .cons pa (.cons pb (.cons pc .nil))⟩
def iZip3 (t : TDA) : TDI := fun ρ M Q => t ρ M fun ds M1 => match ds with
  | [a, b, c] => ∃ xs ys zs, a.items = some xs ∧ b.items = some ys ∧ c.items = some zs ∧ Q (zip3D xs ys zs) M1
  | _ => False
theorem Reps.three {vs : List V} {d e f : D} (r : Reps K F vs [d, e, f]) : ∃ v w u, vs = [v, w, u] ∧ Rep K F v d ∧ Rep K F w e ∧ Rep K F u f := by
  cases r with
  | cons a t => obtain ⟨w, u, rfl, b, c⟩ := t.two; exact ⟨_, w, u, rfl, a, b, c⟩
theorem vals3 {x y z : V} {us : List Value} (r : Vals [x, y, z] us) : ∃ u w' t, us = [u, w', t] ∧ RelV x u ∧ RelV y w' ∧ RelV z t := by
  cases r with
  | cons a t => obtain ⟨w', t', rfl, b, c⟩ := vals2 t; exact ⟨_, w', t', rfl, a, b, c⟩
section
variable {X : Cx} {lo : Lo} {tg e e2 e3 c : Expr} {te : TDE} {pos : Pos}
theorem di_enum {ta : TDA} {p tpos : Pos} {elts : List Expr} {kk : Nat} (hg : Gl X "enumerate") (hm : X.mg "enumerate" = none) (ha : DPA X lo [e] ta) (hs : starEach [e] X.env = [(false, eval e X.env)] := by rfl) :
    DPI X lo (.Tuple elts kk tpos) (.Call (.Name "enumerate" p) [e] [] pos) (iEnumD ta) :=
  ⟨fun pins s σ H R I ⟨F, G, ρ, M, Q, a, h, q⟩ => by
    have arg := ha.run pos pins s σ H (fun vs H1 => ∃ F1 ds M1, Same F F1 ∧ RelM X.K F1 G M1 H1 ∧ Reps X.K F1 vs ds ∧ (match ds with
      | [a] => ∃ xs, a.items = some xs ∧ Q (enumD xs) M1
      | _ => False)) I ⟨F, G, ρ, M, _, a, h, fun vs H' F' ds M' s r p z => ⟨F', ds, M', s, r, p, z⟩⟩
    refine Call_ (ld_blt I hg hm boot_enumerate (PyProof.Rows.callWith_type1 (thn arg fun us s1 ⟨vs, H1, I1, r1, F1, ds, M1, s1', r1', p1, z⟩ => ?_) hs rfl))
    match ds, p1, z with
    | [_], p1, ⟨xs, ex, hq⟩ =>
      obtain ⟨v, rfl, pv⟩ := p1.one
      obtain ⟨u, rfl, ru⟩ := vals1 r1
      obtain ⟨o1, C1, tn1, B1, c1, S1⟩ := src_of I1 r1'.fz ru pv ex
      refine enum_made B1 c1 fun h' he g1 k => wpAny_pyIter_enum he ?_
      refine ⟨_, _, _, _, H1, rfl, I1.kept (t' := s1.toks) k, (rows_enum S1 s1.heap.objs.size).turn, ⟨⟨.none, he⟩, S1.start _ _ g1⟩, fresh_fp I1 fun c m => ?_, q _ H1 F1 _ M1 s1' r1' it_rows ?_⟩
      · simp only [List.mem_cons, List.not_mem_nil, or_false] at m
        rcases m with z | z <;> subst z <;> simp
      · rw [show (xs.mapIdx fun i x => [D.int (i : Nat), x]).map .tup = enumD xs from List.ext_getElem? fun i => by simp [enumD, List.getElem?_mapIdx, Function.comp_def]]
        exact hq⟩
theorem di_zip3 {ta : TDA} {p tpos : Pos} {elts : List Expr} {kk : Nat} (hg : Gl X "zip") (hm : X.mg "zip" = none) (ha : DPA X lo [e, e2, e3] ta)
    (hs : starEach [e, e2, e3] X.env = (false, eval e X.env) :: starEach [e2, e3] X.env := by rfl) (hpl : (backTo pos (starEach [e2, e3] X.env)).any (·.1) = false := by rfl) :
    DPI X lo (.Tuple elts kk tpos) (.Call (.Name "zip" p) [e, e2, e3] [] pos) (iZip3 ta) :=
  ⟨fun pins s σ H R I ⟨F, G, ρ, M, Q, a, h, q⟩ => by
    have arg := ha.run pos pins s σ H (fun vs H1 => ∃ F1 ds M1, Same F F1 ∧ RelM X.K F1 G M1 H1 ∧ Reps X.K F1 vs ds ∧ (match ds with
      | [a, b, c] => ∃ xs ys zs, a.items = some xs ∧ b.items = some ys ∧ c.items = some zs ∧ Q (zip3D xs ys zs) M1
      | _ => False)) I ⟨F, G, ρ, M, _, a, h, fun vs H' F' ds M' s r p z => ⟨F', ds, M', s, r, p, z⟩⟩
    refine Call_ (ld_blt I hg hm PyProof.Rows.boot_zip (PyProof.Rows.callWith_type1 (thn arg fun us s1 ⟨vs, H1, I1, r1, F1, ds, M1, s1', r1', p1, z⟩ => ?_) hs hpl))
    match ds, p1, z with
    | [_, _, _], p1, ⟨xs, ys, zs, ex, ey, ez, hq⟩ =>
      obtain ⟨v, w, x, rfl, pv, pw, px⟩ := p1.three
      obtain ⟨u, u', u'', rfl, ru, ru', ru''⟩ := vals3 r1
      obtain ⟨o1, C1, tn1, B1, c1, S1⟩ := src_of I1 r1'.fz ru pv ex
      obtain ⟨o2, C2, tn2, B2, c2, S2⟩ := src_of I1 r1'.fz ru' pw ey
      obtain ⟨o3, C3, tn3, B3, c3, S3⟩ := src_of I1 r1'.fz ru'' px ez
      refine zip_begins3 B1 B2 B3 c1 c2 c3 fun h' hz hTI hTO g1 g2 g3 hsz k => wpAny_pyIter_zip hz ?_
      refine ⟨_, _, _, _, H1, rfl, I1.kept (t' := s1.toks) k, (rows_zip3 S1 S2 S3 s1.heap.objs.size).turn, ⟨hz, hTI, ⟨_, _, _, hTO⟩, S1.start _ _ g1, S2.start _ _ g2, S3.start _ _ g3⟩, fresh_fp I1 fun c m => ?_, q _ H1 F1 _ M1 s1' r1' it_rows ?_⟩
      · simp only [List.mem_cons, List.not_mem_nil, or_false] at m
        rcases m with z | z | z | z | z | z <;> subst z <;> simp
      · rw [rows3_map]
        exact hq⟩
end
end DL

namespace DL
open PySem PySem.Spec PyProof.Rows L2
variable {K : PySem.W.Frag} {F F' F0 F1 F2 G G' H H' H1 H2 : Hp} {M M' : Mm} {ρ ρ' : Rho} {σ σ' : L2.St}

theorem lookup_ne {a b : Addr} {m : MO} {M : Mm} (h : M.lookup a = none) (h' : M.lookup b = some m) : b ≠ a := fun e => by
  rw [e, h] at h'; cases h'
theorem lookup_put {a : Addr} {m m' : MO} : ∀ {M : Mm}, M.lookup a = some m → (putM M a m').lookup a = some m'
  | (b, n) :: r, h => by
    by_cases hb : b = a
    · subst hb
      rw [putM_top]; exact lookup_top _ _ _
    · rw [lookup_under n r (Ne.symm hb)] at h
      rw [putM_under n m' r (Ne.symm hb), lookup_under n _ (Ne.symm hb)]
      exact lookup_put h
theorem lookup_put_ne {a b : Addr} {m' : MO} (hab : b ≠ a) : ∀ {M : Mm}, (putM M a m').lookup b = M.lookup b
  | [] => rfl
  | (c, n) :: r => by
    by_cases hc : c = a
    · subst hc
      rw [putM_top, lookup_under _ _ hab, lookup_under _ _ hab]
    · rw [putM_under n m' r (Ne.symm hc), List.lookup_cons, List.lookup_cons, lookup_put_ne hab]
theorem putM_put (a : Addr) (m m' : MO) : ∀ M : Mm, putM (putM M a m) a m' = putM M a m'
  | [] => rfl
  | (b, n) :: r => by
    by_cases hb : b = a
    · subst hb; rw [putM_top, putM_top, putM_top]
    · rw [putM_under n m r (Ne.symm hb), putM_under n m' _ (Ne.symm hb), putM_under n m' r (Ne.symm hb), putM_put a m m' r]

/-! ### xs.append(e) -/
def gApp : GD2 := fun d x M Q => match d with
  | .obj a => match lstOf (M.lookup a) with
    | some xs => xs.length < sizeLine ∧ Q .non (putM M a (.lst (xs ++ [x])))
    | none => False
  | _ => False
def eApp (to te : TDE) : TDE := fun ρ M Q => to ρ M fun d M1 => (∃ a, d = .obj a ∧ (lstOf (M1.lookup a)).isSome = true) ∧ te ρ M1 fun x M2 => gApp d x M2 Q
theorem lstOf_ok (r : RelM K F G M H) {a : Addr} {ds : List D} (h : lstOf (M.lookup a) = some ds) : ∃ vs, M.lookup a = some (.lst ds) ∧ H a = some (.lst vs) ∧ Reps K F vs ds := by
  cases e : M.lookup a with
  | none => rw [e] at h; cases h
  | some m =>
    rw [e] at h
    obtain ⟨o, ho, z⟩ := r.look e
    cases z with
    | @lst vs _ z => cases h; exact ⟨vs, rfl, ho, z⟩
    | ins _ => cases h
    | xd _ => cases h
    | dK _ => cases h
    | dT _ => cases h
    | tbl _ _ => cases h
section
variable {X : Cx} {lo : Lo} {pos apos cpos tpos : Pos} {o e i : Expr} {to te ti : TDE} {k : Nat}
theorem de_append (ho : DPE X lo o to) (ha : DPE X lo e te) (hbase : attributeBase o "append" X.env (eval o X.env) = eval o X.env := by rfl)
    (hfew : ((backTo cpos (starEach [e] X.env)).all (fun x => !x.1) && (backToKw cpos (keywordEach [] X.env)).all (fun x => x.1.isSome)
      && decide ([e].length + ([] : List Keyword).length + (if ([] : List Keyword).isEmpty then 0 else 1) < 30)) = true := by rfl)
    (hline : (apos.endLine == cpos.line) = true := by rfl) (hs : starEach [e] X.env = (false, eval e X.env) :: starEach [] X.env := by rfl) (hplain : (backTo cpos (starEach [] X.env)).any (·.1) = false := by rfl) :
    DPE X lo (.Call (.Attribute o "append" apos) [e] [] cpos) (eApp to te) :=
  PE.of (pe_bm PySem.F.plainAttrs_list PySem.F.slot_list_append PySem.F.type_list_append mt_append ho (da_cons ha da_nil hs) hbase hfew hline hs hplain) fun σ H Qv ⟨F, G, ρ, M, Q, a, h, q⟩ =>
    ⟨F, G, ρ, M, _, a, h, fun v H1 F1 d M1 s1 r1 p1 ⟨⟨b, eb, hb⟩, h1⟩ => by
      subst eb
      cases p1
      obtain ⟨ds, hds⟩ := Option.isSome_iff_exists.mp hb
      obtain ⟨vs, _, hv, _⟩ := lstOf_ok r1 hds
      refine ⟨.inl ⟨rfl, vs, SqL.of hv⟩, F1, G, ρ, M1, (fun es M2 => match es with | [x] => gApp (.obj b) x M2 Q | _ => False), a.next s1 r1, h1, fun ws H2 F2 es M2 s2 r2 p2 h2 => ?_⟩
      cases es with
      | nil => exact h2.elim
      | cons x xs =>
        cases xs with
        | cons _ _ => exact h2.elim
        | nil =>
          obtain ⟨w, rfl, pw⟩ := p2.one
          have h2 : gApp (.obj b) x M2 Q := h2
          unfold gApp at h2
          simp only at h2
          split at h2
          · rename_i ds2 e2
            obtain ⟨vs2, m2, hv2, q2⟩ := lstOf_ok r2 e2
            refine ⟨b, vs2, w, rfl, rfl, hv2, by rw [q2.length]; exact h2.1, ?_⟩
            exact q _ _ F2 .non _ (s1.trans s2) (r2.put m2 (.lst (q2.append (.cons pw .nil)))) .non h2.2
          · exact h2.elim⟩

/-! ### xs[i] = e -/
def gStIx : D → D → D → Mm → (Mm → Prop) → Prop := fun o i v M Q => match o, i with
  | .obj a, .int k => match lstOf (M.lookup a) with
    | some xs => match ixN xs.length k with
      | some j => Q (putM M a (.lst (xs.set j v)))
      | none => False
    | none => False
  | _, _ => False
def dStIx (te to ti : TDE) : TDS := fun De ρ M => te ρ M fun v M1 => to ρ M1 fun o M2 => ti ρ M2 fun i M3 => gStIx o i v M3 fun M4 => De.nx ρ M4
theorem ds_stIx (he : DPE X lo e te) (ho : DPE X lo o to) (hi : DPE X lo i ti) (hs : swapsWithSole [.Subscript o i tpos] e pos.line X.env = pure false := by rfl) (hw : swappedStores [.Subscript o i tpos] e X.env = pure none := by rfl)
    (h1 : (assignEach [.Subscript o i tpos] X.env).map (·.2) = [assign (.Subscript o i tpos) X.env] := by rfl)
    (ha : ∀ v, assign (.Subscript o i tpos) X.env v = (do
      let ov ← holding [v] (eval o X.env)
      let iv ← holding [v, ov] (eval i X.env)
      standAt tpos
      holding [v, ov, iv] (setItem ov iv v)
      release [v, ov, iv] []) := by intro _; rfl) : DPS X lo (.Assign [.Subscript o i tpos] e pos) (dStIx te to ti) :=
  PS.of (ps_asg he (pg_sub ho hi set_list ha) hs hw h1) fun σ H Dv ⟨F, G, ρ, M, De, a, h, er⟩ => ⟨F, G, ρ, M, _, a, h, fun v H1 F1 d M1 s1 r1 p1 h1 => ⟨F1, G, ρ, M1, _, a.next s1 r1, h1, fun o H2 F2 od M2 s2 r2 p2 h2 =>
    ⟨F2, G, ρ, M2, _, (a.next s1 r1).next s2 r2, h2, fun i H3 F3 id M3 s3 r3 p3 h3 => by
      have p1' := p1.mono (s2.trans s3)
      have p2' := p2.mono s3
      unfold gStIx at h3
      split at h3
      · split at h3
        · split at h3
          · rename_i xs ex _ j ej
            cases p2'; cases p3
            obtain ⟨vs, m, hv, q⟩ := lstOf_ok r3 ex
            exact ⟨_, vs, _, j, rfl, rfl, hv, by rw [q.length]; exact ej, er.nx σ _ F3 ρ _ ((s1.trans s2).trans s3) (r3.put m (.lst (q.set p1' j))) (a.env.mono ((s1.trans s2).trans s3)) h3⟩
          · exact h3.elim
        · exact h3.elim
      · exact h3.elim⟩⟩⟩

/-! ### xs[::-1] of a list -/
def gRev : GD1 := fun d M Q => match resL M d with
  | some ds => Q (.lst ds.reverse) M
  | none => False
theorem de_revL {p1 p2 p3 : Pos} (he : DPE X lo e te) : DPE X lo (.Subscript e (.Slice none none (some (.UnaryOp .USub (.Constant (.int 1) k p1) p2)) p3) pos) (eOp1 gRev te) :=
  PE.of (pe_revL he) fun σ H Qv ⟨F, G, ρ, M, Q, a, h, q⟩ => ⟨F, G, ρ, M, _, a, h, fun v H1 F1 d M1 s1 r1 p1 h1 => by
    unfold gRev at h1
    split at h1
    · rename_i ds er
      obtain ⟨b, vs, rfl, s, w⟩ := resL_ok r1 p1 er
      have k : Kont X.K F1 G Q Qv := fun v H' F' d M' s r p z => q v H' F' d M' (s1.trans s) r p z
      exact ⟨b, vs, rfl, .inl s, fun p hp => k.new r1 hp (fun s => .lst (.inl upd_same) (w.reverse.mono s)) h1⟩
    · exact h1.elim⟩
end
/-! ### isinstance of a value of a built-in type -/
def tyN (M : Mm) : D → Option String
  | .non => some "NoneType"
  | .bl _ => some "bool"
  | .int _ => some "int"
  | .str _ => some "str"
  | .tup _ => some "tuple"
  | .lst _ => some "list"
  | .obj a => match lstOf (M.lookup a) with
    | some _ => some "list"
    | none => none
  | _ => none
theorem tyN_ok (r : RelM K F G M H) {v : V} {d : D} {t : String} (p : Rep K F v d) (h : tyN M d = some t) : TyX K H v (.type t) := by
  cases p with
  | non => cases h; exact .base .non
  | bl b => cases h; exact .base (.bl b)
  | int b => cases h; exact .base (.int b)
  | str b => cases h; exact .base (.str b)
  | tup s q =>
    cases h
    rcases Same.rd r.fz (.inl s) with z | ⟨_, z⟩
    · exact .base (.tup z)
    · exact .fTuple z
  | lst s q =>
    cases h
    rcases Same.rd r.fz s with z | ⟨_, z⟩
    · exact .base (.lst z)
    · exact .base (.frz z)
  | obj a =>
    unfold tyN at h
    simp only at h
    split at h
    · rename_i ds e
      cases h
      obtain ⟨vs, _, hv, _⟩ := lstOf_ok r e
      exact .base (.lst hv)
    · cases h
  | ins => cases h
  | rng => cases h
  | kl => cases h
  | dic => cases h
  | raw => cases h
/-- is a built-in type's value one of T's? -/
def isiB (t T : String) : Bool := t == T || (t == "bool" && T == "int")
def isiOk (t T : String) : Bool := decide (kitB t T = some (isiB t T))
theorem isi_all : (["NoneType", "bool", "int", "str", "tuple", "list"].all fun t => ["bool", "int", "str", "tuple", "list"].all fun T => isiOk t T) = true := by decide +kernel
def gIsi : GD2 := fun d e M Q => match e with
  | .raw (.ty T) => T ∈ ["bool", "int", "str", "tuple", "list"] ∧ ∃ t, tyN M d = some t ∧ t ∈ ["NoneType", "bool", "int", "str", "tuple", "list"] ∧ Q (.bl (isiB t T)) M
  | _ => False
theorem ok_isi : OkRL K (rIsi K) (on2 gIsi) := fun F G M H xs ds Q Qv r p h k => by
  obtain ⟨v, w, d, e, rfl, p1, p2, h⟩ := on2_inv p h
  unfold gIsi at h
  split at h
  · rename_i T
    obtain ⟨hT, t, ht, ht', h⟩ := h
    cases p2
    have z := of_decide_eq_true (List.all_eq_true.mp (List.all_eq_true.mp isi_all t ht') T hT)
    exact ⟨v, .ty T, .type t, .type T, _, rfl, .ty T, tyN_ok r p1 ht, kit_ty z, k.here r (.bl _) h⟩
  · exact h.elim


end DL

namespace DL
open PySem PySem.Spec PyProof.Rows L2
variable {K : PySem.W.Frag} {F F' F0 F1 F2 G G' H H' H1 H2 : Hp} {M M' : Mm} {ρ ρ' : Rho} {σ σ' : L2.St}

/-- a def of the text as it stands behind the top -/
structure DefF (K : PySem.W.Frag) (mg : Str → Option Value) (x : Str) (st : Stmt) (ps : List Str) where
  f : Addr
  fd : FuncData
  fu : Fun K x x st f fd
  g : mg x = some (.ref f)
  b : L2.Binds K fd ps []
section
variable {X : Cx} {lo : Lo} {pos : Pos} {e : Expr} {es : List Expr} {k : Nat} {ps : List Str} {sp : SpD} {E : XD} {x : Str} {p : Pos} {t : TDA} {st : Stmt}
theorem dv (i : Nat) {x : Str} {pos : Pos} (hN : X.N[i]? = some x := by rfl) (hv : Vis X.env.scope x := by first | exact Or.inl rfl | exact Or.inr (Or.inl rfl) | exact Or.inr (Or.inr rfl)) (hd : (x == ("__debug__" : Str)) = false := by decide)
    (hcd : (x == ("__classdict__" : Str)) = false := by decide) : DPE X lo (.Name x pos) (eVar i) := de_var hN hv hd hcd
theorem dcall (Df : DefF X.K X.mg x st ps) (Fk : FnOk X.prog X.w X.K X.mg X.base (L2N.CX X.prog X.w) k Df.f Df.fd ps (liftSp X.K sp)) (hr : Room k X.A) (hx : Passes (L2N.CX X.prog X.w) X (wishD X.K lo E)) (ha : DPA X lo (e :: es) t) (hg : Gl X x := by rfl)
    (hdb : (x == ("__debug__" : Str)) = false := by decide) (he : starEach (e :: es) X.env = (false, eval e X.env) :: starEach es X.env := by rfl) (hpl : (backTo pos (starEach es X.env)).any (·.1) = false := by rfl) :
    DPE X lo (.Call (.Name x p) (e :: es) [] pos) (eCall sp E t) := de_call Fk hr hg Df.g Df.fu.kp Df.b hx ha hdb he hpl
end
/-- the slots at the entry, n of them -/
def startN (n : Nat) (ds : List D) : Rho := ds.map some ++ List.replicate (n - ds.length) none
def prevSp (f : Nat → SpD) : Nat → SpD
  | 0 => fun _ _ _ _ => False
  | n + 1 => f n
theorem fnok_false {P : Program} {w : World} {K : PySem.W.Frag} {mg : Str → Option Value} {base : Heap} {k : Nat} {f : Addr} {fd : FuncData} {ps : List Str} : FnOk P w K mg base (L2N.CX P w) k f fd ps (liftSp K fun _ _ _ _ => False) :=
  ⟨fun vs H Q E ⟨_, _, _, _, _, _, _, _, z, _⟩ => z.elim, fun A outer s H args us vs Q E _ _ _ _ ⟨_, _, _, _, _, _, _, _, z, _⟩ => z.elim⟩
/-! ### the law's end -/
def spLaw : SpD := fun ds M Q _ => ∃ ns : List Int, ds = [.kl ns] ∧ ns.length ≤ 63 ∧ ∀ M', Q (.bl true) M'
theorem len_spLaw : ∀ ds M Q E, spLaw ds M Q E → ds.length = 1 := fun ds M Q E ⟨ns, e, _⟩ => by rw [e]; rfl
theorem law_start {K : PySem.W.Frag} {H : Hp} {a : Addr} {ns : List Int} (hl : ns.length ≤ 63) (hS : SqL K H a (ns.map V.int)) : liftSp K spLaw [.ref a] H (fun v _ => v = .bl true) fun _ _ _ => False :=
  ⟨H, fun _ => none, [], [.kl ns], fun d _ => d = .bl true, noE, ⟨Same.refl H, (fun b o e => nomatch e), List.Pairwise.nil, (fun b o e => nomatch e), (fun p hp => nomatch hp)⟩, .cons (.kl hS) .nil, ⟨ns, rfl, hl, fun _ => rfl⟩,
    (fun v H' F' d M' _ _ p e => by subst e; cases p; rfl), fun _ _ _ _ _ _ _ _ z => z.elim⟩
theorem CX_none {P : Program} {w : World} {H : Hp} {s : Shared} {e : Value} {s' : Shared} (h : L2N.CX P w [] H s (fun _ _ _ => False) e s') : False := by
  obtain ⟨_, _, _, _, _, _, _, _, _, _, _, _, z⟩ := h
  exact z
theorem walk_D {l : PySem.W.OpenLaw} {k : Nat} {q : Program} {loose : List Str} {XP : (Str → Option Value) → Heap → Prop} {YP : World → Heap → Prop} {d : DefRec} {K : Params → PySem.W.Frag} {x : Str}
    (hn : l.most = some 63) (hdf : d.params.defaults = []) (hr : Room k callerA) (hY : ∀ (w : World) (h : Heap), YP w h → (K w.params).In h)
    (F : ∀ (w : World) (mg : Str → Option Value) (fa : Addr) (h : Heap), (K w.params).In h → h.Ns mainGlobals mg → XP mg h → mg d.name = some (.ref fa) →
      ∃ fd : FuncData, (∀ (s : Shared) (u : Value), BindsTo s fd ⟨[u], []⟩ [(x, u)]) ∧
        ∀ base : Heap, (K w.params).In base → base.Ns mainGlobals mg → FnOk l.prog w (K w.params) mg base (L2N.CX l.prog w) k fa fd [x] (liftSp (K w.params) spLaw)) :
    PySem.W.WalkO q loose XP YP l.row.toRowW d [] (fun f vs => PySem.call f vs) := by
  refine Att.attach_call hn hdf fun w s₀ s₁ mg mb fa o pm cd doc a vs ns G Y ho hd hcd hmg hobj hints hlen hg => ?_
  have KX := hY w _ Y
  obtain ⟨fd, hb, hF⟩ := F w mg fa _ KX G.T.g G.X hmg
  exact law_call KX G.T.g G.T.b G.T.builtins G.T.nolimit hg hobj hints (Nat.le_trans hlen (by decide)) hr hF hb (fun H hO hS => law_start hlen hS) fun H e s' => CX_none
theorem const_mk {K : PySem.W.Frag} {h : Heap} {mg : Str → Option Value} {c : Str} {v : Int} {t : Tok} (X : K.In h) (G : h.Ns mainGlobals mg) (a : PySem.W.nsIn K mainGlobals c = some (some (.int v t))) : ∃ t, mg c = some (.int v t) := ⟨t, PySem.W.mg_of X G a⟩
/-- a loose constant -/
theorem loose_mk {p : Program} {lv : List (Str × PySem.W.WData)} {mg : Str → Option Value} {h : Heap} {c : Str} {v : Int} (X : PySem.W.XL p lv mg h) (m : (c, PySem.W.WData.int v) ∈ lv) : ∃ t, mg c = some (.int v t) := by
  obtain ⟨u, e, r⟩ := X.2.val _ m
  have e' : mg c = some u := e
  have r' : PySem.W.ReadsW [] (fun _ => none) h u (.int v) [] := r
  cases r' with
  | int _ t => exact ⟨t, e'⟩
/-- a def read off the head -/
theorem def_mk {K : PySem.W.Frag} {h : Heap} {mg : Str → Option Value} {x : Str} {st : Stmt} {ps : List Str} {f : Addr} {oc : Value} {od an : Option Addr} {osl : Array (Option Value)} {kV doc pm cdv ct : Value} (X : K.In h) (G : h.Ns mainGlobals mg)
    (a : PySem.W.nsIn K mainGlobals x = some (some (.ref f))) (l : K.lookup f = some ⟨oc, od, .func (PySem.W.fnOf x x (defArgs st) (defBody st) (defScope st) .none kV doc pm an cdv ct), osl⟩)
    (c : PySem.W.codeIn K cdv x = true) (k : PySem.W.keepIn K (.ref f) = true)
    (hb : ∀ (kV doc pm : Value) (an : Option Addr) (cdv ct : Value) (us : List Value), us.length = ps.length → bindArgs (PySem.W.fnOf x x (defArgs st) (defBody st) (defScope st) .none kV doc pm an cdv ct) ⟨us, []⟩ = pure (ps.zip us)) : Nonempty (DefF K mg x st ps) := by
  have F1 := fun_mk (st := st) l c k
  exact ⟨⟨f, _, F1, PySem.W.mg_of X G a, F1.binds hb⟩⟩
end DL

namespace DL
open PySem PySem.Spec PyProof.Rows L2
variable {K : PySem.W.Frag} {F F' F0 F1 F2 G G' H H' H1 H2 : Hp} {M M' : Mm} {ρ ρ' : Rho} {σ σ' : L2.St}
/-! ### range(i, j, -1) -/
def dnD (lo : Int) (n : Nat) : List D := (List.range n).map fun (i : Nat) => D.int (lo - i)
theorem dnD_len (lo : Int) (n : Nat) : (dnD lo n).length = n := by simp [dnD]
theorem it_dn (lo : Int) (n : Nat) : ItD K F0 (Itc lo (-1) n) (dnD lo n) := fun F G M H i s r => by
  refine ⟨fun hl => by rw [dnD_len] at hl; exact Nat.le_of_eq hl.symm, fun d e => ?_⟩
  have hi : i < n := by
    have := (List.getElem?_eq_some_iff.mp e).1
    rw [dnD_len] at this; exact this
  have ed : d = .int (lo - i) := by
    unfold dnD at e
    rw [List.getElem?_map, List.getElem?_range hi] at e
    exact (Option.some.inj e).symm
  refine ⟨hi, fun x H' y => ?_⟩
  obtain ⟨rfl, rfl⟩ := y
  rw [ed, show lo - (i : Int) = lo + (i : Int) * -1 by omega]
  exact ⟨F, Same.refl F, r, .int _⟩
def iRng3D (t : TDA) : TDI := fun ρ M Q => t ρ M fun ds M1 => match ds with
  | [.int i, .int j, .int c] => (c = -1 ∧ -(2 ^ 62) ≤ i ∧ i < 2 ^ 62 ∧ -(2 ^ 62) ≤ j ∧ j < 2 ^ 62) ∧ Q (dnD i (i - j).toNat) M1
  | _ => False
section
variable {X : Cx} {lo : Lo} {tg e c : Expr} {te : TDE} {pos : Pos}
theorem di_rng3 {a b c : Expr} {ta : TDA} {p : Pos} (hg : Gl X "range") (hm : X.mg "range" = none) (ha : DPA X lo [a, b, c] ta) (hs : starEach [a, b, c] X.env = (false, eval a X.env) :: starEach [b, c] X.env := by rfl) (hpl : (backTo pos (starEach [b, c] X.env)).any (·.1) = false := by rfl) :
    DPI X lo tg (.Call (.Name "range" p) [a, b, c] [] pos) (iRng3D ta) :=
  PI.of (pi_range3 hg hm ha hs hpl) fun σ H R ⟨F, G, ρ, M, Q, a, h, q⟩ => ⟨F, G, ρ, M, _, a, h, fun vs H1 F1 ds M1 s1 r1 p1 h1 => by
    split at h1
    · obtain ⟨v, w, x, rfl, p, p', p''⟩ := p1.three
      cases p; cases p'; cases p''
      obtain ⟨⟨rfl, h1, h2, h3, h4⟩, h5⟩ := h1
      exact ⟨_, _, _, _, rfl, RgC.neg h1 h2 h3 h4, q _ H1 F1 _ M1 s1 r1 (it_dn _ _) h5⟩
    · exact h1.elim⟩
end
end DL

namespace DL
open PySem PySem.Spec PyProof.Rows L2
variable {K : PySem.W.Frag} {F F' F0 F1 F2 G G' H H' H1 H2 : Hp} {M M' : Mm} {ρ ρ' : Rho} {σ σ' : L2.St}
/-! ### {k: v} with a tuple as its key -/
def tDispT (tk tv : TE) : TE := fun σ H Q => ∀ p, H p = none → tk σ (upd H p (.dT [])) fun x H1 => tv σ H1 fun y H2 => H2 p = some (.dT []) ∧ ∃ b ks, x = .ref b ∧ H2 b = some (.tup (ks.map kV)) ∧ Q (.ref p) (upd H2 p (.dT [(ks, y)]))
theorem pe_dispT {X : Cx} {k v : Expr} {tk tv : TE} {pos : Pos} (hu : X.A.units + 1 < cLine) (hk : PE X k tk) (hv : PE X v tv) : PE X (.Dict [some k] [v] pos) (tDispT tk tv) := by
  refine ⟨fun pins s σ H Q I q => ?_⟩
  have hn := I.hok.fresh (Nat.le_refl s.heap.objs.size)
  have I1 := I.laid (a := s.heap.objs.size) (o := .dT []) (h' := s.heap.push { cls := .type "dict", data := .dict #[] }) (t' := s.toks) (fun _ _ q => Heap.get?_push_of_some _ q) (Nat.le_refl _) (dt_empty s.heap I.big)
  have pp : PPs X pos [some k] [v] [(tk, tv)] := pps_cons hk hv pps_nil
  rw [arm_eval_Dict, zip_pairTrees [some k] [v] X.env pos rfl rfl, dictDisplay_pairs (pairTrees [some k] [v] X.env pos) (by rw [pairTrees]; simp) (by rw [pairTrees_length _ _ _ _ rfl rfl]; exact (by decide : 1 < 17))]
  refine wpAny_bind (wpAny_standAt (wpAny_bind (wpAny_subDictH (knd := tupleKind (mixKind X.prog X.w)) (Q := fun d s' => wpAny (model X.prog X.w) X.A (pure (Value.ref d)) _ X.xe s') (by show X.A.units < cLine; omega) (by rw [pairTrees_length _ _ _ _ rfl rfl]; exact (by decide : 1 ≤ 15)) ?_)))
  refine thn (pp.run pins _ σ _ (fun ps H2 => match ps with
    | [(x, y)] => H2 s.heap.objs.size = some (.dT []) ∧ ∃ b ks, x = .ref b ∧ H2 b = some (.tup (ks.map kV)) ∧ Q (.ref s.heap.objs.size) (upd H2 s.heap.objs.size (.dT [(ks, y)]))
    | _ => False) I1 (q _ hn)) fun ws s2 ⟨ps, H2, I2, rel, z⟩ => ?_
  split at z
  · rename_i x y
    obtain ⟨e, b, ks, ex, eb, q2⟩ := z
    subst ex
    cases rel with
    | @cons a1 b1 as bs h1 t1 =>
      cases t1
      obtain ⟨kk, w1⟩ := b1
      obtain ⟨r1, r2⟩ := h1
      cases (show kk = Value.ref b from r1)
      obtain ⟨z, hd, xs0, r0, dd⟩ := dt_of I2.hok e
      cases r0
      refine ⟨[(ks, b, w1)], ⟨rfl, rfl, key_of I2.hok eb, trivial⟩, dd, fun h' tk' dd' hs => wpAny_pure ?_⟩
      obtain ⟨qo, es, ep, hq, h2, h3, h4, _, h5⟩ := dd'
      refine ⟨.ref s.heap.objs.size, upd H2 s.heap.objs.size (.dT [(ks, y)]), d_write (ob := .dT [(ks, y)]) I2 (by rw [e]; exact True.intro) hs ⟨qo, hq⟩ ⟨by show 1 ≤ sizeLine; decide, hd, _, (KT.put (.nil : KT H2 [] []) ks eb r2).keeps fun c ys ec => ?_, qo, es, ep, hq, h2, h3, h4, h5⟩, rfl, q2⟩
      rw [upd_ne (ne_of ec e (fun z => nomatch z))]
      exact ec
  · exact z.elim
/-! ### dicts whose keys are tuples -/
def kD : Key → D
  | .inl n => .int n
  | .inr x => .str x
theorem rep_keys : ∀ {ks : List Key} {vs : List V}, Reps K F vs (ks.map kD) → vs = ks.map kV
  | [], _, .nil => rfl
  | .inl n :: ks, _, .cons p r => by cases p; rw [rep_keys r]; rfl
  | .inr n :: ks, _, .cons p r => by cases p; rw [rep_keys r]; rfl
def valD (kds : List (List Key × D)) (k : List Key) : Option D := (kds.find? fun kv => decide (kv.1 = k)).map (·.2)
def putD (kds : List (List Key × D)) (k : List Key) (v : D) : List (List Key × D) :=
  if (kds.any fun kv => decide (kv.1 = k)) = true then kds.map (fun kv => if kv.1 = k then (kv.1, v) else kv) else kds ++ [(k, v)]
theorem val_rel {k : List Key} {kvs : List (List Key × V)} {kds : List (List Key × D)} (h : Paired (EntD K F) kvs kds) : (valV kvs k = none ∧ valD kds k = none) ∨ ∃ v d, valV kvs k = some v ∧ valD kds k = some d ∧ Rep K F v d := by
  induction h with
  | nil => exact .inl ⟨rfl, rfl⟩
  | @cons p q ps qs hq t ih =>
    obtain ⟨e1, e2⟩ := hq
    unfold valV valD at ih ⊢
    by_cases c : p.1 = k
    · have c' : q.1 = k := e1 ▸ c
      refine .inr ⟨p.2, q.2, ?_, ?_, e2⟩
      · simp [List.find?_cons, c]
      · simp [List.find?_cons, c']
    · have c' : ¬ q.1 = k := fun z => c (e1.trans z)
      simpa [List.find?_cons, c, c'] using ih
theorem any_rel {k : List Key} {kvs : List (List Key × V)} {kds : List (List Key × D)} (h : Paired (EntD K F) kvs kds) : (kvs.any fun kv => decide (kv.1 = k)) = kds.any fun kv => decide (kv.1 = k) := by
  induction h with
  | nil => rfl
  | @cons p q ps qs hq t ih => simp only [List.any_cons, ih, hq.1]
theorem put_rel {k : List Key} {v : V} {d : D} (p : Rep K F v d) {kvs : List (List Key × V)} {kds : List (List Key × D)} (h : Paired (EntD K F) kvs kds) : Paired (EntD K F) (putK kvs k v) (putD kds k d) := by
  unfold putK putD
  rw [any_rel h]
  by_cases c : (kds.any fun kv => decide (kv.1 = k)) = true
  · rw [if_pos c, if_pos c]
    clear c
    induction h with
    | nil => exact .nil
    | @cons p' q ps qs hq t ih =>
      rw [List.map_cons, List.map_cons]
      refine .cons ?_ ih
      by_cases c : p'.1 = k
      · rw [if_pos c, if_pos (hq.1 ▸ c)]; exact ⟨hq.1, p⟩
      · rw [if_neg c, if_neg (fun z => c (hq.1.trans z))]; exact hq
  · rw [if_neg c, if_neg c]
    exact Paired.snoc h ⟨rfl, p⟩
theorem RepT.paired : ∀ {kvs : List (List Key × V)} {kds : List (List Key × D)}, RepT K F kvs kds → Paired (EntD K F) kvs kds
  | _, _, .nil => .nil
  | _, _, .cons p r => .cons ⟨rfl, p⟩ (RepT.paired r)
theorem RepT.of {kvs : List (List Key × V)} {kds : List (List Key × D)} (h : Paired (EntD K F) kvs kds) : RepT K F kvs kds := by
  induction h with
  | nil => exact .nil
  | @cons p q ps qs hq t ih =>
    obtain ⟨a, b⟩ := p; obtain ⟨c, d⟩ := q
    obtain ⟨e1, e2⟩ := hq
    cases e1
    exact .cons e2 ih
/-- the entries of a dict, mutable or not -/
def resT2 (M : Mm) : D → Option (List (List Key × D))
  | .dic kds => some kds
  | .obj a => match M.lookup a with
    | some (.dT kds) => some kds
    | _ => none
  | _ => none
theorem resT2_ok (r : RelM K F G M H) {v : V} {d : D} {kds : List (List Key × D)} (p : Rep K F v d) (h : resT2 M d = some kds) : ∃ a kvs, v = .ref a ∧ Rd H a (.dT kvs) ∧ Paired (EntD K F) kvs kds := by
  cases d with
  | dic ks =>
    cases h
    cases p with
    | @dic a kvs _ s q => exact ⟨a, kvs, rfl, Same.rd r.fz s, q.paired⟩
  | obj a =>
    cases p
    unfold resT2 at h
    simp only at h
    split at h
    · rename_i ks e
      cases h
      obtain ⟨o, eo, z⟩ := r.look e
      cases z with
      | dT q => exact ⟨a, _, rfl, .inl eo, q⟩
    · cases h
  | _ => cases h
theorem key_ok (r : RelM K F G M H) {v : V} {ks : List Key} (p : Rep K F v (.tup (ks.map kD))) : ∃ b, v = .ref b ∧ H b = some (.tup (ks.map kV)) := by
  cases p with
  | @tup b vs _ s q => exact ⟨b, rfl, by rw [r.fz _ _ s, rep_keys q]⟩
section
variable {X : Cx} {lo : Lo} {pos pos' : Pos} {o i e value : Expr} {to ti te tv : TDE}
/-- d[k] -/
def eDGet (to ti : TDE) : TDE := fun ρ M Q => to ρ M fun d M1 => ti ρ M1 fun y M2 => ∃ kds ks z, resT2 M2 d = some kds ∧ y = .tup (ks.map kD) ∧ valD kds ks = some z ∧ Q z M2
/-- k in d -/
def eDIn (b : Bool) (ti to : TDE) : TDE := fun ρ M Q => ti ρ M fun y M1 => to ρ M1 fun d M2 => ∃ kds ks, resT2 M2 d = some kds ∧ y = .tup (ks.map kD) ∧ Q (.bl (b == (valD kds ks).isSome)) M2
/-- d[k] = v -/
def dDPut (to ti tv : TDE) : TDS := fun De ρ M => tv ρ M fun z M1 => to ρ M1 fun d M2 => ti ρ M2 fun y M3 => ∃ a kds ks, d = .obj a ∧ M3.lookup a = some (.dT kds) ∧ y = .tup (ks.map kD) ∧ kds.length < sizeLine ∧ De.nx ρ (putM M3 a (.dT (putD kds ks z)))
/-- {k: v} -/
def eDisp (ti tv : TDE) : TDE := fun ρ M Q => ∀ p, M.lookup p = none → ti ρ ((p, .dT []) :: M) fun y M1 => tv ρ M1 fun z M2 => M2.lookup p = some (.dT []) ∧ ∃ ks, y = .tup (ks.map kD) ∧ Q (.obj p) (putM M2 p (.dT [(ks, z)]))
theorem de_dget (hu : X.A.units + 1 < cLine) (ho : DPE X lo o to) (hi : DPE X lo i ti) (hs : NoSl i) : DPE X lo (.Subscript o i pos) (eDGet to ti) :=
  PE.of (pe_dget hu ho hi hs) fun σ H Qv ⟨F, G, ρ, M, Q, a, h, q⟩ => ⟨F, G, ρ, M, _, a, h, fun x H1 F1 d M1 s1 r1 p1 h1 => ⟨F1, G, ρ, M1, _, a.next s1 r1, h1, fun y H2 F2 e M2 s2 r2 p2 ⟨kds, ks, z, e1, e2, e3, h2⟩ => by
    subst e2
    obtain ⟨b, kvs, rfl, rd, pr⟩ := resT2_ok r2 (p1.mono s2) e1
    obtain ⟨c, rfl, ec⟩ := key_ok r2 p2
    rcases val_rel (k := ks) pr with ⟨_, n⟩ | ⟨v, d2, n1, n2, rp⟩
    · rw [n] at e3; cases e3
    · rw [n2] at e3; cases e3
      exact ⟨b, v, rfl, .inr ⟨kvs, ks, c, rd, rfl, ec, n1.symm⟩, q v H2 F2 _ M2 (s1.trans s2) r2 rp h2⟩⟩⟩
theorem lift_din {σ : L2.St} {Qv : VK} (h : liftE X.K lo (eDIn true ti to) σ H Qv) : tDIn (liftE X.K lo ti) (liftE X.K lo to) σ H Qv := by
  obtain ⟨F, G, ρ, M, Q, a, h, q⟩ := h
  refine ⟨F, G, ρ, M, _, a, h, fun y H1 F1 d M1 s1 r1 p1 h1 => ⟨F1, G, ρ, M1, _, a.next s1 r1, h1, fun x H2 F2 e M2 s2 r2 p2 ⟨kds, ks, e1, e2, h2⟩ => ?_⟩⟩
  subst e2
  obtain ⟨b, kvs, rfl, rd, pr⟩ := resT2_ok r2 p2 e1
  obtain ⟨c, rfl, ec⟩ := key_ok r2 (p1.mono s2)
  refine ⟨b, valV kvs ks, rfl, .inr ⟨kvs, ks, c, rd, rfl, ec, rfl⟩, q _ H2 F2 (.bl (valV kvs ks).isSome) M2 (s1.trans s2) r2 (.bl _) ?_⟩
  have : (valV kvs ks).isSome = (valD kds ks).isSome := by
    rcases val_rel (k := ks) pr with ⟨n1, n2⟩ | ⟨v, d2, n1, n2, _⟩ <;> rw [n1, n2] <;> rfl
  rw [this]
  simpa using h2
theorem lift_dnotin {σ : L2.St} {Qv : VK} (h : liftE X.K lo (eDIn false ti to) σ H Qv) : tDNotIn (liftE X.K lo ti) (liftE X.K lo to) σ H Qv := by
  obtain ⟨F, G, ρ, M, Q, a, h, q⟩ := h
  refine ⟨F, G, ρ, M, _, a, h, fun y H1 F1 d M1 s1 r1 p1 h1 => ⟨F1, G, ρ, M1, _, a.next s1 r1, h1, fun x H2 F2 e M2 s2 r2 p2 ⟨kds, ks, e1, e2, h2⟩ => ?_⟩⟩
  subst e2
  obtain ⟨b, kvs, rfl, rd, pr⟩ := resT2_ok r2 p2 e1
  obtain ⟨c, rfl, ec⟩ := key_ok r2 (p1.mono s2)
  refine ⟨b, valV kvs ks, rfl, .inr ⟨kvs, ks, c, rd, rfl, ec, rfl⟩, q _ H2 F2 (.bl (!(valV kvs ks).isSome)) M2 (s1.trans s2) r2 (.bl _) ?_⟩
  have : (valV kvs ks).isSome = (valD kds ks).isSome := by
    rcases val_rel (k := ks) pr with ⟨n1, n2⟩ | ⟨v, d2, n1, n2, _⟩ <;> rw [n1, n2] <;> rfl
  rw [this]
  simpa using h2
theorem de_din (hu : X.A.units + 1 < cLine) (hi : DPE X lo i ti) (ho : DPE X lo o to) (h1 : behindInMarks .In o = false := by rfl) : DPE X lo (.Compare i [.In] [o] pos) (eDIn true ti to) :=
  PE.of (pe_cmp (pc_din hu hi ho) h1) fun _ _ _ h => lift_din h
theorem de_dnotin (hu : X.A.units + 1 < cLine) (hi : DPE X lo i ti) (ho : DPE X lo o to) (h1 : behindInMarks .NotIn o = false := by rfl) : DPE X lo (.Compare i [.NotIn] [o] pos) (eDIn false ti to) :=
  PE.of (pe_cmp (pc_dnotin hu hi ho) h1) fun _ _ _ h => lift_dnotin h
theorem ds_dput (hu : X.A.units + 1 < cLine) (ho : DPE X lo o to) (hi : DPE X lo i ti) (hv : DPE X lo value tv) (hs : swapsWith value (some (.Subscript o i pos')) pos.line X.env = pure false := by rfl) : DPS X lo (.Assign [.Subscript o i pos'] value pos) (dDPut to ti tv) :=
  PS.of (ps_dput hu ho hi hv hs) fun σ H Dv ⟨F, G, ρ, M, De, a, h, er⟩ => ⟨F, G, ρ, M, _, a, h, fun v H1 F1 z M1 s1 r1 p1 h1 => ⟨F1, G, ρ, M1, _, a.next s1 r1, h1, fun x H2 F2 d M2 s2 r2 p2 h2 =>
    ⟨F2, G, ρ, M2, _, (a.next s1 r1).next s2 r2, h2, fun y H3 F3 e M3 s3 r3 p3 ⟨b, kds, ks, e1, e2, e3, e4, h3⟩ => by
      subst e1 e3
      cases p2
      obtain ⟨o3, eo, zz⟩ := r3.look e2
      cases zz with
      | @dT kvs _ pr =>
        obtain ⟨c, rfl, ec⟩ := key_ok r3 p3
        have len : kvs.length = kds.length := Paired.length pr
        have s13 : Same F1 F3 := s2.trans s3
        refine ⟨b, _, rfl, .inr ⟨kvs, ks, c, eo, rfl, ec, by omega, rfl⟩, er.nx _ _ F3 ρ _ (s1.trans s13) (r3.put e2 (.dT (put_rel (p1.mono s13) pr))) (a.env.mono (s1.trans s13)) h3⟩⟩⟩⟩
theorem de_disp (hu : X.A.units + 1 < cLine) (hi : DPE X lo i ti) (hv : DPE X lo value tv) : DPE X lo (.Dict [some i] [value] pos) (eDisp ti tv) :=
  PE.of (pe_dispT hu hi hv) fun σ H Qv ⟨F, G, ρ, M, Q, a, h, q⟩ p hp => by
    have hM : M.lookup p = none := by
      cases e : M.lookup p with
      | none => rfl
      | some m => obtain ⟨o, eo, _⟩ := a.rel.look e; rw [hp] at eo; cases eo
    have r0 := a.rel.newM hp (m := .dT []) (o := .dT []) (.dT .nil)
    refine ⟨F, G, ρ, _, _, ⟨a.f, a.g, r0, a.env⟩, h p hM, fun x H1 F1 d M1 s1 r1 p1 h1 => ⟨F1, G, ρ, M1, _, ⟨a.f.trans s1, a.g, r1, a.env.mono s1⟩, h1, fun y H2 F2 e M2 s2 r2 p2 ⟨e1, ks, e2, h2⟩ => ?_⟩⟩
    subst e2
    obtain ⟨o, eo, zz⟩ := r2.look e1
    cases zz with
    | @dT kvs _ pr =>
      cases pr
      obtain ⟨c, rfl, ec⟩ := key_ok r2 (p1.mono s2)
      exact ⟨eo, c, ks, rfl, ec, q _ _ F2 _ _ (s1.trans s2) (r2.put e1 (.dT (.cons ⟨rfl, p2⟩ .nil))) (.obj p) h2⟩
end
end DL

namespace DL
open PySem PySem.Spec PyProof.Rows L2
variable {K : PySem.W.Frag} {F F' F0 F1 F2 G G' H H' H1 H2 : Hp} {M M' M1 : Mm} {ρ ρ' : Rho} {σ σ' : L2.St}
/-! ### for k in d, d a dict that changes no more -/
/-- a tuple that stands counts as standing data -/
theorem RelM.addT (r : RelM K F G M H) {q : Addr} {vs : List V} (h : H q = some (.tup vs)) : ∃ F', Same F F' ∧ F' q = some (.tup vs) ∧ RelM K F' G M H := by
  cases e : F q with
  | some o =>
    have := r.fz _ _ e
    rw [h] at this; cases this
    exact ⟨F, Same.refl F, e, r⟩
  | none =>
    have s : Same F (upd F q (.tup vs)) := same_new e
    refine ⟨_, s, upd_same, ⟨fun b x z => ?_, r.fr, r.nd, fun b x z => ?_, fun p hp => ?_⟩⟩
    · by_cases hb : b = q
      · subst hb; rw [upd_same] at z; cases z; exact h
      · rw [upd_ne hb] at z; exact r.fz b x z
    · by_cases hb : b = q
      · subst hb
        have := r.fr b x z
        rw [h] at this; cases this
        exact .inr ⟨vs, rfl⟩
      · rw [upd_ne hb]; exact r.dj b x z
    · obtain ⟨x, y, u, eu, z⟩ := r.at' p hp
      have ne : p.1 ≠ q := fun w => by rw [w, h] at eu; cases eu; cases z
      exact ⟨by rw [upd_ne ne]; exact x, y, u, eu, z.mono s⟩
/-- the same things stand, but that a dict may be locked or free -/
structure Swap (F F' : Hp) : Prop where
  t : ∀ b ys, F b = some (.tup ys) → F' b = some (.tup ys)
  l : ∀ b ys, Rd F b (.lst ys) → Rd F' b (.lst ys)
  i : ∀ b C dx fs, F b = some (.ins C dx fs) → F' b = some (.ins C dx fs)
  r : ∀ b x y, F b = some (.rng x y) → F' b = some (.rng x y)
  d : ∀ b k, Rd F b (.dT k) → Rd F' b (.dT k)
  c : ∀ b q, F b = some (LamX.CodeO b q) → F' b = some (LamX.CodeO b q)
mutual
theorem Rep.swap (e : Swap F F') : ∀ {v : V} {d : D}, Rep K F v d → Rep K F' v d
  | _, _, .non => .non
  | _, _, .bl b => .bl b
  | _, _, .int i => .int i
  | _, _, .str x => .str x
  | _, _, .tup s r => .tup (e.t _ _ s) (Reps.swap e r)
  | _, _, .lst s r => .lst (e.l _ _ s) (Reps.swap e r)
  | _, _, .ins s r => .ins (e.i _ _ _ _ s) (RepF.swap e r)
  | _, _, .obj a => .obj a
  | _, _, .rng h => .rng (e.r _ _ _ h)
  | _, _, .kl h => .kl (h.imp (e.l _ _) id)
  | _, _, .dic s r => .dic (e.d _ _ s) (RepT.swap e r)
  | _, _, .raw v => .raw v
theorem Reps.swap (e : Swap F F') : ∀ {vs : List V} {ds : List D}, Reps K F vs ds → Reps K F' vs ds
  | _, _, .nil => .nil
  | _, _, .cons r t => .cons (Rep.swap e r) (Reps.swap e t)
theorem RepT.swap (e : Swap F F') : ∀ {vs : List (List Key × V)} {ds : List (List Key × D)}, RepT K F vs ds → RepT K F' vs ds
  | _, _, .nil => .nil
  | _, _, .cons r t => .cons (Rep.swap e r) (RepT.swap e t)
theorem RepF.swap (e : Swap F F') : ∀ {vs : List (Str × V)} {ds : List (Str × D)}, RepF K F vs ds → RepF K F' vs ds
  | _, _, .nil => .nil
  | _, _, .cons r t => .cons (Rep.swap e r) (RepF.swap e t)
end
theorem RepO.swap (e : Swap F F') {o : HO} {m : MO} (h : RepO K F o m) : RepO K F' o m := by
  cases h with
  | lst r => exact .lst (r.swap e)
  | ins r => exact .ins (r.swap e)
  | xd r => exact .xd (r.swap e)
  | dK r => exact .dK (Paired.mapP r fun _ _ q => ⟨q.1, q.2.swap e⟩)
  | dT r => exact .dT (Paired.mapP r fun _ _ q => ⟨q.1, q.2.swap e⟩)
  | tbl t h => exact .tbl t fun pos cv q => let ⟨c, e1, e2⟩ := h pos cv q; ⟨c, e1, e.c _ _ e2⟩
theorem EnvR.swap (e : Swap F F') : ∀ {ρ : Rho} {σ : L2.St}, EnvR K F ρ σ → EnvR K F' ρ σ
  | _, _, .nil => .nil
  | _, _, .no r => .no (EnvR.swap e r)
  | _, _, .yes q r => .yes (q.swap e) (EnvR.swap e r)
/-- the lock is taken away -/
theorem swap_off {a : Addr} {od : Obj} {kvs : List (List Key × V)} (h : F a = some (.frz od (.dT kvs))) : Swap F (upd F a (.dT kvs)) := by
  have ne : ∀ b o, F b = some o → (∀ x y, o ≠ .frz x (.dT y)) → b ≠ a := fun b o e n z => by
    rw [z, h] at e; cases e; exact n _ _ rfl
  refine ⟨fun b ys e => by rw [upd_ne (ne b _ e fun _ _ z => nomatch z)]; exact e, fun b ys e => ?_, fun b C dx fs e => by rw [upd_ne (ne b _ e fun _ _ z => nomatch z)]; exact e, fun b x y e => by rw [upd_ne (ne b _ e fun _ _ z => nomatch z)]; exact e, fun b k e => ?_, fun b q e => by rw [upd_ne (ne b _ e fun _ _ z => by unfold LamX.CodeO at z; cases z)]; exact e⟩
  · rcases e with e | ⟨o, e⟩
    · exact .inl (by rw [upd_ne (ne b _ e fun _ _ z => nomatch z)]; exact e)
    · exact .inr ⟨o, by rw [upd_ne (ne b _ e fun _ _ z => nomatch z)]; exact e⟩
  · by_cases hb : b = a
    · subst hb
      rcases e with e | ⟨o, e⟩
      · rw [h] at e; cases e
      · rw [h] at e; cases e; exact .inl upd_same
    · rcases e with e | ⟨o, e⟩
      · exact .inl (by rw [upd_ne hb]; exact e)
      · exact .inr ⟨o, by rw [upd_ne hb]; exact e⟩
theorem for_core {lo : Lo} {J : It} {ds : List D} {g : TDG} {ws : List Nat} {tb : TDS} {De : DEnds} {Dv : Ends} (f : Same lo.F F1) (gl : Same lo.G G) (r1 : RelM K F1 G M1 H1) (e1 : EnvR K F1 ρ σ) (it : ItD K F1 J ds) (h1 : forL g tb ds De ρ M1) (er : EndsR K F1 G De Dv) :
    tFor (fun σ H R => R J H) (liftG K lo ws g) (liftS K lo tb) Dv σ H1 := by
    refine ⟨fun i m σ H => m = ds.length - i ∧ i ≤ ds.length ∧ ∃ F2 ρ M, Same F1 F2 ∧ RelM K F2 G M H ∧ EnvR K F2 ρ σ ∧ forL g tb (ds.drop i) De ρ M, ⟨ds.length, by simp, Nat.zero_le _, F1, ρ, M1, Same.refl F1, r1, e1, h1⟩, ?_⟩
    rintro i m σ H ⟨rfl, hi, F2, ρ, M, s2, r2, e2, h2⟩
    obtain ⟨i1, i2⟩ := it F2 G M H i s2 r2
    have f2 : Same lo.F F2 := f.trans s2
    by_cases hlt : i < ds.length
    · have hd : ds[i]? = some ds[i] := List.getElem?_eq_getElem hlt
      obtain ⟨go, yl⟩ := i2 _ hd
      refine .inr ⟨go, fun σ H => i + 1 ≤ ds.length ∧ ∃ F2 ρ M, Same F1 F2 ∧ RelM K F2 G M H ∧ EnvR K F2 ρ σ ∧ forL g tb (ds.drop (i + 1)) De ρ M, fun σ' H' z => ⟨ds.length - (i + 1), by omega, rfl, z⟩, fun x H' y => ?_⟩
      obtain ⟨F3, s3, r3, p3⟩ := yl x H' y
      rw [drop_at hd] at h2
      refine ⟨F3, G, ρ, M, _, _, ⟨f2.trans s3, gl, r3, e2.mono s3⟩, p3, h2, fun ρ4 σ4 H4 F4 M4 s4 r4 e4 w4 h4 => ?_⟩
      refine ⟨F4, G, ρ4, M4, _, ⟨(f2.trans s3).trans s4, gl, r4, e4⟩, h4, ⟨fun σ' H' F' ρ' M' s r en z => ?_, fun v H' F' d M' s r p z => ?_, fun σ' H' F' ρ' M' s r en z => ?_, fun σ' H' F' ρ' M' s r en z => ?_⟩⟩
      · exact ⟨hlt, F', ρ', M', ((s2.trans s3).trans s4).trans s, r, en, z⟩
      · exact er.rt v H' F' d M' (((s2.trans s3).trans s4).trans s) r p z
      · exact er.nx σ' H' F' ρ' M' (((s2.trans s3).trans s4).trans s) r en z
      · exact ⟨hlt, F', ρ', M', ((s2.trans s3).trans s4).trans s, r, en, z⟩
    · have e : i = ds.length := by omega
      subst e
      rw [List.drop_length] at h2
      exact .inl ⟨i1 rfl, er.nx σ H F2 ρ M s2 r2 e2 h2⟩
def keysD (kds : List (List Key × D)) : List D := kds.map fun p => .tup (p.1.map kD)
theorem reps_keys : ∀ ks : List Key, Reps K F (ks.map kV) (ks.map kD)
  | [] => .nil
  | .inl n :: ks => .cons (.int n) (reps_keys ks)
  | .inr n :: ks => .cons (.str n) (reps_keys ks)
theorem paired_key {i : Nat} {k : List Key} {v : V} {kvs : List (List Key × V)} {kds : List (List Key × D)} (h : Paired (EntD K F) kvs kds) (e : kvs[i]? = some (k, v)) : (keysD kds)[i]? = some (.tup (k.map kD)) := by
  obtain ⟨b, hb, q1, q2⟩ := paired_get h e
  unfold keysD
  rw [List.getElem?_map, hb]
  cases q1; rfl
theorem it_keys {a : Addr} {od : Obj} {kvs : List (List Key × V)} {kds : List (List Key × D)} (h : F0 a = some (.frz od (.dT kvs))) (pr : Paired (EntD K F0) kvs kds) : ItD K F0 (Itkt a od kvs) (keysD kds) := fun F G M H i s r => by
  have hH := r.fz _ _ (s _ _ h)
  have len : kvs.length = kds.length := Paired.length pr
  have lk : (keysD kds).length = kds.length := by simp [keysD]
  refine ⟨fun e => ⟨hH, by omega⟩, fun d e => ?_⟩
  have hi : i < kvs.length := by have := (List.getElem?_eq_some_iff.mp e).1; omega
  refine ⟨⟨hH, hi⟩, fun x H' ⟨e1, k, v, q, e2, e3, e4⟩ => ?_⟩
  subst e1 e3
  rw [paired_key pr e2] at e
  cases e
  obtain ⟨F', s1, s2, r1⟩ := r.addT e4
  exact ⟨F', s1, r1, .tup s2 (reps_keys k)⟩
def dForT (i : Nat) (g : TDG) (tb : TDS) : TDS := fun De ρ M => ∃ a kds M', ρ[i]? = some (some (.obj a)) ∧ ((a, MO.dT kds) :: M').Sublist M ∧ forL g tb (keysD kds) De (ρ.set i (some (.dic kds))) M'
section
variable {X : Cx} {lo : Lo} {tg e : Expr} {pos : Pos} {body : List Stmt}
theorem ds_forT {i : Nat} {g : TDG} {ws : List Nat} {tb : TDS} (hp : PassesOwn (model X.prog X.w) X.A X.env X.xe) (hc : X.calm = true) (hi : DPE X lo e (eVar i)) (hg : DPG X lo ws tg g) (hb : DPSs X lo body tb)
    (hs : ∀ x, foldedSetIterable e X.env x = pure x := by intro _; rfl) : DPS X lo (.For tg e body [] pos) (dForT i g tb) :=
  PS.of (ps_lock (ps_for hp hc (pi_keys hi) hg hb hs)) fun σ H Dv ⟨F, G, ρ, M, De, a, ⟨b, kds, M', hx, hsub, h⟩, er⟩ => by
    have r' := a.rel.drop hsub
    obtain ⟨fb, gb, o, eo, z⟩ := r'.at' _ List.mem_cons_self
    have nd := r'.nd
    rw [List.map_cons, List.nodup_cons] at nd
    have nM : ∀ p ∈ M', p.1 ≠ b := fun p hp w => nd.1 (List.mem_map.mpr ⟨p, hp, w⟩)
    cases z with
    | @dT kvs _ pr =>
      refine ⟨b, .dT kvs, eo, True.intro, fun od => ?_⟩
      have s : Same F (upd F b (.frz od (.dT kvs))) := same_new fb
      have r1 : RelM X.K (upd F b (.frz od (.dT kvs))) G M' (upd H b (.frz od (.dT kvs))) := by
        refine ⟨same_upd2 r'.fz, same_updR r'.fr gb, nd.2, fun c x q => by rw [upd_ne (ne_of_none q gb)]; exact r'.dj c x q, fun p hp => ?_⟩
        obtain ⟨x, y, u, eu, w⟩ := r'.at' p (List.mem_cons_of_mem _ hp)
        exact ⟨by rw [upd_ne (nM p hp)]; exact x, y, u, by rw [upd_ne (nM p hp)]; exact eu, w.mono s⟩
      have pr1 : Paired (EntD X.K (upd F b (.frz od (.dT kvs)))) kvs kds := entMono s pr
      obtain ⟨v, ev, rv⟩ := a.env.get hx
      cases rv
      have e2 : σ.set i (some (V.ref b)) = σ := by
        apply List.ext_getElem?
        intro j
        by_cases hj : i = j
        · subst hj
          rw [ev]
          obtain ⟨hl, _⟩ := List.getElem?_eq_some_iff.mp ev
          exact List.getElem?_set_self hl
        · exact List.getElem?_set_ne hj
      have en1 := (a.env.mono s).set (Rep.dic (.inr ⟨od, upd_same⟩) (RepT.of pr1)) i
      rw [e2] at en1
      refine ⟨_, G, ρ, M', (fun d M2 => d = .obj b ∧ M2 = M'), ⟨a.f.trans s, a.g, r1, a.env.mono s⟩, by unfold eVar; rw [hx]; exact ⟨rfl, rfl⟩, fun w H2 F2 d M2 s2 r2 p2 ⟨ed, eM⟩ => ?_⟩
      subst ed eM
      cases p2
      have f2 := s2 _ _ (show upd F b (.frz od (.dT kvs)) b = some (.frz od (.dT kvs)) from upd_same)
      refine ⟨b, od, rfl, .inr ⟨kvs, r2.fz _ _ f2, ?_⟩⟩
      refine for_core (De := De) ((a.f.trans s).trans s2) a.g r2 (en1.mono s2) (it_keys f2 (entMono s2 pr1)) h ?_
      have back : ∀ {F3 H3 M3}, Same F2 F3 → RelM X.K F3 G M3 H3 → H3 b = some (.frz od (.dT kvs)) ∧ Swap F3 (upd F3 b (.dT kvs)) ∧ Same F (upd F3 b (.dT kvs)) ∧ RelM X.K (upd F3 b (.dT kvs)) G M3 (upd H3 b (.dT kvs)) := fun {F3 H3 M3} s3 r3 => by
        have f3 := s3 _ _ f2
        have sw := swap_off f3
        refine ⟨r3.fz _ _ f3, sw, fun c x q => ?_, ⟨same_upd2 r3.fz, same_updR r3.fr gb, r3.nd, fun c x q => by rw [upd_ne (ne_of_none q gb)]; exact r3.dj c x q, fun p hp => ?_⟩⟩
        · have ne : c ≠ b := ne_of_none q fb
          rw [upd_ne ne]
          exact s3 _ _ (s2 _ _ (s _ _ q))
        · obtain ⟨x, y, u, eu, w⟩ := r3.at' p hp
          have ne : p.1 ≠ b := fun z => by rw [z, f3] at x; cases x
          exact ⟨by rw [upd_ne ne]; exact x, y, u, by rw [upd_ne ne]; exact eu, w.swap sw⟩
      refine ⟨fun σ' H3 F3 ρ3 M3 s3 r3 e3 z => ?_, fun v H3 F3 d M3 s3 r3 p3 z => ?_, fun σ' H3 F3 ρ3 M3 s3 r3 e3 z => ?_, fun σ' H3 F3 ρ3 M3 s3 r3 e3 z => ?_⟩
      · obtain ⟨k1, k2, k3, k4⟩ := back s3 r3
        exact ⟨k1, er.nx _ _ _ _ _ k3 k4 (e3.swap k2) z⟩
      · obtain ⟨k1, k2, k3, k4⟩ := back s3 r3
        exact ⟨k1, er.rt _ _ _ _ _ k3 k4 (p3.swap k2) z⟩
      · obtain ⟨k1, k2, k3, k4⟩ := back s3 r3
        exact ⟨k1, er.bk _ _ _ _ _ k3 k4 (e3.swap k2) z⟩
      · obtain ⟨k1, k2, k3, k4⟩ := back s3 r3
        exact ⟨k1, er.ct _ _ _ _ _ k3 k4 (e3.swap k2) z⟩
end
end DL

namespace DL
open PySem PySem.Spec PyProof.Rows L2
variable {K : PySem.W.Frag} {F F' F0 F1 F2 G G' H H' H1 H2 : Hp} {M M' M1 : Mm} {ρ ρ' : Rho} {σ σ' : L2.St}
theorem rm1 {k : Nat} {A : Around} (h : Room k A) : A.units + 1 < cLine := by have := h.un; omega
theorem rm65 {k : Nat} {A : Around} (h : Room k A) : A.units + 65 < cLine := by have := h.un; omega
/-! ### in, of whole numbers -/
theorem inV_int (i : Int) : ∀ ns : List Int, inV (.int i) (ns.map V.int) = decide (i ∈ ns)
  | [] => rfl
  | n :: ns => by
    have ih := inV_int i ns
    unfold inV at ih ⊢
    rw [List.map_cons, List.any_cons, ih]
    have e : eqV (.int n) (.int i) = decide (i = n) := by
      show (n == i) = _
      by_cases h : n = i
      · simp [h]
      · rw [decide_eq_false (fun z => h z.symm)]; simpa using h
    rw [e]
    by_cases h : i = n <;> by_cases h2 : i ∈ ns <;> simp [h, h2]
theorem flat_ints (ns : List Int) : (ns.map V.int).all flatV = true := by
  rw [List.all_map]; exact List.all_eq_true.mpr fun _ _ => rfl
def gInI (b : Bool) : GD2 := fun x d M Q => match x, (resS M d).bind asInts with
  | .int i, some ns => Q (.bl (if b then !decide (i ∈ ns) else decide (i ∈ ns))) M
  | _, _ => False
theorem resIntsS_ok (r : RelM K F G M H) {v : V} {d : D} {ns : List Int} (p : Rep K F v d) (h : (resS M d).bind asInts = some ns) : ∃ a, v = .ref a ∧ (SqL K H a (ns.map V.int) ∨ SqT K H a (ns.map V.int)) := by
  obtain ⟨ds, e1, e2⟩ := Option.bind_eq_some_iff.mp h
  obtain ⟨a, vs, rfl, s, q⟩ := resS_ok r p e1
  rw [asInts_eq e2] at q
  rw [Reps.ints q] at s
  exact ⟨a, rfl, s⟩
theorem ok_inI : OkR2 K (rIn K false) (gInI false) := fun F G M H x y d e Q Qv r p q h k => by
  unfold gInI at h
  split at h
  · rename_i i ns en
    cases p
    obtain ⟨a, rfl, s⟩ := resIntsS_ok r q en
    exact ⟨a, _, rfl, s, rfl, flat_ints ns, by rw [inV_int]; exact k.here r (.bl _) h⟩
  · exact h.elim
theorem ok_notInI : OkR2 K (rIn K true) (gInI true) := fun F G M H x y d e Q Qv r p q h k => by
  unfold gInI at h
  split at h
  · rename_i i ns en
    cases p
    obtain ⟨a, rfl, s⟩ := resIntsS_ok r q en
    exact ⟨a, _, rfl, s, rfl, flat_ints ns, by rw [inV_int]; exact k.here r (.bl _) h⟩
  · exact h.elim
/-! ### *= of whole numbers -/
section
variable {X : Cx}
theorem ip_mulX : PIp X .Mult (rI CMulW fun i j => .int (i * j)) := by
  intro pins s σ H x y v u Q I r1 r2 h
  obtain ⟨i, j, e1, e2, hc, q⟩ := h
  subst e1; subst e2
  obtain ⟨t, rfl⟩ := r1
  obtain ⟨t', rfl⟩ := r2
  exact PyProof.Rows.imul_int ⟨.int _, H, I.tok _, ⟨_, rfl⟩, q⟩ hc.ok
end
def gMulI : GD2 := gI (fun i j => Sm i ∧ Sm j) fun i j => .int (i * j)
theorem ok_ipmul : OkIp K (rI CMulW fun i j => .int (i * j)) gMulI := fun F G M H x y d e Q Qv r p q h k => by
  unfold gMulI gI at h
  split at h
  · cases p; cases q
    exact ⟨_, _, rfl, rfl, wide_mul (a := 200) (b := 200) h.1.1 h.1.2 (by decide) (by decide) (by decide), k.here r (.int _) h.2⟩
  · exact h.elim
/-! ### x, y, z = a, b, c -/
def dPar3 (i j l : Nat) (ta : TDA) : TDS := fun De ρ M => ta ρ M fun ds M1 => match ds with
  | [d, e, f] => De.nx (((ρ.set i (some d)).set j (some e)).set l (some f)) M1
  | _ => False
theorem ds_par3 {X : Cx} {lo : Lo} {pos : Pos} {i j l : Nat} {x y z : Str} {a b c : Expr} {ta : TDA} {px py pz pt : Pos} {kt k2 pt2} (hc : X.calm = true) (hN : X.N.Nodup) (hi : X.N[i]? = some x) (hj : X.N[j]? = some y) (hl : X.N[l]? = some z) (hij : i ≠ j) (hil : i ≠ l) (hjl : j ≠ l)
    (hx : X.env.scope.names.lookup x = some .local) (hy : X.env.scope.names.lookup y = some .local) (hz : X.env.scope.names.lookup z = some .local) (ha : DPA X lo [a, b, c] ta)
    (hw : swappedStores [.Tuple [.Name x px, .Name y py, .Name z pz] kt pt] (.Tuple [a, b, c] k2 pt2) X.env = pure (some [x, y, z]))
    (hs : swapsWithSole [.Tuple [.Name x px, .Name y py, .Name z pz] kt pt] (.Tuple [a, b, c] k2 pt2) pos.line X.env = pure false := by rfl) :
    DPS X lo (.Assign [.Tuple [.Name x px, .Name y py, .Name z pz] kt pt] (.Tuple [a, b, c] k2 pt2) pos) (dPar3 i j l ta) :=
  PS.of (ps_par3 hc hN hi hj hl hij hil hjl hx hy hz ha hw hs) fun σ H Dv ⟨F, G, ρ, M, De, a, h, er⟩ => ⟨F, G, ρ, M, _, a, h, fun vs H' F' ds M' s r p q => by
    split at q
    · obtain ⟨v, w, u, rfl, p1, p2, p3⟩ := p.three
      exact ⟨v, w, u, rfl, er.nx _ H' F' _ M' s r ((((a.env.mono s).set p1 i).set p2 j).set p3 l) q⟩
    · exact q.elim⟩
section
variable {X : Cx} {lo : Lo} {pos : Pos} {o i : Expr} {to ti : TDE}
theorem lift_tB {te : TDE} {t : TE} (h1 : ∀ σ H Qv, liftE X.K lo te σ H Qv → t σ H Qv) {σ : L2.St} {H : Hp} {Qv : Bool → Hp → Prop} (h : liftT X.K lo (tVal te) σ H Qv) : tB t σ H Qv := by
  obtain ⟨F, G, ρ, M, Q, a, h, q⟩ := h
  refine h1 _ _ _ ⟨F, G, ρ, M, _, a, h, fun v H' F' d M' s r p z => ?_⟩
  obtain ⟨k, e, _, z⟩ := onB_ok p z
  exact ⟨k, e, q k H' F' M' s r z⟩
theorem dt_din (hu : X.A.units + 1 < cLine) (hi : DPE X lo i ti) (ho : DPE X lo o to) (h1 : behindInMarks .In o = false := by rfl) : DPT X lo (.Compare i [.In] [o] pos) (tVal (eDIn true ti to)) :=
  PT.of (pt_cmp (pc_din hu hi ho) h1) fun _ _ _ h => lift_tB (fun _ _ _ h => lift_din h) h
theorem dt_dnotin (hu : X.A.units + 1 < cLine) (hi : DPE X lo i ti) (ho : DPE X lo o to) (h1 : behindInMarks .NotIn o = false := by rfl) : DPT X lo (.Compare i [.NotIn] [o] pos) (tVal (eDIn false ti to)) :=
  PT.of (pt_cmp (pc_dnotin hu hi ho) h1) fun _ _ _ h => lift_tB (fun _ _ _ h => lift_dnotin h) h
end
end DL

namespace DL
open PySem PySem.Spec PyProof.Rows L2
variable {K : PySem.W.Frag} {F F' F0 F1 F2 G G' H H' H1 H2 : Hp} {M M' M1 : Mm} {ρ ρ' : Rho} {σ σ' : L2.St}
section
variable {X : Cx}
theorem call_sortedDT (hcalm : X.calm = true) {d : Nat} {B : Int} (hd : 1 ≤ d) : CallR X (.builtin "sorted") (fun xs H Q => ∃ (a : Addr) (kvs : List (List Key × V)) (nss : List (List Int)), xs = [.ref a] ∧ Rd H a (.dT kvs) ∧ kvs.map (·.1) = nss.map (·.map Sum.inl) ∧ nss.length < 64 ∧ (∀ ns ∈ nss, ns.length = d ∧ TS.Bd B ns) ∧
    ∀ (vs : List V) (ys : List (List Int)) (p : Addr), Paired (fun v ns => ∃ t, v = V.ref t ∧ H t = some (.tup (ns.map V.int))) vs ys → ys.Perm nss → ys.Pairwise (fun n m => TS.code B n ≤ TS.code B m) → H p = none → Q (.ref p) (upd H p (.lst vs))) := by
  intro pins s σ H xs us Q I r q
  obtain ⟨a, kvs, nss, ex, hR, hks, h64, hB, q⟩ := q
  subst ex
  obtain ⟨u, eu, rx⟩ := vals1 r
  subst eu
  cases rx
  obtain ⟨z, hs, ks, pr, o, es, ep, ho, hx, hdt, he, hn⟩ := (show ObjOk X.prog X.w H s.heap a (.dT kvs) from hR.ok I.hok)
  have l1 := size_of_entries he
  have l2 := Paired.length pr
  have l3 : kvs.length = nss.length := by have := congrArg List.length hks; simpa using this
  refine Calls.call_function_entry PyProof.Rows.kind_sorted PyProof.Rows.plain_sorted PyProof.Rows.entry_sorted (PyProof.Rows.args_sorted1 _) ?_
  unfold Builtin.«sorted»
  refine wpAny_bind (m := checkCount "sorted" 1 1 _) (wpAny_pure ?_)
  refine wpAny_bind (PySem.W.kdu_collect (A := X.A.in1) (kdl_raw hs hx hdt) (I.ok.hd hcalm) ho (by rw [sizeLine_eq]; omega) fun h' tk acc hk hacc => ?_)
  have ea : acc.toList = ks.map fun x => Value.ref x.2.1 := List.ext_getElem (by rw [Array.length_toList, hacc.1, List.length_map, l1]) fun j a b => by
    obtain ⟨en, at', v⟩ := hacc.2 j acc.toList[j] (by rw [Array.getElem_toList]; exact Array.getElem?_eq_getElem _)
    have lt : j < ks.length := by simpa using b
    have q := (entry_at he j).symm.trans at'
    rw [List.getElem?_eq_getElem lt] at q
    cases q
    rw [v, List.getElem_map]
    rfl
  have I1 : Inv X pins σ H { s with heap := h', toks := tk } := I.kept hk
  have hal : acc.toList.length = nss.length := by rw [ea, List.length_map]; omega
  have keyAt : ∀ (j : Nat) (v : Value), acc.toList[j]? = some v → ∃ t ns, v = .ref t ∧ nss[j]? = some ns ∧ H t = some (.tup (ns.map V.int)) := fun j v hv => by
    rw [ea, List.getElem?_map] at hv
    obtain ⟨x, hj, rfl⟩ := Option.map_eq_some_iff.mp hv
    have jl : j < ks.length := (List.getElem?_eq_some_iff.mp hj).1
    obtain ⟨p, hp⟩ : ∃ p, kvs[j]? = some p := ⟨kvs[j]'(by omega), List.getElem?_eq_getElem (by omega)⟩
    obtain ⟨x', hx', e1, e2, _⟩ := paired_get pr hp
    rw [hj] at hx'
    cases hx'
    have e3 : (kvs.map (·.1))[j]? = some p.1 := by rw [List.getElem?_map, hp]; rfl
    rw [hks, List.getElem?_map] at e3
    cases e4 : nss[j]? with
    | none => rw [e4] at e3; cases e3
    | some ns =>
      rw [e4] at e3
      have e5 : ns.map Sum.inl = p.1 := Option.some.inj e3
      refine ⟨_, ns, rfl, rfl, ?_⟩
      rw [e2, ← e5, List.map_map]
      rfl
  have keyOf : ∀ v ∈ acc.toList, ∃ t ns, v = .ref t ∧ ns ∈ nss ∧ H t = some (.tup (ns.map V.int)) := fun v hv => by
    obtain ⟨j, hj⟩ := List.getElem?_of_mem hv
    obtain ⟨t, ns, e1, e2, e3⟩ := keyAt j v hj
    exact ⟨t, ns, e1, List.mem_of_getElem? e2, e3⟩
  have accI : acc.toList.map (TS.intsOf h') = nss := by
    apply List.ext_getElem?
    intro j
    rw [List.getElem?_map]
    cases hj : acc.toList[j]? with
    | none => rw [List.getElem?_eq_none (by have := List.getElem?_eq_none_iff.mp hj; omega)]; rfl
    | some v =>
      obtain ⟨t, ns, rfl, e2, e3⟩ := keyAt j v hj
      rw [e2]
      exact congrArg some (tupI_raw I1 (.inl (.inl e3))).ints
  generalize hh2 : h'.push (seqObj "list" acc.toList.toArray 0) = h2
  have hoL : h2.get? h'.objs.size = some (seqObj "list" acc.toList.toArray 0) := by rw [← hh2]; exact Heap.get?_push_size _ rfl
  have more : ∀ b o, h'.get? b = some o → h2.get? b = some o := by rw [← hh2]; exact fun b o => Heap.get?_push_of_some _
  refine wpAny_bind (wpAny_newList (Q := fun v s2 => _) ?_ (by rw [hal, sizeLine_eq]; omega))
  dsimp only
  rw [show h'.push { cls := .type "list", data := .seq acc.toList.toArray } = h2 from hh2]
  have keep : ∀ b o, h'.get? b = some o → o.cls = .type "tuple" → h2.get? b = some o := fun b o q _ => more b o q
  have tok0 : TS.TupsOk h' d B acc.toList := fun v hv => by
    obtain ⟨t, ns, rfl, hm, ht⟩ := keyOf v hv
    exact ⟨ns, tupI_raw I1 (.inl (.inl ht)), hB ns hm⟩
  refine wpAny_bind (wpAny_holding (wpAny_call_entry PyProof.Rows.slot_list_sort ⟨_, hoL, rfl⟩ PyProof.Rows.entry_list_sort (TS.sort_tups hoL (by omega) hd (tok0.keeps keep) (fun v => TS.code B (TS.intsOf h' v)) (fun v hv ns t => ?_) fun out a1 a2 => ⟨_, rfl, ?_⟩) (PyProof.Rows.args_list_sort _)))
  · obtain ⟨ns0, t0, _⟩ := tok0 v hv
    have e : ns = ns0 := t.ints.symm.trans (t0.keeps keep).ints
    rw [e]
    show TS.code B (TS.intsOf h' v) = TS.code B ns0
    rw [t0.ints]
  · obtain ⟨e', he'⟩ := PyProof.Rows.sortedHeap_at (vs := acc.toList) (out := out) hoL
    have h3 : ∀ u ∈ out.toList, ∃ a, u = Value.ref a := fun u hu => by
      obtain ⟨t, ns, rfl, _⟩ := keyOf u (a1.mem_iff.mp hu)
      exact ⟨t, rfl⟩
    have hlen : (out.toList.map bkV).length ≤ sizeLine := by
      rw [List.length_map, a1.length_eq, hal]
      exact Nat.le_trans (Nat.le_of_lt h64) (by decide)
    refine wpAny_pure ⟨_, rfl, .ref h'.objs.size, upd H h'.objs.size (.lst (out.toList.map bkV)), I1.laid (t' := tk) (fun b u e => ?_) (Nat.le_refl _)
      (show ObjOk X.prog X.w _ _ _ (.lst (out.toList.map bkV)) from ⟨hlen, out.toList, e', bkV_vals h3, by rw [Array.toArray_toList]; exact he'⟩), rfl, q _ (out.toList.map (TS.intsOf h')) _ ?_ (by rw [← accI]; exact a1.map _) ?_ (I1.hok.fresh (Nat.le_refl _))⟩
    · have lt := Heap.lt_size e
      exact (PyProof.Rows.sortedHeap_old (Nat.ne_of_lt lt) (by rw [← hh2, size_push']; exact Nat.lt_succ_of_lt lt)).trans (more b u e)
    · have all : ∀ u ∈ out.toList, ∃ t, bkV u = V.ref t ∧ H t = some (.tup ((TS.intsOf h' u).map V.int)) := fun u hu => by
        obtain ⟨t, ns, rfl, hm, ht⟩ := keyOf u (a1.mem_iff.mp hu)
        exact ⟨t, rfl, by rw [(tupI_raw I1 (.inl (.inl ht))).ints]; exact ht⟩
      clear a1 a2 he' hlen h3
      generalize out.toList = l at all
      induction l with
      | nil => exact .nil
      | cons u l ih => exact .cons (all u List.mem_cons_self) (ih fun x hx => all x (List.mem_cons_of_mem _ hx))
    · rw [List.pairwise_map]
      exact a2
/-- sorted(d), d a dict whose keys are tuples of whole numbers, fewer than 64 -/
def rSortDT (K : PySem.W.Frag) : List V → Hp → VK → Prop := fun xs H Q => ∃ (d : Nat) (B : Int) (a : Addr) (kvs : List (List Key × V)) (nss : List (List Int)), 1 ≤ d ∧ xs = [.ref a] ∧ Rd H a (.dT kvs) ∧ kvs.map (·.1) = nss.map (·.map Sum.inl) ∧ nss.length < 64 ∧ (∀ ns ∈ nss, ns.length = d ∧ TS.Bd B ns) ∧
    ∀ (vs : List V) (ys : List (List Int)) (p : Addr), Paired (fun v ns => ∃ t, v = V.ref t ∧ H t = some (.tup (ns.map V.int))) vs ys → ys.Perm nss → ys.Pairwise (fun n m => TS.code B n ≤ TS.code B m) → H p = none → Q (.ref p) (upd H p (.lst vs))
theorem cr_sortedDT (hcalm : X.calm = true) : CallR X (.builtin "sorted") (rSortDT X.K) := by
  intro pins s σ H xs us Q I r ⟨d, B, a, kvs, nss, hd, h⟩
  exact call_sortedDT hcalm (d := d) (B := B) hd pins s σ H xs us Q I r ⟨a, kvs, nss, h⟩
end
def gSortedT : GDL := on1 fun x M Q => match resT2 M x with
  | some kds => ∃ (d : Nat) (B : Int) (nss : List (List Int)), 1 ≤ d ∧ kds.map (·.1) = nss.map (·.map Sum.inl) ∧ nss.length < 64 ∧ (∀ ns ∈ nss, ns.length = d ∧ TS.Bd B ns) ∧ ∀ ys : List (List Int), ys.Perm nss → ys.Pairwise (fun n m => TS.code B n ≤ TS.code B m) → Q (.lst (ys.map fun ns => D.tup (ns.map .int))) M
  | none => False
theorem RelM.addTs {vs : List V} {ys : List (List Int)} (h : Paired (fun v ns => ∃ t, v = V.ref t ∧ H t = some (.tup (ns.map V.int))) vs ys) : ∀ {F : Hp}, RelM K F G M H → ∃ F', Same F F' ∧ RelM K F' G M H ∧ Reps K F' vs (ys.map fun ns => D.tup (ns.map .int)) := by
  induction h with
  | nil => intro F r; exact ⟨F, Same.refl F, r, .nil⟩
  | @cons v ns vs ys hq t ih =>
    intro F r
    obtain ⟨b, rfl, hb⟩ := hq
    obtain ⟨F1, s1, e1, r1⟩ := r.addT hb
    obtain ⟨F2, s2, r2, p2⟩ := ih r1
    exact ⟨F2, s1.trans s2, r2, .cons (.tup (s2 _ _ e1) (Reps.of_ints _)) p2⟩
theorem ok_sortedT : OkRL K (rSortDT K) gSortedT := fun F G M H xs ds Q Qv r p h k => by
  obtain ⟨v, d, e, p, h⟩ := on1_inv p h
  split at h
  · rename_i kds ek
    obtain ⟨dd, B, nss, h1, h2, h3, h4, h5⟩ := h
    obtain ⟨a, kvs, rfl, rd, pr⟩ := resT2_ok r p ek
    have ks : ∀ {kvs : List (List Key × V)} {kds : List (List Key × D)}, Paired (EntD K F) kvs kds → kvs.map (·.1) = kds.map (·.1) := by
      intro kvs kds pr
      induction pr with
      | nil => rfl
      | @cons p q ps qs hq t ih => rw [List.map_cons, List.map_cons, ih, hq.1]
    refine ⟨dd, B, a, kvs, nss, h1, e, rd, (ks pr).trans h2, h3, h4, fun vs ys q hv hp hs hq => ?_⟩
    obtain ⟨F', s1, r1, p1⟩ := r.addTs hv
    have k' : Kont K F' G Q Qv := fun v H2 F2 d M2 s r p z => k v H2 F2 d M2 (s1.trans s) r p z
    exact k'.new r1 hq (fun s => .lst (.inl upd_same) (p1.mono s)) (h5 ys hp hs)
  · exact h.elim
end DL

namespace DL
open PySem PySem.Spec PyProof.Rows L2
variable {K : PySem.W.Frag} {F F' F0 F1 F2 G G' H H' H1 H2 : Hp} {M M' M1 : Mm} {ρ ρ' : Rho} {σ σ' : L2.St}
/-! ### len of a dict with tuple keys that may change -/
def gLenT : GDL := on1 fun x M Q => match x with
  | .obj a => match M.lookup a with
    | some (.dT kds) => Q (.int (kds.length : Nat)) M
    | _ => False
  | _ => False
theorem ok_lenT : OkRL K rLenT gLenT := fun F G M H xs ds Q Qv r p h k => by
  obtain ⟨v, d, e, p, h⟩ := on1_inv p h
  split at h
  · rename_i a
    split at h
    · rename_i kds ek
      cases p
      obtain ⟨o, eo, z⟩ := r.look ek
      cases z with
      | @dT kvs _ pr =>
        have len : kvs.length = kds.length := Paired.length pr
        exact ⟨a, kvs, e, eo, by rw [len]; exact k.here r (.int _) h⟩
    · exact h.elim
  · exact h.elim
end DL

set_option maxHeartbeats 2000000
/-! D: lambdas with parameters and captured names. -/
namespace DL
open PySem PySem.Spec PyProof.Rows L2
open LamX (CodeO TabB inv_table lamEnv)
open NdefX (NF NScope nscB nscope_by CellsAt ncx inv_startN startF clo_cm clo_has)
/-! ### the lambda's names -/
def frOf (scope : Scope) : List Str := (scope.names.filter fun y => decide (y.2 = .free)).map (·.1)
structure LamP (sc scope : Scope) (N ps : List Str) : Prop where
  ns : NScope (ps ++ frOf scope) ps (frOf scope) scope
  own : ∀ y ∈ scope.names, y.2 = .local → y.1 ∈ ps
  up : ∀ y ∈ scope.names, y.2 = .free → sc.names.lookup y.1 = some .cell ∨ sc.names.lookup y.1 = some .free
  new : ∀ x ∈ ps, x ∉ N
def lamPB (sc scope : Scope) (N ps : List Str) : Bool :=
  nscB (ps ++ frOf scope) ps (frOf scope) scope && (scope.names.all fun y => match y.2 with
    | .local => decide (y.1 ∈ ps)
    | .free => decide (sc.names.lookup y.1 = some .cell) || decide (sc.names.lookup y.1 = some .free)
    | _ => true) && ps.all fun x => decide (x ∉ N)
theorem lamP_by {sc scope : Scope} {N ps : List Str} (h : lamPB sc scope N ps = true) : LamP sc scope N ps := by
  unfold lamPB at h
  rw [Bool.and_eq_true, Bool.and_eq_true, List.all_eq_true, List.all_eq_true] at h
  obtain ⟨⟨a, b⟩, c⟩ := h
  refine ⟨nscope_by a, fun y m e => ?_, fun y m e => ?_, fun x m => of_decide_eq_true (c x m)⟩
  · have := b y m
    rw [e] at this
    exact of_decide_eq_true this
  · have := b y m
    rw [e] at this
    simpa using this
theorem LamP.has {X : Cx} {scope : Scope} {N ps : List Str} (L : LamP X.env.scope scope N ps) (ok : X.Ok) (y : Str × NameKind) (m : y ∈ scope.names) (e : y.2 = .free) : ∃ c, X.env.cells.lookup y.1 = some c := ok.has _ (L.up y m e)
/-! ### its making: the code object is found in the table, or new there -/
section
variable {X : Cx} {pins : List (Addr × Obj)} {σ : L2.St} {H HZ : Hp} {s s1 : Shared}
theorem lam_make3 {c P : Addr} {q : Str} {ps : Array Value} {params : Arguments} {body : Expr} {scope : Scope} {pos : Pos} {E : Value → Shared → Prop} {Q : Value → Shared → Prop} (I : Inv X pins σ H s) (TB : TabB X.base X.mg c P) (hcode : X.env.code = .ref c) (hq : q = X.env.qual ++ "<lambda>")
    (hP : H P = some (.tbl ps)) (ht : TriplesOk ps.toList) (hdef : defaultsOf params X.env = ([], [])) (hfree : ∀ y ∈ scope.names, y.2 = .free → ∃ c, X.env.cells.lookup y.1 = some c)
    (hit : ∀ cv, codeAmong pos ps.toList = some cv → ∃ c', cv = .ref c' ∧ H c' = some (CodeO c' q))
    (h1 : ∀ (f c' : Addr) (pm ctv : Value) (s' : Shared), Inv X pins σ H s' → codeAmong pos ps.toList = some (.ref c') →
      s'.heap.get? f = some (PySem.W.kla_obj "<lambda>" q params body scope (cloFrom X.env.cells scope.names []) pm c' ctv) → H f = none → f ∉ frs X.stack → Q (.ref f) s')
    (h2 : ∀ (f c' : Addr) (pm ctv : Value) (s' : Shared), H c' = none → Inv X pins σ (upd (upd H P (.tbl (ps ++ #[rawInt pos.line, rawInt pos.col, .ref c']))) c' (CodeO c' q)) s' →
      s'.heap.get? f = some (PySem.W.kla_obj "<lambda>" q params body scope (cloFrom X.env.cells scope.names []) pm c' ctv) → (upd (upd H P (.tbl (ps ++ #[rawInt pos.line, rawInt pos.col, .ref c']))) c' (CodeO c' q)) f = none → f ∉ frs X.stack → Q (.ref f) s') :
    wpAny (model X.prog X.w) X.A (eval (.Lambda params body scope pos) X.env) Q E s := by
  subst hq
  have tab := I.hok P _ hP
  have far : ∀ f, s.heap.objs.size ≤ f → H f = none ∧ f ∉ frs X.stack := fun f le => by
    obtain ⟨n, nl, nf, _⟩ := I.fpOk le (I.hok.fresh le)
    exact ⟨n, fun m => (List.mem_cons.mp (I.stkSub f m)).elim nl nf⟩
  have bt := TB.bm.keeps I.bk
  have mods := I.mod.glob.keeps I.bk
  apply PySem.W.kla_eval hdef
  match e : codeAmong pos ps.toList with
  | some cv =>
    obtain ⟨c', rfl, _⟩ := hit cv e
    exact PySem.W.kla_makeFunctionHit (closure_ok hfree) I.ok.glob mods hcode (TB.code.keeps I.bk) tab ht e bt fun ctv h' tk k le =>
      h1 _ c' _ ctv _ (I.kept (t' := tk) fun b o z => Heap.get?_push_of_some _ (k b o z)) e (Heap.get?_push_size _ rfl) (far _ le).1 (far _ le).2
  | none =>
    refine PySem.W.kla_makeFunction (closure_ok hfree) I.ok.glob mods hcode (TB.code.keeps I.bk) tab ht e TB.gP bt fun c' ctv h' tk k le lt cr tab' => ?_
    obtain ⟨_, oc, vs, t, ec, cr⟩ := cr
    cases ec
    have le' : s.heap.objs.size ≤ h'.objs.size := Nat.le_of_lt (Nat.lt_of_le_of_lt le lt)
    have lP : P < h'.objs.size := Nat.lt_of_lt_of_le (Heap.lt_size tab) le'
    refine h2 _ c' _ ctv _ (far c' le).1 (inv_table (t' := tk) (more := #[rawInt pos.line, rawInt pos.col, .ref c']) I hP (fun b o n z => Heap.get?_push_of_some _ (k b o n z)) (Heap.get?_push_of_some _ tab') le ⟨oc, vs, t, Heap.get?_push_of_some _ cr.1, cr.2⟩) (Heap.get?_push_size _ rfl) ?_ (far _ le').2
    rw [upd_ne (Nat.ne_of_gt lt), upd_ne (Nat.ne_of_gt lP)]
    exact (far _ le').1
/-! ### its body -/
/-- the function, as the nested defs' lemmas want it -/
abbrev lamNF (X : Cx) (scope : Scope) (c' : Addr) : NF := ⟨"<lambda>", X.env.qual ++ "<lambda>", ⟨[], [], none, [], [], none, []⟩, [], scope, cloFrom X.env.cells scope.names [], c'⟩
/-- the context of the body: the maker's slots, then the parameters -/
abbrev lamCxP (X : Cx) (A : Around) (outer : List Env) (s : Shared) (H : Hp) (E : XK) (scope : Scope) (f c' : Addr) (ps : List Str) : Cx := ncx (L2N.CX X.prog X.w) X.prog X.w X.K X.mg X.base (X.N ++ ps) (lamNF X scope c') f A outer s H E
/-- the same frame, its names in other slots -/
theorem reslot {CX : CXT} {P : Program} {w : World} {K : PySem.W.Frag} {mg : Str → Option Value} {base : Heap} {N N' : List Str} {F : NF} {f : Addr} {A : Around} {outer : List Env} {s0 s : Shared} {H0 H : Hp} {E : XK} {τ τ' : L2.St} (J : Inv (ncx CX P w K mg base N F f A outer s0 H0 E) [] τ H s) (len : τ'.length = N'.length)
    (at' : ∀ m, s.heap.Ns s0.heap.objs.size m → (∀ (i : Nat) (x : Str) (v : V), N[i]? = some x → τ[i]? = some (some v) → Vis F.scope x → ∃ u, L2.RelV v u ∧ Look (ncx CX P w K mg base N F f A outer s0 H0 E).env s.heap m x u) →
      ∀ (i : Nat) (x : Str) (v : V), N'[i]? = some x → τ'[i]? = some (some v) → Vis F.scope x → ∃ u, L2.RelV v u ∧ Look (ncx CX P w K mg base N F f A outer s0 H0 E).env s.heap m x u) : Inv (ncx CX P w K mg base N' F f A outer s0 H0 E) [] τ' H s :=
  let o := J.ok
  ⟨⟨o.mod, o.kind, o.glob, o.blt, o.above, o.inj, o.has, o.cab, o.hd, o.frames, o.stk, o.exf, o.bs, o.bsz, o.noex, o.exfs, o.funs, o.frf⟩, J.os, J.bare, J.base, let ⟨m, n, k⟩ := J.loc; ⟨m, n, at' m n k⟩, J.cell, J.free, J.freeC, J.pin, J.hok, len⟩
theorem lamp_start {A : Around} {outer : List Env} {E : XK} {scope : Scope} {f c' : Addr} {h₁ : Heap} {tk : Nat} {ps : List Str} {us : List Value} {vs : List V} (I : Inv X pins σ H s) (L : LamP X.env.scope scope X.N ps) (e0 : Env0 X.prog X.w X.K X.mg X.base A outer s1 HZ) (hd : A.handled = none)
    (un : Un (frs X.stack) [] H HZ s.heap s1.heap) (hl : vs.length = ps.length) (r : Vals vs us) (hns : h₁.Ns s1.heap.objs.size fun y => (ps.zip us).reverse.lookup y) (kp : ∀ b o, s1.heap.get? b = some o → h₁.get? b = some o) :
    Inv (lamCxP X A outer s1 HZ E scope f c' ps) [] (σ ++ vs.map some) HZ { s1 with heap := h₁, toks := tk } := by
  have known := L.has I.ok
  have mine : ∀ {y c}, (cloFrom X.env.cells scope.names []).lookup y = some c → X.env.cells.lookup y = some c := fun e => clo_cm known e
  have still : ∀ {y c v}, X.env.cells.lookup y = some c → s.heap.IsCell c v → s1.heap.IsCell c v := fun {y c v} e ⟨o, ho, d⟩ =>
    let ⟨sl, q⟩ := un.any ho (I.freeC y c e) (by simp)
    ⟨_, q, d⟩
  have fr : ∀ {y}, y ∈ frOf scope → (y, NameKind.free) ∈ scope.names := fun {y} m => by
    obtain ⟨⟨a, k⟩, q, rfl⟩ := List.mem_map.mp m
    obtain ⟨q1, q2⟩ := List.mem_filter.mp q
    rw [← of_decide_eq_true q2]
    exact q1
  have C : CellsAt (lamNF X scope c').cl (frOf scope) ((frOf scope).map fun _ => none) s1.heap HZ :=
    ⟨by simp, fun y c e => ⟨let ⟨v, o, ho, d⟩ := I.cell y c (mine e); un.free c o ho (I.freeC y c (mine e)) (by simp), let ⟨v, z⟩ := I.cell y c (mine e); ⟨v, still (mine e) z⟩⟩,
      fun x y c a b => I.ok.inj x y c (mine a) (mine b), fun i y e => by
        obtain ⟨c, ec⟩ := known _ (fr (List.mem_of_getElem? e)) rfl
        exact ⟨c, clo_has known (fr (List.mem_of_getElem? e)) ec, fun v z => by simp [List.getElem?_map, e] at z⟩⟩
  refine reslot (inv_startN (CX := L2N.CX X.prog X.w) (tk := tk) (f := f) (E := E) L.ns hd e0 hl r C hns kp) (by simp [I.len, hl]) fun m hm old i x v ex ev vis => ?_
  by_cases lt : i < X.N.length
  · rw [List.getElem?_append_left lt] at ex
    rw [List.getElem?_append_left (by rw [I.len]; exact lt)] at ev
    have free : scope.names.lookup x = some .free := by
      rcases vis with z | z | z
      · exact absurd (List.mem_of_getElem? ex) (L.new x (L.own _ (PySem.mem_of_lookup z) rfl))
      · exact absurd rfl (L.ns.nocell _ (PySem.mem_of_lookup z))
      · exact z
    obtain ⟨m0, _, at0⟩ := I.loc
    have up := L.up _ (PySem.mem_of_lookup free) rfl
    obtain ⟨u, ru, lk⟩ := at0 i x v ex ev (.inr up)
    rcases lk with ⟨z, _⟩ | ⟨_, c, ec, hc⟩
    · have z : X.env.scope.names.lookup x = some .local := z
      rcases up with q | q <;> rw [q] at z <;> cases z
    · obtain ⟨o, ho, d⟩ := still ec hc
      exact ⟨u, ru, .inr ⟨.inr free, c, clo_has known (PySem.mem_of_lookup free) ec, o, kp _ _ ho, d⟩⟩
  · have le := Nat.le_of_not_lt lt
    rw [List.getElem?_append_right le] at ex
    rw [List.getElem?_append_right (by rw [I.len]; exact le), I.len] at ev
    have b := (List.getElem?_eq_some_iff.mp ex).1
    refine old (i - X.N.length) x v (by rw [List.getElem?_append_left b]; exact ex) ?_ vis
    unfold startF
    rw [List.getElem?_append_left (by rw [List.length_map, hl]; exact b)]
    exact ev
/-- x(a, ..) in the def that got the lambda at x -/
theorem act_run {CXg : CXT} {Eg : XK} {Ng : List Str} {qg : Str} {sg : Scope} {g f c' : Addr} {cdg pm ctv : Value} {params : Arguments} {body : Expr} {scope : Scope} {k : Nat} {pn pinsZ : List (Addr × Obj)} {xe : Value → Shared → Prop} {W : WX} {E : XK} {tb : TE} {ps : List Str} {q : Str}
    (I : Inv X pins σ H s) (L : LamP X.env.scope scope X.N ps) (hq : q = X.env.qual ++ "<lambda>") (hf : s.heap.get? f = some (PySem.W.kla_obj "<lambda>" q params body scope (cloFrom X.env.cells scope.names []) pm c' ctv)) (hfn : H f = none) (hfr : f ∉ frs X.stack)
    (hbind : ∀ us : List Value, us.length = ps.length → bindArgs (PySem.W.kla_fn "<lambda>" q params body scope (cloFrom X.env.cells scope.names []) pm (.ref c') ctv) ⟨us, []⟩ = pure (ps.zip us))
    (tk : L2N.Takes ((cxOf CXg X.prog X.w X.K X.mg X.base Ng qg sg g cdg X.A X.stack s H Eg).tr pn xe) W) (hW : ∀ cls d σ' H', E cls d H' → W cls d σ' H') (hr : Room (k + 1) (X.A.deeper (envOfC qg sg s.heap.objs.size g cdg)))
    (hbody : ∀ (A : Around) (outer : List Env) (s : Shared) (H : Hp), Room k (A.deeper (lamEnv X scope s.heap.objs.size f c')) → PE (lamCxP X A outer s H E scope f c' ps) body tb)
    {σZ : L2.St} {s2 : Shared} {us : List Value} {vs : List V} {Q : VK} (I2 : Inv ((cxOf CXg X.prog X.w X.K X.mg X.base Ng qg sg g cdg X.A X.stack s H Eg).tr pn xe) pinsZ σZ HZ s2) (r : Vals vs us) (hl : vs.length = ps.length) (hc : HZ c' = some (CodeO c' q)) (ht : tb (σ ++ vs.map some) HZ Q) :
    wpAny (model X.prog X.w) (X.A.deeper (envOfC qg sg s.heap.objs.size g cdg)) (call (.ref f) us) (fun u s' => ∃ v H', Inv ((cxOf CXg X.prog X.w X.K X.mg X.base Ng qg sg g cdg X.A X.stack s H Eg).tr pn xe) pinsZ σZ H' s' ∧ L2.RelV v u ∧ Q v H') xe s2 := by
  subst hq
  have un : Un (frs X.stack) [] H HZ s.heap s2.heap := I2.base
  obtain ⟨⟨oc, vs', t, code⟩, _⟩ := I2.hok c' _ hc
  refine wpAny_call (codeAny_mono (R := CR (L2N.CX X.prog X.w) (envOfC qg sg s.heap.objs.size g cdg :: X.stack) X.prog X.w HZ s2 Q E) (PySem.W.kla_callFunE hr.depth (un.keep f _ hf hfn hfr (by simp)) rfl L.ns.co L.ns.gen rfl ⟨c', oc, vs', t, rfl, code⟩ ?_) fun res s' z => ?_)
  · rw [hbind us (r.length.symm.trans hl)]
    refine wpAny_pure (wpAny_newFunctionEnv L.ns.nocell (fun y m => L.ns.par y.1 (List.of_mem_zip (a := y.1) (b := y.2) m).1) (fun h₁ ns sb => ⟨I2.nolimit.fresh _ sb, PySem.W.kla_codeExpr ?_⟩) L.ns.kind)
    refine wpAny_mono ((hbody _ _ s2 HZ (hr.deeper _)).run [] _ _ HZ Q (lamp_start I L I2.env0 hr.hd un hl r ns fun b o e => sb.extBut b o (Nat.ne_of_lt (Heap.lt_size e)) (Heap.get?_push_of_some _ e)) ht) (fun v s' ⟨x, H', J, z⟩ => ⟨x, H', J.os, J.bare, J.base, J.hok, z⟩) fun _ _ z => z
  · match res, z with
    | .error e, z => exact L2N.passes_call tk hW pinsZ σZ HZ s2 e s' I2 z
    | .ok (.ret _), z => exact I2.after z
end
end DL

set_option maxHeartbeats 2000000
/-! D: a lambda handed to a def. -/
namespace DL
open PySem PySem.Spec PyProof.Rows L2
open LamX (CodeO TabB lamEnv)
variable {K : PySem.W.Frag} {F F' F0 F1 F2 G G' H H' H1 H2 : Hp} {M M' M1 : Mm} {ρ ρ' : Rho} {σ σ' : L2.St}
/-! ### a value that may be called -/
structure ActR (Z : Cx) (lo : Lo) (f : Addr) (act : SpD) : Prop where
  at' : ∀ (pn : List (Addr × Obj)) (xe : Value → Shared → Prop) (pins : List (Addr × Obj)) (σ : L2.St) (H : Hp) (s : Shared), Inv (Z.tr pn xe) pins σ H s → PySem.W.FnAt f s.heap
  run : ∀ (lo2 : Lo), Same lo.F lo2.F → Same lo.G lo2.G → ∀ (pn : List (Addr × Obj)) (xe : Value → Shared → Prop) (W : WX) (E : XD), L2N.Takes (Z.tr pn xe) W → (∀ cls d σ H, wishD Z.K lo2 E cls d H → W cls d σ H) →
    ∀ (pins : List (Addr × Obj)) (σ : L2.St) (H : Hp) (s : Shared) (us : List Value) (vs : List V) (F G : Hp) (M : Mm) (ds : List D) (Q : D → Mm → Prop) (Qv : VK), Inv (Z.tr pn xe) pins σ H s → Vals vs us → Same lo2.F F → Same lo2.G G → RelM Z.K F G M H → Reps Z.K F vs ds →
      act ds M Q E → Kont Z.K F G Q Qv → wpAny (model Z.prog Z.w) Z.A (call (.ref f) us) (EP (Z.tr pn xe) pins σ Qv) xe s
theorem ActR.up {Z : Cx} {lo lo2 : Lo} {f : Addr} {act : SpD} (R : ActR Z lo f act) (h1 : Same lo.F lo2.F) (h2 : Same lo.G lo2.G) : ActR Z lo2 f act :=
  ⟨R.at', fun lo3 k1 k2 => R.run lo3 (h1.trans k1) (h2.trans k2)⟩
def eAct (i : Nat) (f : Addr) (act : SpD) (E : XD) (ta : TDA) : TDE := fun ρ M Q => ρ[i]? = some (some (.raw (.ref f))) ∧ ta ρ M fun ds M1 => act ds M1 Q E
section
variable {Z : Cx} {lo : Lo} {f : Addr} {act : SpD} {pn : List (Addr × Obj)} {xe : Value → Shared → Prop} {W : WX} {E : XD} {i : Nat} {x : Str} {p pos : Pos} {e : Expr} {es : List Expr} {ta : TDA}
theorem de_act (R : ActR Z lo f act) (tk : L2N.Takes (Z.tr pn xe) W) (hW : ∀ cls d σ H, wishD Z.K lo E cls d H → W cls d σ H) (ha : DPA (Z.tr pn xe) lo (e :: es) ta) (hN : Z.N[i]? = some x := by rfl)
    (hv : Vis Z.env.scope x := by first | exact Or.inl rfl | exact Or.inr (Or.inl rfl) | exact Or.inr (Or.inr rfl)) (hd : (x == ("__debug__" : Str)) = false := by decide) (hcd : (x == ("__classdict__" : Str)) = false := by decide)
    (he : starEach (e :: es) Z.env = (false, eval e Z.env) :: starEach es Z.env := by rfl) (hpl : (backTo pos (starEach es Z.env)).any (·.1) = false := by rfl) :
    DPE (Z.tr pn xe) lo (.Call (.Name x p) (e :: es) [] pos) (eAct i f act E ta) := by
  refine ⟨fun pins s σ H Qv I h => ?_⟩
  obtain ⟨F, G, ρ, M, Q, a, ⟨hs, h⟩, q⟩ := h
  obtain ⟨v, ev, r⟩ := a.env.get hs
  cases r
  refine wpAny_Call_Name_kw (thn ((pe_var (X := Z.tr pn xe) (pos := p) hN hv hd hcd).run pins s σ H (fun v H1 => v = .ref f ∧ H1 = H) I ⟨.ref f, ev, rfl, rfl⟩) fun u s1 ⟨v, H1, I1, r1, q1⟩ => ?_)
  obtain ⟨ev, eH⟩ := q1
  subst ev
  rw [eH] at I1
  obtain rfl : u = Value.ref f := r1
  refine PySem.W.callWith_F (first := []) (R.at' _ _ _ _ _ _ I1) (thn (ha.run pos pins s1 σ H (fun vs H2 => ∃ F2 ds M2, Same F F2 ∧ RelM Z.K F2 G M2 H2 ∧ Reps Z.K F2 vs ds ∧ act ds M2 Q E) I1 ⟨F, G, ρ, M, _, a, h, fun vs H2 F2 ds M2 s2 r2 p2 h2 => ⟨F2, ds, M2, s2, r2, p2, h2⟩⟩) fun us s2 ⟨vs, H2, I2, r, F2, ds, M2, s2', r2, p2, h2⟩ => ⟨R.at' _ _ _ _ _ _ I2, ?_⟩) he hpl
  show wpAny _ _ (call (.ref f) us) _ _ _
  exact R.run lo (Same.refl _) (Same.refl _) pn xe W E tk hW pins σ H2 s2 us vs F2 G M2 ds Q Qv I2 r (a.f.trans s2') a.g r2 p2 h2 fun v H' F' d M' s r p z => q v H' F' d M' (s2'.trans s) r p z
theorem de_act0 (R : ActR Z lo f act) (tk : L2N.Takes (Z.tr pn xe) W) (hW : ∀ cls d σ H, wishD Z.K lo E cls d H → W cls d σ H) (hN : Z.N[i]? = some x := by rfl)
    (hv : Vis Z.env.scope x := by first | exact Or.inl rfl | exact Or.inr (Or.inl rfl) | exact Or.inr (Or.inr rfl)) (hd : (x == ("__debug__" : Str)) = false := by decide) (hcd : (x == ("__classdict__" : Str)) = false := by decide) :
    DPE (Z.tr pn xe) lo (.Call (.Name x p) [] [] pos) (eAct i f act E aNil) := by
  refine ⟨fun pins s σ H Qv I h => ?_⟩
  obtain ⟨F, G, ρ, M, Q, a, ⟨hs, h⟩, q⟩ := h
  obtain ⟨v, ev, r⟩ := a.env.get hs
  cases r
  refine wpAny_Call_Name_kw (thn ((pe_var (X := Z.tr pn xe) (pos := p) hN hv hd hcd).run pins s σ H (fun v H1 => v = .ref f ∧ H1 = H) I ⟨.ref f, ev, rfl, rfl⟩) fun u s1 ⟨v, H1, I1, r1, q1⟩ => ?_)
  obtain ⟨ev, eH⟩ := q1
  subst ev
  rw [eH] at I1
  obtain rfl : u = Value.ref f := r1
  refine PySem.W.callWith_F0 (R.at' _ _ _ _ _ _ I1) ?_
  show wpAny _ _ (call (.ref f) []) _ _ _
  exact R.run lo (Same.refl _) (Same.refl _) pn xe W E tk hW pins σ H s1 [] [] F G M [] Q Qv I1 .nil a.f a.g a.rel .nil h q
end
/-! ### the lambda made -/
theorem upd_comm {a b : Addr} {x y : HO} (h : a ≠ b) : upd (upd H a x) b y = upd (upd H b y) a x := by
  funext c
  by_cases h1 : c = a
  · subst h1; rw [upd_ne h, upd_same, upd_same]
  · by_cases h2 : c = b
    · subst h2; rw [upd_same, upd_ne h1, upd_same]
    · rw [upd_ne h2, upd_ne h1, upd_ne h1, upd_ne h2]
theorem putM_id {a : Addr} {m : MO} : ∀ {M : Mm}, M.lookup a = some m → putM M a m = M
  | [], h => by cases h
  | (b, n) :: r, h => by
    unfold putM
    by_cases hb : b = a
    · subst hb
      rw [lookup_top] at h
      cases h
      rw [if_pos rfl]
    · rw [if_neg hb]
      rw [lookup_under _ _ (Ne.symm hb)] at h
      rw [putM_id h]
section
variable {X : Cx} {pins : List (Addr × Obj)} {s : Shared}
/-- what is told of the function made at f -/
structure MadeL (X : Cx) (pins : List (Addr × Obj)) (σ : L2.St) (F G : Hp) (M : Mm) (q : Str) (params : Arguments) (body : Expr) (scope : Scope) (f : Addr) (F1 H1 : Hp) (s' : Shared) (c' : Addr) (pm ctv : Value) : Prop where
  inv : Inv X pins σ H1 s'
  same : Same F F1
  rel : RelM X.K F1 G M H1
  code : F1 c' = some (CodeO c' q)
  obj : s'.heap.get? f = some (PySem.W.kla_obj "<lambda>" q params body scope (cloFrom X.env.cells scope.names []) pm c' ctv)
  free : H1 f = none
  nofr : f ∉ frs X.stack
theorem lam_run {c P : Addr} {q : Str} {params : Arguments} {body : Expr} {scope : Scope} {pos : Pos} {E : Value → Shared → Prop} {Q : Value → Shared → Prop} (I : Inv X pins σ H s) (r : RelM X.K F G M H) (hM : M.lookup P = some (.tbl q)) (TB : TabB X.base X.mg c P) (hcode : X.env.code = .ref c) (hq : q = X.env.qual ++ "<lambda>")
    (hdef : defaultsOf params X.env = ([], [])) (hfree : ∀ y ∈ scope.names, y.2 = .free → ∃ c, X.env.cells.lookup y.1 = some c)
    (h : ∀ f F1 H1 s' c' pm ctv, MadeL X pins σ F G M q params body scope f F1 H1 s' c' pm ctv → Q (.ref f) s') :
    wpAny (model X.prog X.w) X.A (eval (.Lambda params body scope pos) X.env) Q E s := by
  obtain ⟨o, ho, z⟩ := r.look hM
  obtain ⟨fP, gP, _⟩ := r.at' _ (lookup_mem hM)
  cases z with
  | @tbl ps _ t z =>
    refine lam_make3 (ps := ps) I TB hcode hq ho t hdef hfree (fun cv hc => ?_) (fun f c' pm ctv s' I1 hc hf hfn hfr => ?_) (fun f c' pm ctv s' nC I1 hf hfn hfr => ?_)
    · obtain ⟨c', e1, e2⟩ := z pos cv hc
      exact ⟨c', e1, r.fz _ _ e2⟩
    · obtain ⟨c2, e1, e2⟩ := z pos _ hc
      cases e1
      exact h f F H s' c' pm ctv ⟨I1, Same.refl F, r, e2, hf, hfn, hfr⟩
    · have nPc : P ≠ c' := ne_of_none ho nC
      have sF : Same F (upd F c' (CodeO c' q)) := same_new (r.free nC)
      have r1 : RelM X.K (upd F c' (CodeO c' q)) G M (upd H c' (CodeO c' q)) := r.newF nC
      have zt : RepO X.K (upd F c' (CodeO c' q)) (.tbl (ps ++ #[rawInt pos.line, rawInt pos.col, .ref c'])) (.tbl q) := by
        have eL : (ps ++ #[rawInt pos.line, rawInt pos.col, .ref c']).toList = ps.toList ++ [rawInt pos.line, rawInt pos.col, .ref c'] := by simp
        refine .tbl (by rw [eL]; exact PySem.TriplesOk_snoc _ _ _ _ t) fun p' cv hcv => ?_
        rw [eL] at hcv
        rcases LamX.among_app _ t hcv with w | w
        · obtain ⟨c0, e1, e2⟩ := z p' cv w
          exact ⟨c0, e1, sF _ _ e2⟩
        · exact ⟨c', w, upd_same⟩
      have r2 := r1.put hM zt
      rw [putM_id hM] at r2
      rw [upd_comm nPc] at I1 hfn
      exact h f _ _ s' c' pm ctv ⟨I1, sF, r2, upd_same, hf, hfn, hfr⟩
end
/-! ### what the lambda does, at the maker's slots -/
def actOf (n : Nat) (tb : XD → TDE) (ρ : Rho) : SpD := fun ds M Q E => ds.length = n ∧ tb E (ρ ++ ds.map some) M Q
theorem EnvR.append_somes {vs : List V} {ds : List D} (p : Reps K F vs ds) : ∀ {ρ : Rho} {σ : L2.St}, EnvR K F ρ σ → EnvR K F (ρ ++ ds.map some) (σ ++ vs.map some)
  | _, _, .nil => by
    have : ∀ {vs : List V} {ds : List D}, Reps K F vs ds → EnvR K F (ds.map some) (vs.map some) := by
      intro vs ds p
      have := env_start (N := []) 0 p
      simpa using this
    simpa using this p
  | _, _, .no r => .no (EnvR.append_somes p r)
  | _, _, .yes q r => .yes q (EnvR.append_somes p r)
section
variable {X : Cx} {pins : List (Addr × Obj)} {s' : Shared}
/-- the body's reading, wherever it runs -/
def LamBody (X : Cx) (k : Nat) (scope : Scope) (ps : List Str) (body : Expr) (tb : XD → TDE) : Prop := ∀ (lo : Lo) (E : XD) (A : Around) (outer : List Env) (s : Shared) (H : Hp) (f c' : Addr), Room k (A.deeper (lamEnv X scope s.heap.objs.size f c')) →
  L2N.Takes (lamCxP X A outer s H (wishD X.K lo E) scope f c' ps) (fun cls d _ H => wishD X.K lo E cls d H) → DPE (lamCxP X A outer s H (wishD X.K lo E) scope f c' ps) lo body (tb E)
theorem act_ok {q : Str} {params : Arguments} {body : Expr} {scope : Scope} {f c' : Addr} {pm ctv : Value} {Ng : List Str} {x : Str} {sg : Scope} {g : Addr} {cdg : Value} {Ev : XK} {k : Nat} {ps : List Str} {tb : XD → TDE}
    (m : MadeL X pins σ F G M q params body scope f F1 H1 s' c' pm ctv) (env : EnvR X.K F ρ σ) (L : LamP X.env.scope scope X.N ps) (hq : q = X.env.qual ++ "<lambda>")
    (hbind : ∀ (cl : List (Str × Addr)) (pm cv ctv : Value) (us : List Value), us.length = ps.length → bindArgs (PySem.W.kla_fn "<lambda>" q params body scope cl pm cv ctv) ⟨us, []⟩ = pure (ps.zip us))
    (hr : Room (k + 1) (X.A.deeper (envOfC x sg s'.heap.objs.size g cdg))) (hb : LamBody X k scope ps body tb) :
    ActR (cxOf (L2N.CX X.prog X.w) X.prog X.w X.K X.mg X.base Ng x sg g cdg X.A X.stack s' H1 Ev) ⟨F1, G⟩ f (actOf ps.length tb ρ) := by
  refine ⟨fun pn xe pinsZ σZ HZ sZ IZ => ?_, fun lo2 k1 k2 pn xe W E tk hW pinsZ σZ HZ sZ us vs F2 G2 M2 ds Q Qv IZ r sF sG rel p h kq => ?_⟩
  · exact ⟨_, _, _, _, IZ.base.keep f _ m.obj m.free m.nofr (fun z => nomatch (show f ∈ ([] : List Addr) from z))⟩
  · obtain ⟨hl, h⟩ := h
    refine act_run (E := wishD X.K lo2 E) (tb := liftE X.K lo2 (tb E)) m.inv L hq m.obj m.free m.nofr (fun us h => hbind _ _ _ _ us h) tk hW hr (fun A outer s H hr2 => hb lo2 E A outer s H f c' hr2 (L2N.takes_of rfl rfl rfl rfl)) IZ r (p.length.trans hl) (rel.fz _ _ (sF _ _ (k1 _ _ m.code))) ?_
    exact ⟨F2, G2, ρ ++ ds.map some, M2, Q, ⟨sF, sG, rel, EnvR.append_somes p (env.mono (m.same.trans (k1.trans sF)))⟩, h, kq⟩
end
/-! ### a def that gets a lambda, its body read where it is called -/
def Inl (P : Program) (w : World) (K : PySem.W.Frag) (mg : Str → Option Value) (base : Heap) (kc : Nat) (g : Addr) (x : Str) (st : Stmt) (Ng : List Str) (spF : SpD → SpD) : Prop :=
  ∀ (cdv : Value) (A : Around) (outer : List Env) (s : Shared) (H : Hp) (Ev : XK) (lo : Lo) (ds : List D) (M : Mm) (Q : D → Mm → Prop) (E : XD) (act : SpD) (f : Addr), Room kc (A.deeper (envOfC x (defScope st) s.heap.objs.size g cdv)) →
    L2N.Takes (cxOf (L2N.CX P w) P w K mg base Ng x (defScope st) g cdv A outer s H Ev) (fun cls d _ H => wishD K lo E cls d H) → ActR (cxOf (L2N.CX P w) P w K mg base Ng x (defScope st) g cdv A outer s H Ev) lo f act → spF act ds M Q E →
    ∃ t, DPSs (cxOf (L2N.CX P w) P w K mg base Ng x (defScope st) g cdv A outer s H Ev) lo (defBody st) t ∧ t { nx := fun _ M' => fin Q .non M', rt := fin Q } (startD Ng (ds ++ [.raw (.ref f)])) M
section
variable {X : Cx} {pins : List (Addr × Obj)} {s s' : Shared} {lo : Lo}
/-- the def runs -/
theorem lam_call {x : Str} {st : Stmt} {psg Ng : List Str} {kc k : Nat} {spF : SpD → SpD} (Df : DefF X.K X.mg x st psg) (Sg : FnScope Ng psg (defScope st)) (hG : Inl X.prog X.w X.K X.mg X.base kc Df.f x st Ng spF)
    (len : ∀ act ds M Q E, spF act ds M Q E → ds.length + 1 = psg.length) (hr : Room (kc + 1) X.A) (hk : k + 1 ≤ kc) {E : XD} (hx : Passes (L2N.CX X.prog X.w) X (wishD X.K lo E))
    {q : Str} {params : Arguments} {body : Expr} {scope : Scope} {f c' : Addr} {pm ctv : Value} {ps : List Str} {tb : XD → TDE} (m : MadeL X pins σ F G M q params body scope f F1 H1 s' c' pm ctv) (env : EnvR X.K F ρ σ) (sf : Same lo.F F) (sg : Same lo.G G) (L : LamP X.env.scope scope X.N ps) (hq : q = X.env.qual ++ "<lambda>")
    (hbind : ∀ (cl : List (Str × Addr)) (pm cv ctv : Value) (us : List Value), us.length = ps.length → bindArgs (PySem.W.kla_fn "<lambda>" q params body scope cl pm cv ctv) ⟨us, []⟩ = pure (ps.zip us)) (hb : LamBody X k scope ps body tb)
    {us : List Value} {vs : List V} {ds : List D} {Q : D → Mm → Prop} {Qv : VK} (r : Vals vs us) (p : Reps X.K F vs ds) (h : spF (actOf ps.length tb ρ) ds M Q E) (kq : Kont X.K F G Q Qv) :
    wpAny (model X.prog X.w) X.A (call (.ref Df.f) (us ++ [.ref f])) (EP X pins σ Qv) X.xe s' := by
  obtain ⟨oc, od, kV, doc, pm', an, cdv, ct, osl, e, lk, hcd⟩ := Df.fu.ex
  have hl := len _ _ _ _ _ h
  have pl := p.length
  have rl := r.length
  have r2 : Vals (vs ++ [.ref f]) (us ++ [.ref f]) := by
    have : ∀ {vs : List V} {us : List Value}, Vals vs us → Vals (vs ++ [.ref f]) (us ++ [.ref f]) := by
      intro vs us r
      induction r with
      | nil => exact .cons rfl .nil
      | cons a t ih => exact .cons a ih
    exact this r
  have hb1 := Df.b s' (us ++ [.ref f]) m.inv.kIn (by simp; omega)
  rw [e] at hb1 lk
  have rc : codeAny (model X.prog X.w) X.A (.call (.ref Df.f) ⟨us ++ [.ref f], []⟩) (CR (L2N.CX X.prog X.w) X.stack X.prog X.w H1 s' Qv (wishD X.K lo E)) s' := by
    refine LamX.run_ofS (CX := L2N.CX X.prog X.w) (N := Ng) (ps := psg) (us := us ++ [.ref f]) (vs := vs ++ [.ref f]) lk hcd Sg hr m.inv.env0 (by simpa using hb1) r2 (by simp; omega) fun hr' => ?_
    have tk : L2N.Takes (cxOf (L2N.CX X.prog X.w) X.prog X.w X.K X.mg X.base Ng x (defScope st) Df.f cdv X.A X.stack s' H1 (wishD X.K lo E)) (fun cls d _ H => wishD X.K ⟨F1, G⟩ E cls d H) :=
      L2N.Takes.imp (L2N.takes_of rfl rfl rfl rfl) fun c d σ H' ⟨nm, ec, F', fs, M', s, r, e⟩ => ⟨nm, ec, F', fs, M', (sf.trans m.same).trans s, r.lessG sg, e⟩
    obtain ⟨t, hd, ht⟩ := hG cdv X.A X.stack s' H1 (wishD X.K lo E) ⟨F1, G⟩ ds M Q E _ f hr' tk (act_ok m env L hq hbind (hr'.mono hk) hb) h
    refine ⟨_, hd, F1, G, startD Ng (ds ++ [.raw (.ref f)]), M, { nx := fun _ M' => fin Q .non M', rt := fin Q }, ⟨Same.refl F1, Same.refl G, m.rel, ?_⟩, ht, ⟨fun σ H F2 ρ M2 s2 r2 _ h2 => fin_ok (F' := F2) kq (m.same.trans s2) r2 .non h2, fun v H F2 d M2 s2 r2 p2 h2 => fin_ok kq (m.same.trans s2) r2 p2 h2, fun _ _ _ _ _ _ _ _ z => z.elim, fun _ _ _ _ _ _ _ _ z => z.elim⟩⟩
    unfold startD L2.start
    have p2 : Reps X.K F1 (vs ++ [.ref f]) (ds ++ [.raw (.ref f)]) := (p.mono m.same).append (.cons (.raw _) .nil)
    rw [p2.length]
    exact env_start (N := Ng) _ p2
  refine wpAny_call (codeAny_mono rc fun r s2 hq => ?_)
  cases r with
  | error e => exact hx pins σ H1 s' e s2 m.inv hq
  | ok fl =>
    cases fl with
    | ret u => exact m.inv.after hq
    | next => exact False.elim hq
    | brk => exact False.elim hq
    | cont => exact False.elim hq
end
/-- g(lambda ..: ..) -/
def eLam0 (P : Addr) (q : Str) (n : Nat) (spF : SpD → SpD) (tb : XD → TDE) (E : XD) : TDE := fun ρ M Q => M.lookup P = some (.tbl q) ∧ spF (actOf n tb ρ) [] M Q E
/-- g(a, b, lambda ..: ..) -/
def eLam2 (P : Addr) (q : Str) (n : Nat) (spF : SpD → SpD) (ta tb' : TDE) (tb : XD → TDE) (E : XD) : TDE := fun ρ M Q => ta ρ M fun d M1 => tb' ρ M1 fun e M2 => M2.lookup P = some (.tbl q) ∧ spF (actOf n tb ρ) [d, e] M2 Q E
section
variable {X : Cx} {lo : Lo} {x : Str} {st : Stmt} {psg Ng ps : List Str} {kc k : Nat} {spF : SpD → SpD} {E : XD} {q : Str} {params : Arguments} {body : Expr} {scope : Scope} {tb : XD → TDE} {c P : Addr} {p lpos pos : Pos}
theorem de_lam0 (Df : DefF X.K X.mg x st psg) (Sg : FnScope Ng psg (defScope st)) (hG : Inl X.prog X.w X.K X.mg X.base kc Df.f x st Ng spF)
    (len : ∀ act ds M Q E, spF act ds M Q E → ds.length + 1 = psg.length) (hr : Room (kc + 1) X.A) (hk : k + 1 ≤ kc) (hx : Passes (L2N.CX X.prog X.w) X (wishD X.K lo E)) (TB : TabB X.base X.mg c P) (hcode : X.env.code = .ref c)
    (L : LamP X.env.scope scope X.N ps) (hb : LamBody X k scope ps body tb)
    (hbind : ∀ (cl : List (Str × Addr)) (pm cv ctv : Value) (us : List Value), us.length = ps.length → bindArgs (PySem.W.kla_fn "<lambda>" q params body scope cl pm cv ctv) ⟨us, []⟩ = pure (ps.zip us)) (hq : q = X.env.qual ++ "<lambda>" := by rfl) (hdef : defaultsOf params X.env = ([], []) := by rfl) (hg : Gl X x := by rfl)
    (hdb : (x == ("__debug__" : Str)) = false := by decide) :
    DPE X lo (.Call (.Name x p) [.Lambda params body scope lpos] [] pos) (eLam0 P q ps.length spF tb E) := by
  refine ⟨fun pins s σ H Qv I h => ?_⟩
  obtain ⟨F, G, ρ, M, Q, a, ⟨hM, h⟩, kq⟩ := h
  refine wpAny_Call_Name_kw (ld_glob I hg Df.g ?_ hdb)
  refine PySem.W.callWith_K (h₀ := X.base) I.ok.mod.kin Df.fu.kp ?_ (by rfl) (by rfl)
  show wpAny _ _ (spliced ((false, eval (.Lambda params body scope lpos) X.env) :: backTo pos (starEach [] X.env))) _ _ s
  refine Calls.spliced_cons (lam_run I a.rel hM TB hcode hq hdef (L.has I.ok) fun f F1 H1 s' c' pm ctv m => ?_)
  refine Calls.spliced_nil ⟨m.inv.kIn, ?_⟩
  exact lam_call (us := []) (vs := []) (ds := []) Df Sg hG len hr hk hx m a.env a.f a.g L hq hbind hb .nil .nil h kq
theorem de_lam2 {e1 e2 : Expr} {t1 t2 : TDE} (h1 : DPE X lo e1 t1) (h2 : DPE X lo e2 t2) (Df : DefF X.K X.mg x st psg) (Sg : FnScope Ng psg (defScope st)) (hG : Inl X.prog X.w X.K X.mg X.base kc Df.f x st Ng spF)
    (len : ∀ act ds M Q E, spF act ds M Q E → ds.length + 1 = psg.length) (hr : Room (kc + 1) X.A) (hk : k + 1 ≤ kc) (hx : Passes (L2N.CX X.prog X.w) X (wishD X.K lo E)) (TB : TabB X.base X.mg c P) (hcode : X.env.code = .ref c)
    (L : LamP X.env.scope scope X.N ps) (hb : LamBody X k scope ps body tb)
    (hbind : ∀ (cl : List (Str × Addr)) (pm cv ctv : Value) (us : List Value), us.length = ps.length → bindArgs (PySem.W.kla_fn "<lambda>" q params body scope cl pm cv ctv) ⟨us, []⟩ = pure (ps.zip us)) (hq : q = X.env.qual ++ "<lambda>" := by rfl) (hdef : defaultsOf params X.env = ([], []) := by rfl) (hg : Gl X x := by rfl)
    (hdb : (x == ("__debug__" : Str)) = false := by decide)
    (he : starEach [e1, e2, .Lambda params body scope lpos] X.env = [(false, eval e1 X.env), (false, eval e2 X.env), (false, eval (.Lambda params body scope lpos) X.env)] := by rfl) (he2 : starEach [e2, .Lambda params body scope lpos] X.env = [(false, eval e2 X.env), (false, eval (.Lambda params body scope lpos) X.env)] := by rfl) :
    DPE X lo (.Call (.Name x p) [e1, e2, .Lambda params body scope lpos] [] pos) (eLam2 P q ps.length spF t1 t2 tb E) := by
  refine ⟨fun pins s σ H Qv I h => ?_⟩
  obtain ⟨F, G, ρ, M, Q, a, h, kq⟩ := h
  refine wpAny_Call_Name_kw (ld_glob I hg Df.g ?_ hdb)
  refine PySem.W.callWith_K (h₀ := X.base) I.ok.mod.kin Df.fu.kp ?_ (by rw [he, he2]) (by rw [he2]; rfl)
  rw [he]
  show wpAny _ _ (spliced [(false, eval e1 X.env), (false, eval e2 X.env), (false, eval (.Lambda params body scope lpos) X.env)]) _ _ s
  refine Calls.spliced_cons (thn (h1.run pins s σ H (fun v H1 => ∃ F1 d M1, Same F F1 ∧ RelM X.K F1 G M1 H1 ∧ Rep X.K F1 v d ∧ t2 ρ M1 (fun e M2 => M2.lookup P = some (.tbl q) ∧ spF (actOf ps.length tb ρ) [d, e] M2 Q E)) I ⟨F, G, ρ, M, _, a, h, fun v H1 F1 d M1 s1 r1 p1 h1 => ⟨F1, d, M1, s1, r1, p1, h1⟩⟩) fun u1 s1 ⟨v1, H1, I1, rv1, F1, d1, M1, sm1, r1, p1, h⟩ => ?_)
  have a1 := a.next sm1 r1
  refine Calls.spliced_cons (thn (h2.run pins s1 σ H1 (fun v H2 => ∃ F2 d M2, Same F1 F2 ∧ RelM X.K F2 G M2 H2 ∧ Rep X.K F2 v d ∧ M2.lookup P = some (.tbl q) ∧ spF (actOf ps.length tb ρ) [d1, d] M2 Q E) I1 ⟨F1, G, ρ, M1, _, a1, h, fun v H2 F2 d M2 s2 r2 p2 h2 => ⟨F2, d, M2, s2, r2, p2, h2⟩⟩) fun u2 s2 ⟨v2, H2, I2, rv2, F2, d2, M2, sm2, r2, p2, hM, h⟩ => ?_)
  have a2 := a1.next sm2 r2
  refine Calls.spliced_cons (lam_run I2 a2.rel hM TB hcode hq hdef (L.has I2.ok) fun f F3 H3 s' c' pm ctv m => ?_)
  refine Calls.spliced_nil ⟨m.inv.kIn, ?_⟩
  exact lam_call (us := [u1, u2]) (vs := [v1, v2]) (ds := [d1, d2]) Df Sg hG len hr hk hx m a2.env a2.f a2.g L hq hbind hb (.cons rv1 (.cons rv2 .nil)) (.cons (p1.mono sm2) (.cons p2 .nil)) h fun v H' F' d M' s r p z => kq v H' F' d M' ((sm1.trans sm2).trans s) r p z
end
end DL

namespace DL
open PySem PySem.Spec PyProof.Rows L2
variable {K : PySem.W.Frag} {F F' F0 F1 F2 G G' H H' H1 H2 : Hp} {M M' M1 : Mm} {ρ ρ' : Rho} {σ σ' : L2.St}
/-! ### sorted(set(..)) of a tuple of whole numbers -/
section
variable {X : Cx}
def rSetI (K : PySem.W.Frag) (w : World) : List V → Hp → VK → Prop := fun xs H Q => ∃ (l : Addr) (ns : List Int), xs = [.ref l] ∧ SqT K H l (ns.map V.int) ∧ ns.length ≤ 1000 ∧ ∀ (p : Addr) (c : Nat), H p = none → c ≤ ns.length → Q (.ref p) (upd H p (SetO w p (fun j => decide (j ∈ ns)) c))
theorem cr_setI (hc : X.calm = true) : CallR X (.type "set") (rSetI X.K X.w) := by
  intro pins s σ H xs us Q I r h
  obtain ⟨l, ns, rfl, hq, hl, q⟩ := h
  rw [Vals.ref1 r]
  obtain ⟨its, rv, pt, hz⟩ := I.tuple hq
  have hi : IntsAre its.toArray.toList ns := ints_of_vals rv
  refine call_set_tupI ns (I.ok.hd hc) (show s.heap.IsTuple l its.toArray from pt) hi (by unfold scanBound; omega) fun h' tk c R1 hcn k => ?_
  exact ⟨.ref _, upd H s.heap.objs.size (SetO X.w s.heap.objs.size (fun j => decide (j ∈ ns)) c), I.laid (t' := tk) (fun b u e => k b u e) (Nat.le_refl _) (setO_new R1), rfl, q _ c (I.hok.fresh (Nat.le_refl _)) hcn⟩
end
def gSortSet : GD1 := fun d M Q => ∃ ns : List Int, resT d = some (ns.map .int) ∧ ns.length < 64 ∧ ∀ ns' : List Int, ns'.Pairwise (· < ·) → (∀ k, k ∈ ns' ↔ k ∈ ns) → Q (.lst (ns'.map .int)) M
section
variable {X : Cx} {lo : Lo} {e : Expr} {te : TDE} {p1 p2 pos q : Pos}
theorem de_sortSet (hc : X.calm = true) (hg : Gl X "sorted") (hm : X.mg "sorted" = none) (hg2 : Gl X "set") (hm2 : X.mg "set" = none) (he : DPE X lo e te)
    (h1 : starEach [e] X.env = [(false, eval e X.env)] := by rfl) :
    DPE X lo (.Call (.Name "sorted" p1) [.Call (.Name "set" p2) [e] [] q] [] pos) (eOp1 gSortSet te) :=
  PE.of (pe_callB (cr_sortedSet hc) hg hm (by decide +kernel) (pa_cons (pe_callTy (cr_setI hc) hg2 hm2 (by decide +kernel) (pa_cons he pa_nil h1) (by decide) (by decide) h1 (by rfl)) pa_nil)) fun σ H Qv ⟨F, G, ρ, M, Q, a, h, k⟩ => by
    refine ⟨F, G, ρ, M, _, a, h, fun v H1 F1 d M1 s1 r1 p1 h1 => ?_⟩
    obtain ⟨ns, e1, hl, h1⟩ := h1
    obtain ⟨b, vs, rfl, sq, p⟩ := resT_ok r1 p1 e1
    rw [Reps.ints p] at sq
    refine ⟨b, ns, rfl, sq, by omega, fun p c hp hcn => ?_⟩
    refine ⟨p, _, c, rfl, upd_same, by omega, fun ns' p' hs hm _ hp' => ?_⟩
    have r2 := r1.newH (o := SetO X.w p (fun j => decide (j ∈ ns)) c) hp
    have s2 := same_new (o := .lst (ns'.map V.int)) (r2.free hp')
    exact k _ _ _ (.lst (ns'.map .int)) M1 (s1.trans s2) (r2.newF hp') (.lst (.inl upd_same) (Reps.of_ints _)) (h1 ns' hs fun k => by rw [hm k, decide_eq_true_eq])
end
end DL

set_option maxHeartbeats 2000000
/-! D: defs that make lambdas, their code objects' tables; the law's end with tables. -/
namespace DL
open PySem PySem.Spec PyProof.Rows L2
open LamX (CodeO TabB)
variable {K : PySem.W.Frag} {F F' F0 F1 F2 G G' H H' H1 H2 : Hp} {M M' M1 : Mm} {ρ ρ' : Rho} {σ σ' : L2.St}
/-- the name of a lambda of the def x -/
def lamQ (x : Str) : Str := x ++ ".<locals>." ++ "<lambda>"
/-- a def whose code object and table are known -/
structure LamAt (K : PySem.W.Frag) (f : Addr) where
  c : Addr
  P : Addr
  code : ∀ oc od fd osl, K.lookup f = some ⟨oc, od, .func fd, osl⟩ → fd.code = .ref c
/-- where the tables of the defs xs stand -/
def TbM (tb : Str → Addr) (xs : List Str) (M : Mm) : Prop := ∀ x ∈ xs, M.lookup (tb x) = some (.tbl (lamQ x))
theorem TbM.push {tb : Str → Addr} {xs : List Str} {b : Addr} {m : MO} (h : TbM tb xs M) (hb : M.lookup b = none) : TbM tb xs ((b, m) :: M) := fun x hx => by
  rw [lookup_under _ _ (fun e => by have := h x hx; rw [e, hb] at this; cases this)]
  exact h x hx
theorem TbM.pop {tb : Str → Addr} {xs : List Str} {b : Addr} {ds : List D} (h : TbM tb xs ((b, .lst ds) :: M)) : TbM tb xs M := fun x hx => by
  have := h x hx
  by_cases e : tb x = b
  · rw [e, lookup_top] at this; cases this
  · rwa [lookup_under _ _ e] at this
theorem lookup_putM_ne {a b : Addr} {m : MO} (h : b ≠ a) : ∀ M : Mm, (putM M a m).lookup b = M.lookup b
  | [] => rfl
  | (c, n) :: r => by
    unfold putM
    by_cases hc : c = a
    · subst hc
      rw [if_pos rfl, lookup_under _ _ h, lookup_under _ _ h]
    · rw [if_neg hc]
      by_cases hb : b = c
      · subst hb; rw [lookup_top, lookup_top]
      · rw [lookup_under _ _ hb, lookup_under _ _ hb, lookup_putM_ne h r]
section
variable {P : Program} {w : World} {K : PySem.W.Frag} {mg : Str → Option Value} {base : Heap}
/-- FunD.ok, the code object told -/
theorem FunD.okC {x qual : Str} {st : Stmt} {f : Addr} {fd : FuncData} {N ps : List Str} {k : Nat} {sp : SpD} (Fu : Fun K x qual st f fd) (S : FnScope N ps (defScope st)) (len : ∀ ds M Q E, sp ds M Q E → ds.length = ps.length)
    (hbody : ∀ (cdv : Value) (A : Around) (outer : List Env) (s : Shared) (H : Hp) (Ev : XK) (lo : Lo) (ds : List D) (M : Mm) (Q : D → Mm → Prop) (E : XD), (∀ c : Addr, (∀ oc od fd osl, K.lookup f = some ⟨oc, od, .func fd, osl⟩ → fd.code = .ref c) → cdv = .ref c) → Room k (A.deeper (envOfC qual (defScope st) s.heap.objs.size f cdv)) →
      L2N.Takes (cxOf (L2N.CX P w) P w K mg base N qual (defScope st) f cdv A outer s H Ev) (fun cls d _ H => wishD K lo E cls d H) → sp ds M Q E →
      ∃ t, DPSs (cxOf (L2N.CX P w) P w K mg base N qual (defScope st) f cdv A outer s H Ev) lo (defBody st) t ∧ t { nx := fun _ M' => fin Q .non M', rt := fin Q } (startD N ds) M) :
    FnOk P w K mg base (L2N.CX P w) (k + 1) f fd ps (liftSp K sp) := by
  obtain ⟨oc, od, kV, doc, pm, an, cdv, ct, osl, rfl, lk, hcd⟩ := Fu.ex
  refine fn_of lk hcd S (fun vs H Q E ⟨F, G, M, ds, Q', E', r, p, h, _⟩ => p.length.trans (len _ _ _ _ h)) fun A outer s H vs Qv Ev hr h => ?_
  obtain ⟨F, G, M, ds, Q, E, r, p, h, kq, ke⟩ := h
  have tk : L2N.Takes (cxOf (L2N.CX P w) P w K mg base N qual (defScope st) f cdv A outer s H Ev) (fun cls d _ H => wishD K ⟨F, G⟩ E cls d H) :=
    L2N.Takes.imp (L2N.takes_of rfl rfl rfl rfl) fun c d σ H' ⟨nm, ec, F', fs, M', s, r, e⟩ => by subst ec; exact ke nm d H' F' fs M' s r e
  obtain ⟨t, hd, ht⟩ := hbody cdv A outer s H Ev ⟨F, G⟩ ds M Q E (fun c hc => hc _ _ _ _ lk) hr tk h
  refine ⟨_, hd, F, G, startD N ds, M, _, ⟨Same.refl F, Same.refl G, r, ?_⟩, ht, ⟨fun σ H F2 ρ M2 s2 r2 _ h2 => fin_ok kq s2 r2 .non h2, fun v H F2 d M2 s2 r2 p2 h2 => fin_ok kq s2 r2 p2 h2, fun _ _ _ _ _ _ _ _ z => z.elim, fun _ _ _ _ _ _ _ _ z => z.elim⟩⟩
  unfold startD L2.start
  rw [p.length]
  exact env_start (N := N) _ p
end
section
variable {Z : Cx} {lo : Lo} {f : Addr} {act : SpD} {W : WX} {E : XD} {i : Nat} {x : Str} {p pos : Pos} {e : Expr} {es : List Expr} {ta : TDA}
theorem wish_no {K : PySem.W.Frag} {lo : Lo} {cls : Value} {d : Option Addr} {H : Hp} (h : wishD K lo noE cls d H) : False := by
  obtain ⟨_, _, _, _, _, _, _, z⟩ := h
  exact z
/-- the got value called, nothing is raised -/
theorem de_actN {E' : XD} (R : ActR Z lo f act) (tk : L2N.Takes Z (fun cls d _ H => wishD Z.K lo E' cls d H)) (ha : DPA Z lo (e :: es) ta) (hN : Z.N[i]? = some x := by rfl)
    (hv : Vis Z.env.scope x := by first | exact Or.inl rfl | exact Or.inr (Or.inl rfl) | exact Or.inr (Or.inr rfl)) (hd : (x == ("__debug__" : Str)) = false := by decide) (hcd : (x == ("__classdict__" : Str)) = false := by decide)
    (he : starEach (e :: es) Z.env = (false, eval e Z.env) :: starEach es Z.env := by rfl) (hpl : (backTo pos (starEach es Z.env)).any (·.1) = false := by rfl) :
    DPE Z lo (.Call (.Name x p) (e :: es) [] pos) (eAct i f act noE ta) :=
  de_act (Z := Z) (pn := Z.pn) (xe := Z.xe) R tk (fun _ _ _ _ z => (wish_no z).elim) ha hN hv hd hcd he hpl
end
/-! ### the law's end -/
def spLawT (tb : Str → Addr) (xs : List Str) : SpD := fun ds M Q _ => ∃ ns : List Int, ds = [.kl ns] ∧ ns.length ≤ 63 ∧ TbM tb xs M ∧ ∀ M', Q (.bl true) M'
theorem len_spLawT (tb : Str → Addr) (xs : List Str) : ∀ ds M Q E, spLawT tb xs ds M Q E → ds.length = 1 := fun ds M Q E ⟨ns, e, _⟩ => by rw [e]; rfl
theorem law_startT {K : PySem.W.Frag} {H : Hp} {a : Addr} {ns : List Int} {tb : Str → Addr} {xs : List Str} (nd : (xs.map tb).Nodup) (hl : ns.length ≤ 63) (hT : ∀ x ∈ xs, H (tb x) = some (.tbl #[])) (hS : SqL K H a (ns.map V.int)) :
    liftSp K (spLawT tb xs) [.ref a] H (fun v _ => v = .bl true) fun _ _ _ => False := by
  have ex : ∃ F : Hp, Same F H ∧ (∀ x ∈ xs, F (tb x) = none) ∧ SqL K F a (ns.map V.int) := by
    refine ⟨fun b => if b ∈ xs.map tb then none else H b, fun b o e => ?_, fun x hx => if_pos (List.mem_map.mpr ⟨x, hx, rfl⟩), ?_⟩
    · have e : (if b ∈ xs.map tb then none else H b) = some o := e
      by_cases hb : b ∈ xs.map tb
      · rw [if_pos hb] at e; cases e
      · rw [if_neg hb] at e; exact e
    · rcases hS with h | h
      · refine .inl ?_
        rcases h with h | ⟨o, h⟩
        · refine .inl ?_
          show (if a ∈ xs.map tb then none else H a) = _
          rw [if_neg fun z => by obtain ⟨x, hx, e⟩ := List.mem_map.mp z; have := hT x hx; rw [e, h] at this; cases this]
          exact h
        · refine .inr ⟨o, ?_⟩
          show (if a ∈ xs.map tb then none else H a) = _
          rw [if_neg fun z => by obtain ⟨x, hx, e⟩ := List.mem_map.mp z; have := hT x hx; rw [e, h] at this; cases this]
          exact h
      · exact .inr h
  obtain ⟨F, sF, nF, sS⟩ := ex
  have lk : ∀ (xs : List Str), (xs.map tb).Nodup → ∀ x ∈ xs, (xs.map fun x => (tb x, MO.tbl (lamQ x))).lookup (tb x) = some (.tbl (lamQ x)) := by
    intro xs
    induction xs with
    | nil => intro _ x hx; cases hx
    | cons y l ih =>
      intro nd x hx
      rw [List.map_cons, List.nodup_cons] at nd
      rw [List.map_cons]
      rcases List.mem_cons.mp hx with rfl | hx
      · exact lookup_top _ _ _
      · rw [lookup_under _ _ fun e => nd.1 (by rw [← e]; exact List.mem_map.mpr ⟨x, hx, rfl⟩)]
        exact ih nd.2 x hx
  refine ⟨F, fun _ => none, xs.map fun x => (tb x, .tbl (lamQ x)), [.kl ns], fun d _ => d = .bl true, noE, ⟨sF, (fun b o e => nomatch e), ?_, (fun b o e => nomatch e), fun p hp => ?_⟩, .cons (.kl sS) .nil, ⟨ns, rfl, hl, lk xs nd, fun _ => rfl⟩,
    fun v H' F' d M' _ _ p e => by subst e; cases p; rfl, fun _ _ _ _ _ _ _ _ z => z.elim⟩
  · rw [List.map_map]
    exact nd
  · obtain ⟨x, hx, rfl⟩ := List.mem_map.mp hp
    exact ⟨nF x hx, rfl, .tbl #[], hT x hx, .tbl True.intro fun pos cv hc => by
      have z : codeAmong pos [] = some cv := hc
      simp [codeAmong] at z⟩
/-- the table of a def's code object, of the head -/
theorem tab_mk {q : Program} {loose : List Str} {mean : ExcName → Option Value} {mg mb : Str → Option Value} {K : PySem.W.Frag} {h : Heap} {x : Str} {f c P : Addr} {oc oc2 : Value} {od od2 : Option Addr} {osl osl2 : Array (Option Value)} {fd : FuncData} {vs : Array Value} (T : Top q loose mean mg mb h) (X : K.In h)
    (hr : (recsOf q).any (fun e => e.name == x) = true) (a : PySem.W.nsIn K mainGlobals x = some (some (.ref f))) (l : K.lookup f = some ⟨oc, od, .func fd, osl⟩) (hc : fd.code = .ref c) (l2 : K.lookup c = some ⟨oc2, od2, .fields vs, osl2⟩) (hv : (vs[11]? : Option Value) = some (.ref P)) :
    PySem.W.CodeHd h c P ∧ h.get? P = some { cls := .none, data := .fields #[] } := by
  obtain ⟨d, hd⟩ : ∃ d, (recsOf q).find? (fun e => e.name == x) = some d := by
    cases e : (recsOf q).find? (fun e => e.name == x) with
    | some d => exact ⟨d, rfl⟩
    | none =>
      obtain ⟨d, h1, h2⟩ := List.any_eq_true.mp hr
      have := List.find?_eq_none.mp e d h1
      exact absurd h2 this
  refine PySem.W.tab_of T X hd ?_
  unfold PySem.W.tabIn
  rw [a]
  simp only [l, hc, l2]
  rw [hv]
theorem lamAt_mk {K : PySem.W.Frag} {f c : Addr} {P : Addr} {oc : Value} {od : Option Addr} {osl : Array (Option Value)} {fd : FuncData} (l : K.lookup f = some ⟨oc, od, .func fd, osl⟩) (hc : fd.code = .ref c) : ∃ L : LamAt K f, L.c = c ∧ L.P = P :=
  ⟨⟨c, P, fun oc' od' fd' osl' e => by rw [l] at e; cases e; exact hc⟩, rfl, rfl⟩
theorem walk_DT {l : PySem.W.OpenLaw} {k : Nat} {q : Program} {loose : List Str} {XP : (Str → Option Value) → Heap → Prop} {YP : World → Heap → Prop} {d : DefRec} {K : Params → PySem.W.Frag} {x : Str} (xs : List Str)
    (hn : l.most = some 63) (hdf : d.params.defaults = []) (hr : Room k callerA) (hY : ∀ (w : World) (h : Heap), YP w h → (K w.params).In h)
    (F : ∀ (w : World) (mean : ExcName → Option Value) (mg mb : Str → Option Value) (fa : Addr) (h : Heap) (lo2 : List Str), (K w.params).In h → h.Ns mainGlobals mg → XP mg h → Top q lo2 mean mg mb h → mg d.name = some (.ref fa) →
      ∃ (fd : FuncData) (tb : Str → Addr) (co : Str → Addr), (∀ (s : Shared) (u : Value), BindsTo s fd ⟨[u], []⟩ [(x, u)]) ∧ (xs.map tb).Nodup ∧ (∀ y ∈ xs, PySem.W.CodeHd h (co y) (tb y) ∧ h.get? (tb y) = some { cls := .none, data := .fields #[] } ∧ (K w.params).lookup (tb y) = none) ∧
        ∀ base : Heap, (K w.params).In base → base.Ns mainGlobals mg → (∀ y ∈ xs, TabB base mg (co y) (tb y)) → FnOk l.prog w (K w.params) mg base (L2N.CX l.prog w) k fa fd [x] (liftSp (K w.params) (spLawT tb xs))) :
    PySem.W.WalkO q loose XP YP l.row.toRowW d [] (fun f vs => PySem.call f vs) := by
  refine Att.attach_call hn hdf fun w s₀ s₁ mg mb fa o pm cd doc a vs ns G Y ho hd hcd hmg hobj hints hlen hg => ?_
  have KX := hY w _ Y
  obtain ⟨fd, tb, co, hb, nd, hT, hF⟩ := F w _ mg mb fa _ _ KX G.T.g G.X G.T hmg
  refine LamX.law_callTs (cs := xs.map fun y => (co y, tb y)) KX G.T.g G.T.b G.T.builtins G.T.nolimit hg (fun p hp => ?_) (fun p hp => ?_) (fun p hp => ?_) G.T.bmain hobj hints (Nat.le_trans hlen (by decide)) hr (fun base h1 h2 h3 => hF base h1 h2 fun y hy => h3 _ (List.mem_map.mpr ⟨y, hy, rfl⟩)) hb (fun H hH hS => ?_) fun H e s' => CX_none
  · obtain ⟨y, hy, rfl⟩ := List.mem_map.mp hp; exact (hT y hy).2.1
  · obtain ⟨y, hy, rfl⟩ := List.mem_map.mp hp; exact (hT y hy).2.2
  · obtain ⟨y, hy, rfl⟩ := List.mem_map.mp hp; exact (hT y hy).1
  · exact law_startT nd hlen (fun y hy => hH _ (List.mem_map.mpr ⟨y, hy, rfl⟩)) hS
end DL
namespace DL
open PySem PySem.Spec PyProof.Rows L2
/-- a def read off the head, its address told -/
theorem def_mkL {K : PySem.W.Frag} {h : Heap} {mg : Str → Option Value} {x : Str} {st : Stmt} {ps : List Str} {f c : Addr} {oc : Value} {od an : Option Addr} {osl : Array (Option Value)} {kV doc pm ct : Value} (X : K.In h) (G : h.Ns mainGlobals mg)
    (a : PySem.W.nsIn K mainGlobals x = some (some (.ref f))) (l : K.lookup f = some ⟨oc, od, .func (PySem.W.fnOf x x (defArgs st) (defBody st) (defScope st) .none kV doc pm an (.ref c) ct), osl⟩)
    (cc : PySem.W.codeIn K (.ref c) x = true) (k : PySem.W.keepIn K (.ref f) = true)
    (hb : ∀ (kV doc pm : Value) (an : Option Addr) (cdv ct : Value) (us : List Value), us.length = ps.length → bindArgs (PySem.W.fnOf x x (defArgs st) (defBody st) (defScope st) .none kV doc pm an cdv ct) ⟨us, []⟩ = pure (ps.zip us)) :
    ∃ D : DefF K mg x st ps, ∀ oc od fd osl, K.lookup D.f = some ⟨oc, od, .func fd, osl⟩ → fd.code = .ref c := by
  have F1 := fun_mk (st := st) l cc k
  exact ⟨⟨f, _, F1, PySem.W.mg_of X G a, F1.binds hb⟩, fun oc od fd osl e => by
    have e : K.lookup f = _ := e
    rw [l] at e; cases e; rfl⟩
end DL

/-! D: t[::-1] of a tuple; chains of four comparisons. -/
namespace HT
open PySem PyProof.Rows
open PySem.SeqAt
open PySem.AutoSeq1 (wpAny_loadPart')
open PySem.MeetsSeq PySem.MeetsSeq2 PySem.MeetsSeq3
section
variable {prog : Program} {w : World} {A : Around} {E : Value → Shared → Prop} {s : Shared}
theorem adjust_neg (n : Int) : Builtin.Slice.sliceAdjust none none (-1) n = (n - 1, -1) := by
  simp [Builtin.Slice.sliceAdjust]
theorem places_neg (n : Nat) : Builtin.Slice.slicePlaces ((n : Int) - 1) (-1) (-1) = n := by
  simp only [Builtin.Slice.slicePlaces]
  rw [if_neg (by omega)]
  split
  · rw [show (- -1 : Int) = 1 by decide, Int.ediv_one]; omega
  · omega
/-- the places of [::-1] -/
theorem back_places {sl : Addr} {vl vu vs : Value} {n : Nat} {Q : Int × Int × Nat → Shared → Prop} (hs : s.heap.IsSliceOf sl vl vu vs) (pl : IsPart vl none) (pu : IsPart vu none) (ps : IsPart vs (some (-1)))
    (h : Q ((n : Int) - 1, -1, n) s) : wpAny (model prog w) A (Builtin.Slice.sliceApplied (.ref sl) (pure (n : Int))) Q E s := by
  obtain ⟨⟨_, od, _, sl'⟩, ho, rfl, rfl⟩ := hs
  obtain ⟨hp, g, d, t, os⟩ := s
  have part : ∀ {v : Value} {o : Option Int} {Q : Option Int → Shared → Prop} {s : Shared}, IsPart v o → Q o s → wpAny (model prog w) A (Builtin.Slice.slicePartIndex v) Q E s := fun p q => slicePart_ p q
  have e1 := adjust_neg n
  have e2 := places_neg n
  unfold Builtin.Slice.sliceApplied Builtin.Slice.sliceFields
  generalize Builtin.Slice.sliceAdjust = SA at e1 ⊢
  generalize Builtin.Slice.slicePlaces = SL at e2 ⊢
  generalize Builtin.Slice.slicePartIndex = SP at part ⊢
  wp_walk using part ps, part pl, part pu
  refine part ps ?_
  show wpAny _ _ (if ((-1 : Int) == 0) = true then _ else _) _ _ _
  rw [if_neg (by decide)]
  refine wpAny_bind (part pl (wpAny_bind (part pu (wpAny_bind (wpAny_pure (wpAny_pure ?_))))))
  simpa only [Option.getD_some, e1, e2] using h
theorem back_items (xs : Array Value) : ((List.range xs.size).filterMap fun (m : Nat) => xs[(((xs.size : Int) - 1) + (m : Int) * (-1)).toNat]?).toArray = xs.toList.reverse.toArray := by
  refine congrArg List.toArray (List.ext_getElem? fun j => ?_)
  have all : (List.range xs.size).map (fun (m : Nat) => xs[(((xs.size : Int) - 1) + (m : Int) * (-1)).toNat]?) = xs.toList.reverse.map some := by
    refine List.ext_getElem (by simp) fun m a b => ?_
    have : m < xs.size := by simpa using a
    rw [List.getElem_map, List.getElem_map, List.getElem_range, List.getElem_reverse, Array.getElem_toList, show (((xs.size : Int) - 1) + (m : Int) * (-1)).toNat = xs.toList.length - 1 - m by simp; omega]
    exact Array.getElem?_eq_getElem _
  have q := congrArg (List.filterMap id) all
  rw [List.filterMap_map, List.filterMap_map] at q
  exact congrArg (·[j]?) (q.trans (by simp))
theorem getItem_back {t sl : Addr} {items : Array Value} {vl vu vs : Value} {Q : Value → Shared → Prop} (ht : IsTup s.heap t items) (hs : s.heap.IsSliceOf sl vl vu vs) (pl : IsPart vl none) (pu : IsPart vu none) (ps : IsPart vs (some (-1)))
    (h : Q (.ref s.heap.objs.size) { s with heap := s.heap.push { cls := .type "tuple", data := .seq items.toList.reverse.toArray } })
    (hsz : items.size ≤ sizeLine) : wpAny (model prog w) A (getItem (.ref t) (.ref sl)) Q E s := by
  have cut := fun {A : Around} {E : Value → Shared → Prop} {Q : Int × Int × Nat → Shared → Prop} => back_places (prog := prog) (w := w) (A := A) (E := E) (s := s) (n := items.size) (Q := Q) hs pl pu ps
  have fits : sizeOk (.seq items.toList.reverse.toArray) := by simpa [sizeOk] using hsz
  have ty : s.TypeIs (.ref sl) "slice" := let ⟨o, a, b, _⟩ := hs; ⟨o, a, b⟩
  have item : ∀ {R : Option Value → Shared → Prop}, R (some (.ref s.heap.objs.size)) { s with heap := s.heap.push { cls := .type "tuple", data := .seq items.toList.reverse.toArray } } → wpAny (model prog w) A (callSpecial? (.ref t) "__getitem__" [.ref sl]) R E s := fun {R} q => by
    refine wpAny_callSpecial?_slot ht.typeIs PyProof.Rows.slot_tuple_getitem (wpAny_call_entry PyProof.Rows.slot_tuple_getitem ht.typeIs entry_tuple_getitem ?_ (args_tuple_getitem _ _))
    unfold Builtin.«tuple.__getitem__»
    have its := fun {A : Around} {E : Value → Shared → Prop} {Q : Array Value → Shared → Prop} (q : Q items s) => show wpAny (model prog w) A (Builtin.Tuple.tupleItemsOf (.ref t)) Q E s from tupleItemsOf_ ht q
    have e := back_items items
    generalize Builtin.Tuple.tupleItemsOf = TI at its ⊢
    generalize Builtin.Slice.sliceApplied = SA at cut ⊢
    unfold Builtin.Tuple.tupleExact
    obtain ⟨h0, g, d, tk, os⟩ := s
    wp_walk using its, cut
    rw [e, if_neg (by simpa using hsz)]
    wp_walk
    exact ⟨_, rfl, q⟩
  unfold getItem
  generalize ec : @callSpecial? = CS at item ⊢
  wp_walk using wpAny_sequenceKey ht.typeIs (by decide), item
  exact h
end
end HT
namespace DL
open PySem PySem.Spec PyProof.Rows L2
variable {K : PySem.W.Frag} {F F' F0 F1 F2 G G' H H' H1 H2 : Hp} {M M' M1 : Mm} {ρ ρ' : Rho} {σ σ' : L2.St}
section
variable {X : Cx} {lo : Lo} {pos : Pos} {e : Expr}
def tRevT (K : PySem.W.Frag) (te : TE) : TE := fun σ H Q => te σ H fun x H1 => ∃ a xs, x = .ref a ∧ SqT K H1 a xs ∧ ∀ p, H1 p = none → Q (.ref p) (upd H1 p (.tup xs.reverse))
theorem slice_back {pins : List (Addr × Obj)} {s : Shared} {σ : L2.St} {H : Hp} {Q : Value → Shared → Prop} {k : Nat} {p1 p2 p3 : Pos} (I : Inv X pins σ H s)
    (q : ∀ s' a vl vu vs, Inv X pins σ H s' → IsPart vl none → IsPart vu none → IsPart vs (some (-1)) → s'.heap.IsSliceOf a vl vu vs → Q (.ref a) s') : wpAny (model X.prog X.w) X.A (eval (.Slice none none (some (.UnaryOp .USub (.Constant (.int 1) k p1) p2)) p3) X.env) Q X.xe s := by
  have step : PO X (some (.UnaryOp .USub (.Constant (.int 1) k p1) p2)) _ := po_some (pe_un un_neg pe_int)
  have no : ∀ {s : Shared}, Inv X pins σ H s → _ := fun {s} I => po_none.run pins s σ H (fun o H' => o = none ∧ H' = H) I ⟨rfl, rfl⟩
  refine wpAny_Slice (wpAny_mono (no I) (fun vl s1 ⟨_, _, I1, a, e, e'⟩ => ?_) fun _ _ z => z)
  subst e e'
  refine wpAny_mono (no I1) (fun vu s2 ⟨_, _, I2, b, e, e'⟩ => ?_) fun _ _ z => z
  subst e e'
  refine wpAny_mono (step.run pins s2 σ _ (fun o H' => o = some (-1) ∧ H' = _) I2 ⟨1, rfl, -1, rfl, rfl, rfl⟩) (fun vs s3 ⟨_, _, I3, c, e, e'⟩ => ?_) fun _ _ z => z
  subst e e'
  exact q _ _ vl vu vs (I3.kept (t' := s3.toks) fun b o z => Heap.get?_push_of_some _ z) a b c (Heap.IsSliceOf.new _ vl vu vs)
theorem pe_revT {te : TE} {k : Nat} {p1 p2 p3 : Pos} (he : PE X e te) : PE X (.Subscript e (.Slice none none (some (.UnaryOp .USub (.Constant (.int 1) k p1) p2)) p3) pos) (tRevT X.K te) :=
  ⟨fun pins s σ H Q I h => Subscript_ (wpAny_mono (he.run pins s σ H _ I h) (fun v s1 ⟨x, H1, I1, r1, a, xs, e, hx, q⟩ => by
    subst e
    cases r1
    refine slice_back I1 fun s2 b vl vu vs I2 pl pu ps sl => ?_
    obtain ⟨its, r, ht, hz⟩ := I2.tuple hx
    refine tail_any (ops := [.ref a, .ref b]) ht.typeIs (PyProof.Rows.slot_tuple_getitem.lookup) (HT.getItem_back ht sl pl pu ps ?_ (by simpa [r.length] using hz)) (by with_unfolding_all rfl)
    exact ⟨.ref _, _, I2.laid (t' := s2.toks) (o := .tup xs.reverse) (fun b o z => Heap.get?_push_of_some _ z) (Nat.le_refl _) ⟨by simpa using hz, _, r.reverse, IsTup.new _ _⟩, rfl, q _ (I2.hok.fresh (Nat.le_refl _))⟩) fun _ _ z => z)⟩
def gRevT : GD1 := fun d M Q => match resT d with
  | some ds => Q (.tup ds.reverse) M
  | none => False
theorem de_revT {te : TDE} {k : Nat} {p1 p2 p3 : Pos} (he : DPE X lo e te) : DPE X lo (.Subscript e (.Slice none none (some (.UnaryOp .USub (.Constant (.int 1) k p1) p2)) p3) pos) (eOp1 gRevT te) :=
  PE.of (pe_revT he) fun σ H Qv ⟨F, G, ρ, M, Q, a, h, q⟩ => ⟨F, G, ρ, M, _, a, h, fun v H1 F1 d M1 s1 r1 p1 h1 => by
    unfold gRevT at h1
    split at h1
    · rename_i ds ed
      obtain ⟨b, vs, rfl, sq, p⟩ := resT_ok r1 p1 ed
      refine ⟨b, vs, rfl, sq, fun c hc => ?_⟩
      have s2 := same_new (o := .tup vs.reverse) (r1.free hc)
      exact q _ _ _ (.tup ds.reverse) M1 (s1.trans s2) (r1.newF hc) (.tup upd_same (p.mono s2).reverse) h1
    · exact h1.elim⟩
end
end DL
namespace DL
open PySem PySem.Spec PyProof.Rows L2
variable {K : PySem.W.Frag} {F F' F0 F1 F2 G G' H H' H1 H2 : Hp} {M M' M1 : Mm} {ρ ρ' : Rho} {σ σ' : L2.St}
/-! ### a op b op c op .., any number -/
def cOne (g : GD2) (tb : TDE) : D → TDT := fun d ρ M Q => tb ρ M fun e M1 => g d e M1 fun z M2 => onB (fun k => Q k M2) z
def cCons (g : GD2) (tb : TDE) (t : D → TDT) : D → TDT := fun d ρ M Q => tb ρ M fun e M1 => g d e M1 fun z M2 => onB (fun k => if k = true then t e ρ M2 Q else Q false M2) z
inductive CL (X : Cx) (lo : Lo) : List CmpOp → List Expr → (D → TDT) → Prop
  | one {op : CmpOp} {r : R2} {g : GD2} {b : Expr} {tb : TDE} : OpR X (compareOp op) r → OkR2 X.K r g → DPE X lo b tb → CL X lo [op] [b] (cOne g tb)
  | cons {op op' : CmpOp} {r : R2} {g : GD2} {b b' : Expr} {tb : TDE} {ops : List CmpOp} {bs : List Expr} {t : D → TDT} : OpR X (compareOp op) r → OkR2 X.K r g → DPE X lo b tb → CL X lo (op' :: ops) (b' :: bs) t →
      CL X lo (op :: op' :: ops) (b :: b' :: bs) (cCons g tb t)
section
variable {X : Cx} {lo : Lo} {pos : Pos} {a : Expr} {ta : TDE}
theorem cl_run {ops : List CmpOp} {bs : List Expr} {t : D → TDT} (c : CL X lo ops bs t) : ∀ {pins : List (Addr × Obj)} {s : Shared} {σ : L2.St} {H : Hp} {F G : Hp} {ρ : Rho} {M : Mm} {v : V} {u : Value} {d : D} {Q : Bool → Mm → Prop} {Qv : Bool → Hp → Prop}, Inv X pins σ H s → At X.K lo F G ρ M σ H → L2.RelV v u → Rep X.K F v d → t d ρ M Q →
    (∀ b H' F' M', Same F F' → RelM X.K F' G M' H' → Q b M' → Qv b H') → wpAny (model X.prog X.w) X.A (testChain pos u ops (evalEach bs X.env)) (TP X pins σ Qv) X.xe s := by
  induction c with
  | @one op r g b tb ho hk hb =>
    intro pins s σ H F G ρ M v u d Q Qv I at_ rv rd h kq
    refine test_last (thn (hb.run pins s σ H (fun w H1 => ∃ F1 e M1, Same F F1 ∧ RelM X.K F1 G M1 H1 ∧ Rep X.K F1 w e ∧ g d e M1 fun z M2 => onB (fun k => Q k M2) z) I ⟨F, G, ρ, M, _, at_, h, fun w H1 F1 e M1 s1 r1 p1 h1 => ⟨F1, e, M1, s1, r1, p1, h1⟩⟩) fun u2 s1 ⟨w, H1, I1, rw1, F1, e, M1, sm1, r1, p1, h1⟩ => ?_)
    refine thn (ho pins s1 σ H1 v w u u2 (fun z H2 => ∃ F2 M2 k, Same F1 F2 ∧ RelM X.K F2 G M2 H2 ∧ z = .bl k ∧ Q k M2) I1 rv rw1 (hk F1 G M1 H1 v w d e _ _ r1 (rd.mono sm1) p1 h1 fun z H2 F2 zd M2 s2 r2 p2 h2 => ?_)) fun c s2 ⟨z, H2, I2, rz, F2, M2, k, sm2, r2, ez, h2⟩ => ?_
    · obtain ⟨k, e1, _, h2⟩ := onB_ok p2 h2
      exact ⟨F2, M2, k, s2, r2, e1, h2⟩
    · subst ez
      cases rz
      exact wpAny_truthy_bool ⟨H2, I2, kq k H2 F2 M2 (sm1.trans sm2) r2 h2⟩
  | @cons op op' r g b b' tb ops bs t ho hk hb _ ih =>
    intro pins s σ H F G ρ M v u d Q Qv I at_ rv rd h kq
    refine test_link (thn (hb.run pins s σ H (fun w H1 => ∃ F1 e M1, Same F F1 ∧ RelM X.K F1 G M1 H1 ∧ Rep X.K F1 w e ∧ g d e M1 fun z M2 => onB (fun k => if k = true then t e ρ M2 Q else Q false M2) z) I ⟨F, G, ρ, M, _, at_, h, fun w H1 F1 e M1 s1 r1 p1 h1 => ⟨F1, e, M1, s1, r1, p1, h1⟩⟩) fun u2 s1 ⟨w, H1, I1, rw1, F1, e, M1, sm1, r1, p1, h1⟩ => ?_)
    refine thn (ho pins s1 σ H1 v w u u2 (fun z H2 => ∃ F2 M2 k, Same F1 F2 ∧ RelM X.K F2 G M2 H2 ∧ z = .bl k ∧ (if k = true then t e ρ M2 Q else Q false M2)) I1 rv rw1 (hk F1 G M1 H1 v w d e _ _ r1 (rd.mono sm1) p1 h1 fun z H2 F2 zd M2 s2 r2 p2 h2 => ?_)) fun c s2 ⟨z, H2, I2, rz, F2, M2, k, sm2, r2, ez, h2⟩ => ?_
    · obtain ⟨k, e1, _, h2⟩ := onB_ok p2 h2
      exact ⟨F2, M2, k, s2, r2, e1, h2⟩
    · subst ez
      cases rz
      refine wpAny_truthy_bool ?_
      cases k with
      | false =>
        rw [if_neg Bool.false_ne_true] at h2
        exact ite_ff ⟨H2, I2, kq false H2 F2 M2 (sm1.trans sm2) r2 h2⟩
      | true =>
        rw [if_pos rfl] at h2
        exact ite_tt (ih I2 ((at_.next sm1 r1).next sm2 r2) rw1 (p1.mono sm2) h2 fun b H' F' M' s r q => kq b H' F' M' ((sm1.trans sm2).trans s) r q)
def dChN (ta : TDE) (t : D → TDT) : TDT := fun ρ M Q => ta ρ M fun d M1 => t d ρ M1 Q
theorem dt_chainN {op op' : CmpOp} {ops : List CmpOp} {b b' : Expr} {bs : List Expr} {t : D → TDT} (ha : DPE X lo a ta) (c : CL X lo (op :: op' :: ops) (b :: b' :: bs) t) (hm : lastMarks (op :: op' :: ops) (b :: b' :: bs) = false := by rfl) :
    DPT X lo (.Compare a (op :: op' :: ops) (b :: b' :: bs) pos) (dChN ta t) := by
  refine ⟨fun pins s σ H Q I h => ?_⟩
  obtain ⟨F, G, ρ, M, Qd, at_, h, kq⟩ := h
  refine isTrue_chain (thn (ha.run pins s σ H (fun v H1 => ∃ F1 d M1, Same F F1 ∧ RelM X.K F1 G M1 H1 ∧ Rep X.K F1 v d ∧ t d ρ M1 Qd) I ⟨F, G, ρ, M, _, at_, h, fun v H1 F1 d M1 s1 r1 p1 h1 => ⟨F1, d, M1, s1, r1, p1, h1⟩⟩) fun u s1 ⟨v, H1, I1, rv, F1, d, M1, sm1, r1, p1, h1⟩ => ?_) hm
  exact cl_run c I1 (at_.next sm1 r1) rv p1 h1 fun b H' F' M' s r q => kq b H' F' M' (sm1.trans s) r q
end
end DL

namespace DL
open PySem PySem.Spec PyProof.Rows L2
variable {K : PySem.W.Frag} {F F' F0 F1 F2 G G' H H' H1 H2 : Hp} {M M' M1 : Mm} {ρ ρ' : Rho} {σ σ' : L2.St}
/-! ### x in xs, data of any depth -/
def gInD (neg : Bool) : GD2 := fun d e M Q => ∃ a as, pyM M d = some a ∧ pyM M e = some (.list as) ∧ SeqAt.shaped a = true ∧ SeqAt.shaped (.list as) = true ∧ Q (.bl (if neg then !(as.any fun z => PyData.eqv z a) else as.any fun z => PyData.eqv z a)) M
theorem ok_inD : OkR2 K (rInD K) (gInD false) := fun F G M H x y d e Q Qv r p q ⟨a, as, ea, eb, sa, sb, h⟩ k => ⟨a, as, pyM_ok r p ea, pyM_ok r q eb, sa, sb, k.here r (.bl _) h⟩
theorem ok_notInD : OkR2 K (rNotInD K) (gInD true) := fun F G M H x y d e Q Qv r p q ⟨a, as, ea, eb, sa, sb, h⟩ k => ⟨a, as, pyM_ok r p ea, pyM_ok r q eb, sa, sb, k.here r (.bl _) h⟩
end DL
namespace DL
open PySem PySem.Spec PyProof.Rows L2
variable {K : PySem.W.Frag} {F F' F0 F1 F2 G G' H H' H1 H2 : Hp} {M M' M1 : Mm} {ρ ρ' : Rho} {σ σ' : L2.St}
/-! ### list(range(..)) -/
def rListR : List V → Hp → VK → Prop := fun xs H Q => ∃ a lo hi, xs = [.ref a] ∧ H a = some (.rng lo hi) ∧ RgOk lo hi ∧ ∀ q, H q = none → Q (.ref q) (upd H q (.lst (rgV lo hi)))
theorem cr_listR {X : Cx} (hc : X.calm = true) : CallR X (.type "list") rListR := by
  intro pins s σ H xs us Q I r h
  obtain ⟨a, lo, hi, rfl, hH, ⟨b1, b2, b3, b4, b5⟩, q⟩ := h
  rw [Vals.ref1 r]
  obtain ⟨t, u, v, hr⟩ := I.hok a _ hH
  refine call_list_range (n := (hi - lo).toNat) (I.ok.hd hc) hr (small_one b1 b2 b3 b4) (rangeSize_nat lo hi) b5 fun h' tk acc c' hk e' hi' => ?_
  refine ⟨.ref s.heap.objs.size, upd H s.heap.objs.size (.lst (rgV lo hi)), I.laid hk (Nat.le_refl _) (show ObjOk X.prog X.w _ _ _ (.lst (rgV lo hi)) from ⟨?_, acc.toList, c', vals_rg hi', ?_⟩), rfl, q _ (I.hok.fresh (Nat.le_refl _))⟩
  · rw [rgV_length, sizeLine_eq]; omega
  · rw [Array.toArray_toList]; exact e'
def gListR : GDL := on1 fun d M Q => match d with
  | .rng lo hi => RgOk lo hi ∧ Q (.lst (rngD lo (hi - lo).toNat)) M
  | _ => False
theorem rgV_rep (lo hi : Int) : Reps K F (rgV lo hi) (rngD lo (hi - lo).toNat) := by
  have e1 : rgV lo hi = ((List.range (hi - lo).toNat).map fun i : Nat => lo + (i : Int)).map V.int := by unfold rgV; rw [List.map_map]; rfl
  have e2 : rngD lo (hi - lo).toNat = ((List.range (hi - lo).toNat).map fun i : Nat => lo + (i : Int)).map D.int := by unfold rngD; rw [List.map_map]; rfl
  rw [e1, e2]
  exact Reps.of_ints _
theorem ok_listR : OkRL K rListR gListR := fun F G M H xs ds Q Qv r p h k => by
  obtain ⟨v, d, e, p, h⟩ := on1_inv p h
  split at h
  · rename_i lo hi
    cases p with
    | @rng a _ _ hF => exact ⟨a, lo, hi, e, r.fz _ _ hF, h.1, fun q hq => k.new r hq (fun _ => .lst (.inl upd_same) (rgV_rep lo hi)) h.2⟩
  · exact h.elim
end DL

set_option maxHeartbeats 2000000
namespace DL
open PySem PySem.Spec PyProof.Rows L2
open HotX (HotAt)
section
variable {prog : Program} {w : World} {A : Around} {E : Value → Shared → Prop} {s : Shared}
theorem hot_keep {A : Around} {x1 : Addr} {h h' : Heap} (c : HotAt A x1 h) (k : ∀ o, h.get? x1 = some o → h'.get? x1 = some o) : HotAt A x1 h' :=
  let ⟨a, o, vs, e, d, f⟩ := c; ⟨a, o, vs, k o e, d, f⟩
/-- StopIteration, while an exception is handled -/
theorem stop_hot {α : Type} {x1 : Addr} {Q : α → Shared → Prop} (hot : HotAt A x1 s.heap) (hE : ∀ h' e, (∀ b o, s.heap.get? b = some o → h'.get? b = some o) → (∃ o, h'.get? e = some o ∧ o.cls = .type "StopIteration") → E (.ref e) { s with heap := h' }) :
    wpAny (model prog w) A (Builtin.SmallTypes.stopIteration : Sem α) Q E s := by
  obtain ⟨h, g, d, t, os⟩ := s
  have lt1 : x1 < h.objs.size := let ⟨_, _, _, e, _⟩ := hot; Heap.lt_size e
  have up : ∀ (p q : Obj) (b : Addr) (o : Obj), h.get? b = some o → ((h.push p).push q).get? b = some o := fun _ _ _ _ e => Heap.get?_push_of_some _ (Heap.get?_push_of_some _ e)
  unfold Builtin.SmallTypes.stopIteration
  wp_walk
  refine HotX.raiseNew_hot (hot_keep hot fun o => up _ _ x1 o) (Nat.ne_of_lt (Nat.lt_of_lt_of_le lt1 (by rw [Heap.size_push]; exact Nat.le_succ _))) (Heap.get?_push_size _ rfl) rfl (by simp; omega) (hE _ _ (fun b o e => ?_) ⟨_, Heap.get?_update_self _ (Heap.get?_push_size _ rfl) rfl, rfl⟩)
  exact (Heap.get?_update_other _ _ (Nat.ne_of_gt (Heap.lt_size (Heap.get?_push_of_some _ e)))).trans (up _ _ b o e)
/-- an iterator over a list, at its end -/
theorem list_out_hot {it l x1 : Addr} {i : Nat} {items : Array Value} {Q : Value → Shared → Prop} (hot : HotAt A x1 s.heap) (ne : it ≠ x1) (hit : s.heap.IsListIter it l i) (hl : s.heap.IsList l items) (hx : items[i]? = none)
    (hE : ∀ h' e, Heap.ExtBut it s.heap h' → (∃ o, h'.get? e = some o ∧ o.cls = .type "StopIteration") → E (.ref e) { s with heap := h' }) : wpAny (model prog w) A (Builtin.SmallTypes.nextOf (.ref it)) Q E s := by
  have ty := hit.typeIs
  obtain ⟨⟨_, od, _, os⟩, ho, rfl, rfl⟩ := hit
  obtain ⟨⟨_, ld, _, ls⟩, hol, rfl, nl, rfl⟩ := hl
  unfold Builtin.SmallTypes.nextOf
  refine wpAny_bind (wpAny_callSpecial?_slot (name := Str.ofString "__next__") ty slot_listiter_next (wpAny_call_entry slot_listiter_next ty entry_listiter_next ?_ (args_listiter_next _)))
  unfold Builtin.«list_iterator.__next__»
  wp_walk using wpAny_loadPart_at ho, wpAny_seqItems hol rfl
  rw [Int.toNat_natCast, hx]
  wp_walk using wpAny_setField ho rfl
  · simp
  have sb := Heap.SameBut.update s.heap it (Obj.mapFields (·.setIfInBounds 0 .none))
  exact stop_hot (s := { s with heap := _ }) (hot_keep hot fun o e => (sb.2 x1 (Ne.symm ne)).trans e) fun h' e k t => hE h' e (fun b o hb q => k b o ((sb.2 b hb).trans q)) t
/-- a pair's iterator, at its end -/
theorem tup_out_hot {it t x1 : Addr} {i : Nat} {items : Array Value} {Q : Option Value → Shared → Prop} (hot : HotAt A x1 s.heap) (ne : it ≠ x1) (hit : IsTupIter s.heap it t i) (ht : IsTup s.heap t items) (hx : items[i]? = none)
    (q : ∀ h', Heap.ExtBut it s.heap h' → Q none { s with heap := h' }) : wpAny (model prog w) A (pyNext (.ref it)) Q E s := by
  have ty := hit.typeIs
  obtain ⟨⟨_, od, _, os⟩, ho, rfl, rfl⟩ := hit
  obtain ⟨⟨_, ld, _, ls⟩, hol, rfl, nl, rfl⟩ := ht
  unfold pyNext
  refine wpAny_bind (wpAny_attempt (wpAny_callSpecial?_slot (name := Str.ofString "__next__") ty slot_tupleiter_next (wpAny_call_entry slot_tupleiter_next ty entry_tupleiter_next ?_ (args_tupleiter_next _))))
  unfold Builtin.«tuple_iterator.__next__»
  wp_walk using wpAny_loadPart_at ho, wpAny_seqItems hol rfl
  rw [Int.toNat_natCast, hx]
  wp_walk using wpAny_setField ho rfl
  · simp
  have sb := Heap.SameBut.update s.heap it (Obj.mapFields (·.setIfInBounds 0 .none))
  refine stop_hot (s := { s with heap := _ }) (hot_keep hot fun o e => (sb.2 x1 (Ne.symm ne)).trans e) fun h' e k ⟨o, eo, co⟩ => ?_
  refine wpAny_bind (wpAny_isInstance (T := "StopIteration") (b := true) ⟨o, eo, co⟩ isSubtype_stop (wpAny_pure (q h' fun b o hb e => k b o ((sb.2 b hb).trans e))))
end
end DL

set_option maxHeartbeats 2000000
/-! D: found = [word for word, good in zip(words, matching) if good], while an exception is handled. -/
namespace DL
open PySem PySem.Spec PyProof.Rows L2
open HotX (HotAt)
open L2H (HotC Hot1)
section
variable {prog : Program} {w : World} {A : Around} {E : Value → Shared → Prop} {s : Shared} {x1 : Addr}
/-- a pair is taken apart -/
theorem pair_hot {T : Addr} {u v : Value} {e1 e2 : Expr} {k : Nat} {pos : Pos} {env : Env} {Q : Unit → Shared → Prop} (hot : HotAt A x1 s.heap) (hT : IsPair s.heap T u v) (ea : assignEach [e1, e2] env = [(false, assign e1 env), (false, assign e2 env)])
    (h : ∀ h', (∀ b o, s.heap.get? b = some o → h'.get? b = some o) → wpAny (model prog w) A (assign e1 env u) (fun _ s1 => wpAny (model prog w) A (assign e2 env v) Q E s1) E { s with heap := h' }) :
    wpAny (model prog w) A (assign (.Tuple [e1, e2] k pos) env (.ref T)) Q E s := by
  have tp : IsTup s.heap T #[u, v] := ⟨_, hT, rfl, _, rfl⟩
  obtain ⟨o, _, ho, ox⟩ := hot.2
  have ne : s.heap.objs.size ≠ x1 := Nat.ne_of_gt (Heap.lt_size ho)
  have nT : T ≠ s.heap.objs.size := Nat.ne_of_lt (Heap.lt_size hT)
  rw [assign_Tuple, ea]
  unfold unpack unpackItems notIterableAtAll
  refine wpAny_bind (wpAny_standAt (wpAny_bind (wpAny_holding (wpAny_bind (wpAny_bind (wpAny_specialOf tp.typeIs slot_tuple_iter.lookup (wpAny_pure ?_)))))))
  simp only [Bool.false_eq_true, if_false, List.length_cons, List.length_nil, List.findIdx?_cons, List.findIdx?_nil, Option.map_none]
  refine wpAny_bind (wpAny_holding (iter_tuple tp ?_))
  refine wpAny_bind (wpAny_holding (draw_tuple nT 2 0 _ _ ⟨_, Heap.get?_push_size _ rfl, rfl, rfl⟩ (tp.push _) (by show 2 ≤ 2; exact Nat.le_refl _) fun h1 it1 sb => ?_))
  have up : ∀ b o, s.heap.get? b = some o → h1.get? b = some o := fun b o e => (sb.2 b (Nat.ne_of_lt (Heap.lt_size e))).trans (Heap.get?_push_of_some _ e)
  show wpAny _ _ (holding [u, v] (pyNext _) >>= _) _ _ _
  refine wpAny_bind (wpAny_holding (tup_out_hot (s := { s with heap := h1 }) (hot_keep hot fun o => up x1 o) ne it1 ⟨_, up _ _ hT, rfl, _, rfl⟩ rfl fun h2 ex => ?_))
  show wpAny _ _ (pure [u, v]) _ _ _
  refine wpAny_pure ?_
  show wpAny _ _ (do holding [v] (assign e1 env u); assignInOrder _ _) _ _ _
  refine wpAny_bind (wpAny_holding (wpAny_mono (h h2 fun b o e => ex b o (Nat.ne_of_lt (Heap.lt_size e)) (up b o e)) (fun _ s1 q => ?_) fun _ _ z => z))
  show wpAny _ _ (do holding [] (assign e2 env v); assignInOrder _ _) _ _ _
  refine wpAny_bind (wpAny_holding (wpAny_mono q (fun _ s2 q => wpAny_pure q) fun _ _ z => z))
/-- a list's iterator, as zip draws from it -/
theorem draws_hot {it l n : Nat} {items : Array Value} (hz : items.size = n) : Draws prog w A it [x1, l, it] n (fun i x => items[i]? = some x) (fun i h => HotAt A x1 h ∧ it ≠ x1 ∧ it ≠ l ∧ h.IsListIter it l i ∧ h.IsList l items) where
  live := fun i h ⟨_, _, _, ⟨o, e, _⟩, _⟩ => ⟨o, e⟩
  frame := fun i h h' ⟨c, a, b, d, e⟩ k => ⟨hot_keep c (k x1 (by simp)), a, b, d.at (k it (by simp)), e.at (k l (by simp))⟩
  item := fun i s Q E hi ⟨c, a, b, d, e⟩ q => wpAny_nextOf_list_item d e (Array.getElem?_eq_getElem (hz ▸ hi)) fun h' d' sb =>
    q _ h' s.toks (Array.getElem?_eq_getElem (hz ▸ hi)) ⟨hot_keep c fun o z => (sb.2 x1 (Ne.symm a)).trans z, a, b, d', e.at fun o z => (sb.2 l (Ne.symm b)).trans z⟩ sb
  done := fun s Q E ⟨c, a, b, d, e⟩ q => list_out_hot c a d e (by simp [hz]) q
/-- zip of two lists, at its end -/
theorem zip_out_hot {z TI TO i1 i2 l1 l2 i : Nat} {xs ys : Array Value} {a b : Value} {Q : Option Value → Shared → Prop} (hot : HotAt A.in1 x1 s.heap) (D : ZipApart z TI TO i1 i2 l1 l2) (nx : x1 ∉ [z, TI, TO, i1, i2])
    (hz : IsZip s.heap z TI TO .none) (hTI : IsPair s.heap TI (.ref i1) (.ref i2)) (hTO : IsPair s.heap TO a b) (h1 : s.heap.IsListIter i1 l1 i) (h2 : s.heap.IsListIter i2 l2 i) (p1 : s.heap.IsList l1 xs) (p2 : s.heap.IsList l2 ys) (lx : i ≤ xs.size) (ly : i ≤ ys.size) (e : i = xs.size ∨ i = ys.size)
    (q : ∀ h' tk, (∀ c o, c ≠ z → c ≠ TO → c ≠ i1 → c ≠ i2 → s.heap.get? c = some o → h'.get? c = some o) → Q none { s with heap := h', toks := tk }) : wpAny (model prog w) A (pyNext (.ref z)) Q E s := by
  simp only [List.mem_cons, List.not_mem_nil, or_false, not_or] at nx
  obtain ⟨n1, n2, n3, n4, n5⟩ := nx
  refine wpAny_pyNext_zipD2_end (St1 := fun i h => HotAt A.in1 x1 h ∧ i1 ≠ x1 ∧ i1 ≠ l1 ∧ h.IsListIter i1 l1 i ∧ h.IsList l1 xs) (St2 := fun i h => HotAt A.in1 x1 h ∧ i2 ≠ x1 ∧ i2 ≠ l2 ∧ h.IsListIter i2 l2 i ∧ h.IsList l2 ys)
    ⟨D.TIz, D.TOz, D.TITO, D.TIi1, by simp, ?_, ?_, D.TIi2, by simp, ?_, ?_, ?_, ?_⟩ (draws_hot rfl) (draws_hot rfl) hz hTI hTO ⟨hot, Ne.symm n4, Ne.symm D.l1i1, h1, p1⟩ ⟨hot, Ne.symm n5, Ne.symm D.l2i2, h2, p2⟩ lx ly e q
  all_goals simp only [List.mem_cons, List.not_mem_nil, or_false, not_or]
  · exact ⟨Ne.symm n1, Ne.symm D.l1z, Ne.symm D.i1z⟩
  · exact ⟨Ne.symm n3, Ne.symm D.l1TO, D.TOi1⟩
  · exact ⟨Ne.symm n1, Ne.symm D.l2z, Ne.symm D.i2z⟩
  · exact ⟨Ne.symm n3, Ne.symm D.l2TO, D.TOi2⟩
  · exact ⟨Ne.symm n4, Ne.symm D.l2i1, D.i12⟩
  · exact ⟨Ne.symm n5, Ne.symm D.l1i2, Ne.symm D.i12⟩
end
/-! ### the loop of the block -/
def gd (ps : List (Str × Bool)) : List V := (ps.filter (·.2)).map fun p => V.str p.1
theorem gd_snoc (ps : List (Str × Bool)) (w : Str) (g : Bool) : gd (ps ++ [(w, g)]) = if g then gd ps ++ [V.str w] else gd ps := by
  cases g <;> simp [gd]
/-- zip over the lists a and b, after i turns -/
structure ZS (z TI TO i1 i2 a b i : Nat) (h : Heap) : Prop where
  z : IsZip h z TI TO .none
  ti : IsPair h TI (.ref i1) (.ref i2)
  to : ∃ x y, IsPair h TO x y
  l : h.IsListIter i1 a i
  r : h.IsListIter i2 b i
theorem ZS.keep {z TI TO i1 i2 a b i : Nat} {h h' : Heap} (q : ZS z TI TO i1 i2 a b i h) (k : ∀ c ∈ [z, TI, TO, i1, i2], ∀ o, h.get? c = some o → h'.get? c = some o) : ZS z TI TO i1 i2 a b i h' :=
  let ⟨x, y, t⟩ := q.to
  ⟨k z (by simp) _ q.z, k TI (by simp) _ q.ti, ⟨x, y, k TO (by simp) _ t⟩, q.l.at (k i1 (by simp)), q.r.at (k i2 (by simp))⟩
theorem ZS.there {z TI TO i1 i2 a b i : Nat} {h : Heap} (q : ZS z TI TO i1 i2 a b i h) : ∀ c ∈ [z, TI, TO, i1, i2], ∃ o, h.get? c = some o ∧ ∀ v, o.data ≠ .cell v := by
  obtain ⟨qz, qt, ⟨x, y, qo⟩, ⟨o1, e1, _, d1⟩, ⟨o2, e2, _, d2⟩⟩ := q
  simp only [List.mem_cons, List.not_mem_nil, or_false, forall_eq_or_imp, forall_eq]
  exact ⟨⟨_, qz, nofun⟩, ⟨_, qt, nofun⟩, ⟨_, qo, nofun⟩, ⟨_, e1, by rw [d1]; nofun⟩, ⟨_, e2, by rw [d2]; nofun⟩⟩
theorem pick_loop {B : Cx} {jw jg : Nat} {z TI TO i1 i2 a b D : Addr} {ws : List Str} {gs : List Bool} {H0 : Hp} {σ0 : L2.St} {k : Nat} {p1 p2 p3 p4 tp pos : Pos} {iter : Expr} {scope : Scope} {R : Result → Shared → Prop}
    (xf : ∀ e s, ¬ B.xe e s) (hN : B.N.Nodup) (hw : B.N[jw]? = some ("word" : Str)) (hg : B.N[jg]? = some ("good" : Str)) (ne : jw ≠ jg) (lw : B.env.scope.names.lookup ("word" : Str) = some .local) (lg : B.env.scope.names.lookup ("good" : Str) = some .local)
    (ap : ZipApart z TI TO i1 i2 a b) (fpo : ∀ c ∈ [z, TI, TO, i1, i2], ∀ H, H c = none → FpOk B [] H c) (f0 : ∀ c ∈ [z, TI, TO, i1, i2], H0 c = none) (hD : D ∉ [z, TI, TO, i1, i2])
    (hx : ∀ pins σ H s, Inv B pins σ H s → ∃ x1, x1 ∉ [z, TI, TO, i1, i2] ∧ HotAt B.A x1 s.heap)
    (ha : ∀ l, SqL B.K (upd H0 D (.lst l)) a (ws.map V.str)) (hb : ∀ l, SqL B.K (upd H0 D (.lst l)) b (gs.map V.bl)) (hz : ws.length < sizeLine) (hl : ws.length = gs.length) (z1 : ∀ v, σ0[jw]? ≠ some (some v)) (z2 : ∀ v, σ0[jg]? ≠ some (some v))
    (done : ∀ s', Inv B [] σ0 (upd H0 D (.lst (gd (ws.zip gs)))) s' → R (.ok .next) s')
    {i : Nat} {s : Shared} (I : Inv B [] σ0 (upd H0 D (.lst (gd ((ws.zip gs).take i)))) s) (st : ZS z TI TO i1 i2 a b i s.heap) (hi : i ≤ ws.length) :
    codeAny (model B.prog B.w) B.A (.compLoop (.ListComp (.Name "word" p3) [⟨.Tuple [.Name "word" p1, .Name "good" p2] k tp, iter, [.Name "good" p4], 0⟩] scope pos) 0 (.ref z) (.ref D) B.env) R s := by
  refine compLoop_any (fun n s => ∃ i, n + i = ws.length ∧ Inv B [] σ0 (upd H0 D (.lst (gd ((ws.zip gs).take i)))) s ∧ ZS z TI TO i1 i2 a b i s.heap) ?_ (ws.length - i) ⟨i, by omega, I, st⟩
  rintro n s ⟨i, hi, I, st⟩
  obtain ⟨x1, nx, hot⟩ := hx _ _ _ _ I
  obtain ⟨its, rv, pa, _⟩ := I.list (ha _)
  obtain ⟨jts, rw_, pb, _⟩ := I.list (hb _)
  have e1 : its.length = ws.length := by rw [← rv.length]; simp
  have e2 : jts.length = gs.length := by rw [← rw_.length]; simp
  have fr : ∀ l, ∀ c ∈ [z, TI, TO, i1, i2], FpOk B [] (upd H0 D (.lst l)) c := fun l c hc => fpo c hc _ (by rw [upd_ne (fun e : c = D => hD (e ▸ hc))]; exact f0 c hc)
  obtain ⟨qx, qy, tO⟩ := st.to
  by_cases last : i = ws.length
  · refine zip_out_hot hot ap nx st.z st.ti tO st.l st.r pa.isList pb.isList (by simp [e1]; omega) (by simp [e2]; omega) (.inl (by simp [e1]; omega)) fun h' tk kp => done _ ?_
    have I' := I.turnedL (t' := tk) (h' := h') (ch := [z, TI, TO, i1, i2]) (fun c o hc e => kp c o (fun q => hc (by simp [q])) (fun q => hc (by simp [q])) (fun q => hc (by simp [q])) (fun q => hc (by simp [q])) e) (fr _)
    rw [List.take_of_length_le (by simp; omega)] at I'
    exact I'
  have lt : i < ws.length := by omega
  have lt' : i < gs.length := by omega
  obtain ⟨u, hu, ru⟩ := rv.get (i := i) (x := V.str (ws[i]'lt)) (by simp [lt])
  obtain ⟨v, hv, rv'⟩ := rw_.get (i := i) (x := V.bl (gs[i]'lt')) (by simp [lt'])
  refine wpAny_pyNext_zip_item ap st.z st.ti tO st.l st.r pa.isList pb.isList (x := u) (y := v) (by simpa using hu) (by simpa using hv) fun h1 z1' t1 l1 r1 hT _ k1 => ?_
  refine wpAny_letOwnedTupleGo_zip (s := { s with heap := h1 }) z1' fun h2 z2' sb => ?_
  have lz : z < s.heap.objs.size := Heap.lt_size st.z
  have on : ∀ c o, c ≠ z → h1.get? c = some o → h2.get? c = some o := fun c o q e => (sb.2 c q).trans e
  have st2 : ZS z TI TO i1 i2 a b (i + 1) h2 := ⟨z2', on _ _ ap.TIz (k1 _ _ ap.TIz ap.TITO ap.TIi1 ap.TIi2 st.ti), ⟨u, v, on _ _ ap.TOz t1⟩, l1.at fun o => on _ o ap.i1z, r1.at fun o => on _ o ap.i2z⟩
  have old : ∀ c o, c ∉ [z, TI, TO, i1, i2] → s.heap.get? c = some o → h2.get? c = some o := fun c o hc e =>
    on c o (fun q => hc (by simp [q])) (k1 c o (fun q => hc (by simp [q])) (fun q => hc (by simp [q])) (fun q => hc (by simp [q])) (fun q => hc (by simp [q])) e)
  have I2 := (I.turnedL (t' := s.toks) (h' := h2) old (fr _)).pinned (fr _) st2.there
  refine pair_hot (s := { s with heap := h2 }) (hot_keep hot fun o => old x1 o nx) (on _ _ (Nat.ne_of_gt lz) hT) rfl fun h3 k3 => ?_
  have I3 := I2.kept (t' := s.toks) k3
  refine wpAny_assign_Name (store_ok2 I3 hN hw (.inl lw) ru (fun s4 I4 _ => ?_) (.inr lw))
  refine wpAny_assign_Name (store_ok2 I4 hN hg (.inl lg) rv' (fun s5 I5 _ => ?_) (.inr lg))
  have lenw : jw < σ0.length := by rw [I.len]; exact (List.getElem?_eq_some_iff.mp hw).1
  have leng : jg < σ0.length := by rw [I.len]; exact (List.getElem?_eq_some_iff.mp hg).1
  -- after the turn
  have fin : ∀ {s' : Shared} {l : List V}, l = gd ((ws.zip gs).take (i + 1)) → Inv B ([] ++ pinsAt [z, TI, TO, i1, i2] h2) ((σ0.set jw (some (.str ws[i]))).set jg (some (.bl gs[i]))) (upd H0 D (.lst l)) s' →
      ∃ m, m < n ∧ ∃ i, m + i = ws.length ∧ Inv B [] σ0 (upd H0 D (.lst (gd ((ws.zip gs).take i)))) s' ∧ ZS z TI TO i1 i2 a b i s'.heap := fun {s' l} e J => by
    subst e
    refine ⟨n - 1, by omega, i + 1, by omega, J.unpinned.weak (by simp) fun j x q => ?_, st2.keep fun c hc o q => (J.pin (c, o) (List.mem_append_right _ (List.mem_append_right _ (mem_pinsAt hc q)))).1⟩
    have n1 : jw ≠ j := fun e => z1 x (e ▸ q)
    have n2 : jg ≠ j := fun e => z2 x (e ▸ q)
    rw [List.getElem?_set_ne n2, List.getElem?_set_ne n1]
    exact q
  have more : gd ((ws.zip gs).take (i + 1)) = if gs[i] then gd ((ws.zip gs).take i) ++ [V.str ws[i]] else gd ((ws.zip gs).take i) := by
    rw [← gd_snoc, List.take_succ_eq_append_getElem (by simp; omega)]; simp
  have vg : Vis B.env.scope ("good" : Str) := .inl lg
  have vw : Vis B.env.scope ("word" : Str) := .inl lw
  have sg : ((σ0.set jw (some (.str ws[i]))).set jg (some (.bl gs[i])))[jg]? = some (some (.bl gs[i])) := List.getElem?_set_self (by simpa using leng)
  have sw : ((σ0.set jw (some (.str ws[i]))).set jg (some (.bl gs[i])))[jw]? = some (some (.str ws[i])) := by rw [List.getElem?_set_ne (Ne.symm ne)]; exact List.getElem?_set_self lenw
  refine wpAny_tests_one (wpAny_mono ((pt_val (pe_var hg vg)).run _ s5 _ _ (fun c H => c = gs[i] ∧ H = upd H0 D (.lst (gd ((ws.zip gs).take i)))) I5 ⟨V.bl gs[i], sg, _, rfl, rfl, rfl⟩) (fun c s6 ⟨H6, I6, ec, eH⟩ => ?_) fun e s z => (xf e s z).elim)
  subst eH
  rw [ec]
  cases eg : gs[i] with
  | false =>
    rw [eg] at more I6 fin
    exact fin more.symm I6
  | true =>
    rw [eg] at more I6 fin sw
    refine wpAny_mono ((pe_var hw vw).run _ s6 _ _ (fun c H => c = V.str ws[i] ∧ H = upd H0 D (.lst (gd ((ws.zip gs).take i)))) I6 ⟨_, sw, rfl, rfl⟩) (fun c s7 ⟨x, H7, I7, r7, ex, eH⟩ => ?_) fun e s z => (xf e s z).elim
    subst ex eH
    refine app_ok I7 upd_same ?_ r7 fun s8 I8 => ?_
    · refine Nat.lt_of_le_of_lt ?_ hz
      simp only [gd, List.length_map]
      exact Nat.le_trans (List.length_filter_le ..) (by simp; omega)
    · rw [upd_upd] at I8
      exact fin more.symm I8
/-! ### the statement -/
/-- the statement: at vs the two lists -/
def tPick (i : Nat) (t : L2.TA) : TS := fun De σ H => t σ H fun vs H1 => ∃ (a b : Addr) (ws : List Str) (gs : List Bool), vs = [.ref a, .ref b] ∧ Rd H1 a (.lst (ws.map V.str)) ∧ Rd H1 b (.lst (gs.map V.bl)) ∧ ws.length < sizeLine ∧ ws.length = gs.length ∧
  ∀ D, H1 D = none → De.nx (σ.set i (some (.ref D))) (upd H1 D (.lst (gd (ws.zip gs))))
theorem rd_upd {H : Hp} {a D : Addr} {o u : HO} (h : Rd H a o) (n : H D = none) : Rd (upd H D u) a o := by
  have q : a ≠ D := fun e => by
    subst e
    rcases h with h | ⟨_, h⟩ <;> rw [n] at h <;> cases h
  rcases h with h | ⟨v, h⟩
  · exact .inl (by rw [upd_ne q]; exact h)
  · exact .inr ⟨v, by rw [upd_ne q]; exact h⟩
theorem ps_pick {X : Cx} {i jw jg : Nat} {y : Str} {ea eb : Expr} {ta : L2.TA} {k : Nat} {py p p1 p2 p3 p4 tp pz pos spos : Pos} {scope : Scope} (c : HotC X) (hN : X.N.Nodup) (hy : X.N[i]? = some y) (hyl : X.env.scope.names.lookup y = some .local) (hw : X.N[jw]? = some ("word" : Str)) (hg : X.N[jg]? = some ("good" : Str)) (ne : jw ≠ jg)
    (hsw : swapsWith (.ListComp (.Name "word" p3) [⟨.Tuple [.Name "word" p1, .Name "good" p2] k tp, .Call (.Name "zip" p) [ea, eb] [] pz, [.Name "good" p4], 0⟩] scope pos) (some (.Name y py)) spos.line X.env = pure true)
    (ok : BlkOk X.N X.env.scope scope [("word", jw), ("good", jg)]) (lw : scope.names.lookup ("word" : Str) = some .local) (lg : scope.names.lookup ("good" : Str) = some .local) (gz : Gl X "zip") (mz : X.mg "zip" = none) (ha : PA X [ea, eb] ta)
    (hs : starEach [ea, eb] X.env = (false, eval ea X.env) :: starEach [eb] X.env := by rfl) (hpl : (backTo pz (starEach [eb] X.env)).any (·.1) = false := by rfl) :
    PS X (.Assign [.Name y py] (.ListComp (.Name "word" p3) [⟨.Tuple [.Name "word" p1, .Name "good" p2] k tp, .Call (.Name "zip" p) [ea, eb] [] pz, [.Name "good" p4], 0⟩] scope pos) spos) (tPick i ta) := by
  refine ⟨fun pins s σ H De I h => ?_⟩
  rw [exec_Assign_Name_used _ _ _ _ hsw]
  refine wpAny_bind (wpAny_standAt (wpAny_bind (wpAny_bind (m := comprehension _ scope X.env _ (newList []) false (eval _ X.env) (some (assign (.Name y py) X.env))) ?_)))
  refine wpAny_mono (Q := fun _ s' => SP X pins De .next s') ?_ (fun _ _ q => wpAny_pure (wpAny_pure q)) fun _ _ z => z
  refine wpAny_comprehension_free rfl (fun _ => rfl) (closure_ok fun n hn e => ?_) ok.kind (fun n hn e => by rw [ok.uniq n hn, e]) ?_
  · rcases ok.free n hn e with q | q
    · exact I.ok.has _ (.inl q)
    · exact I.ok.has _ (.inr q)
  -- zip(words, matching)
  refine Call_ (ld_blt I gz mz PyProof.Rows.boot_zip (PyProof.Rows.callWith_type1 (thn (ha.run pz pins s σ H _ I h) fun us s1 ⟨vs, H1, I1, r1, a, b, ws, gs, ev, ra, rb, hz, hl, q⟩ => ?_) hs hpl))
  subst ev
  obtain ⟨u, u', rfl, ru, ru'⟩ := vals2 r1
  cases ru
  cases ru'
  obtain ⟨its, _, pa, _⟩ := I1.list (.inl ra)
  obtain ⟨jts, _, pb, _⟩ := I1.list (.inl rb)
  refine call_zip_2 pa.isList pb.isList fun h' hz' hTI hTO g1 g2 sz kp => wpAny_pyIter_zip hz' ?_
  have I2 : Inv X pins σ H1 { s1 with heap := h' } := I1.kept (t' := s1.toks) kp
  have ap : ZipApart (s1.heap.objs.size + 4) (s1.heap.objs.size + 2) (s1.heap.objs.size + 3) s1.heap.objs.size (s1.heap.objs.size + 1) a b := PySem.W.ktu_apart _ a b pa.lt pb.lt
  have st : ZS (s1.heap.objs.size + 4) (s1.heap.objs.size + 2) (s1.heap.objs.size + 3) s1.heap.objs.size (s1.heap.objs.size + 1) a b 0 h' := ⟨hz', hTI, ⟨_, _, hTO⟩, g1, g2⟩
  generalize hfp : [s1.heap.objs.size + 4, s1.heap.objs.size + 2, s1.heap.objs.size + 3, s1.heap.objs.size, s1.heap.objs.size + 1] = fp
  have new : ∀ c ∈ fp, s1.heap.objs.size ≤ c ∧ c < h'.objs.size := fun c hc => by
    subst hfp
    simp only [List.mem_cons, List.not_mem_nil, or_false] at hc
    omega
  -- the new list, the block's names
  refine wpAny_newObj_type (newEnv_comp ?_) (by show 0 ≤ sizeLine; decide)
  have hDn : H1 h'.objs.size = none := I2.hok.fresh (Nat.le_refl _)
  have I3 : Inv X pins σ (upd H1 h'.objs.size (.lst [])) { s1 with heap := h'.push { cls := .type "list", data := .seq ([] : List Value).toArray } } :=
    I2.laid (t' := s1.toks) (fun b o e => Heap.get?_push_of_some _ e) (Nat.le_refl _) ⟨Nat.zero_le _, [], 0, .nil, Heap.get?_push_size _ rfl⟩
  generalize hD : h'.objs.size = D at hDn I3
  generalize hs3 : ({ s1 with heap := h'.push { cls := .type "list", data := .seq ([] : List Value).toArray } } : Shared) = s3 at I3 ⊢
  have k3 : ∀ b o, h'.get? b = some o → s3.heap.get? b = some o := by subst hs3; exact fun b o e => Heap.get?_push_of_some _ e
  have z3 : s3.heap.objs.size = D + 1 := by subst hs3 hD; exact Heap.size_push ..
  have f3 : ∀ c ∈ fp, FpOk X pins (upd H1 D (.lst [])) c ∧ c < s3.heap.objs.size := fun c hc => by
    have := new c hc
    exact ⟨I1.fpOk this.1 (by rw [upd_ne (Nat.ne_of_lt (hD ▸ this.2))]; exact I1.hok.fresh this.1), by rw [z3]; exact Nat.lt_succ_of_lt (hD ▸ this.2)⟩
  have I4 := block_start I3 ok hN f3
  generalize hB : X.blk s3 (upd H1 D (.lst [])) scope (compEnvC scope (cellsFrom (s3.heap.objs.size + 1) scope.names (cloFrom X.env.cells scope.names [])) s3.heap.objs.size X.env) fp = B at I4
  have st4 : ZS (s1.heap.objs.size + 4) (s1.heap.objs.size + 2) (s1.heap.objs.size + 3) s1.heap.objs.size (s1.heap.objs.size + 1) a b 0 (pushCells (s3.heap.push { cls := .type "dict", data := .dict #[] }) scope.names) :=
    st.keep fun c _ o e => pushCells_keeps _ _ _ _ (Heap.get?_push_of_some _ (k3 c o e))
  -- what is known of the block
  have mem : ∀ {n : Str}, scope.names.lookup n = some .local → (compEnvC scope (cellsFrom (s3.heap.objs.size + 1) scope.names (cloFrom X.env.cells scope.names [])) s3.heap.objs.size X.env).scope.names.lookup n = some .local := fun e => lookup_relabel_local e
  have hot : ∀ pins σ H s, Inv B pins σ H s → ∃ x1, x1 ∉ fp ∧ HotAt B.A x1 s.heap := by
    subst hB
    obtain ⟨q, ⟨hh, v1, e1, c1⟩, hq⟩ := c
    obtain ⟨g, n, nl, nf, _⟩ := I1.pin q (List.mem_append_left _ hq)
    have lt : q.1 < s1.heap.objs.size := Heap.lt_size g
    have no : q.1 ∉ fp := fun m => Nat.lt_irrefl _ (Nat.lt_of_lt_of_le lt (new _ m).1)
    refine fun pins' σ' H' s' J => ⟨q.1, no, hh, q.2, v1, J.base.keep q.1 q.2 (k3 _ _ (kp _ _ g)) ?_ (fun m => ?_) no, e1, c1⟩
    · show upd H1 D _ q.1 = none
      rw [upd_ne (Nat.ne_of_lt (hD ▸ Nat.lt_of_lt_of_le lt (by omega)))]
      exact n
    · exact (List.mem_cons.mp (I1.stkSub q.1 m)).elim nl nf
  have pro : B.prog = X.prog ∧ B.w = X.w ∧ B.A = X.A ∧ B.K = X.K ∧ B.N = X.N ∧ B.env = compEnvC scope (cellsFrom (s3.heap.objs.size + 1) scope.names (cloFrom X.env.cells scope.names [])) s3.heap.objs.size X.env := by subst hB; exact ⟨rfl, rfl, rfl, rfl, rfl, rfl⟩
  obtain ⟨eP, ew, eA, eK, eN, eE⟩ := pro
  have fpo : ∀ c ∈ fp, ∀ H, H c = none → FpOk B [] H c := by
    subst hB
    exact fun c hc H n => ⟨n, (I4.ok.exf c hc).1, I4.ok.exfs c hc, .inl hc, (I4.ok.exf c hc).2, fun p hp => by cases hp⟩
  have nD : D ∉ fp := fun m => Nat.lt_irrefl _ (hD ▸ (new _ m).2)
  have slot : ∀ {j : Nat}, j = jw ∨ j = jg → ∀ v, (wipe σ [jw, jg])[j]? ≠ some (some v) := fun hj v e => (wipe_some e).2 (by simpa using hj)
  have done : ∀ s', Inv B [] (wipe σ [jw, jg]) (upd H1 D (.lst (gd (ws.zip gs)))) s' → compPost (model X.prog X.w) X.A X.xe (some (assign (.Name y py) X.env)) (fun _ s' => SP X pins De .next s') (.ref D) s3.heap.objs.size (.ok .next) s' := fun s' J => by
    subst hB
    have I7 : Inv X pins σ (upd H1 D (.lst (gd (ws.zip gs)))) s' := I3.call' (ch := fp) J.os J.base J.hok J.bare fun c hc => ⟨(f3 c hc).1.2.2.2.1, (f3 c hc).1.2.1, (f3 c hc).1.2.2.2.2.1, (f3 c hc).1.2.2.2.2.2⟩
    obtain ⟨m, ns, _⟩ := J.loc
    obtain ⟨q0, q1, q2, q3, q4, q5⟩ := I3.fpOk (Nat.le_refl _) (show (upd H1 D (.lst (gd (ws.zip gs)))) s3.heap.objs.size = none from J.free)
    refine wpAny_assign_Name (store_ok2 (v := V.ref D) I7 hN hy (.inl hyl) rfl (fun s8 I8 ⟨e, sb, he⟩ => ⟨m, ns.sameBut sb ?_, fun h9 sb9 => ⟨_, _, I8.turned (t' := s8.toks) (fun b o nb z => (sb9.2 b nb).trans z) q0 q1 q3 q4 q5, q D hDn⟩⟩) (.inr hyl))
    rcases he with z | z
    · rw [z]; exact q1
    · exact fun w => q4 y e z w.symm
  have loop := pick_loop (B := B) (k := k) (p1 := p1) (p2 := p2) (p3 := p3) (p4 := p4) (tp := tp) (pos := pos) (iter := .Call (.Name "zip" p) [ea, eb] [] pz) (scope := scope) (ws := ws) (gs := gs) (H0 := H1) (D := D) (by subst hB; exact fun _ _ z => z) (by rw [eN]; exact hN) (by rw [eN]; exact hw) (by rw [eN]; exact hg) ne (by rw [eE]; exact mem lw) (by rw [eE]; exact mem lg)
    ap (hfp ▸ fpo) (hfp ▸ fun c hc => I1.hok.fresh (new c hc).1) (hfp ▸ nD) (hfp ▸ hot) (fun l => .inl (rd_upd ra hDn)) (fun l => .inl (rd_upd rb hDn)) hz hl (slot (.inl rfl)) (slot (.inr rfl)) done (i := 0) I4 st4 (Nat.zero_le _)
  rw [eP, ew, eA, eE] at loop
  exact codeAny_compStart_list loop (wpAny_pyIter_zip st4.z loop)
end DL

set_option maxHeartbeats 2000000
/-! D: defs called in an except suite with the caught exception; what they do there. -/
namespace DL
open PySem PySem.Spec PyProof.Rows L2
open L2H (HotC Hot1 RoomH PinOk cxH inv_startH)
variable {K : PySem.W.Frag} {F F' F0 F1 F2 G G' H H' H1 H2 : Hp} {M M' M1 : Mm} {ρ ρ' : Rho} {σ σ' : L2.St}
/-! ### isinstance of the pinned exception -/
theorem call_isP {X : Cx} {p : Addr × Obj} {D : Addr} (C : ExcC X.K D) (hz : Zc (.ref D) none p.2) (hf : ∃ vs, p.2.data = .fields vs) (hp : p ∈ X.pn) (hh : X.A.handled = some (.ref p.1)) : CallR X (.builtin "isinstance") (rIsE X.K D p.1) := fun pins s σ H xs us Q I r h => by
  obtain ⟨g, n, nl, nf, _⟩ := I.pin p (List.mem_append_left _ hp)
  have eA : (X.suite p.1 ((p.1, p.2) :: (X.pn ++ pins))).A = X.A := by show Around.mark _ _ = _; unfold Around.mark; rw [← hh]; simp
  obtain ⟨vs, d⟩ := id hf
  have z := call_isE (X := X) C hz hf [] s σ H xs us Q (I.suite g d n nl nf) r h
  rw [eA] at z
  exact wpAny_mono z (fun u s' ⟨v, H', J, q⟩ => ⟨v, H', J.unsuite I.ok, q⟩) fun _ _ f => f.elim
/-- isinstance(e, C): by the classes -/
def gIsE (a : Addr) (f : Value → Option Bool) : GDL := fun ds M Q => match ds with
  | [.obj b, .raw (.ref C)] => b = a ∧ ∃ k, f (.ref C) = some k ∧ Q (.bl k) M
  | [.obj b, .raw (.ty T)] => b = a ∧ ∃ k, f (.type T) = some k ∧ Q (.bl k) M
  | _ => False
theorem ok_isE {D a : Addr} : OkRL K (rIsE K D a) (gIsE a (PySem.W.kitOne K (.ref D))) := fun F G M H xs ds Q Qv r p h k => by
  unfold gIsE at h
  split at h
  · obtain ⟨rfl, b, e, h⟩ := h
    obtain ⟨v, w, rfl, p1, p2⟩ := p.two
    cases p1; cases p2
    exact ⟨_, _, b, rfl, fun u z => z, e, k.here r (.bl b) h⟩
  · obtain ⟨rfl, b, e, h⟩ := h
    obtain ⟨v, w, rfl, p1, p2⟩ := p.two
    cases p1; cases p2
    exact ⟨_, _, b, rfl, fun u z => z, e, k.here r (.bl b) h⟩
  · exact h.elim
/-! ### a def called there -/
/-- a def's call, up to its body -/
theorem enter {P : Program} {w : World} {K : PySem.W.Frag} {x qual : Str} {st : Stmt} {f : Addr} {fd : FuncData} {N ps : List Str} {A : Around} {s : Shared} {args : Args} {us : List Value} {R : Result → Shared → Prop} (Fu : Fun K x qual st f fd) (S : FnScope N ps (defScope st)) (dep : A.depth < recursionLimit)
    (kin : K.In s.heap) (lim : s.heap.NoLimit) (bd : BindsTo s fd args (ps.zip us))
    (go : ∀ cdv s1, InCallC s s.heap.objs.size (bindL (envOfC qual (defScope st) s.heap.objs.size f cdv).kindOf (ps.zip us) fun _ => none) (cellsFrom (s.heap.objs.size + 1) (defScope st).names []) (bindC (envOfC qual (defScope st) s.heap.objs.size f cdv).kindOf (ps.zip us) fun _ => none) s1 →
      wpAny (model P w) (A.deeper (envOfC qual (defScope st) s.heap.objs.size f cdv)) (execs (defBody st) (envOfC qual (defScope st) s.heap.objs.size f cdv)) (fun fl s' => R (.ok (.ret (match fl with | .ret v => v | _ => .none))) s')
        (fun e s' => wpAny (model P w) (A.deeper (envOfC qual (defScope st) s.heap.objs.size f cdv)) (leaving (envOfC qual (defScope st) s.heap.objs.size f cdv) e) (fun _ s'' => R (.error e) s'') (fun e' s'' => R (.error e') s'') s') s1) :
    codeAny (model P w) A (.call (.ref f) args) R s := by
  obtain ⟨_, _, _, _, _, _, cdv, _, _, e, at', code⟩ := Fu.ex
  subst e
  have known : ∀ y ∈ ps.zip us, (defScope st).names.lookup y.1 = some .local ∨ ((defScope st).names.lookup y.1 = some .cell ∧ ((cellsFrom (s.heap.objs.size + 1) (defScope st).names []).lookup y.1).isSome = true) := fun y hy =>
    (S.par y.1 (List.of_mem_zip (a := y.1) (b := y.2) hy).1).imp id fun q => ⟨q, PySem.W.cellsFrom_some _ _ _ (.inl q)⟩
  exact codeAny_call_function dep (kin f _ at') rfl S.co S.gen rfl (PySem.W.codeRec_of kin code) (bd _ _ _ _ (wpAny_newFunctionEnv_cells S.kind known fun env ee s1 x => by
    subst ee
    exact ⟨lim.keeps x.toInCall.keep, codeAny_func (go cdv s1 x)⟩))
structure FnC (P : Program) (w : World) (K : PySem.W.Frag) (mg : Str → Option Value) (base : Heap) (k : Nat) (f : Addr) (fd : FuncData) (ps : List Str) (sp : Addr × Obj → Sp) : Prop where
  len : ∀ p vs H Q E, sp p vs H Q E → vs.length = ps.length
  run : ∀ (A : Around) (outer : List Env) (s : Shared) (H : Hp) (args : Args) (us : List Value) (vs : List V) (Q : VK) (E : XK) (p : Addr × Obj), RoomH k A → Hot1 A p → PinOk outer H s p → Env0 P w K mg base A outer s H → BindsTo s fd args (ps.zip us) → Vals vs us → sp p vs H Q E →
    codeAny (model P w) A (.call (.ref f) args) (CR (L2N.CX P w) outer P w H s Q E) s
/-- what a def hands back: its body's end, seen from the caller -/
theorem back {P : Program} {w : World} {K : PySem.W.Frag} {mg : Str → Option Value} {base : Heap} {N : List Str} {qual : Str} {scope : Scope} {f : Addr} {cd : Value} {A : Around} {outer : List Env} {s s' : Shared} {H : Hp} {E : XK} {Q : VK} {p : Addr × Obj} :
    ∀ fl, SP (cxH (L2N.CX P w) P w K mg base N qual scope f cd A outer s H E p) [] { nx := fun _ H' => Q .non H', rt := Q } fl s' → CR (L2N.CX P w) outer P w H s Q E (.ok (.ret (match fl with | .ret v => v | _ => .none))) s'
  | .next, ⟨_, H', J, q⟩ => ⟨.non, H', J.os, J.bare, J.base, J.hok, rfl, q⟩
  | .ret _, ⟨v, _, H', J, r, q⟩ => ⟨v, H', J.os, J.bare, J.base, J.hok, r, q⟩
  | .brk, ⟨_, _, _, q⟩ => q.elim
  | .cont, ⟨_, _, _, q⟩ => q.elim
theorem FunD.okH {P : Program} {w : World} {K : PySem.W.Frag} {mg : Str → Option Value} {base : Heap} {x qual : Str} {st : Stmt} {f : Addr} {fd : FuncData} {N ps : List Str} {k : Nat} {sp : Addr × Obj → SpD} (Fu : Fun K x qual st f fd) (S : FnScope N ps (defScope st)) (len : ∀ p ds M Q E, sp p ds M Q E → ds.length = ps.length)
    (hbody : ∀ (cdv : Value) (A : Around) (outer : List Env) (s : Shared) (H : Hp) (Ev : XK) (lo : Lo) (ds : List D) (M : Mm) (Q : D → Mm → Prop) (E : XD) (p : Addr × Obj), Hot1 A p → RoomH k (A.deeper (envOfC qual (defScope st) s.heap.objs.size f cdv)) → sp p ds M Q E →
      ∃ t, DPSs (cxH (L2N.CX P w) P w K mg base N qual (defScope st) f cdv A outer s H Ev p) lo (defBody st) t ∧ t { nx := fun _ M' => fin Q .non M', rt := fin Q } (startD N ds) M) :
    FnC P w K mg base (k + 1) f fd ps (fun p => liftSp K (sp p)) where
  len := fun p vs H Q E ⟨_, _, _, _, _, _, _, q, h, _⟩ => q.length.trans (len _ _ _ _ _ h)
  run := fun A outer s H args us vs Qv Ev p room hot pin e0 bd r ⟨F, G, M, ds, Q, E, rel, reps, h, kq, _⟩ => by
    have n1 : ds.length = ps.length := len _ _ _ _ _ h
    refine enter Fu S room.depth (e0.mod.kin.keeps fun b o e => (e0.bs b o e).1) (e0.mod.nolimit.keeps fun b o e => (e0.bs b o e).1) bd fun cdv s1 x => ?_
    obtain ⟨t, run, post⟩ := hbody cdv A outer s H Ev ⟨F, G⟩ ds M Q E p hot (room.deeper _) h
    have I := inv_startH (CX := L2N.CX P w) (K := K) (mg := mg) (base := base) (qual := qual) (f := f) (cd := cdv) (E := Ev) S pin e0 (reps.length.trans n1) r x
    have env : EnvR K F (startD N ds) (L2.start N vs) := by
      unfold startD L2.start
      rw [reps.length]
      exact env_start (N := N) _ reps
    refine wpAny_mono (run.run [] s1 (L2.start N vs) H { nx := fun _ H' => Qv .non H', rt := Qv } I ⟨F, G, startD N ds, M, _, ⟨Same.refl F, Same.refl G, rel, env⟩, post, ?_⟩) (fun fl s' q => back fl q) fun _ _ q => q
    exact ⟨fun _ _ _ _ _ u v _ z => fin_ok kq u v .non z, fun _ _ _ _ _ u v c z => fin_ok kq u v c z, fun _ _ _ _ _ _ _ _ => False.elim, fun _ _ _ _ _ _ _ _ => False.elim⟩
section
variable {X : Cx} {lo : Lo} {pos : Pos} {e : Expr} {es : List Expr} {k : Nat} {f : Addr} {fd : FuncData} {ps : List Str} {x : Str} {q : Pos} {t : TDA} {st : Stmt}
/-- its call -/
theorem FnC.call {sp : Addr × Obj → Sp} {pins : List (Addr × Obj)} {σ : L2.St} {H : Hp} {s : Shared} {Q : VK} {E : XK} {us : List Value} {vs : List V} {p : Addr × Obj} (F : FnC X.prog X.w X.K X.mg X.base k f fd ps sp) (hr : RoomH k X.A) (hot : Hot1 X.A p) (hp : p ∈ X.pn) (hb : Binds X.K fd ps []) (hx : PassesAt (L2N.CX X.prog X.w) X σ E)
    (I : Inv X pins σ H s) (r : Vals vs us) (h : sp p vs H Q E) : wpAny (model X.prog X.w) X.A (call (.ref f) us) (EP X pins σ Q) X.xe s := by
  have bd : BindsTo s fd ⟨us, []⟩ (ps.zip us) := by
    simpa using hb s us I.kIn (by simpa using (r.length.symm.trans (F.len _ _ _ _ _ h)))
  obtain ⟨g, n, nl, nf, nc⟩ := I.pin p (List.mem_append_left _ hp)
  refine wpAny_call (codeAny_mono (F.run X.A X.stack s H ⟨us, []⟩ us vs Q E p hr hot ⟨g, n, fun m => ?_, nc⟩ I.env0 bd r h) fun res s' q => ?_)
  · rcases List.mem_cons.mp (I.stkSub p.1 m) with z | z
    · exact nl z
    · exact nf z
  · match res, q with
    | .error e, q => exact hx pins H s e s' I q
    | .ok (.ret _), q => exact I.after q
theorem passN' {σ : L2.St} : PassesAt (L2N.CX X.prog X.w) X σ (wishD X.K lo noE) := fun _ _ _ _ _ _ h => by
  obtain ⟨_, _, _, _, _, _, _, _, _, _, _, _, _, _, _, _, _, _, _, z⟩ := h
  exact z.elim
theorem de_callC {sp : Addr × Obj → SpD} {p : Addr × Obj} (Df : DefF X.K X.mg x st ps) (Fk : FnC X.prog X.w X.K X.mg X.base k Df.f Df.fd ps (fun p => liftSp X.K (sp p))) (hr : RoomH k X.A) (hot : Hot1 X.A p) (hp : p ∈ X.pn) (ha : DPA X lo (e :: es) t) (hg : Gl X x := by rfl)
    (hdb : (x == ("__debug__" : Str)) = false := by decide) (he : starEach (e :: es) X.env = (false, eval e X.env) :: starEach es X.env := by rfl) (hpl : (backTo pos (starEach es X.env)).any (·.1) = false := by rfl) :
    DPE X lo (.Call (.Name x q) (e :: es) [] pos) (eCall (sp p) noE t) :=
  ⟨fun pins s σ H Q I ⟨F, G, ρ, M, Qd, a, h, kq⟩ => by
    have arg := ha.run pos pins s σ H (fun vs H1 => ∃ F1 ds M1, Same F F1 ∧ RelM X.K F1 G M1 H1 ∧ Reps X.K F1 vs ds ∧ sp p ds M1 Qd noE) I ⟨F, G, ρ, M, _, a, h, fun _ _ F1 ds M1 u v c z => ⟨F1, ds, M1, u, v, c, z⟩⟩
    refine wpAny_Call_Name_kw (ld_glob I hg Df.g (PySem.W.callWith_K (h₀ := X.base) I.ok.mod.kin Df.fu.kp (thn arg fun us s1 ⟨vs, H1, I1, r, F1, ds, M1, u, v, c, z⟩ => ⟨I1.kIn, ?_⟩) he hpl) hdb)
    exact Fk.call hr hot hp Df.b (passN' (lo := lo)) I1 r (sp_run a.g (a.f.trans u) v c z fun v' H' F' d M' u' => kq v' H' F' d M' (u.trans u'))⟩
end
/-! ### the picking statement -/
def pickD (ws : List Str) (gs : List Bool) : List D := ((ws.zip gs).filter (·.2)).map fun p => .str p.1
def dPick (i : Nat) (t : TDA) : TDS := fun De ρ M => t ρ M fun ds M1 => ∃ ws gs, ds = [.lst (ws.map .str), .lst (gs.map .bl)] ∧ ws.length < sizeLine ∧ ws.length = gs.length ∧ De.nx (ρ.set i (some (.lst (pickD ws gs)))) M1
theorem reps_str {K : PySem.W.Frag} {F : Hp} : ∀ {ws : List Str} {vs : List V}, Reps K F vs (ws.map .str) → vs = ws.map .str
  | [], _, .nil => rfl
  | _ :: _, _, .cons (.str _) t => by rw [reps_str t]; rfl
theorem reps_bl {K : PySem.W.Frag} {F : Hp} : ∀ {gs : List Bool} {vs : List V}, Reps K F vs (gs.map .bl) → vs = gs.map .bl
  | [], _, .nil => rfl
  | _ :: _, _, .cons (.bl _) t => by rw [reps_bl t]; rfl
theorem str_reps {K : PySem.W.Frag} {F : Hp} : ∀ ws : List (Str × Bool), Reps K F (ws.map fun p => V.str p.1) (ws.map fun p => D.str p.1)
  | [] => .nil
  | p :: ws => .cons (.str p.1) (str_reps ws)
section
variable {X : Cx} {lo : Lo} {e : Expr} {te : TDE} {pos : Pos}
theorem ds_pick {i jw jg : Nat} {y : Str} {ea eb : Expr} {ta : TDA} {k : Nat} {py p p1 p2 p3 p4 tp pz spos : Pos} {scope : Scope} (c : HotC X) (hN : X.N.Nodup) (hy : X.N[i]? = some y) (hyl : X.env.scope.names.lookup y = some .local) (hw : X.N[jw]? = some ("word" : Str)) (hg : X.N[jg]? = some ("good" : Str)) (ne : jw ≠ jg)
    (hsw : swapsWith (.ListComp (.Name "word" p3) [⟨.Tuple [.Name "word" p1, .Name "good" p2] k tp, .Call (.Name "zip" p) [ea, eb] [] pz, [.Name "good" p4], 0⟩] scope pos) (some (.Name y py)) spos.line X.env = pure true)
    (ok : BlkOk X.N X.env.scope scope [("word", jw), ("good", jg)]) (lw : scope.names.lookup ("word" : Str) = some .local) (lg : scope.names.lookup ("good" : Str) = some .local) (gz : Gl X "zip") (mz : X.mg "zip" = none) (ha : DPA X lo [ea, eb] ta)
    (hs : starEach [ea, eb] X.env = (false, eval ea X.env) :: starEach [eb] X.env := by rfl) (hpl : (backTo pz (starEach [eb] X.env)).any (·.1) = false := by rfl) :
    DPS X lo (.Assign [.Name y py] (.ListComp (.Name "word" p3) [⟨.Tuple [.Name "word" p1, .Name "good" p2] k tp, .Call (.Name "zip" p) [ea, eb] [] pz, [.Name "good" p4], 0⟩] scope pos) spos) (dPick i ta) :=
  PS.of (ps_pick c hN hy hyl hw hg ne hsw ok lw lg gz mz ha hs hpl) fun σ H Dv ⟨F, G, ρ, M, De, a, h, er⟩ => by
    refine ⟨F, G, ρ, M, _, a, h, fun vs H1 F1 ds M1 s1 r1 p1 ⟨ws, gs, e, hz, hl, q⟩ => ?_⟩
    subst e
    obtain ⟨v, w, rfl, pv, pw⟩ := p1.two
    cases pv with
    | @lst a1 vs1 _ q1 t1 =>
      cases pw with
      | @lst a2 vs2 _ q2 t2 =>
        refine ⟨a1, a2, ws, gs, rfl, Same.rd r1.fz (reps_str t1 ▸ q1), Same.rd r1.fz (reps_bl t2 ▸ q2), hz, hl, fun D n => ?_⟩
        have new : Same F1 (upd F1 D (.lst (gd (ws.zip gs)))) := same_new (r1.free n)
        exact er.nx _ _ _ _ M1 (s1.trans new) (r1.newF n) ((a.env.mono (s1.trans new)).set (.lst (.inl upd_same) (str_reps _)) i) q
/-! ### ''.join -/
def strsOf : List D → Option (List Str)
  | [] => some []
  | .str x :: r => (strsOf r).map (x :: ·)
  | _ :: _ => none
theorem reps_strs {K : PySem.W.Frag} {F : Hp} : ∀ {vs : List V} {ds : List D} {ys : List Str}, Reps K F vs ds → strsOf ds = some ys → vs = ys.map V.str
  | _, _, ys, .nil, h => by cases h; rfl
  | _, _, ys, @Reps.cons _ _ v d vs ds r t, h => by
    cases r with
    | str x =>
      have h : (strsOf ds).map (x :: ·) = some ys := h
      cases e : strsOf ds with
      | none => rw [e] at h; cases h
      | some zs => rw [e] at h; cases h; rw [reps_strs t e]; rfl
    | non => cases h
    | bl => cases h
    | int => cases h
    | tup => cases h
    | lst => cases h
    | ins => cases h
    | obj => cases h
    | raw => cases h
    | rng => cases h
    | kl => cases h
    | dic => cases h
def eJoin (to te : TDE) : TDE := fun ρ M Q => to ρ M fun d M1 => ∃ a, d = .str a ∧ te ρ M1 fun e M2 => ∃ ds ys, resL M2 e = some ds ∧ strsOf ds = some ys ∧ (ys.map (·.length)).sum + ys.length * a.length ≤ 16777216 ∧ Q (.str (Txt.join a ys)) M2
theorem de_join {o : Expr} {to : TDE} {apos : Pos} (ho : DPE X lo o to) (he : DPE X lo e te) (hs : starEach [e] X.env = [(false, eval e X.env)] := by rfl) (hbase : attributeBase o "join" X.env (eval o X.env) = eval o X.env := by rfl) (hline : (apos.endLine == pos.line) = true := by rfl) :
    DPE X lo (.Call (.Attribute o "join" apos) [e] [] pos) (eJoin to te) :=
  PE.of (pe_join ho he hs hbase hline) fun σ H Qv ⟨F, G, ρ, M, Q, a, h, q⟩ => by
    refine ⟨F, G, ρ, M, _, a, h, fun v H1 F1 d M1 s1 r1 p1 h1 => ?_⟩
    obtain ⟨a1, rfl, h1⟩ := h1
    cases p1
    refine ⟨⟨_, rfl⟩, F1, G, ρ, M1, _, a.next s1 r1, h1, fun w H2 F2 e M2 s2 r2 p2 h2 => ?_⟩
    obtain ⟨ds, ys, e1, e2, hz, h2⟩ := h2
    obtain ⟨b, vs, rfl, rd, rp⟩ := resL_ok r2 p2 e1
    have ev := reps_strs rp e2
    subst ev
    exact ⟨_, b, ys, rfl, rfl, .inl (.inl rd), hz, q _ H2 F2 _ M2 (s1.trans s2) r2 (.str _) h2⟩
end
end DL

/-! D: a try with two named clauses that catch all that the body lets out. -/
namespace DL
open PySem PySem.Spec PyProof.Rows L2
open L2N (Zn)
/-- the exception at a has come down in the frame of X; g is the state without it, B the ground below both -/
structure Down (X : Cx) (ps : List (Addr × Obj)) (B : Heap) (g : Shared) (a : Addr) (cls : Value) (d : Option Addr) (σ : L2.St) (H : Hp) (s : Shared) : Prop where
  inv : Inv X ps σ H g
  low : ∀ b o, g.heap.get? b = some o → b ∉ frs X.stack → B.get? b = some o
  sl : g.heap.UpToSlots s.heap
  fly : HandSPX.FlyingZ B X.stack a (Zn cls d) s.heap
  free : H a = none
  os : s.os = g.os
  bare : AllBare s.gens
namespace Down
variable {X : Cx} {ps : List (Addr × Obj)} {B : Heap} {g s : Shared} {a : Addr} {cls c : Value} {d : Option Addr} {σ : L2.St} {H : Hp} {x n : Str}
theorem here (w : Down X ps B g a cls d σ H s) : Inv X ps σ H s := w.inv.landed w.low w.fly.1 w.sl w.os w.bare
theorem move (w : Down X ps B g a cls d σ H s) {h : Heap} (f : HandSPX.FlyingZ B X.stack a (Zn cls d) h) (u : s.heap.UpToSlots h) : Down X ps B g a cls d σ H { s with heap := h } :=
  ⟨w.inv, w.low, w.sl.trans u, f, w.free, w.os, w.bare⟩
theorem apart (w : Down X ps B g a cls d σ H s) : a ∉ frs X.stack := fun m => by
  obtain ⟨oe, vs, e, _, f⟩ := w.fly.there
  obtain ⟨_, u, eu, no⟩ := w.fly.2.2.1.mem m
  exact no vs ((congrArg Obj.data (Option.some.inj (eu.symm.trans e))).trans f)
/-- within a clause: the exception's object is pinned -/
theorem within (w : Down X ps B g a cls d σ H s) (hs : X.stack = X.env :: X.outer) (hf : X.env.frame = some X.env.locals) : ∃ oe, Zn cls d oe ∧ (∃ vs, oe.data = .fields vs) ∧ Inv (X.suite a ((a, oe) :: (X.pn ++ ps))) [] σ H s := by
  obtain ⟨oe, vs, e, z, f⟩ := w.fly.there
  have no := w.apart
  rw [hs] at no
  have mem : ∀ ev ∈ X.env :: X.outer, ev.frame ≠ some a := fun ev hv q => no (List.mem_filterMap.mpr ⟨ev, hv, q⟩)
  refine ⟨oe, z, ⟨vs, f⟩, w.here.suite e f w.free (fun q => mem _ List.mem_cons_self (by rw [hf, q])) fun q => ?_⟩
  obtain ⟨ev, hv, e'⟩ := List.mem_filterMap.mp q
  exact mem ev (List.mem_cons_of_mem _ hv) e'
/-- the clause's class is looked up and asked -/
theorem asks (w : Down X ps B g a cls d σ H s) (hs : X.stack = X.env :: X.outer) (hf : X.env.frame = some X.env.locals) (nm : Names X x c) {b : Bool} (m : PySem.W.exmOne X.K cls c = some b) {p1 p2 : Pos} {R : Result → Shared → Prop} (r : R (.ok (if b then .brk else .next)) s) :
    codeAny (model X.prog X.w) (X.A.mark (some (.ref a))) (.handlers (.ref a) [.ExceptHandler (some (.Name x p1)) none [] p2] X.env) R s := by
  obtain ⟨oe, z, _, S⟩ := w.within hs hf
  have at_ := (S.pin (a, oe) (List.mem_append_left _ List.mem_cons_self)).1
  have ty : PySem.W.Looks (model X.prog X.w) s.heap (typeOf (.ref a)) cls := fun _ _ _ _ k q => wpAny_typeOf_ref (k _ _ at_) (by rw [z.1]; exact q)
  have mm := PySem.W.exm_one w.here.kIn ty m
  refine codeAny_handlers_test ?_
  rcases nm with ⟨gl, db, top | ⟨no, bi, nn⟩⟩
  · exact ld_glob (X := X.suite a ((a, oe) :: (X.pn ++ ps))) S gl top (mm.here r) db
  · exact ld_blt (X := X.suite a ((a, oe) :: (X.pn ++ ps))) S gl no bi (mm.here r) nn db
/-- a clause that does not fit -/
theorem skip (w : Down X ps B g a cls d σ H s) (hs : X.stack = X.env :: X.outer) (hf : X.env.frame = some X.env.locals) (nm : Names X x c) (m : PySem.W.exmOne X.K cls c = some false) {p1 p2 : Pos} {name : Option Str} {body : List Stmt} {rest : List ExceptHandler} {Q : Flow → Shared → Prop} {E : Value → Shared → Prop}
    (h : wpAny (model X.prog X.w) X.A (handleBy (.ref a) X.env rest) Q E s) : wpAny (model X.prog X.w) X.A (handleBy (.ref a) X.env (.ExceptHandler (some (.Name x p1)) name body p2 :: rest)) Q E s :=
  wpAny_handleBy_cons (w.asks hs hf nm m h) nofun
/-- the clause that fits: its suite, and the name goes -/
theorem take (w : Down X ps B g a cls d σ H s) (hs : X.stack = X.env :: X.outer) (hf : X.env.frame = some X.env.locals) (hN : X.N.Nodup) {i : Nat} (hi : X.N[i]? = some n) (hl : X.env.kindOf n = some .local) (nm : Names X x c) (m : PySem.W.exmOne X.K cls c = some true)
    {p1 p2 : Pos} {b0 : Stmt} {body : List Stmt} {rest : List ExceptHandler} {t : TS} {De : Ends}
    (su : ∀ (oe : Obj) (pn : List (Addr × Obj)), Zn cls d oe → (∃ vs, oe.data = .fields vs) → PSs (X.suite a ((a, oe) :: pn)) (b0 :: body) t)
    (h : t { nx := fun σ' H' => De.nx (σ'.set i none) H', rt := De.rt, bk := fun σ' H' => De.bk (σ'.set i none) H', ct := fun σ' H' => De.ct (σ'.set i none) H' } (σ.set i (some (.ref a))) H) :
    wpAny (model X.prog X.w) X.A (handleBy (.ref a) X.env (.ExceptHandler (some (.Name x p1)) (some n) (b0 :: body) p2 :: rest)) (SP X ps De) X.xe s := by
  refine wpAny_handleBy_cons (w.asks hs hf nm m (codeAny_handlers_suite_as (HandSPX.lands_againZ w.fly fun h' f u => ?_))) nofun
  obtain ⟨oe, z, vs, S⟩ := (w.move f u).within hs hf
  refine store_ok (X := X.suite a ((a, oe) :: (X.pn ++ ps))) (v := .ref a) S hN hi (.inl hl) rfl (fun s1 S1 => ?_) (.inr hl)
  refine wpAny_mono ((su oe (X.pn ++ ps) z vs).run [] s1 _ H _ S1 h) (fun fl s2 e => ?_) fun _ _ e => e.elim
  have goes : ∀ {σ2 : L2.St} {H2 : Hp} {R : Shared → Prop}, Inv (X.suite a ((a, oe) :: (X.pn ++ ps))) [] σ2 H2 s2 → (∀ s3, Inv X ps (σ2.set i none) H2 s3 → R s3) →
      wpAny (model X.prog X.w) X.A (do bindName X.env n .none; unbindBehindTheSuite X.env n p2) (fun _ => R) X.xe s2 := fun S2 k => gone_ok (S2.unsuite w.inv.ok) hN hi hl k
  match fl, e with
  | .next, ⟨_, _, S2, q⟩ => exact goes S2 fun _ J => ⟨_, _, J, q⟩
  | .brk, ⟨_, _, S2, q⟩ => exact goes S2 fun _ J => ⟨_, _, J, q⟩
  | .cont, ⟨_, _, S2, q⟩ => exact goes S2 fun _ J => ⟨_, _, J, q⟩
  | .ret _, ⟨_, _, _, S2, r, q⟩ => exact goes S2 fun _ J => ⟨_, _, _, J, r, q⟩
end Down
/-- what the body may let out: the first clause's, or the second one's -/
def wTwo (K : PySem.W.Frag) (i : Nat) (De : Ends) (c1 c2 : Value) (t1 t2 : Addr → Value → Option Addr → TS) : WX := fun cls d σ H =>
  let Dn : Ends := { nx := fun σ' H' => De.nx (σ'.set i none) H', rt := De.rt, bk := fun σ' H' => De.bk (σ'.set i none) H', ct := fun σ' H' => De.ct (σ'.set i none) H' }
  (PySem.W.exmOne K cls c1 = some true ∧ ∀ a, H a = none → t1 a cls d Dn (σ.set i (some (.ref a))) H) ∨
  (PySem.W.exmOne K cls c1 = some false ∧ PySem.W.exmOne K cls c2 = some true ∧ ∀ a, H a = none → t2 a cls d Dn (σ.set i (some (.ref a))) H)
section
variable {X : Cx} {n x1 x2 : Str} {c1 c2 : Value} {i : Nat} {body s1 s2 : List Stmt} {b1 b2 : Stmt} {q1 q2 p1 p2 pos : Pos} {tb : WX → TS} {t1 t2 : Addr → Value → Option Addr → TS}
theorem ps_two (hs : X.stack = X.env :: X.outer) (hf : X.env.frame = some X.env.locals) (hN : X.N.Nodup) (hi : X.N[i]? = some n) (hl : X.env.kindOf n = some .local) (n1 : Names X x1 c1) (n2 : Names X x2 c2)
    (hb : ∀ (W : WX) (pn : List (Addr × Obj)) (xe : Value → Shared → Prop), L2N.Takes (X.tr pn xe) W → PassesOwn (model X.prog X.w) X.A X.env xe → PSs (X.tr pn xe) body (tb W))
    (h1 : ∀ (a : Addr) (oe : Obj) (cls : Value) (d : Option Addr) (pn : List (Addr × Obj)), Zn cls d oe → (∃ vs, oe.data = .fields vs) → PSs (X.suite a ((a, oe) :: pn)) (b1 :: s1) (t1 a cls d))
    (h2 : ∀ (a : Addr) (oe : Obj) (cls : Value) (d : Option Addr) (pn : List (Addr × Obj)), Zn cls d oe → (∃ vs, oe.data = .fields vs) → PSs (X.suite a ((a, oe) :: pn)) (b2 :: s2) (t2 a cls d)) :
    PS X (.Try body [.ExceptHandler (some (.Name x1 q1)) (some n) (b1 :: s1) p1, .ExceptHandler (some (.Name x2 q2)) (some n) (b2 :: s2) p2] [] [] pos) (fun De σ H => tb (wTwo X.K i De c1 c2 t1 t2) De σ H) := by
  refine ⟨fun ps s σ H De I h => wpAny_Try_except ?_⟩
  have fr : X.A.frames = some (X.env :: X.outer) := I.ok.frames.trans (congrArg some hs)
  refine wpAny_mono ((hb _ (X.pn ++ ps) (fun e s' => wpAny (model X.prog X.w) X.A (noteFrame e X.env) (fun _ => wpAny (model X.prog X.w) X.A (setFlight e none) (fun _ => wpAny (model X.prog X.w) X.A (handleBy e X.env _) (SP X ps De) X.xe) X.xe) X.xe s')
    (fun u s' xe => ?_) PassesOwn.looking).run [] s σ H De (I.toTry _) h) (fun fl s' e => ?_) fun _ _ e => e
  · obtain ⟨a, B, g, ps', σ', H', cls, d, rfl, J, low, sl, sky, free, os, bare, w⟩ := xe
    have sky' : Sky B (X.env :: X.outer) a (Zn cls d) X.env.locals s'.heap := hs ▸ sky
    refine L2N.Sky.land Zn.steady fr hf sky' fun h' f u => ?_
    have dn : Down X ps B g a cls d σ' H' { s' with heap := h' } := ⟨J.ofTry I.ok, low, sl.trans u, hs ▸ f, free, os, bare⟩
    rcases w with ⟨m, w⟩ | ⟨m, m', w⟩
    · exact dn.take hs hf hN hi hl n1 m (fun oe pn z v => h1 a oe cls d pn z v) (w a free)
    · exact dn.skip hs hf n1 m (dn.take hs hf hN hi hl n2 m' (fun oe pn z v => h2 a oe cls d pn z v) (w a free))
  · match fl, e with
    | .next, ⟨_, _, J, q⟩ => exact wpAny_execs_nil ⟨_, _, J.ofTry I.ok, q⟩
    | .brk, ⟨_, _, J, q⟩ => exact ⟨_, _, J.ofTry I.ok, q⟩
    | .cont, ⟨_, _, J, q⟩ => exact ⟨_, _, J.ofTry I.ok, q⟩
    | .ret _, ⟨_, _, _, J, r, q⟩ => exact ⟨_, _, _, J.ofTry I.ok, r, q⟩
end
end DL

set_option maxHeartbeats 2000000
/-! D: try .. except A as e .. except B as e, the first clause never taken. -/
namespace DL
open PySem PySem.Spec PyProof.Rows L2
open L2N (Zn)
variable {K : PySem.W.Frag} {F F' F0 F1 F2 G G' H H' H1 H2 : Hp} {M M' M1 : Mm} {ρ ρ' : Rho} {σ σ' : L2.St}
theorem env_nonesL : ∀ σ : L2.St, EnvR K F (List.replicate σ.length none) σ
  | [] => .nil
  | _ :: r => .no (env_nonesL r)
def unsetD (i : Nat) (De : DEnds) : DEnds := { nx := fun ρ M => De.nx (ρ.set i none) M, rt := De.rt, bk := fun ρ M => De.bk (ρ.set i none) M, ct := fun ρ M => De.ct (ρ.set i none) M }
def dTry2 (n i : Nat) (LC : List Str) (tbd : XD → TDS) (tsn : Addr → Str → TDS) : TDS := fun De ρ M =>
  ∃ E : XD, tbd E De ρ M ∧ ∀ nm fs M', E nm fs M' → fs = [] ∧ nm ∈ LC ∧ ∀ a, tsn a nm (unsetD i De) ((List.replicate n none).set i (some (.obj a))) M'
theorem ps_no {X : Cx} {st : List Stmt} : PSs X st (fun _ _ _ => False) := ⟨fun _ _ _ _ _ _ h => h.elim⟩
section
variable {X : Cx} {lo : Lo} {x1 x2 n : Str} {c1 c2 : Value} {i : Nat} {body s1 s2 : List Stmt} {b1 b2 : Stmt} {np1 np2 pos pos1 pos2 : Pos} {tbd : XD → TDS} {tsn : Addr → Str → TDS} {LC : List Str}
theorem ds_try2 (hs : X.stack = X.env :: X.outer) (hf : X.env.frame = some X.env.locals) (hN : X.N.Nodup) (hi : X.N[i]? = some n) (hln : X.env.kindOf n = some .local) (hc1 : Names X x1 c1) (hc2 : Names X x2 c2)
    (hb : ∀ (E : XD) (lo2 : Lo) (pn : List (Addr × Obj)) (xe : Value → Shared → Prop), Same lo.F lo2.F → Same lo.G lo2.G → L2N.Takes (X.tr pn xe) (fun cls d _ H => wishD X.K lo2 E cls d H) → PassesOwn (model X.prog X.w) X.A X.env xe → DPSs (X.tr pn xe) lo2 body (tbd E))
    (hm1 : ∀ nm ∈ LC, PySem.W.exmOne X.K (.ref (exOf X.K nm)) c1 = some false) (hm2 : ∀ nm ∈ LC, PySem.W.exmOne X.K (.ref (exOf X.K nm)) c2 = some true)
    (hsu : ∀ (lo2 : Lo) (a : Addr) (oe : Obj) (nm : Str) (pn : List (Addr × Obj)), nm ∈ LC → Zn (.ref (exOf X.K nm)) none oe → (∃ vs, oe.data = .fields vs) → DPSs (X.suite a ((a, oe) :: pn)) lo2 (b2 :: s2) (tsn a nm)) :
    DPS X lo (.Try body [.ExceptHandler (some (.Name x1 np1)) (some n) (b1 :: s1) pos1, .ExceptHandler (some (.Name x2 np2)) (some n) (b2 :: s2) pos2] [] [] pos)
      (dTry2 X.N.length i LC tbd tsn) := by
  refine PS.of (ps_two (X := X) (n := n) (i := i) (t1 := fun _ _ _ _ _ _ => False) (t2 := fun a cls d Dv σ H => ∃ nm, nm ∈ LC ∧ cls = .ref (exOf X.K nm) ∧ d = none ∧ ∃ lo2, liftS X.K lo2 (tsn a nm) Dv σ H)
    (tb := fun W Dv σ H => ∃ E lo2, Same lo.F lo2.F ∧ Same lo.G lo2.G ∧ (∀ cls d σ H, σ.length = X.N.length → wishD X.K lo2 E cls d H → W cls d σ H) ∧ liftS X.K lo2 (tbd E) Dv σ H) hs hf hN hi hln hc1 hc2
    (fun W pn xe tkW po => ⟨fun pins s σ H D I ⟨E, lo2, k1, k2, hW, hl⟩ => (hb E lo2 pn xe k1 k2 (fun u s' ⟨a, B, sI, pins, σ, H, cls, d, e, I, nb, up, sky, na, os, ag, w⟩ => tkW u s' ⟨a, B, sI, pins, σ, H, cls, d, e, I, nb, up, sky, na, os, ag, hW cls d σ H I.len w⟩) po).run pins s σ H D I hl⟩)
    (fun _ _ _ _ _ _ _ => ps_no)
    (fun a oe cls d pn hz hd => ⟨fun pins s σ H D I ⟨nm, hn, ec, ed, lo2, hl⟩ => by
      subst ec ed
      exact (hsu lo2 a oe nm pn hn hz hd).run pins s σ H D I hl⟩)) ?_
  rintro σ H Dv ⟨F, G, ρ, M, De, a, ⟨E, hbd, hE⟩, er⟩
  refine ⟨E, ⟨F, G⟩, a.f, a.g, fun cls d σ' H' hlen ⟨nm, ec, F', fs, M', s, x, e⟩ => ?_, F, G, ρ, M, De, ⟨Same.refl F, Same.refl G, a.rel, a.env⟩, hbd, er⟩
  obtain ⟨efs, hnm, ht⟩ := hE nm fs M' e
  subst efs ec
  rcases x with ⟨ed, _, r⟩ | ⟨_, _, nn, _⟩
  · refine .inr ⟨hm1 nm hnm, hm2 nm hnm, fun b nb => ⟨nm, hnm, rfl, ed, ⟨F', G⟩, F', G, (List.replicate X.N.length none).set i (some (.obj b)), M', unsetD i De, ⟨Same.refl F', Same.refl G, r, ?_⟩, ht b, ?_⟩⟩
    · rw [← hlen]
      exact EnvR.set (.obj b) i (env_nonesL σ')
    · have l := er.later s
      exact ⟨fun _ _ _ _ _ a b c d => l.nx _ _ _ _ _ a b (c.unset i) d, fun _ _ _ _ _ a b c d => l.rt _ _ _ _ _ a b c d, fun _ _ _ _ _ a b c d => l.bk _ _ _ _ _ a b (c.unset i) d, fun _ _ _ _ _ a b c d => l.ct _ _ _ _ _ a b (c.unset i) d⟩
  · exact absurd rfl nn
end
end DL

set_option maxHeartbeats 2000000
/-! D: own error classes by name; the name of the caught one. -/
namespace DL
open PySem PySem.Spec PyProof.Rows L2
open L2N (Zn)
open L2H (HotC Hot1 RoomH PinOk cxH inv_startH)
variable {K : PySem.W.Frag} {F F' F0 F1 F2 G G' H H' H1 H2 : Hp} {M M' M1 : Mm} {ρ ρ' : Rho} {σ σ' : L2.St}
theorem DPE.of {X : Cx} {lo : Lo} {e : Expr} {t t' : TDE} (h : DPE X lo e t) (i : ∀ ρ M Q, t' ρ M Q → t ρ M Q) : DPE X lo e t' := PE.of h fun σ H Qv ⟨F, G, ρ, M, Q, a, h, q⟩ => ⟨F, G, ρ, M, Q, a, i _ _ _ h, q⟩
/-- the classes that are asked for, with their short names -/
def shorts : List (Str × Str) := [("InvalidRanges", "Ranges"), ("InvalidState", "State"), ("InvalidRuns", "Runs"), ("InvalidLevel", "Level"), ("InvalidLamp", "Lamp"), ("InvalidNumber", "Number"), ("InvalidSeen", "Seen"), ("NotReached", "Reached"), ("NothingToUndo", "Undo"), ("TooMany", "Many")]
def nmOf (nm : Str) : Str := ((shorts.lookup nm).getD ("" : Str)) ++ ("+" : Str)
abbrev veB : List Value := [.type "ValueError", .type "Exception", .type "BaseException", .type "object"]
/-- a class as it is raised -/
def clsB (K : PySem.W.Frag) (nm : Str) : Bool := decide (PySem.W.nsIn K mainGlobals nm = some (some (.ref (exOf K nm)))) && (PySem.W.excIn K (exOf K nm) veB "ValueError.__new__" && (PySem.W.keepIn K (.ref (exOf K nm)) &&
  (decide (PySem.W.subIn K (.ref (exOf K nm)) (.type "BaseException") = some true) && decide (PySem.W.typeIn K (.ref (exOf K nm)) = some (.type "type")))))
structure ClsT (K : PySem.W.Frag) (mg : Str → Option Value) (nm : Str) : Prop where
  g : mg nm = some (.ref (exOf K nm))
  x : PySem.W.excIn K (exOf K nm) veB "ValueError.__new__" = true
  k : PySem.W.keepIn K (.ref (exOf K nm)) = true
  b : PySem.W.subIn K (.ref (exOf K nm)) (.type "BaseException") = some true
  t : PySem.W.typeIn K (.ref (exOf K nm)) = some (.type "type")
theorem ClsT.r {X : Cx} {nm : Str} (T : ClsT X.K X.mg nm) : Raises X (.ref (exOf X.K nm)) := raises_own T.b T.t
/-- a class as it is caught and asked for -/
structure CauT (K : PySem.W.Frag) (nm : Str) : Prop where
  xc : ExcC K (exOf K nm)
  kit : ∀ c ∈ shorts.map (·.1), PySem.W.kitOne K (.ref (exOf K nm)) (.ref (exOf K c)) = some (nm == c)
  kv : PySem.W.kitOne K (.ref (exOf K nm)) (.type "ValueError") = some true
  m1 : PySem.W.exmOne K (.ref (exOf K nm)) (.ref (exOf K "TooMany")) = some false
  m2 : PySem.W.exmOne K (.ref (exOf K nm)) (.ref (exOf K "RemoteError")) = some true
/-! ### isinstance(e, C) -/
def eIsN (i : Nat) (a : Addr) (nm c : Str) : TDE := fun ρ M Q => ρ[i]? = some (some (.obj a)) ∧ Q (.bl (nm == c)) M
def eIsV (i : Nat) (a : Addr) : TDE := fun ρ M Q => ρ[i]? = some (some (.obj a)) ∧ Q (.bl true) M
section
variable {X : Cx} {lo : Lo} {pos p1 p2 p3 : Pos} {i : Nat} {y c nm : Str} {p : Addr × Obj}
theorem de_isN (C : CauT X.K nm) (hz : p.2.cls = .ref (exOf X.K nm)) (hzd : p.2.dict = none) (hf : ∃ vs, p.2.data = .fields vs) (hp : p ∈ X.pn) (hh : X.A.handled = some (.ref p.1)) (hc : c ∈ shorts.map (·.1)) (gc : X.mg c = some (.ref (exOf X.K c))) (hm : X.mg "isinstance" = none)
    (hv : DPE X lo (.Name y p2) (eVar i)) (hgl : Gl X "isinstance" := by rfl) (hglc : Gl X c := by rfl) (hdb : (c == ("__debug__" : Str)) = false := by decide)
    (he : starEach [.Name y p2, .Name c p3] X.env = (false, eval (.Name y p2) X.env) :: starEach [.Name c p3] X.env := by rfl) (hpl : (backTo pos (starEach [.Name c p3] X.env)).any (·.1) = false := by rfl) :
    DPE X lo (.Call (.Name "isinstance" p1) [.Name y p2, .Name c p3] [] pos) (eIsN i p.1 nm c) :=
  DPE.of (de_callB (call_isP C.xc ⟨hz, hzd⟩ hf hp hh) ok_isE hgl hm (by decide +kernel) (da_cons hv (da_cons (de_globR hglc gc hdb) da_nil)) (by decide) (by decide) he hpl) fun ρ M Q ⟨h1, h2⟩ => by
    show eVar i ρ M _
    unfold eVar
    rw [h1]
    exact ⟨rfl, _, C.kit c hc, h2⟩
theorem de_isV (C : CauT X.K nm) (hz : p.2.cls = .ref (exOf X.K nm)) (hzd : p.2.dict = none) (hf : ∃ vs, p.2.data = .fields vs) (hp : p ∈ X.pn) (hh : X.A.handled = some (.ref p.1)) (gc : X.mg "ValueError" = none) (hm : X.mg "isinstance" = none)
    (hv : DPE X lo (.Name y p2) (eVar i)) (hgl : Gl X "isinstance" := by rfl) (hglc : Gl X "ValueError" := by rfl)
    (he : starEach [.Name y p2, .Name "ValueError" p3] X.env = (false, eval (.Name y p2) X.env) :: starEach [.Name "ValueError" p3] X.env := by rfl) (hpl : (backTo pos (starEach [.Name "ValueError" p3] X.env)).any (·.1) = false := by rfl) :
    DPE X lo (.Call (.Name "isinstance" p1) [.Name y p2, .Name "ValueError" p3] [] pos) (eIsV i p.1) :=
  DPE.of (de_callB (call_isP C.xc ⟨hz, hzd⟩ hf hp hh) ok_isE hgl hm (by decide +kernel) (da_cons hv (da_cons (de_bltT (T := "ValueError") hglc gc (by decide +kernel)) da_nil)) (by decide) (by decide) he hpl) fun ρ M Q ⟨h1, h2⟩ => by
    show eVar i ρ M _
    unfold eVar
    rw [h1]
    exact ⟨rfl, _, C.kv, h2⟩
end
/-! ### a list made of two, as an object -/
def gAddO : GD2 := fun d e M Q => ∃ xs ys, resL M d = some xs ∧ resL M e = some ys ∧ xs.length + ys.length ≤ sizeLine ∧ ∀ a, M.lookup a = none → Q (.obj a) ((a, .lst (xs ++ ys)) :: M)
theorem ok_addO : OkR2 K (rAddX K) gAddO := fun F G M H x y d e Q Qv r p q h k => by
  obtain ⟨xs, ys, e1, e2, hz, h⟩ := h
  obtain ⟨l, vs, rfl, s1, r1⟩ := resL_ok r p e1
  obtain ⟨m, ws, rfl, s2, r2⟩ := resL_ok r q e2
  have la := r1.length
  have lb := r2.length
  exact .inr (.inr (.inl ⟨l, m, vs, ws, rfl, rfl, s1, .inl s2, by omega, fun p hp => k _ _ F (.obj p) ((p, .lst (xs ++ ys)) :: M) (Same.refl F) (r.newM hp (.lst (r1.append r2))) (.obj p) (h p (r.lookup_new hp))⟩))
/-! ### the name of the caught error -/
def spNm (K : PySem.W.Frag) (LC : List Str) (p : Addr × Obj) : SpD := fun ds M Q E => ds = [.obj p.1] ∧ ∃ nm, nm ∈ LC ∧ p.2.cls = .ref (exOf K nm) ∧ p.2.dict = none ∧ Q (.str (nmOf nm)) M
theorem len_spNm {LC : List Str} (p : Addr × Obj) : ∀ ds M Q E, spNm K LC p ds M Q E → ds.length = 1 := fun ds M Q E h => by rw [h.1]; rfl
def eNm (LC : List Str) (i : Nat) (a : Addr) (nm : Str) : TDE := fun ρ M Q => ρ[i]? = some (some (.obj a)) ∧ nm ∈ LC ∧ Q (.str (nmOf nm)) M
section
variable {X : Cx} {lo : Lo} {pos p1 p2 : Pos} {i k : Nat} {y x nm : Str} {st : Stmt} {LC : List Str} {a : Addr} {oe : Obj} {pn : List (Addr × Obj)} {q : Str}
theorem de_nm (Df : DefF X.K X.mg x st [q]) (Fk : FnC X.prog X.w X.K X.mg X.base k Df.f Df.fd [q] (fun p => liftSp X.K (spNm X.K LC p))) (hr : Room k X.A) (hz : Zn (.ref (exOf X.K nm)) none oe) (hd : ∃ vs, oe.data = .fields vs)
    (hv : DPE (X.suite a ((a, oe) :: pn)) lo (.Name y p2) (eVar i)) (hg : Gl X x := by rfl) (hdb : (x == ("__debug__" : Str)) = false := by decide)
    (he : starEach [.Name y p2] X.env = [(false, eval (.Name y p2) X.env)] := by rfl) :
    DPE (X.suite a ((a, oe) :: pn)) lo (.Call (.Name x p1) [.Name y p2] [] pos) (eNm LC i a nm) := by
  obtain ⟨vs, hvs⟩ := hd
  refine DPE.of (de_callC (X := X.suite a ((a, oe) :: pn)) (p := (a, oe)) Df Fk ⟨hr.dp, hr.un⟩ ⟨rfl, vs, hvs, hz.2.2 vs hvs⟩ List.mem_cons_self (da_cons hv da_nil) hg hdb he rfl) fun ρ M Q ⟨h1, h2, h3⟩ => ?_
  show eVar i ρ M _
  unfold eVar
  rw [h1]
  exact ⟨rfl, nm, h2, hz.1, hz.2.1, h3⟩
end
/-! ### the classes off the head -/
theorem exOf_of {nm : Str} {C : Addr} (e : PySem.W.nsIn K mainGlobals nm = some (some (.ref C))) : exOf K nm = C := by unfold exOf; rw [e]
theorem kit_ref {A B : Addr} {b : Bool} (hs : PySem.W.subIn K (.ref A) (.ref A) = some true) (hc : PySem.W.isClsIn K B = true) (ht : PySem.W.typeIn K (.ref B) = some (.type "type")) (h : PySem.W.subIn K (.ref A) (.ref B) = some b) : PySem.W.kitOne K (.ref A) (.ref B) = some b := by
  unfold PySem.W.kitOne
  by_cases e : A = B
  · subst e
    rw [hs] at h
    rw [if_pos (beq_self_eq_true _)]
    exact h
  · have e2 : ¬ ((Value.ref A == Value.ref B) = true) := fun z => e (by have := eq_of_beq z; cases this; rfl)
    rw [if_neg e2]
    show (if ((PySem.W.clsIn K B).isSome && PySem.W.typeIn K (.ref B) == some (.type "type")) = true then PySem.W.subIn K (.ref A) (.ref B) else none) = _
    have h2 : (PySem.W.clsIn K B).isSome = true := hc
    have e3 : ((PySem.W.clsIn K B).isSome && PySem.W.typeIn K (.ref B) == some (.type "type")) = true := by rw [h2, ht] <;> rfl
    rw [if_pos e3]
    exact h
/-- what the head says of a class that is named -/
structure NamC (K : PySem.W.Frag) (nm : Str) (A : Addr) : Prop where
  a : PySem.W.nsIn K mainGlobals nm = some (some (.ref A))
  i : PySem.W.isClsIn K A = true
  d : PySem.W.hasDictIn K A = true
  t : PySem.W.typeIn K (.ref A) = some (.type "type")
  b : PySem.W.subIn K (.ref A) (.type "BaseException") = some true
theorem clsT_mk {h : Heap} {mg : Str → Option Value} {nm : Str} {A : Addr} (X : K.In h) (G : h.Ns mainGlobals mg) (n : NamC K nm A) (x : PySem.W.excIn K A veB "ValueError.__new__" = true) (k : PySem.W.keepIn K (.ref A) = true) : ClsT K mg nm := by
  have e := exOf_of n.a
  refine ⟨?_, ?_, ?_, ?_, ?_⟩ <;> rw [e]
  · exact PySem.W.mg_of X G n.a
  · exact x
  · exact k
  · exact n.b
  · exact n.t
theorem cauT_mk {nm : Str} {A AT AR : Addr} (n : NamC K nm A) (hg : PySem.W.findIn K (.ref A) "__getattribute__" = some (some (.builtin "BaseException.__getattribute__"))) (hk : PySem.W.findIn K (.ref A) "__getattr__" = some none) (hc : PySem.W.findIn K (.ref A) "__class__" = some (some (.builtin "object.__class__")))
    (hn : PySem.W.specialIn K (.builtin "object.__class__") "__get__" = some (some (.builtin "getset_descriptor.__get__"))) (ht : PySem.W.takesIn K (.builtin "object.__class__") = some true) (hm : PySem.W.mroIn K A (.type "object") = some true)
    (hv : PySem.W.subIn K (.ref A) (.type "ValueError") = some true) (hs : PySem.W.subIn K (.ref A) (.ref A) = some true)
    (hT : NamC K "TooMany" AT) (hTs : PySem.W.subIn K (.ref A) (.ref AT) = some false) (hR : NamC K "RemoteError" AR) (hRs : PySem.W.subIn K (.ref A) (.ref AR) = some true)
    (hkit : ∀ c ∈ shorts.map (·.1), ∃ B, NamC K c B ∧ PySem.W.subIn K (.ref A) (.ref B) = some (nm == c)) : CauT K nm := by
  have e := exOf_of n.a
  refine ⟨?_, fun c hc => ?_, ?_, ?_, ?_⟩ <;> rw [e]
  · exact ⟨hg, hk, n.b, n.d, hc, hn, ht, hm⟩
  · obtain ⟨B, nB, h⟩ := hkit c hc
    rw [exOf_of nB.a]
    exact kit_ref hs nB.i nB.t h
  · unfold PySem.W.kitOne
    rw [if_neg (show ¬ ((Value.ref A == Value.type "ValueError") = true) from fun z => by have := eq_of_beq z; cases this)]
    show (if PySem.W.kitMeta "ValueError" = true then PySem.W.subIn K (.ref A) (.type "ValueError") else none) = _
    rw [if_pos (by decide +kernel)]
    exact hv
  · rw [exOf_of hT.a]
    exact PySem.W.exm_ref hT.b hT.d hT.t hTs
  · rw [exOf_of hR.a]
    exact PySem.W.exm_ref hR.b hR.d hR.t hRs
theorem shorts_all {p : Str → Prop} (h1 : p "InvalidRanges") (h2 : p "InvalidState") (h3 : p "InvalidRuns") (h4 : p "InvalidLevel") (h5 : p "InvalidLamp") (h6 : p "InvalidNumber") (h7 : p "InvalidSeen") (h8 : p "NotReached") (h9 : p "NothingToUndo") (h10 : p "TooMany") : ∀ c ∈ shorts.map (·.1), p c := by
  intro c hc
  have hc : c = "InvalidRanges" ∨ c = "InvalidState" ∨ c = "InvalidRuns" ∨ c = "InvalidLevel" ∨ c = "InvalidLamp" ∨ c = "InvalidNumber" ∨ c = "InvalidSeen" ∨ c = "NotReached" ∨ c = "NothingToUndo" ∨ c = "TooMany" := by
    simpa [shorts] using hc
  rcases hc with rfl | rfl | rfl | rfl | rfl | rfl | rfl | rfl | rfl | rfl <;> assumption
end DL

set_option maxHeartbeats 2000000
/-! D: sorted(set(..)) of a list of whole numbers. -/
namespace DL
open PySem PySem.Spec PyProof.Rows L2
variable {K : PySem.W.Frag} {F F' F0 F1 F2 G G' H H' H1 H2 : Hp} {M M' M1 : Mm} {ρ ρ' : Rho} {σ σ' : L2.St}
section
variable {P : Program} {w : World} {A : Around} {E : Value → Shared → Prop} {s : Shared}
/-- an empty set, as set() lays it -/
abbrev bareSet (w : World) : Obj := { cls := .type "set", dict := none, data := .set #[] 0 (.fresh 0 0 (!w.params.followText "set-order")) }
/-- set(x): the set is laid, then set.__init__ runs on it -/
theorem set_made {x : Value} {Q : Value → Shared → Prop}
    (h : wpAny (model P w) A.in1.in1 (Builtin.«set.__init__» ⟨[.ref s.heap.objs.size, x], []⟩) (fun fin s' => fin = .done (.ret .none) ∧ Q (.ref s.heap.objs.size) s') E { s with heap := s.heap.push (bareSet w) }) :
    wpAny (model P w) A (call (.type "set") [x]) Q E s := by
  have known := PySem.F.called_set.mro
  have e1 := PySem.F.called_set.made
  have e2 := PySem.F.called_set.sub
  have e3 := PySem.F.called_set.notType
  have e4 := PySem.F.called_set.canCreate
  have e5 := PySem.F.called_set.init.lookup
  have e6 := PySem.F.called_set.init.bind (.ref s.heap.objs.size)
  have e7 := PySem.F.typeCall_set_1 x
  obtain ⟨_, _, e8⟩ := known
  refine wpAny_call (codeAny_of_tree ?_)
  refine wpAny_pure (a := Fin.again (.builtin "type.__call__" ⟨[.type "set", x], []⟩)) ⟨Code.quiet_builtin _ (by decide +kernel), codeAny_builtin PySem.F.entry_type_call ?_⟩
  rw [Around.under_plain (weight_type_call_type "set" [x] []) rfl]
  repeat (any_goals (first | assumption | wp_step))
  refine codeAny_mono (code_set_led1 (E := E) (Q₁ := fun v s1 => v = .ref s.heap.objs.size ∧ s1 = { s with heap := s.heap.push (bareSet w) }) x ⟨rfl, rfl⟩) fun r s1 q => ?_
  match r, q with
  | .error _, q => exact q
  | .ok (.ret _), ⟨e, e'⟩ =>
    subst e; subst e'
    have ty : Shared.TypeIs { s with heap := s.heap.push (bareSet w) } (.ref s.heap.objs.size) "set" := ⟨_, Heap.get?_push_size _ rfl, rfl⟩
    show wpAny _ A.in1 (isInstance _ _ >>= _) _ _ _
    refine wpAny_bind (wpAny_isInstance ty e2 ?_)
    simp only [Bool.not_true, Bool.false_eq_true, if_false]
    refine wpAny_bind (wpAny_holding (wpAny_callSpecial?_slot ty PySem.F.called_set.init ?_))
    refine wpAny_call (codeAny_call_builtin PySem.F.called_set.init.plain PySem.F.entry_set_init (check_set_init_1 ty (wpAny_mono h (fun fin s2 q => ?_) fun _ _ z => z)))
    obtain ⟨e, q⟩ := q
    subst e
    exact wpAny_pure (by simpa using q)
theorem set_of_list {l : Addr} {items : Array Value} (ns : List Int) {Q : Value → Shared → Prop} (hh : A.handled = none) (hl : s.heap.IsList l items) (hit : IntsAre items.toList ns) (hb : ns.length + 1 < scanBound)
    (h : ∀ (h' : Heap) (tk c : Nat), SetR w h' s.heap.objs.size (fun j => decide (j ∈ ns)) c → c ≤ ns.length → (∀ b o, s.heap.get? b = some o → h'.get? b = some o) → Q (.ref s.heap.objs.size) { s with heap := h', toks := tk }) :
    wpAny (model P w) A (call (.type "set") [.ref l]) Q E s := by
  refine set_made ?_
  obtain ⟨hp, g, d, t, os⟩ := s
  have lt : l < hp.objs.size := let ⟨_, e, _⟩ := hl; Heap.lt_size e
  have hl1 : (hp.push (bareSet w)).IsList l items := hl.at fun o e => Heap.get?_push_of_some _ e
  have len : items.size = ns.length := by simpa using IntsAre.length hit
  have n1 := PySem.F.sub_list_set
  have n2 := PySem.F.sub_list_frozenset
  unfold Builtin.«set.__init__» noKeywords Builtin.Frozenset.updateFrom
  obtain ⟨⟨oc, od, odt, osl⟩, ol, rfl, nl, rfl⟩ := id hl1
  generalize ep : pyIter = PI
  wp_walk
  subst ep
  refine wpAny_pyIter_list hl1 (wpAny_bind (wpAny_runValue ?_))
  have z1 : (hp.push (bareSet w)).objs.size = hp.objs.size + 1 := Heap.size_push ..
  refine set_update_ints ((Walks.list (by simp [hh]) _ l (by rw [z1]; exact Nat.ne_of_lt (Nat.lt_succ_of_lt lt)) items).toS) hp.objs.size ?_ ns len hb (fun i v e => ?_) items.size 0 _ rfl (Nat.zero_le _) ⟨⟨_, Heap.get?_push_size _ rfl, rfl, rfl⟩, hl1.push _⟩
    ⟨0, Nat.le_refl _, setR_new_at (Heap.get?_push_of_some _ (Heap.get?_push_size _ rfl))⟩ fun s' c mv hc hS => ?_
  · rw [z1]
    simp only [List.mem_cons, List.not_mem_nil, or_false, not_or]
    exact ⟨Nat.ne_of_lt (Nat.lt_succ_self _), Nat.ne_of_gt lt⟩
  · have i1 : i < ns.length := len ▸ (Array.getElem?_eq_some_iff.mp e).1
    obtain ⟨t, q⟩ := PyProof.Rows.IntsAre.int_at hit i v (by simpa using e)
    exact ⟨ns[i], t, List.getElem?_eq_getElem i1, by simpa [List.getD_eq_getElem?_getD, List.getElem?_eq_getElem i1] using q⟩
  · obtain ⟨h', g', d', t', os'⟩ := s'
    obtain rfl : g' = g := mv.gens
    obtain rfl : d' = d := mv.drawn
    obtain rfl : os' = os := mv.os
    refine wpAny_pure (wpAny_pure ⟨rfl, h h' t' c hS (len ▸ hc) fun b o e => mv.heap b o ?_ (Heap.get?_push_of_some _ (Heap.get?_push_of_some _ e))⟩)
    have := Heap.lt_size e
    rw [z1]
    simp only [List.mem_cons, List.not_mem_nil, or_false, not_or]
    exact ⟨Nat.ne_of_lt this, Nat.ne_of_lt (Nat.lt_succ_of_lt this)⟩
end
section
variable {X : Cx}
def rSetL (K : PySem.W.Frag) (w : World) : List V → Hp → VK → Prop := fun xs H Q => ∃ (l : Addr) (ns : List Int), xs = [.ref l] ∧ SqL K H l (ns.map V.int) ∧ ns.length ≤ 1000 ∧ ∀ (p : Addr) (c : Nat), H p = none → c ≤ ns.length → Q (.ref p) (upd H p (SetO w p (fun j => decide (j ∈ ns)) c))
theorem cr_setL (hc : X.calm = true) : CallR X (.type "set") (rSetL X.K X.w) := fun pins s σ H xs us Q I r ⟨l, ns, e, hq, hl, q⟩ => by
  subst e
  rw [Vals.ref1 r]
  obtain ⟨its, rv, pt, _⟩ := I.list hq
  exact set_of_list ns (I.ok.hd hc) pt.isList (ints_of_vals rv) (by unfold scanBound; omega) fun h' tk c S le k =>
    ⟨.ref _, _, I.laid (t' := tk) k (Nat.le_refl _) (setO_new S), rfl, q _ c (I.hok.fresh (Nat.le_refl _)) le⟩
end
def gSortSetL : GD1 := fun d M Q => ∃ ns : List Int, resL M d = some (ns.map .int) ∧ ns.length < 64 ∧ ∀ ns' : List Int, ns'.Pairwise (· < ·) → (∀ k, k ∈ ns' ↔ k ∈ ns) → Q (.lst (ns'.map .int)) M
section
variable {X : Cx} {lo : Lo} {e : Expr} {te : TDE} {p1 p2 pos q : Pos}
theorem de_sortSetL (hc : X.calm = true) (hg : Gl X "sorted") (hm : X.mg "sorted" = none) (hg2 : Gl X "set") (hm2 : X.mg "set" = none) (he : DPE X lo e te)
    (h1 : starEach [e] X.env = [(false, eval e X.env)] := by rfl) :
    DPE X lo (.Call (.Name "sorted" p1) [.Call (.Name "set" p2) [e] [] q] [] pos) (eOp1 gSortSetL te) :=
  PE.of (pe_callB (cr_sortedSet hc) hg hm (by decide +kernel) (pa_cons (pe_callTy (cr_setL hc) hg2 hm2 (by decide +kernel) (pa_cons he pa_nil h1) (by decide) (by decide) h1 (by rfl)) pa_nil)) fun σ H Qv ⟨F, G, ρ, M, Q, a, h, k⟩ =>
    ⟨F, G, ρ, M, _, a, h, fun v H1 F1 d M1 s1 r1 p1 ⟨ns, e1, hl, h1⟩ => by
      obtain ⟨b, vs, rfl, rd, p⟩ := resL_ok r1 p1 e1
      refine ⟨b, ns, rfl, .inl (Reps.ints p ▸ rd), by omega, fun p c hp hcn => ⟨p, _, c, rfl, upd_same, by omega, fun ns' p' hs hm _ hp' => ?_⟩⟩
      have r2 := r1.newH (o := SetO X.w p (fun j => decide (j ∈ ns)) c) hp
      exact k _ _ _ (.lst (ns'.map .int)) M1 (s1.trans (same_new (r2.free hp'))) (r2.newF hp') (.lst (.inl upd_same) (Reps.of_ints _)) (h1 ns' hs fun k => by rw [hm k, decide_eq_true_eq])⟩
end
end DL

namespace DL
open PySem PySem.Spec PyProof.Rows L2
variable {K : PySem.W.Frag} {F F' F0 F1 F2 G G' H H' H1 H2 : Hp} {M M' M1 : Mm} {ρ ρ' : Rho} {σ σ' : L2.St}
/-! ### t < u, tuples of whole numbers -/
def tupInts : D → Option (List Int)
  | .tup ds => asInts ds
  | _ => none
def gLtT : GD2 := fun d e M Q => match tupInts d, tupInts e with
  | some ns, some ms => Q (.bl (HT.lexLt ns ms)) M
  | _, _ => False
theorem tupInts_ok (r : RelM K F G M H) {v : V} {d : D} {ns : List Int} (p : Rep K F v d) (h : tupInts d = some ns) : ∃ a, v = .ref a ∧ SqT K H a (ns.map V.int) := by
  cases p with
  | @tup a vs ds s q =>
    have h : asInts ds = some ns := h
    rw [asInts_eq h] at q
    rw [Reps.ints q] at s
    exact ⟨a, rfl, .inl (Same.rd r.fz (.inl s))⟩
  | _ => cases h
theorem ok_ltT : OkR2 K (rLtT K) gLtT := fun F G M H x y d e Q Qv r p q h k => by
  unfold gLtT at h
  split at h
  · rename_i ns ms en em
    obtain ⟨a, rfl, sa⟩ := tupInts_ok r p en
    obtain ⟨b, rfl, sb⟩ := tupInts_ok r q em
    exact ⟨a, b, ns, ms, rfl, rfl, sa, sb, k.here r (.bl _) h⟩
  · exact h.elim
theorem tupInts_map (ns : List Int) : tupInts (.tup (ns.map .int)) = some ns := asInts_map ns
@[simp] theorem s_gLtT (ns ms : List Int) {Q : D → Mm → Prop} : gLtT (.tup (ns.map .int)) (.tup (ms.map .int)) M Q = Q (.bl (HT.lexLt ns ms)) M := by
  unfold gLtT
  rw [tupInts_map, tupInts_map]
/-! ### sorted of a list of tuples of whole numbers, fewer than 64 -/
def rSortTL (K : PySem.W.Frag) : List V → Hp → VK → Prop := fun vs H Q => ∃ (d : Nat) (B : Int), 1 ≤ d ∧ rSortU K d B vs H Q
theorem cr_sortTL {X : Cx} : CallR X (.builtin "sorted") (rSortTL X.K) := by
  intro pins s σ H xs us Q I r ⟨d, B, hd, h⟩
  exact cr_sortT hd pins s σ H xs us Q I r h
def gSortTL : GDL := on1 fun x M Q => ∃ (nss : List (List Int)) (d : Nat) (B : Int), resL M x = some (nss.map fun ns => D.tup (ns.map .int)) ∧ nss.length < 64 ∧ 1 ≤ d ∧ (∀ ns ∈ nss, ns.length = d ∧ TS.Bd B ns) ∧
  ∀ ys : List (List Int), ys.Perm nss → ys.Pairwise (fun n m => TS.code B n ≤ TS.code B m) → Q (.lst (ys.map fun ns => D.tup (ns.map .int))) M
theorem reps_perm {vs vs' : List V} (h : vs'.Perm vs) : ∀ nss : List (List Int), Reps K F vs (nss.map fun ns => D.tup (ns.map .int)) → ∃ nss' : List (List Int), nss'.Perm nss ∧ Reps K F vs' (nss'.map fun ns => D.tup (ns.map .int)) := by
  induction h with
  | nil => intro nss r; exact ⟨nss, .refl _, r⟩
  | @cons x l1 l2 h ih =>
    intro nss r
    cases nss with
    | nil => cases r
    | cons n nss =>
      cases r with
      | cons a t =>
        obtain ⟨n', p, q⟩ := ih nss t
        exact ⟨n :: n', p.cons n, .cons a q⟩
  | swap x y l =>
    intro nss r
    cases nss with
    | nil => cases r
    | cons n nss =>
      cases r with
      | cons a t =>
        cases nss with
        | nil => cases t
        | cons m nss =>
          cases t with
          | cons b t => exact ⟨m :: n :: nss, .swap n m nss, .cons b (.cons a t)⟩
  | trans _ _ i1 i2 =>
    intro nss r
    obtain ⟨n1, p1, q1⟩ := i2 nss r
    obtain ⟨n2, p2, q2⟩ := i1 n1 q1
    exact ⟨n2, p2.trans p1, q2⟩
theorem rep_tupI (r : RelM K F G M H) {v : V} {ns : List Int} (p : Rep K F v (.tup (ns.map .int))) : TupI K H v ns := by
  obtain ⟨a, e, s⟩ := tupInts_ok r p (tupInts_map ns)
  exact ⟨a, e, s⟩
theorem reps_pw (r : RelM K F G M H) {R : List Int → List Int → Prop} : ∀ {vs : List V} {nss : List (List Int)}, Reps K F vs (nss.map fun ns => D.tup (ns.map .int)) → vs.Pairwise (fun x y => ∀ n m, TupI K H x n → TupI K H y m → R n m) → nss.Pairwise R
  | [], [], _, _ => .nil
  | v :: vs, n :: nss, .cons a t, h => by
    rw [List.pairwise_cons] at h
    refine List.pairwise_cons.mpr ⟨fun m hm => ?_, reps_pw r t h.2⟩
    obtain ⟨i, hi⟩ := List.getElem?_of_mem hm
    obtain ⟨w, hw, pw⟩ := t.get (i := i) (d := .tup (m.map .int)) (by rw [List.getElem?_map, hi]; rfl)
    exact h.1 w (List.mem_of_getElem? hw) n m (rep_tupI r a) (rep_tupI r pw)
theorem ok_sortTL : OkRL K (rSortTL K) gSortTL := fun F G M H xs ds Q Qv r p h k => by
  obtain ⟨v, d, e, p, h⟩ := on1_inv p h
  obtain ⟨nss, dd, B, er, h64, hd, hb, h⟩ := h
  obtain ⟨a, vs, rfl, s, q⟩ := resL_ok r p er
  have hl := q.length
  rw [List.length_map] at hl
  refine ⟨dd, B, hd, a, vs, e, .inl s, by omega, fun x hx => ?_, fun ys pa hp hw hn => ?_⟩
  · obtain ⟨i, hi⟩ := List.getElem?_of_mem hx
    have hlt : i < nss.length := by have := (List.getElem?_eq_some_iff.mp hi).1; omega
    obtain ⟨w, hw, pw⟩ := q.get (i := i) (d := .tup ((nss[i]).map .int)) (by rw [List.getElem?_map, List.getElem?_eq_getElem hlt]; rfl)
    rw [hi] at hw
    cases hw
    exact ⟨nss[i], rep_tupI r pw, hb _ (List.getElem_mem _)⟩
  · obtain ⟨nss', p', q'⟩ := reps_perm hp nss q
    exact k.new r hn (fun s => .lst (.inl upd_same) (q'.mono s)) (h nss' p' (reps_pw r q' hw))
/-! ### max of three whole numbers -/
theorem nuLt_int (i j : Int) : nuLt (.int i) (.int j) = some (decide (i < j)) := rfl
theorem nuMax3_int (i j k : Int) : nuMax3 (.int i) (.int j) (.int k) = some (.int (max (max i j) k)) := by
  unfold nuMax3 nuMax2
  rw [nuLt_int, Option.map_some, Option.bind_some]
  have e : (if decide (i < j) = true then V.int j else V.int i) = V.int (max i j) := by
    by_cases h : i < j
    · simp [h]; omega
    · simp [h]; omega
  rw [e, nuLt_int, Option.map_some]
  congr 1
  by_cases h : max i j < k
  · simp only [h, decide_true, if_true]; congr 1; omega
  · simp only [h, decide_false]; simp; omega
def gMax3 : GDL := fun ds M Q => match ds with
  | [.int i, .int j, .int k] => Q (.int (max (max i j) k)) M
  | _ => False
theorem ok_max3 : OkRL K (rNuC3 nuMax3) gMax3 := fun F G M H xs ds Q Qv r p h k => by
  unfold gMax3 at h
  split at h
  · obtain ⟨a, b, c, rfl, p1, p2, p3⟩ := p.three
    cases p1; cases p2; cases p3
    exact ⟨_, _, _, _, rfl, nuMax3_int _ _ _, k.here r (.int _) h⟩
  · exact h.elim
/-! ### x //= j -/
theorem ip_fdivX {X : Cx} : PIp X .FloorDiv rFdivW := fun pins s σ H x y v u Q I rx ry ⟨i, j, e1, e2, hc, q⟩ => iop_fdivW pins s σ H x y v u Q I rx ry ⟨i, j, e1, e2, wide_div hc.1 hc.2 (by decide) (by decide), q⟩
theorem ok_ipfdiv : OkIp K rFdivW gFdiv := ok_fdiv
@[simp] theorem s_gMax3 (i j l : Int) {Q : D → Mm → Prop} : gMax3 [.int i, .int j, .int l] M Q = Q (.int (max (max i j) l)) M := id rfl
end DL

namespace DL
open PySem PySem.Spec PyProof.Rows L2
variable {M M' : Mm} {ρ ρ' : Rho} {De : DEnds} {Q : D → Mm → Prop}

/-! ### the combinators, for simp -/
@[simp] theorem s_Next : dNext De ρ M = De.nx ρ M := id rfl
@[simp] theorem s_Seq (t u : TDS) : dSeq t u De ρ M = t { De with nx := u De } ρ M := id rfl
@[simp] theorem s_Ret (te : TDE) : dRet te De ρ M = te ρ M De.rt := id rfl
@[simp] theorem s_RetN : dRetN De ρ M = De.rt .non M := id rfl
@[simp] theorem s_Drop (te : TDE) : dDrop te De ρ M = te ρ M fun _ M1 => De.nx ρ M1 := id rfl
@[simp] theorem s_Set (i : Nat) (te : TDE) : dSet i te De ρ M = te ρ M fun d M1 => De.nx (ρ.set i (some d)) M1 := id rfl
@[simp] theorem s_If (c : TDT) (t u : TDS) : dIf c t u De ρ M = c ρ M fun b M1 => if b = true then t De ρ M1 else u De ρ M1 := id rfl
@[simp] theorem s_Never : dNever De ρ M = False := id rfl
@[simp] theorem s_Break : dBreak De ρ M = De.bk ρ M := id rfl
@[simp] theorem s_Asg (te : TDE) (g : TDG) : dAsg te g De ρ M = te ρ M fun d M1 => g d ρ M1 De.nx := id rfl
@[simp] theorem s_For (ti : TDI) (g : TDG) (tb : TDS) : dFor ti g tb De ρ M = ti ρ M fun ds M1 => forL g tb ds De ρ M1 := id rfl
@[simp] theorem s_forL_nil (g : TDG) (tb : TDS) : forL g tb [] De ρ M = De.nx ρ M := id rfl
theorem s_forL_cons (g : TDG) (tb : TDS) (d : D) (ds : List D) : forL g tb (d :: ds) De ρ M = g d ρ M fun ρ1 M1 => tb { De with nx := forL g tb ds De, ct := forL g tb ds De, bk := De.nx } ρ1 M1 := rfl
@[simp] theorem s_StIx (te to ti : TDE) : dStIx te to ti De ρ M = te ρ M fun v M1 => to ρ M1 fun o M2 => ti ρ M2 fun i M3 => gStIx o i v M3 fun M4 => De.nx ρ M4 := id rfl
@[simp] theorem s_Par (i j : Nat) (ta : TDA) : dPar i j ta De ρ M = ta ρ M fun ds M1 => match ds with
  | [d, e] => De.nx ((ρ.set i (some d)).set j (some e)) M1
  | _ => False := id rfl
@[simp] theorem s_Aug (i : Nat) (g : GD2) (te : TDE) : dAug i g te De ρ M = match ρ[i]? with
  | some (some x) => te ρ M fun y M1 => g x y M1 fun z M2 => De.nx (ρ.set i (some z)) M2
  | _ => False := id rfl
@[simp] theorem s_Var (i : Nat) : eVar i ρ M Q = match ρ[i]? with
  | some (some d) => Q d M
  | _ => False := id rfl
@[simp] theorem s_C (d : D) : eC d ρ M Q = Q d M := id rfl
@[simp] theorem s_Op2 (g : GD2) (ta tb : TDE) : eOp2 g ta tb ρ M Q = ta ρ M fun d M1 => tb ρ M1 fun e M2 => g d e M2 Q := id rfl
@[simp] theorem s_Op1 (g : GD1) (ta : TDE) : eOp1 g ta ρ M Q = ta ρ M fun d M1 => g d M1 Q := id rfl
@[simp] theorem s_CB (g : GDL) (t : TDA) : eCB g t ρ M Q = t ρ M fun ds M1 => g ds M1 Q := id rfl
@[simp] theorem s_Call (sp : SpD) (E : XD) (t : TDA) : eCall sp E t ρ M Q = t ρ M fun ds M1 => sp ds M1 Q E := id rfl
@[simp] theorem s_Val (t : TDE) {R : Bool → Mm → Prop} : tVal t ρ M R = t ρ M fun d M1 => onB (fun k => R k M1) d := id rfl
@[simp] theorem s_Ch (g g' : GD2) (ta tb tc : TDE) : eCh g g' ta tb tc ρ M Q = ta ρ M fun d M1 => tb ρ M1 fun e M2 => g d e M2 fun z M3 => onB (fun k => if k = true then tc ρ M3 fun f M4 => g' e f M4 Q else Q (.bl false) M3) z := id rfl
@[simp] theorem s_dAnd (t u : TDT) {R : Bool → Mm → Prop} : dAnd t u ρ M R = t ρ M fun c M1 => if c = true then u ρ M1 R else R false M1 := id rfl
@[simp] theorem s_dOr (t u : TDT) {R : Bool → Mm → Prop} : dOr t u ρ M R = t ρ M fun c M1 => if c = true then R true M1 else u ρ M1 R := id rfl
@[simp] theorem s_dNot (t : TDT) {R : Bool → Mm → Prop} : dNot t ρ M R = t ρ M fun c M1 => R (!c) M1 := id rfl
@[simp] theorem s_eAnd (ta tb : TDE) : eAnd ta tb ρ M Q = ta ρ M fun d M1 => onB (fun c => if c = true then tb ρ M1 Q else Q (.bl false) M1) d := id rfl
@[simp] theorem s_eOr (ta tb : TDE) : eOr ta tb ρ M Q = ta ρ M fun d M1 => onB (fun c => if c = true then Q (.bl true) M1 else tb ρ M1 Q) d := id rfl
@[simp] theorem s_eNot (ta : TDE) : eNot ta ρ M Q = ta ρ M fun d M1 => onB (fun c => Q (.bl (!c)) M1) d := id rfl
@[simp] theorem s_eIf (t : TDT) (ta tb : TDE) : eIf t ta tb ρ M Q = t ρ M fun c M1 => if c = true then ta ρ M1 Q else tb ρ M1 Q := id rfl
@[simp] theorem s_aNil {R : List D → Mm → Prop} : aNil ρ M R = R [] M := id rfl
@[simp] theorem s_aCons (t : TDE) (u : TDA) {R : List D → Mm → Prop} : aCons t u ρ M R = t ρ M fun d M1 => u ρ M1 fun ds M2 => R (d :: ds) M2 := id rfl
@[simp] theorem s_Tup (t : TDA) : eTup t ρ M Q = t ρ M fun ds M1 => ds.length ≤ sizeLine ∧ Q (.tup ds) M1 := id rfl
@[simp] theorem s_Lst (t : TDA) : eLst t ρ M Q = t ρ M fun ds M1 => ds.length ≤ sizeLine ∧ Q (.lst ds) M1 := id rfl
@[simp] theorem s_LstO (t : TDA) : eLstO t ρ M Q = t ρ M fun ds M1 => ds.length ≤ sizeLine ∧ ∀ a, M1.lookup a = none → Q (.obj a) ((a, .lst ds) :: M1) := id rfl
@[simp] theorem s_oNone {R : Option Int → Mm → Prop} : oNone ρ M R = R none M := id rfl
@[simp] theorem s_oSome (t : TDE) {R : Option Int → Mm → Prop} : oSome t ρ M R = t ρ M fun d M1 => match d with
  | .int i => R (some i) M1
  | _ => False := id rfl
@[simp] theorem s_Sl (te : TDE) (tl th : TDO) : eSl te tl th ρ M Q = te ρ M fun d M1 => tl ρ M1 fun l M2 => th ρ M2 fun u M3 => gSl d l u M3 Q := id rfl
@[simp] theorem s_App (to te : TDE) : eApp to te ρ M Q = to ρ M fun d M1 => (∃ a, d = .obj a ∧ (lstOf (M1.lookup a)).isSome = true) ∧ te ρ M1 fun x M2 => gApp d x M2 Q := id rfl
@[simp] theorem s_iSeq (t : TDE) {R : List D → Mm → Prop} : iSeq t ρ M R = t ρ M fun d M1 => match d with
  | .tup ds => R ds M1
  | .lst ds => R ds M1
  | _ => False := id rfl
@[simp] theorem s_iRng1 (t : TDA) {R : List D → Mm → Prop} : iRng1 t ρ M R = t ρ M fun ds M1 => match ds with
  | [.int j] => (-(2 ^ 62) ≤ j ∧ j < 2 ^ 62) ∧ R (rngD 0 j.toNat) M1
  | _ => False := id rfl
@[simp] theorem s_iRng2 (t : TDA) {R : List D → Mm → Prop} : iRng2 t ρ M R = t ρ M fun ds M1 => match ds with
  | [.int i, .int j] => (-(2 ^ 62) ≤ i ∧ i < 2 ^ 62 ∧ -(2 ^ 62) ≤ j ∧ j < 2 ^ 62) ∧ R (rngD i (j - i).toNat) M1
  | _ => False := id rfl
@[simp] theorem s_iZip2 (t : TDA) {R : List D → Mm → Prop} : iZip2 t ρ M R = t ρ M fun ds M1 => match ds with
  | [a, b] => ∃ xs ys, a.items = some xs ∧ b.items = some ys ∧ R (zip2D xs ys) M1
  | _ => False := id rfl
@[simp] theorem s_iZip3 (t : TDA) {R : List D → Mm → Prop} : iZip3 t ρ M R = t ρ M fun ds M1 => match ds with
  | [a, b, c] => ∃ xs ys zs, a.items = some xs ∧ b.items = some ys ∧ c.items = some zs ∧ R (zip3D xs ys zs) M1
  | _ => False := id rfl
@[simp] theorem s_iEnum (t : TDA) {R : List D → Mm → Prop} : iEnumD t ρ M R = t ρ M fun ds M1 => match ds with
  | [a] => ∃ xs, a.items = some xs ∧ R (enumD xs) M1
  | _ => False := id rfl
@[simp] theorem s_Lc (ti : TDI) (g : TDG) (tt : TDT) (te : TDE) (vs : List Nat) : eLc ti g tt te vs ρ M Q = ti ρ M fun ds M1 => ds.length ≤ sizeLine ∧ lcL g tt te (wipeD ρ vs) Q ds [] M1 := id rfl
@[simp] theorem s_tYes {R : Bool → Mm → Prop} : tYesD ρ M R = R true M := id rfl
@[simp] theorem s_dgName (i : Nat) (d : D) {R : Rho → Mm → Prop} : dgName i d ρ M R = R (ρ.set i (some d)) M := id rfl
@[simp] theorem s_dgTup (n : Nat) (gs : TDGs) (ds : List D) {R : Rho → Mm → Prop} : dgTup n gs (.tup ds) ρ M R = (ds.length = n ∧ gs ds ρ M R) := id rfl
@[simp] theorem s_dgNil {R : Rho → Mm → Prop} : dgNil [] ρ M R = R ρ M := id rfl
@[simp] theorem s_dgCons (g : TDG) (gs : TDGs) (d : D) (r : List D) {R : Rho → Mm → Prop} : dgCons g gs (d :: r) ρ M R = g d ρ M fun ρ1 M1 => gs r ρ1 M1 R := id rfl
@[simp] theorem s_wipe0 : wipeD ρ [] = ρ := id rfl
@[simp] theorem s_wipe1 (v : Nat) (vs : List Nat) : wipeD ρ (v :: vs) = (wipeD ρ vs).set v none := id rfl
/-! values -/
@[simp] theorem s_gAddI (i j : Int) : gAdd (.int i) (.int j) M Q = Q (.int (i + j)) M := id rfl
@[simp] theorem s_gAddT (a b : List D) : gAdd (.tup a) (.tup b) M Q = (a.length + b.length ≤ sizeLine ∧ Q (.tup (a ++ b)) M) := id rfl
@[simp] theorem s_gAddL (a b : List D) : gAdd (.lst a) (.lst b) M Q = (a.length + b.length ≤ sizeLine ∧ Q (.lst (a ++ b)) M) := id rfl
@[simp] theorem s_gAddK (a : List D) (ns : List Int) : gAdd (.lst a) (.kl ns) M Q = (a.length + ns.length ≤ sizeLine ∧ Q (.lst (a ++ ns.map .int)) M) := id rfl
@[simp] theorem s_gSub (i j : Int) : gSub (.int i) (.int j) M Q = Q (.int (i - j)) M := id rfl
@[simp] theorem s_gMulI (i j : Int) : gMul (.int i) (.int j) M Q = ((Sm i ∧ Sm j) ∧ Q (.int (i * j)) M) := id rfl
@[simp] theorem s_gMulT (a : List D) (k : Int) : gMul (.tup a) (.int k) M Q = ((a ≠ [] ∧ 1 ≤ k ∧ k ≤ 1000 ∧ a.length ≤ 1000) ∧ Q (.tup (List.replicate k.toNat a).flatten) M) := id rfl
@[simp] theorem s_gFdiv (i j : Int) : gFdiv (.int i) (.int j) M Q = ((0 < j ∧ Sm j) ∧ Q (.int (i / j)) M) := id rfl
@[simp] theorem s_gMod (i j : Int) : gMod (.int i) (.int j) M Q = (0 < j ∧ Q (.int (i % j)) M) := id rfl
@[simp] theorem s_gPow (i j : Int) : gPow (.int i) (.int j) M Q = (CPow i j ∧ Q (.int (i ^ j.toNat)) M) := id rfl
@[simp] theorem s_gLt (i j : Int) : gLt (.int i) (.int j) M Q = Q (.bl (decide (i < j))) M := id rfl
@[simp] theorem s_gLe (i j : Int) : gLe (.int i) (.int j) M Q = Q (.bl (decide (i ≤ j))) M := id rfl
@[simp] theorem s_gGt (i j : Int) : gGt (.int i) (.int j) M Q = Q (.bl (decide (j < i))) M := id rfl
@[simp] theorem s_gGe (i j : Int) : gGe (.int i) (.int j) M Q = Q (.bl (decide (j ≤ i))) M := id rfl
@[simp] theorem s_gAddI' (i j : Int) : gAddI (.int i) (.int j) M Q = Q (.int (i + j)) M := id rfl
@[simp] theorem s_gNeg (i : Int) : gNeg (.int i) M Q = Q (.int (-i)) M := id rfl
@[simp] theorem s_on1 (g : GD1) (d : D) : on1 g [d] M Q = g d M Q := id rfl
@[simp] theorem s_on2 (g : GD2) (d e : D) : on2 g [d, e] M Q = g d e M Q := id rfl
@[simp] theorem s_gMax (i j : Int) : gMax2 (.int i) (.int j) M Q = Q (.int (max i j)) M := id rfl
@[simp] theorem s_gMin (i j : Int) : gMin2 (.int i) (.int j) M Q = Q (.int (min i j)) M := id rfl
@[simp] theorem s_gLenT (ds : List D) : gLen [.tup ds] M Q = Q (.int (ds.length : Nat)) M := id rfl
@[simp] theorem s_gLenL (ds : List D) : gLen [.lst ds] M Q = Q (.int (ds.length : Nat)) M := id rfl
@[simp] theorem s_gTupT (ds : List D) : gTuple [.tup ds] M Q = Q (.tup ds) M := id rfl
@[simp] theorem s_gTupL (ds : List D) : gTuple [.lst ds] M Q = Q (.tup ds) M := id rfl
@[simp] theorem s_gListT (ds : List D) : gList [.tup ds] M Q = Q (.lst ds) M := id rfl
@[simp] theorem s_gListL (ds : List D) : gList [.lst ds] M Q = Q (.lst ds) M := id rfl
@[simp] theorem s_gAbs (i : Int) : gAbs [.int i] M Q = Q (.int (i.natAbs : Nat)) M := id rfl
@[simp] theorem s_gIntI (i : Int) : gInt [.int i] M Q = Q (.int i) M := id rfl
@[simp] theorem s_gIntB (b : Bool) : gInt [.bl b] M Q = Q (.int (if b then 1 else 0)) M := id rfl
@[simp] theorem s_gRange1 (j : Int) : gRange [.int j] M Q = Q (.rng 0 j) M := id rfl
@[simp] theorem s_gRange2 (i j : Int) : gRange [.int i, .int j] M Q = Q (.rng i j) M := id rfl
@[simp] theorem s_gSlT (ds : List D) (lo hi : Option Int) : gSl (.tup ds) lo hi M Q = Q (.tup (cutD ds lo hi)) M := id rfl
@[simp] theorem s_gSlL (ds : List D) (lo hi : Option Int) : gSl (.lst ds) lo hi M Q = Q (.lst (cutD ds lo hi)) M := id rfl
@[simp] theorem s_gRevL (ds : List D) : gRev (.lst ds) M Q = Q (.lst ds.reverse) M := id rfl
theorem s_gIx_eq (d : D) (i : Int) {ds : List D} {x : D} (h : resS M d = some ds) (e : atI ds i = some x) (q : Q x M) : gIx d (.int i) M Q := by
  unfold gIx; rw [h]; simp only; rw [e]; exact q
@[simp] theorem s_gIxT (ds : List D) (i : Int) : gIx (.tup ds) (.int i) M Q = match atI ds i with
  | some x => Q x M
  | none => False := id rfl
@[simp] theorem s_gIxL (ds : List D) (i : Int) : gIx (.lst ds) (.int i) M Q = match atI ds i with
  | some x => Q x M
  | none => False := id rfl
@[simp] theorem s_isN1 : gIs .non .non M Q = Q (.bl true) M := id rfl
@[simp] theorem s_isN2 (b : List D) : gIs (.tup b) .non M Q = Q (.bl false) M := id rfl
@[simp] theorem s_isN3 (b : List D) : gIs (.lst b) .non M Q = Q (.bl false) M := id rfl
@[simp] theorem s_isN4 (b : Int) : gIs (.int b) .non M Q = Q (.bl false) M := id rfl
@[simp] theorem s_isB (a b : Bool) : gIs (.bl a) (.bl b) M Q = Q (.bl (decide (a = b))) M := id rfl
@[simp] theorem s_isNotN1 : gIsNot .non .non M Q = Q (.bl false) M := id rfl
@[simp] theorem s_isNotN2 (b : List D) : gIsNot (.tup b) .non M Q = Q (.bl true) M := id rfl
@[simp] theorem s_isNotN3 (b : List D) : gIsNot (.lst b) .non M Q = Q (.bl true) M := id rfl
@[simp] theorem s_isNotN4 (b : Int) : gIsNot (.int b) .non M Q = Q (.bl true) M := id rfl
@[simp] theorem s_isNotB (a b : Bool) : gIsNot (.bl a) (.bl b) M Q = Q (.bl (!decide (a = b))) M := id rfl
@[simp] theorem s_itemsT (ds : List D) : D.items (.tup ds) = some ds := id rfl
@[simp] theorem s_itemsL (ds : List D) : D.items (.lst ds) = some ds := id rfl
theorem s_itemsR {lo hi : Int} (h : -(2 ^ 62) ≤ lo ∧ lo < 2 ^ 62 ∧ -(2 ^ 62) ≤ hi ∧ hi < 2 ^ 62) : D.items (.rng lo hi) = some (rngD lo (hi - lo).toNat) := if_pos h
@[simp] theorem s_tyN1 : tyN M .non = some "NoneType" := id rfl
@[simp] theorem s_tyN2 (b : Bool) : tyN M (.bl b) = some "bool" := id rfl
@[simp] theorem s_tyN3 (b : Int) : tyN M (.int b) = some "int" := id rfl
@[simp] theorem s_tyN4 (b : Str) : tyN M (.str b) = some "str" := id rfl
@[simp] theorem s_tyN5 (b : List D) : tyN M (.tup b) = some "tuple" := id rfl
@[simp] theorem s_tyN6 (b : List D) : tyN M (.lst b) = some "list" := id rfl
@[simp] theorem s_gSum (ns : List Int) : gSum [.lst (ns.map .int)] M Q = Q (.int ns.sum) M := by
  show (match (some (ns.map D.int)).bind asInts with | some ns => Q (.int ns.sum) M | none => False) = _
  rw [Option.bind_some, asInts_map]
@[simp] theorem s_gAll (ns : List Bool) : gAll [.lst (ns.map .bl)] M Q = Q (.bl (ns.all id)) M := by
  show (match (some (ns.map D.bl)).bind asBools with | some ns => Q (.bl (ns.all id)) M | none => False) = _
  rw [Option.bind_some, asBools_map]
@[simp] theorem s_gAny (ns : List Bool) : gAny [.lst (ns.map .bl)] M Q = Q (.bl (ns.any id)) M := by
  show (match (some (ns.map D.bl)).bind asBools with | some ns => Q (.bl (ns.any id)) M | none => False) = _
  rw [Option.bind_some, asBools_map]
/-! ### a comprehension, a function of its items -/
theorem lcL_map {g : TDG} {tt : TDT} {te : TDE} {ρw : Rho} (f : D → D) : ∀ (ds acc : List D) (M : Mm), (∀ d ∈ ds, ∀ (M : Mm) (R : D → Mm → Prop), R (f d) M → g d ρw M fun ρ2 M2 => tt ρ2 M2 fun b M3 => b = true ∧ te ρ2 M3 R) →
    Q (.lst (acc ++ ds.map f)) M → (hm : ∀ d ρ M (R R' : Rho → Mm → Prop), (∀ ρ M, R ρ M → R' ρ M) → g d ρ M R → g d ρ M R') → (ht : ∀ ρ M (R R' : Bool → Mm → Prop), (∀ b M, R b M → R' b M) → tt ρ M R → tt ρ M R') → lcL g tt te ρw Q ds acc M
  | [], acc, M, _, q, _, _ => by simpa [lcL] using q
  | d :: ds, acc, M, h, q, hm, ht => by
    unfold lcL
    refine hm _ _ _ _ _ (fun ρ2 M2 h2 => ht _ _ _ _ (fun b M3 h3 => ?_) h2) (h d List.mem_cons_self M (fun y M4 => lcL g tt te ρw Q ds (acc ++ [y]) M4) (lcL_map f ds _ M (fun e he => h e (List.mem_cons_of_mem _ he)) (by simpa using q) hm ht))
    rw [if_pos h3.1]
    exact h3.2
end DL
namespace DL
open PySem PySem.Spec PyProof.Rows L2
variable {M M' : Mm} {ρ ρ' : Rho} {De : DEnds} {Q : D → Mm → Prop}
@[simp] theorem s_iRng3 (t : TDA) {R : List D → Mm → Prop} : iRng3D t ρ M R = t ρ M fun ds M1 => match ds with
  | [.int i, .int j, .int c] => (c = -1 ∧ -(2 ^ 62) ≤ i ∧ i < 2 ^ 62 ∧ -(2 ^ 62) ≤ j ∧ j < 2 ^ 62) ∧ R (dnD i (i - j).toNat) M1
  | _ => False := id rfl
end DL
namespace DL
open PySem PySem.Spec PyProof.Rows L2
variable {M M' : Mm} {ρ ρ' : Rho} {De : DEnds} {Q : D → Mm → Prop}
@[simp] theorem s_Par3 (i j l : Nat) (ta : TDA) : dPar3 i j l ta De ρ M = ta ρ M fun ds M1 => match ds with
  | [d, e, f] => De.nx (((ρ.set i (some d)).set j (some e)).set l (some f)) M1
  | _ => False := id rfl
@[simp] theorem s_DGet (to ti : TDE) : eDGet to ti ρ M Q = to ρ M fun d M1 => ti ρ M1 fun y M2 => ∃ kds ks z, resT2 M2 d = some kds ∧ y = .tup (ks.map kD) ∧ valD kds ks = some z ∧ Q z M2 := id rfl
@[simp] theorem s_DIn (b : Bool) (ti to : TDE) : eDIn b ti to ρ M Q = ti ρ M fun y M1 => to ρ M1 fun d M2 => ∃ kds ks, resT2 M2 d = some kds ∧ y = .tup (ks.map kD) ∧ Q (.bl (b == (valD kds ks).isSome)) M2 := id rfl
@[simp] theorem s_DPut (to ti tv : TDE) : dDPut to ti tv De ρ M = tv ρ M fun z M1 => to ρ M1 fun d M2 => ti ρ M2 fun y M3 => ∃ a kds ks, d = .obj a ∧ M3.lookup a = some (.dT kds) ∧ y = .tup (ks.map kD) ∧ kds.length < sizeLine ∧ De.nx ρ (putM M3 a (.dT (putD kds ks z))) := id rfl
@[simp] theorem s_Disp (ti tv : TDE) : eDisp ti tv ρ M Q = ∀ p, M.lookup p = none → ti ρ ((p, .dT []) :: M) fun y M1 => tv ρ M1 fun z M2 => M2.lookup p = some (.dT []) ∧ ∃ ks, y = .tup (ks.map kD) ∧ Q (.obj p) (putM M2 p (.dT [(ks, z)])) := id rfl
@[simp] theorem s_ForT (i : Nat) (g : TDG) (tb : TDS) : dForT i g tb De ρ M = ∃ a kds M', ρ[i]? = some (some (.obj a)) ∧ ((a, MO.dT kds) :: M').Sublist M ∧ forL g tb (keysD kds) De (ρ.set i (some (.dic kds))) M' := id rfl
@[simp] theorem s_Frz (i : Nat) (t : TDS) : dFrz i t De ρ M = ∃ a ds M', ρ[i]? = some (some (.obj a)) ∧ ((a, MO.lst ds) :: M').Sublist M ∧ t De (ρ.set i (some (.lst ds))) M' := id rfl
@[simp] theorem s_gInT (b : Bool) (i : Int) (ns : List Int) : gInI b (.int i) (.tup (ns.map .int)) M Q = Q (.bl (if b then !decide (i ∈ ns) else decide (i ∈ ns))) M := by
  unfold gInI
  rw [resS_tup, Option.bind_some, asInts_map]
@[simp] theorem s_gMulI' (i j : Int) : gMulI (.int i) (.int j) M Q = ((Sm i ∧ Sm j) ∧ Q (.int (i * j)) M) := id rfl
end DL
namespace DL
open PySem PySem.Spec PyProof.Rows L2
variable {M M' : Mm} {ρ ρ' : Rho} {De : DEnds} {Q : D → Mm → Prop}
@[simp] theorem s_gSortSet (ns : List Int) : gSortSet (.tup (ns.map .int)) M Q = ∃ ms : List Int, ns.map D.int = ms.map D.int ∧ ms.length < 64 ∧ ∀ ns' : List Int, ns'.Pairwise (· < ·) → (∀ k, k ∈ ns' ↔ k ∈ ms) → Q (.lst (ns'.map .int)) M := by
  unfold gSortSet resT
  simp only [Option.some.injEq]
@[simp] theorem s_Act (i : Nat) (f : Addr) (act : SpD) (E : XD) (ta : TDA) : eAct i f act E ta ρ M Q = (ρ[i]? = some (some (.raw (.ref f))) ∧ ta ρ M fun ds M1 => act ds M1 Q E) := id rfl
@[simp] theorem s_Lam0 (P : Addr) (q : Str) (n : Nat) (spF : SpD → SpD) (tb : XD → TDE) (E : XD) : eLam0 P q n spF tb E ρ M Q = (M.lookup P = some (.tbl q) ∧ spF (actOf n tb ρ) [] M Q E) := id rfl
@[simp] theorem s_Lam2 (P : Addr) (q : Str) (n : Nat) (spF : SpD → SpD) (ta tb' : TDE) (tb : XD → TDE) (E : XD) : eLam2 P q n spF ta tb' tb E ρ M Q = ta ρ M fun d M1 => tb' ρ M1 fun e M2 => M2.lookup P = some (.tbl q) ∧ spF (actOf n tb ρ) [d, e] M2 Q E := id rfl
theorem s_actOf (n : Nat) (tb : XD → TDE) (ds : List D) (E : XD) : actOf n tb ρ ds M Q E = (ds.length = n ∧ tb E (ρ ++ ds.map some) M Q) := id rfl
@[simp] theorem s_gRevT (ds : List D) : gRevT (.tup ds) M Q = Q (.tup ds.reverse) M := id rfl
@[simp] theorem s_ChN (ta : TDE) (t : D → TDT) {R : Bool → Mm → Prop} : dChN ta t ρ M R = ta ρ M fun d M1 => t d ρ M1 R := id rfl
@[simp] theorem s_cOne (g : GD2) (tb : TDE) (d : D) {R : Bool → Mm → Prop} : cOne g tb d ρ M R = tb ρ M fun e M1 => g d e M1 fun z M2 => onB (fun k => R k M2) z := id rfl
@[simp] theorem s_cCons (g : GD2) (tb : TDE) (t : D → TDT) (d : D) {R : Bool → Mm → Prop} : cCons g tb t d ρ M R = tb ρ M fun e M1 => g d e M1 fun z M2 => onB (fun k => if k = true then t e ρ M2 R else R false M2) z := id rfl
@[simp] theorem s_gListR (lo hi : Int) : gListR [.rng lo hi] M Q = (RgOk lo hi ∧ Q (.lst (rngD lo (hi - lo).toNat)) M) := id rfl
end DL

namespace DL
open PySem PySem.Spec PyProof.Rows L2
variable {M M' : Mm} {ρ ρ' : Rho} {De : DEnds} {Q : D → Mm → Prop}

/-! ### plain data: equality -/
def D.pl : Nat → D → Prop
  | _, .non => True
  | _, .int _ => True
  | n + 1, .tup ds => ∀ d ∈ ds, D.pl n d
  | n + 1, .lst ds => ∀ d ∈ ds, D.pl n d
  | _, _ => False
theorem pys_pl {n : Nat} (ih : ∀ d : D, d.pl n → ∃ a, d.py = some a ∧ a.canLay0 = true ∧ a.depth ≤ n) : ∀ ds : List D, (∀ d ∈ ds, d.pl n) → ∃ as, D.pys ds = some as ∧ PyData.canLayAll0 as = true ∧ PyData.depthAll as ≤ n
  | [], _ => ⟨[], by simp [D.pys], by simp [PyData.canLayAll0], by simp [PyData.depthAll]⟩
  | d :: r, h => by
    obtain ⟨a, e1, e2, e3⟩ := ih d (h d List.mem_cons_self)
    obtain ⟨as, f1, f2, f3⟩ := pys_pl ih r fun x hx => h x (List.mem_cons_of_mem _ hx)
    refine ⟨a :: as, by simp [D.pys, e1, f1], by simp [PyData.canLayAll0, e2, f2], ?_⟩
    simp only [PyData.depthAll]; omega
theorem py_pl : ∀ (n : Nat) (d : D), d.pl n → ∃ a, d.py = some a ∧ a.canLay0 = true ∧ a.depth ≤ n
  | n, .non, _ => ⟨.none, by simp [D.py], by simp [PyData.canLay0], by simp [PyData.depth]⟩
  | n, .int i, _ => ⟨.int i, by simp [D.py], by simp [PyData.canLay0], by simp [PyData.depth]⟩
  | 0, .tup ds, h => by simp [D.pl] at h
  | 0, .lst ds, h => by simp [D.pl] at h
  | n + 1, .tup ds, h => by
    obtain ⟨as, f1, f2, f3⟩ := pys_pl (py_pl n) ds (by simpa [D.pl] using h)
    exact ⟨.tuple as, by simp [D.py, f1], by simpa [PyData.canLay0] using f2, by simp only [PyData.depth]; omega⟩
  | n + 1, .lst ds, h => by
    obtain ⟨as, f1, f2, f3⟩ := pys_pl (py_pl n) ds (by simpa [D.pl] using h)
    exact ⟨.list as, by simp [D.py, f1], by simpa [PyData.canLay0] using f2, by simp only [PyData.depth]; omega⟩
  | n, .bl b, h => by cases n <;> simp [D.pl] at h
  | n, .str b, h => by cases n <;> simp [D.pl] at h
  | n, .ins _ _, h => by cases n <;> simp [D.pl] at h
  | n, .obj _, h => by cases n <;> simp [D.pl] at h
  | n, .rng _ _, h => by cases n <;> simp [D.pl] at h
  | n, .kl _, h => by cases n <;> simp [D.pl] at h
  | n, .dic _, h => by cases n <;> simp [D.pl] at h
  | n, .raw _, h => by cases n <;> simp [D.pl] at h
theorem eqvs_pl {n m : Nat} (ih : ∀ (d e : D) (a b : PyData), d.pl n → e.pl m → d.py = some a → e.py = some b → (PyData.eqv a b = true ↔ d = e)) : ∀ (ds es : List D) (as bs : List PyData), (∀ d ∈ ds, d.pl n) → (∀ d ∈ es, d.pl m) → D.pys ds = some as → D.pys es = some bs → (PyData.eqvAll as bs = true ↔ ds = es)
  | [], [], as, bs, _, _, e1, e2 => by simp [D.pys] at e1 e2; subst e1 e2; simp [PyData.eqvAll]
  | [], e :: es, as, bs, _, _, e1, e2 => by
    simp [D.pys] at e1; subst e1
    unfold D.pys at e2
    split at e2
    · cases e2; simp [PyData.eqvAll]
    · cases e2
  | d :: ds, [], as, bs, _, _, e1, e2 => by
    simp [D.pys] at e2; subst e2
    unfold D.pys at e1
    split at e1
    · cases e1; simp [PyData.eqvAll]
    · cases e1
  | d :: ds, e :: es, as, bs, h1, h2, e1, e2 => by
    unfold D.pys at e1 e2
    split at e1
    · rename_i x y ex ey
      cases e1
      split at e2
      · rename_i x' y' ex' ey'
        cases e2
        have i1 := ih d e x x' (h1 _ List.mem_cons_self) (h2 _ List.mem_cons_self) ex ex'
        have i2 := eqvs_pl ih ds es y y' (fun z hz => h1 z (List.mem_cons_of_mem _ hz)) (fun z hz => h2 z (List.mem_cons_of_mem _ hz)) ey ey'
        rw [PyData.eqvAll, Bool.and_eq_true, i1, i2, List.cons.injEq]
      · cases e2
    · cases e1
theorem eqv_pl : ∀ (n m : Nat) (d e : D) (a b : PyData), d.pl n → e.pl m → d.py = some a → e.py = some b → (PyData.eqv a b = true ↔ d = e) := by
  intro n
  induction n with
  | zero =>
    intro m d e a b h1 h2 e1 e2
    cases d <;> simp [D.pl] at h1 <;> cases m <;> cases e <;> simp [D.pl] at h2 <;> simp [D.py] at e1 e2 <;> (try subst e1) <;> (try subst e2) <;> (try obtain ⟨_, _, rfl⟩ := e2) <;> simp [PyData.eqv]
  | succ n ih =>
    intro m d e a b h1 h2 e1 e2
    cases m with
    | zero => cases d <;> simp [D.pl] at h1 <;> cases e <;> simp [D.pl] at h2 <;> simp [D.py] at e1 e2 <;> (try subst e1) <;> (try subst e2) <;> (try obtain ⟨_, _, rfl⟩ := e1) <;> simp [PyData.eqv]
    | succ m =>
      cases d <;> simp [D.pl] at h1 <;> cases e <;> simp [D.pl] at h2 <;> simp [D.py] at e1 e2 <;> (try subst e1) <;> (try subst e2) <;> (try obtain ⟨_, f1, rfl⟩ := e1) <;> (try obtain ⟨_, f2, rfl⟩ := e2) <;> simp [PyData.eqv]
      · exact eqvs_pl (ih m) _ _ _ _ h1 h2 f1 f2
      · exact eqvs_pl (ih m) _ _ _ _ h1 h2 f1 f2
theorem pyM_pl {n : Nat} {d : D} {M : Mm} (h : d.pl n) : pyM M d = d.py := by cases d <;> first | rfl | (cases n <;> simp [D.pl] at h)
theorem gEq_pl (n : Nat) {d e : D} (h1 : d.pl n) (h2 : e.pl n) (hn : n ≤ 64) (q : ∀ b : Bool, (b = true ↔ d = e) → Q (.bl b) M) : gEq d e M Q := by
  obtain ⟨a, a1, a2, a3⟩ := py_pl n d h1
  obtain ⟨b, b1, b2, b3⟩ := py_pl n e h2
  refine ⟨a, b, by rw [pyM_pl h1]; exact a1, by rw [pyM_pl h2]; exact b1, ?_, ?_, q _ (eqv_pl n n d e a b h1 h2 a1 b1)⟩
  · unfold SeqAt.shaped; rw [a2]; simpa using Nat.le_trans a3 hn
  · unfold SeqAt.shaped; rw [b2]; simpa using Nat.le_trans b3 hn
theorem gNe_pl (n : Nat) {d e : D} (h1 : d.pl n) (h2 : e.pl n) (hn : n ≤ 64) (q : ∀ b : Bool, (b = true ↔ d ≠ e) → Q (.bl b) M) : gNe d e M Q := by
  obtain ⟨a, a1, a2, a3⟩ := py_pl n d h1
  obtain ⟨b, b1, b2, b3⟩ := py_pl n e h2
  refine ⟨a, b, by rw [pyM_pl h1]; exact a1, by rw [pyM_pl h2]; exact b1, ?_, ?_, q _ ?_⟩
  · unfold SeqAt.shaped; rw [a2]; simpa using Nat.le_trans a3 hn
  · unfold SeqAt.shaped; rw [b2]; simpa using Nat.le_trans b3 hn
  · have i := eqv_pl n n d e a b h1 h2 a1 b1
    rw [ne_eq, ← i]; simp
theorem shI (i : Int) : SeqAt.shaped (.int i) = true := rfl
theorem shB (i : Bool) : SeqAt.shaped (.bool i) = true := rfl
theorem gEqI_eq (i j : Int) : gEq (.int i) (.int j) M Q = Q (.bl (decide (i = j))) M := by
  refine propext ⟨fun ⟨a, b, e1, e2, _, _, q⟩ => ?_, fun q => ⟨.int i, .int j, by simp [pyM, D.py], by simp [pyM, D.py], rfl, rfl, ?_⟩⟩
  · simp [pyM, D.py] at e1 e2; subst e1 e2
    rw [PyData.eqv] at q; exact q
  · rw [PyData.eqv]; exact q
@[simp] theorem s_gEqI (i j : Int) : gEq (.int i) (.int j) M Q = Q (.bl (decide (i = j))) M := gEqI_eq i j
@[simp] theorem s_gNeI (i j : Int) : gNe (.int i) (.int j) M Q = Q (.bl (!decide (i = j))) M := by
  refine propext ⟨fun ⟨a, b, e1, e2, _, _, q⟩ => ?_, fun q => ⟨.int i, .int j, by simp [pyM, D.py], by simp [pyM, D.py], rfl, rfl, ?_⟩⟩
  · simp [pyM, D.py] at e1 e2; subst e1 e2
    rw [PyData.eqv] at q; exact q
  · rw [PyData.eqv]; exact q
@[simp] theorem s_gNeB (i j : Bool) : gNe (.bl i) (.bl j) M Q = Q (.bl (!(i == j))) M := by
  refine propext ⟨fun ⟨a, b, e1, e2, _, _, q⟩ => ?_, fun q => ⟨.bool i, .bool j, by simp [pyM, D.py], by simp [pyM, D.py], rfl, rfl, ?_⟩⟩
  · simp [pyM, D.py] at e1 e2; subst e1 e2
    rw [PyData.eqv] at q; exact q
  · rw [PyData.eqv]; exact q
@[simp] theorem s_gEqB (i j : Bool) : gEq (.bl i) (.bl j) M Q = Q (.bl (i == j)) M := by
  refine propext ⟨fun ⟨a, b, e1, e2, _, _, q⟩ => ?_, fun q => ⟨.bool i, .bool j, by simp [pyM, D.py], by simp [pyM, D.py], rfl, rfl, ?_⟩⟩
  · simp [pyM, D.py] at e1 e2; subst e1 e2
    rw [PyData.eqv] at q; exact q
  · rw [PyData.eqv]; exact q
/-! ### isinstance -/
theorem isi_eq {d : D} {T t : String} (hT : T ∈ ["bool", "int", "str", "tuple", "list"]) (e : tyN M d = some t) (ht : t ∈ ["NoneType", "bool", "int", "str", "tuple", "list"]) : gIsi d (.raw (.ty T)) M Q = Q (.bl (isiB t T)) M := by
  refine propext ⟨fun ⟨_, t', e', _, q⟩ => ?_, fun q => ⟨hT, t, e, ht, q⟩⟩
  rw [e] at e'; cases e'; exact q
@[simp] theorem isi_non_bool : gIsi .non (.raw (.ty "bool")) M Q = Q (.bl false) M := isi_eq (by decide) (t := "NoneType") rfl (by decide)
@[simp] theorem isi_non_int : gIsi .non (.raw (.ty "int")) M Q = Q (.bl false) M := isi_eq (by decide) (t := "NoneType") rfl (by decide)
@[simp] theorem isi_non_str : gIsi .non (.raw (.ty "str")) M Q = Q (.bl false) M := isi_eq (by decide) (t := "NoneType") rfl (by decide)
@[simp] theorem isi_non_tuple : gIsi .non (.raw (.ty "tuple")) M Q = Q (.bl false) M := isi_eq (by decide) (t := "NoneType") rfl (by decide)
@[simp] theorem isi_non_list : gIsi .non (.raw (.ty "list")) M Q = Q (.bl false) M := isi_eq (by decide) (t := "NoneType") rfl (by decide)
@[simp] theorem isi_bl_bool (b : Bool) : gIsi (.bl b) (.raw (.ty "bool")) M Q = Q (.bl true) M := isi_eq (by decide) (t := "bool") rfl (by decide)
@[simp] theorem isi_bl_int (b : Bool) : gIsi (.bl b) (.raw (.ty "int")) M Q = Q (.bl true) M := isi_eq (by decide) (t := "bool") rfl (by decide)
@[simp] theorem isi_bl_str (b : Bool) : gIsi (.bl b) (.raw (.ty "str")) M Q = Q (.bl false) M := isi_eq (by decide) (t := "bool") rfl (by decide)
@[simp] theorem isi_bl_tuple (b : Bool) : gIsi (.bl b) (.raw (.ty "tuple")) M Q = Q (.bl false) M := isi_eq (by decide) (t := "bool") rfl (by decide)
@[simp] theorem isi_bl_list (b : Bool) : gIsi (.bl b) (.raw (.ty "list")) M Q = Q (.bl false) M := isi_eq (by decide) (t := "bool") rfl (by decide)
@[simp] theorem isi_int_bool (i : Int) : gIsi (.int i) (.raw (.ty "bool")) M Q = Q (.bl false) M := isi_eq (by decide) (t := "int") rfl (by decide)
@[simp] theorem isi_int_int (i : Int) : gIsi (.int i) (.raw (.ty "int")) M Q = Q (.bl true) M := isi_eq (by decide) (t := "int") rfl (by decide)
@[simp] theorem isi_int_str (i : Int) : gIsi (.int i) (.raw (.ty "str")) M Q = Q (.bl false) M := isi_eq (by decide) (t := "int") rfl (by decide)
@[simp] theorem isi_int_tuple (i : Int) : gIsi (.int i) (.raw (.ty "tuple")) M Q = Q (.bl false) M := isi_eq (by decide) (t := "int") rfl (by decide)
@[simp] theorem isi_int_list (i : Int) : gIsi (.int i) (.raw (.ty "list")) M Q = Q (.bl false) M := isi_eq (by decide) (t := "int") rfl (by decide)
@[simp] theorem isi_str_bool (x : Str) : gIsi (.str x) (.raw (.ty "bool")) M Q = Q (.bl false) M := isi_eq (by decide) (t := "str") rfl (by decide)
@[simp] theorem isi_str_int (x : Str) : gIsi (.str x) (.raw (.ty "int")) M Q = Q (.bl false) M := isi_eq (by decide) (t := "str") rfl (by decide)
@[simp] theorem isi_str_str (x : Str) : gIsi (.str x) (.raw (.ty "str")) M Q = Q (.bl true) M := isi_eq (by decide) (t := "str") rfl (by decide)
@[simp] theorem isi_str_tuple (x : Str) : gIsi (.str x) (.raw (.ty "tuple")) M Q = Q (.bl false) M := isi_eq (by decide) (t := "str") rfl (by decide)
@[simp] theorem isi_str_list (x : Str) : gIsi (.str x) (.raw (.ty "list")) M Q = Q (.bl false) M := isi_eq (by decide) (t := "str") rfl (by decide)
@[simp] theorem isi_tup_bool (ds : List D) : gIsi (.tup ds) (.raw (.ty "bool")) M Q = Q (.bl false) M := isi_eq (by decide) (t := "tuple") rfl (by decide)
@[simp] theorem isi_tup_int (ds : List D) : gIsi (.tup ds) (.raw (.ty "int")) M Q = Q (.bl false) M := isi_eq (by decide) (t := "tuple") rfl (by decide)
@[simp] theorem isi_tup_str (ds : List D) : gIsi (.tup ds) (.raw (.ty "str")) M Q = Q (.bl false) M := isi_eq (by decide) (t := "tuple") rfl (by decide)
@[simp] theorem isi_tup_tuple (ds : List D) : gIsi (.tup ds) (.raw (.ty "tuple")) M Q = Q (.bl true) M := isi_eq (by decide) (t := "tuple") rfl (by decide)
@[simp] theorem isi_tup_list (ds : List D) : gIsi (.tup ds) (.raw (.ty "list")) M Q = Q (.bl false) M := isi_eq (by decide) (t := "tuple") rfl (by decide)
@[simp] theorem isi_lst_bool (ds : List D) : gIsi (.lst ds) (.raw (.ty "bool")) M Q = Q (.bl false) M := isi_eq (by decide) (t := "list") rfl (by decide)
@[simp] theorem isi_lst_int (ds : List D) : gIsi (.lst ds) (.raw (.ty "int")) M Q = Q (.bl false) M := isi_eq (by decide) (t := "list") rfl (by decide)
@[simp] theorem isi_lst_str (ds : List D) : gIsi (.lst ds) (.raw (.ty "str")) M Q = Q (.bl false) M := isi_eq (by decide) (t := "list") rfl (by decide)
@[simp] theorem isi_lst_tuple (ds : List D) : gIsi (.lst ds) (.raw (.ty "tuple")) M Q = Q (.bl false) M := isi_eq (by decide) (t := "list") rfl (by decide)
@[simp] theorem isi_lst_list (ds : List D) : gIsi (.lst ds) (.raw (.ty "list")) M Q = Q (.bl true) M := isi_eq (by decide) (t := "list") rfl (by decide)
/-! ### data of whole numbers -/
@[simp] theorem zip2_int (xs ys : List Int) : zip2D (xs.map .int) (ys.map .int) = (xs.zip ys).map fun p => D.tup [.int p.1, .int p.2] := by
  unfold zip2D
  rw [List.zip, List.map_zipWith, List.zipWith_map]
@[simp] theorem cutD_1 (ds : List D) : cutD ds (some 1) none = ds.tail := by
  unfold cutD
  have e1 : HT.sIx ds.length 0 (some 1) = min 1 ds.length := rfl
  rw [e1, HT.sIx_none]
  cases ds with
  | nil => rfl
  | cons d r => simp
@[simp] theorem cutD_to (ds : List D) (k : Nat) : cutD ds none (some (k : Int)) = ds.take k := by
  unfold cutD
  have e1 : HT.sIx ds.length ds.length (some (k : Int)) = min k ds.length := HT.sIx_nat _ _ _
  rw [e1, HT.sIx_none]
  simp [List.take_take]
@[simp] theorem cutD_to1 (ds : List D) : cutD ds none (some 1) = ds.take 1 := cutD_to ds 1
@[simp] theorem atI_map {α β : Type} (f : α → β) (xs : List α) (i : Int) : atI (xs.map f) i = (atI xs i).map f := by
  unfold atI
  rw [List.length_map]
  cases ixN xs.length i <;> simp
theorem atI_nat {α : Type} (xs : List α) (i : Nat) (h : i < xs.length) : atI xs (i : Int) = some xs[i] := by
  unfold atI ixN
  rw [if_pos (by omega), if_pos (by omega)]
  simp [h]
theorem atI_last {α : Type} (xs : List α) (h : xs ≠ []) : atI xs (-1) = some (xs.getLast h) := by
  have hl : 0 < xs.length := List.length_pos_iff.mpr h
  unfold atI ixN
  rw [if_neg (by omega), if_pos (by omega)]
  simp only [Option.bind_some]
  have : (-1 + (xs.length : Int)).toNat = xs.length - 1 := by omega
  rw [this, List.getLast_eq_getElem]
  exact List.getElem?_eq_getElem _
@[simp] theorem atI_h0 {α : Type} (x : α) (xs : List α) : atI (x :: xs) 0 = some x := atI_nat (x :: xs) 0 (by simp)
theorem rngD_nat (n : Nat) : rngD 0 n = (List.range n).map fun (i : Nat) => D.int (i : Int) := by
  unfold rngD; simp
theorem rngD_from (lo : Nat) (n : Nat) : rngD (lo : Int) n = (List.range n).map fun (i : Nat) => D.int ((lo + i : Nat) : Int) := by
  unfold rngD; simp
/-! ### objects -/
@[simp] theorem lk_top (a : Addr) (m : MO) (M : Mm) : List.lookup a ((a, m) :: M) = some m := lookup_top a m M
@[simp] theorem pt_top (a : Addr) (m m' : MO) (M : Mm) : putM ((a, m) :: M) a m' = (a, m') :: M := putM_top a m m' M
theorem s_gAppO {a : Addr} {x : D} {xs : List D} (h : M.lookup a = some (.lst xs)) : gApp (.obj a) x M Q = (xs.length < sizeLine ∧ Q .non (putM M a (.lst (xs ++ [x])))) := by
  show (match lstOf (M.lookup a) with | some xs => xs.length < sizeLine ∧ Q .non (putM M a (.lst (xs ++ [x]))) | none => False) = _
  rw [h]; rfl
theorem s_gIxO {a : Addr} {i : Int} {xs : List D} {x : D} (h : M.lookup a = some (.lst xs)) (e : atI xs i = some x) : gIx (.obj a) (.int i) M Q = Q x M := by
  unfold gIx; rw [resS_obj h]; simp only; rw [e]
theorem s_gLenO {a : Addr} {xs : List D} (h : M.lookup a = some (.lst xs)) : gLen [.obj a] M Q = Q (.int (xs.length : Nat)) M := by
  show gLen1 (.obj a) M Q = _
  unfold gLen1; rw [resS_obj h]
theorem s_gTupO {a : Addr} {xs : List D} (h : M.lookup a = some (.lst xs)) : gTuple [.obj a] M Q = Q (.tup xs) M := by
  show (match resS M (.obj a) with | some ds => Q (.tup ds) M | none => False) = _
  rw [resS_obj h]
theorem s_gSlO {a : Addr} {xs : List D} {lo hi : Option Int} (h : M.lookup a = some (.lst xs)) : gSl (.obj a) lo hi M Q = Q (.lst (cutD xs lo hi)) M := by
  show (match resL M (.obj a) with | some ds => Q (.lst (cutD ds lo hi)) M | none => False) = _
  rw [resL_obj h]
theorem s_gSortO {a : Addr} {ns : List Int} (h : M.lookup a = some (.lst (ns.map .int))) : gSorted [.obj a] M Q = ∀ ns' : List Int, ns'.Perm ns → ns'.Pairwise (· ≤ ·) → Q (.lst (ns'.map .int)) M := by
  show (match (resL M (.obj a)).bind asInts with | some ns => ∀ ns' : List Int, ns'.Perm ns → ns'.Pairwise (· ≤ ·) → Q (.lst (ns'.map .int)) M | none => False) = _
  rw [resL_obj h, Option.bind_some, asInts_map]
theorem s_gSortL {ns : List Int} : gSorted [.lst (ns.map .int)] M Q = ∀ ns' : List Int, ns'.Perm ns → ns'.Pairwise (· ≤ ·) → Q (.lst (ns'.map .int)) M := by
  show (match (resL M (.lst (ns.map .int))).bind asInts with | some ns => ∀ ns' : List Int, ns'.Perm ns → ns'.Pairwise (· ≤ ·) → Q (.lst (ns'.map .int)) M | none => False) = _
  rw [resL_lst, Option.bind_some, asInts_map]
/-! ### loops -/
theorem forL_ind {g : TDG} {tb : TDS} (I : List D → Rho → Mm → Prop) (h0 : ∀ ρ M, I [] ρ M → De.nx ρ M)
    (hs : ∀ d r ρ M (rec : Rho → Mm → Prop), I (d :: r) ρ M → (∀ ρ M, I r ρ M → rec ρ M) → g d ρ M fun ρ1 M1 => tb { De with nx := rec, ct := rec, bk := De.nx } ρ1 M1) : ∀ {ds : List D} {ρ : Rho} {M : Mm}, I ds ρ M → forL g tb ds De ρ M
  | [], ρ, M, h => h0 ρ M h
  | d :: r, ρ, M, h => by rw [s_forL_cons]; exact hs d r ρ M _ h fun ρ M h => forL_ind I h0 hs h
theorem forL_map {α : Type} (f : α → D) {g : TDG} {tb : TDS} (I : List α → Rho → Mm → Prop) (h0 : ∀ ρ M, I [] ρ M → De.nx ρ M)
    (hs : ∀ x r ρ M (rec : Rho → Mm → Prop), I (x :: r) ρ M → (∀ ρ M, I r ρ M → rec ρ M) → g (f x) ρ M fun ρ1 M1 => tb { De with nx := rec, ct := rec, bk := De.nx } ρ1 M1) : ∀ {xs : List α} {ρ : Rho} {M : Mm}, I xs ρ M → forL g tb (xs.map f) De ρ M
  | [], ρ, M, h => h0 ρ M h
  | d :: r, ρ, M, h => by rw [List.map_cons, s_forL_cons]; exact hs d r ρ M _ h fun ρ M h => forL_map f I h0 hs h
theorem forL_rng {n : Nat} (f : Nat → D) {g : TDG} {tb : TDS} (I : Nat → Rho → Mm → Prop) (h0 : ∀ ρ M, I n ρ M → De.nx ρ M)
    (hs : ∀ i ρ M (rec : Rho → Mm → Prop), i < n → I i ρ M → (∀ ρ M, I (i + 1) ρ M → rec ρ M) → g (f i) ρ M fun ρ1 M1 => tb { De with nx := rec, ct := rec, bk := De.nx } ρ1 M1) {ρ : Rho} {M : Mm} (h : I 0 ρ M) : forL g tb ((List.range n).map f) De ρ M := by
  rw [List.range_eq_range']
  refine forL_map f (fun r ρ M => ∃ i, i ≤ n ∧ r = List.range' i (n - i) ∧ I i ρ M) (fun ρ M ⟨i, hi, e, h⟩ => ?_) (fun x r ρ M rec ⟨i, hi, e, h⟩ hr => ?_) ⟨0, by omega, by simp, h⟩
  · have : n - i = 0 := by simpa using (congrArg List.length e).symm
    have : i = n := by omega
    subst this; exact h0 ρ M h
  · obtain ⟨k, hk⟩ : ∃ k, n - i = k + 1 := ⟨n - i - 1, by
      have := congrArg List.length e
      simp at this; omega⟩
    rw [hk, List.range'_succ] at e
    cases e
    exact hs _ ρ M rec (by omega) h fun ρ M h' => hr ρ M ⟨_, by omega, by congr 1; omega, h'⟩
theorem lcL_map' {α : Type} (f : α → D) {g : TDG} {tt : TDT} {te : TDE} {ρw : Rho} (I : List α → List D → Mm → Prop) (h0 : ∀ acc M, I [] acc M → Q (.lst acc) M)
    (hs : ∀ x r acc M (rec : List D → Mm → Prop), I (x :: r) acc M → (∀ acc M, I r acc M → rec acc M) → g (f x) ρw M fun ρ2 M2 => tt ρ2 M2 fun b M3 => if b = true then te ρ2 M3 fun y M4 => rec (acc ++ [y]) M4 else rec acc M3) : ∀ {xs : List α} {acc : List D} {M : Mm}, I xs acc M → lcL g tt te ρw Q (xs.map f) acc M
  | [], acc, M, h => h0 acc M h
  | d :: r, acc, M, h => by rw [List.map_cons]; unfold lcL; exact hs d r acc M (fun acc M => lcL g tt te ρw Q (r.map f) acc M) h fun acc M h => lcL_map' f I h0 hs h
theorem lcL_ind {g : TDG} {tt : TDT} {te : TDE} {ρw : Rho} (I : List D → List D → Mm → Prop) (h0 : ∀ acc M, I [] acc M → Q (.lst acc) M)
    (hs : ∀ x r acc M (rec : List D → Mm → Prop), I (x :: r) acc M → (∀ acc M, I r acc M → rec acc M) → g x ρw M fun ρ2 M2 => tt ρ2 M2 fun b M3 => if b = true then te ρ2 M3 fun y M4 => rec (acc ++ [y]) M4 else rec acc M3) {xs acc : List D} {M : Mm} (h : I xs acc M) : lcL g tt te ρw Q xs acc M := by
  have := lcL_map' (Q := Q) (fun d : D => d) I h0 hs h
  rwa [List.map_id'] at this
/-- a comprehension that maps or leaves out, item by item, and leaves all objects as they are -/
theorem lcL_fil {α : Type} (i : α → D) (f : α → Option D) (P : α → Prop) {g : TDG} {tt : TDT} {te : TDE} {ρw : Rho} (hs : ∀ x M acc (rec : List D → Mm → Prop), P x → rec (acc ++ (f x).toList) M → g (i x) ρw M fun ρ2 M2 => tt ρ2 M2 fun b M3 => if b = true then te ρ2 M3 fun y M4 => rec (acc ++ [y]) M4 else rec acc M3) {xs : List α} {M : Mm}
    (hp : ∀ x ∈ xs, P x) (q : Q (.lst (xs.filterMap f)) M) : lcL g tt te ρw Q (xs.map i) [] M := by
  refine lcL_map' i (fun r acc M' => M' = M ∧ (∀ x ∈ r, P x) ∧ acc ++ r.filterMap f = xs.filterMap f) (fun acc M' ⟨e, _, h⟩ => ?_) (fun x r acc M' rec ⟨e, hq, h⟩ hr => ?_) ⟨rfl, hp, rfl⟩
  · subst e
    rw [← h] at q; simpa using q
  · subst e
    refine hs x M' acc rec (hq x List.mem_cons_self) (hr _ _ ⟨rfl, fun y hy => hq y (List.mem_cons_of_mem _ hy), ?_⟩)
    rw [← h, List.filterMap_cons]
    cases f x <;> simp
theorem lcL_fun {α : Type} (i : α → D) (f : α → D) (P : α → Prop) {g : TDG} {tt : TDT} {te : TDE} {ρw : Rho} (hs : ∀ x M acc (rec : List D → Mm → Prop), P x → rec (acc ++ [f x]) M → g (i x) ρw M fun ρ2 M2 => tt ρ2 M2 fun b M3 => if b = true then te ρ2 M3 fun y M4 => rec (acc ++ [y]) M4 else rec acc M3) {xs : List α} {M : Mm}
    (hp : ∀ x ∈ xs, P x) (q : Q (.lst (xs.map f)) M) : lcL g tt te ρw Q (xs.map i) [] M :=
  lcL_fil i (fun x => some (f x)) P (fun x M acc rec hx h => hs x M acc rec hx (by simpa using h)) hp (by simpa using q)
theorem while_ind {c : TDT} {tb : TDS} (I : Nat → Rho → Mm → Prop)
    (hs : ∀ n ρ M, I n ρ M → (∀ n', n = n' + 1 → ∀ ρ M, I n' ρ M → whileN c tb De n ρ M) → c ρ M fun b M1 => if b = true then tb { De with nx := whileN c tb De n, ct := whileN c tb De n, bk := De.nx } ρ M1 else De.nx ρ M1) : ∀ n ρ M, I n ρ M → whileN c tb De (n + 1) ρ M := by
  intro n
  induction n with
  | zero => intro ρ M h; exact hs 0 ρ M h fun n' e => by omega
  | succ n ih => intro ρ M h; exact hs (n + 1) ρ M h fun n' e ρ M h' => by cases e; exact ih ρ M h'
end DL
namespace DL
open PySem PySem.Spec PyProof.Rows L2
variable {M : Mm} {Q : D → Mm → Prop}
theorem pys_bls : ∀ bs : List Bool, D.pys (bs.map .bl) = some (bs.map PyData.bool)
  | [] => by simp [D.pys]
  | b :: r => by simp [D.pys, D.py, pys_bls r]
theorem lay_bls : ∀ bs : List Bool, PyData.canLayAll0 (bs.map PyData.bool) = true
  | [] => by simp [PyData.canLayAll0]
  | b :: r => by simp [PyData.canLayAll0, PyData.canLay0, lay_bls r]
theorem dep_bls : ∀ bs : List Bool, PyData.depthAll (bs.map PyData.bool) = 0
  | [] => by simp [PyData.depthAll]
  | b :: r => by simp [PyData.depthAll, PyData.depth, dep_bls r]
theorem eqv_bls : ∀ bs cs : List Bool, PyData.eqvAll (bs.map PyData.bool) (cs.map PyData.bool) = true ↔ bs = cs
  | [], [] => by simp [PyData.eqvAll]
  | [], _ :: _ => by simp [PyData.eqvAll]
  | _ :: _, [] => by simp [PyData.eqvAll]
  | b :: r, c :: q => by simp [PyData.eqvAll, PyData.eqv, eqv_bls r q]
/-- lists of truth values -/
theorem gEq_bls {bs cs : List Bool} (q : ∀ b : Bool, (b = true ↔ bs = cs) → Q (.bl b) M) : gEq (.lst (bs.map .bl)) (.lst (cs.map .bl)) M Q := by
  refine ⟨.list (bs.map .bool), .list (cs.map .bool), by simp [pyM, D.py, pys_bls], by simp [pyM, D.py, pys_bls], ?_, ?_, q _ ?_⟩
  · unfold SeqAt.shaped; simp [PyData.canLay0, lay_bls, PyData.depth, dep_bls]
  · unfold SeqAt.shaped; simp [PyData.canLay0, lay_bls, PyData.depth, dep_bls]
  · simp [PyData.eqv, eqv_bls]
end DL
namespace DL
open PySem PySem.Spec PyProof.Rows L2
variable {M : Mm} {Q : D → Mm → Prop}
theorem s_gRevO {a : Addr} {xs : List D} (h : M.lookup a = some (.lst xs)) : gRev (.obj a) M Q = Q (.lst xs.reverse) M := by
  unfold gRev
  rw [resL_obj h]
end DL
namespace DL
open PySem PySem.Spec PyProof.Rows L2
variable {M : Mm} {Q : D → Mm → Prop}
theorem any_pl (n : Nat) {d : D} {a : PyData} (h1 : d.pl n) (e1 : d.py = some a) : ∀ (es : List D) (as : List PyData), (∀ e ∈ es, e.pl n) → D.pys es = some as → ((as.any fun z => PyData.eqv z a) = true ↔ d ∈ es)
  | [], as, _, e => by simp [D.pys] at e; subst e; simp
  | x :: es, as, h, e => by
    unfold D.pys at e
    split at e
    · rename_i y ys ey eys
      cases e
      have i1 := eqv_pl n n x d y a (h _ List.mem_cons_self) h1 ey e1
      have i2 := any_pl n h1 e1 es ys (fun z hz => h z (List.mem_cons_of_mem _ hz)) eys
      rw [List.any_cons, Bool.or_eq_true, i1, i2, List.mem_cons]
      constructor
      · rintro (z | z)
        · exact .inl z.symm
        · exact .inr z
      · rintro (z | z)
        · exact .inl z.symm
        · exact .inr z
    · cases e
theorem gInD_pl (n : Nat) {neg : Bool} {d : D} {es : List D} (h1 : d.pl n) (h2 : ∀ e ∈ es, e.pl n) (hn : n + 1 ≤ 64) (q : ∀ b : Bool, (b = true ↔ d ∈ es) → Q (.bl (if neg then !b else b)) M) : gInD neg d (.lst es) M Q := by
  obtain ⟨a, a1, a2, a3⟩ := py_pl n d h1
  obtain ⟨as, b1, b2, b3⟩ := pys_pl (py_pl n) es h2
  refine ⟨a, as, by rw [pyM_pl h1]; exact a1, by simp [pyM, D.py, b1], ?_, ?_, q _ (any_pl n h1 a1 es as h2 b1)⟩
  · unfold SeqAt.shaped; rw [a2]; simp; omega
  · unfold SeqAt.shaped; simp [PyData.canLay0, b2, PyData.depth]; omega
end DL

set_option maxHeartbeats 0
namespace DL
open PySem PySem.Spec PyProof.Rows L2
variable {N : List Str} {ds : List D} {M M' : Mm} {Q : D → Mm → Prop} {E : XD}
/-! ### plain lists of whole numbers -/
abbrev tI (xs : List Int) : D := .tup (xs.map .int)
def D.base : D → Prop
  | .non | .bl _ | .int _ | .str _ | .tup _ | .lst _ => True
  | _ => False
def isFb : D → Int → Int → Bool
  | .int i, lo, hi => decide (lo ≤ i) && decide (i ≤ hi)
  | _, _, _ => false
def Asc : List Int → Prop
  | a :: b :: r => a ≤ b ∧ Asc (b :: r)
  | _ => True
structure Tops (ts : List Int) : Prop where
  n : 1 ≤ ts.length ∧ ts.length ≤ 6
  b : ∀ t ∈ ts, 1 ≤ t ∧ t ≤ 1000000
  asc : Asc ts
def St : List Int → List Int → Prop
  | [], [] => True
  | t :: ts, s :: ss => (0 ≤ s ∧ s ≤ t) ∧ St ts ss
  | _, _ => False
theorem St.len : ∀ {ts ss : List Int}, St ts ss → ss.length = ts.length
  | [], [], _ => rfl
  | t :: ts, s :: ss, h => by simpa using St.len h.2
structure Runs (rs : List Int) : Prop where
  n : rs.length ≤ 20
  b : ∀ r ∈ rs, -1000000 ≤ r ∧ r ≤ 1000000 ∧ r ≠ 0
@[simp] theorem zip2_tl (xs : List Int) : zip2D (xs.map .int) (xs.map D.int).tail = (xs.zip xs.tail).map fun p => D.tup [.int p.1, .int p.2] := by
  rw [← List.map_tail, zip2_int]
@[simp] theorem gAll_c {α : Type} (xs : List α) : gAll [.lst (xs.map fun _ => D.bl true)] M Q = Q (.bl true) M := by
  have e : (xs.map fun _ => D.bl true) = (xs.map fun _ => true).map .bl := by simp
  rw [e, s_gAll, show (xs.map fun _ => true).all id = true by simp]
instance (i : Int) : Decidable (Sm i) := inferInstanceAs (Decidable (_ < _))
theorem len_le {n : Nat} (h : n ≤ 1000000) : n ≤ sizeLine := Nat.le_trans h (by decide)
def sp_is_from : SpD := fun ds M Q E => ∃ d lo hi, ds = [d, .int lo, .int hi] ∧ d.base ∧ Q (.bl (isFb d lo hi)) M
theorem len_is_from : ∀ ds M Q E, sp_is_from ds M Q E → ds.length = 3 := fun _ _ _ _ ⟨_, _, _, e, _⟩ => by rw [e]; rfl
def t_is_from : TDS := (dRet (eAnd (eCB (on2 gIsi) (aCons (eVar 0) (aCons (eC (.raw (.ty "int"))) aNil))) (eAnd (eNot (eCB (on2 gIsi) (aCons (eVar 0) (aCons (eC (.raw (.ty "bool"))) aNil)))) (eCh gLe gLe (eVar 1) (eVar 0) (eVar 2)))))

theorem rd_is_from (h : sp_is_from ds M Q E) : t_is_from { nx := fun _ M' => fin Q .non M', rt := fin Q } (startN 3 ds) M := by
  obtain ⟨d, lo, hi, rfl, hb, q⟩ := h
  show t_is_from _ [some d, some (.int lo), some (.int hi)] M
  unfold t_is_from
  cases d <;> first | (exact hb.elim) | skip
  case int i =>
    by_cases h1 : lo ≤ i <;> simp [onB, h1] <;> exact fin_same (by simpa [isFb, h1] using q)
  all_goals (simp [onB]; exact fin_same q)
def sp_is_ranges : SpD := fun ds M Q E => ∃ ts, ds = [tI ts] ∧ Tops ts ∧ Q (.bl true) M
theorem len_is_ranges : ∀ ds M Q E, sp_is_ranges ds M Q E → ds.length = 1 := fun _ _ _ _ ⟨_, e, _⟩ => by rw [e]; rfl
theorem asc_zip : ∀ {ts : List Int}, Asc ts → ∀ p ∈ ts.zip ts.tail, p.1 ≤ p.2
  | [], _, p, hp => by simp at hp
  | [a], _, p, hp => by simp at hp
  | a :: b :: r, h, p, hp => by
    rcases List.mem_cons.mp hp with rfl | hp
    · exact h.1
    · exact asc_zip h.2 p hp
def t_is_ranges : TDS := (dSeq (dIf (dOr (dNot (tVal (eCB (on2 gIsi) (aCons (eVar 0) (aCons (eC (.raw (.ty "tuple"))) aNil))))) (dNot (tVal (eCh gLe gLe (eC (.int 1)) (eCB gLen (aCons (eVar 0) aNil)) (eC (.int 6)))))) (dRet (eC (.bl false))) dNext)
  (dSeq (dIf (dNot (tVal (eCB gAll (aCons (eLc (iSeq (eVar 0)) (dgName 1) tYesD (eCall sp_is_from noE (aCons (eVar 1) (aCons (eC (.int 1)) (aCons (eC (.int 1000000)) aNil)))) [1]) aNil)))) (dRet (eC (.bl false))) dNext)
  (dRet (eCB gAll (aCons (eLc (iZip2 (aCons (eVar 0) (aCons (eSl (eVar 0) (oSome (eC (.int 1))) oNone) aNil))) (dgTup 2 (dgCons (dgName 2) (dgCons (dgName 3) dgNil))) tYesD (eOp2 gLe (eVar 2) (eVar 3)) [2, 3]) aNil)))))

theorem rd_is_ranges (h : sp_is_ranges ds M Q E) : t_is_ranges { nx := fun _ M' => fin Q .non M', rt := fin Q } (startN 4 ds) M := by
  obtain ⟨ts, rfl, ht, q⟩ := h
  show t_is_ranges _ [some (tI ts), none, none, none] M
  unfold t_is_ranges
  have l1 : (1 : Int) ≤ ts.length := by have := ht.n; omega
  have l2 : (ts.length : Int) ≤ 6 := by have := ht.n; omega
  simp [onB, l1, l2]
  refine ⟨len_le (by have := ht.n; omega), ?_⟩
  refine lcL_fun .int (fun _ => .bl true) (fun i => 1 ≤ i ∧ i ≤ 1000000) (fun x M acc rec hx h => ?_) ht.b ?_
  · simp; exact ⟨_, _, _, rfl, trivial, by simpa [isFb, hx] using h⟩
  rw [gAll_c]
  simp [onB]
  refine ⟨by have := ht.n; have : ts.length ≤ sizeLine := len_le (by omega); omega, ?_⟩
  refine lcL_fun (fun p : Int × Int => D.tup [.int p.1, .int p.2]) (fun _ => .bl true) (fun p => p.1 ≤ p.2) (fun x M acc rec hx h => ?_) (asc_zip ht.asc) ?_
  · simp; simpa [hx] using h
  rw [gAll_c]
  exact fin_same q
def sp_good_state : SpD := fun ds M Q E => ∃ ts ss, ds = [tI ts, tI ss] ∧ Tops ts ∧ St ts ss ∧ Q (.bl true) M
theorem len_good_state : ∀ ds M Q E, sp_good_state ds M Q E → ds.length = 2 := fun _ _ _ _ ⟨_, _, e, _⟩ => by rw [e]; rfl
theorem St.zip : ∀ {ts ss : List Int}, St ts ss → ∀ p ∈ ss.zip ts, 0 ≤ p.1 ∧ p.1 ≤ p.2
  | [], [], _, p, hp => by simp at hp
  | t :: ts, s :: ss, h, p, hp => by
    rcases List.mem_cons.mp hp with rfl | hp
    · exact h.1
    · exact St.zip h.2 p hp
def t_good_state : TDS := (dSeq (dIf (dOr (dNot (tVal (eCB (on2 gIsi) (aCons (eVar 1) (aCons (eC (.raw (.ty "tuple"))) aNil))))) (tVal (eOp2 gNe (eCB gLen (aCons (eVar 1) aNil)) (eCB gLen (aCons (eVar 0) aNil))))) (dRet (eC (.bl false))) dNext)
  (dRet (eCB gAll (aCons (eLc (iZip2 (aCons (eVar 1) (aCons (eVar 0) aNil))) (dgTup 2 (dgCons (dgName 2) (dgCons (dgName 3) dgNil))) tYesD (eCall sp_is_from noE (aCons (eVar 2) (aCons (eC (.int 0)) (aCons (eVar 3) aNil)))) [2, 3]) aNil))))

theorem rd_good_state (h : sp_good_state ds M Q E) : t_good_state { nx := fun _ M' => fin Q .non M', rt := fin Q } (startN 4 ds) M := by
  obtain ⟨ts, ss, rfl, ht, hs, q⟩ := h
  show t_good_state _ [some (tI ts), some (tI ss), none, none] M
  unfold t_good_state
  have l1 := hs.len
  have l2 := ht.n
  simp [onB, l1]
  refine ⟨len_le (by omega), ?_⟩
  refine lcL_fun (fun p : Int × Int => D.tup [.int p.1, .int p.2]) (fun _ => .bl true) (fun p => 0 ≤ p.1 ∧ p.1 ≤ p.2) (fun x M acc rec hx h => ?_) hs.zip ?_
  · simp; exact ⟨_, _, _, rfl, trivial, by simpa [isFb, hx] using h⟩
  rw [gAll_c]
  exact fin_same q
def sp_need_ranges : SpD := fun ds M Q E => ∃ ts, ds = [tI ts] ∧ Tops ts ∧ Q .non M
theorem len_need_ranges : ∀ ds M Q E, sp_need_ranges ds M Q E → ds.length = 1 := fun _ _ _ _ ⟨_, e, _⟩ => by rw [e]; rfl
def t_need_ranges : TDS := (dIf (dNot (tVal (eCall sp_is_ranges noE (aCons (eVar 0) aNil)))) dNever dNext)

theorem rd_need_ranges (h : sp_need_ranges ds M Q E) : t_need_ranges { nx := fun _ M' => fin Q .non M', rt := fin Q } (startN 1 ds) M := by
  obtain ⟨ts, rfl, ht, q⟩ := h
  show t_need_ranges _ [some (tI ts)] M
  unfold t_need_ranges
  simp
  exact ⟨ts, rfl, ht, by simpa [onB] using fin_same q⟩
def sp_need_state : SpD := fun ds M Q E => ∃ ts ss, ds = [tI ts, tI ss] ∧ Tops ts ∧ St ts ss ∧ Q .non M
theorem len_need_state : ∀ ds M Q E, sp_need_state ds M Q E → ds.length = 2 := fun _ _ _ _ ⟨_, _, e, _⟩ => by rw [e]; rfl
def t_need_state : TDS := (dIf (dNot (tVal (eCall sp_good_state noE (aCons (eVar 0) (aCons (eVar 1) aNil))))) dNever dNext)

theorem rd_need_state (h : sp_need_state ds M Q E) : t_need_state { nx := fun _ M' => fin Q .non M', rt := fin Q } (startN 2 ds) M := by
  obtain ⟨ts, ss, rfl, ht, hs, q⟩ := h
  show t_need_state _ [some (tI ts), some (tI ss)] M
  unfold t_need_state
  simp
  exact ⟨ts, ss, rfl, ht, hs, by simpa [onB] using fin_same q⟩
/-! ### presses -/
def cl (t x : Int) : Int := max 0 (min t x)
def mvs (l t : Int) (rs : List Int) : Int := rs.foldl (fun f r => cl t (f + r)) l
def mv1 (ts ss : List Int) (d : Int) : List Int := (ss.zip ts).map fun p => cl p.2 (p.1 + d)
theorem mv1_cons (t : Int) (ts : List Int) (s : Int) (ss : List Int) (d : Int) : mv1 (t :: ts) (s :: ss) d = cl t (s + d) :: mv1 ts ss d := rfl
def amv (ts ss rs : List Int) : List Int := (ss.zip ts).map fun p => mvs p.1 p.2 rs
theorem amv_one (ts ss : List Int) (r : Int) : amv ts ss [r] = mv1 ts ss r := rfl
def sp_moved : SpD := fun ds M Q E => ∃ l t rs, ds = [.int l, .int t, tI rs] ∧ Q (.int (mvs l t rs)) M
theorem len_moved : ∀ ds M Q E, sp_moved ds M Q E → ds.length = 3 := fun _ _ _ _ ⟨_, _, _, e, _⟩ => by rw [e]; rfl
def t_moved : TDS := (dSeq (dSet 3 (eVar 0))
  (dSeq (dFor (iSeq (eVar 2)) (dgName 4)
  (dSet 3 (eCB (on2 gMax2) (aCons (eC (.int 0)) (aCons (eCB (on2 gMin2) (aCons (eVar 1) (aCons (eOp2 gAdd (eVar 3) (eVar 4)) aNil))) aNil)))))
  (dRet (eVar 3))))

theorem rd_moved (h : sp_moved ds M Q E) : t_moved { nx := fun _ M' => fin Q .non M', rt := fin Q } (startN 5 ds) M := by
  obtain ⟨l, t, rs, rfl, q⟩ := h
  show t_moved _ [some (.int l), some (.int t), some (tI rs), none, none] M
  unfold t_moved
  simp
  refine forL_map .int (fun r ρ M' => M' = M ∧ ∃ f o, ρ = [some (.int l), some (.int t), some (tI rs), some (.int f), o] ∧ mvs f t r = mvs l t rs) (fun ρ M' ⟨e, f, o, e2, h⟩ => ?_) (fun x r ρ M' rec ⟨e, f, o, e2, h⟩ hr => ?_) ⟨rfl, l, none, rfl, rfl⟩
  · subst e e2
    simp
    rw [← h] at q
    exact fin_same q
  · subst e e2
    simp
    exact hr _ _ ⟨rfl, _, _, rfl, h⟩
def sp_all_moved : SpD := fun ds M Q E => ∃ ts ss rs, ds = [tI ts, tI ss, tI rs] ∧ ss.length ≤ 1000000 ∧ Q (tI (amv ts ss rs)) M
theorem len_all_moved : ∀ ds M Q E, sp_all_moved ds M Q E → ds.length = 3 := fun _ _ _ _ ⟨_, _, _, e, _⟩ => by rw [e]; rfl
def t_all_moved : TDS := (dRet (eCB gTuple (aCons (eLc (iZip2 (aCons (eVar 1) (aCons (eVar 0) aNil))) (dgTup 2 (dgCons (dgName 3) (dgCons (dgName 4) dgNil))) tYesD (eCall sp_moved noE (aCons (eVar 3) (aCons (eVar 4) (aCons (eVar 2) aNil)))) [3, 4]) aNil)))

theorem rd_all_moved (h : sp_all_moved ds M Q E) : t_all_moved { nx := fun _ M' => fin Q .non M', rt := fin Q } (startN 5 ds) M := by
  obtain ⟨ts, ss, rs, rfl, hl, q⟩ := h
  show t_all_moved _ [some (tI ts), some (tI ss), some (tI rs), none, none] M
  unfold t_all_moved
  simp
  refine ⟨len_le (by omega), ?_⟩
  refine lcL_fun (fun p : Int × Int => D.tup [.int p.1, .int p.2]) (fun p => .int (mvs p.1 p.2 rs)) (fun _ => True) (fun x M acc rec hx h => ?_) (fun _ _ => trivial) ?_
  · simp; exact ⟨_, _, _, rfl, h⟩
  simp
  exact fin_same (by simpa [amv, tI, Function.comp_def] using q)
/-! ### reached states -/
def okP (t u s v : Int) : Prop := 0 ≤ v - s ∧ v - s ≤ u - t
instance (t u s v : Int) : Decidable (okP t u s v) := inferInstanceAs (Decidable (_ ∧ _))
def inR : List Int → List Int → Prop
  | t :: u :: ts, s :: v :: ss => okP t u s v ∧ inR (u :: ts) (v :: ss)
  | _, _ => True
instance inRDec : ∀ ts ss, Decidable (inR ts ss)
  | t :: u :: ts, s :: v :: ss => match inRDec (u :: ts) (v :: ss) with
    | .isTrue h => if h' : okP t u s v then .isTrue ⟨h', h⟩ else .isFalse fun z => h' z.1
    | .isFalse h => .isFalse fun z => h z.2
  | [], _ => .isTrue trivial
  | [_], _ => .isTrue trivial
  | _ :: _ :: _, [] => .isTrue trivial
  | _ :: _ :: _, [_] => .isTrue trivial
theorem inR_iff : ∀ {ts ss : List Int}, ss.length = ts.length → (inR ts ss ↔ ∀ i, i + 1 < ts.length → okP (ts.getD i 0) (ts.getD (i + 1) 0) (ss.getD i 0) (ss.getD (i + 1) 0))
  | [], _, _ => by simp [inR]
  | [_], _, _ => by simp [inR]
  | t :: u :: ts, s :: v :: ss, h => by
    have ih := inR_iff (ts := u :: ts) (ss := v :: ss) (by simpa using h)
    rw [inR, ih]
    constructor
    · rintro ⟨h1, h2⟩ i hi
      cases i with
      | zero => simpa using h1
      | succ i => simpa using h2 i (by simpa using hi)
    · intro h2
      refine ⟨by simpa using h2 0 (by simp), fun i hi => by simpa using h2 (i + 1) (by simpa using hi)⟩
  | _ :: _ :: _, [], h => by simp at h
  | _ :: _ :: _, [_], h => by simp at h
theorem mv1_zero : ∀ {ts ss : List Int}, St ts ss → mv1 ts ss 0 = ss
  | [], [], _ => rfl
  | t :: ts, s :: ss, h => by
    rw [mv1_cons, mv1_zero h.2]
    have := h.1
    congr 1
    unfold cl; omega
def Rd (ts ss : List Int) : Prop := St ts ss ∧ inR ts ss
theorem atI_get (xs : List Int) (i : Nat) (h : i < xs.length) : atI xs (i : Int) = some (xs.getD i 0) := by
  rw [atI_nat xs i h]; simp [List.getD, h]
theorem atI_get1 (xs : List Int) (i : Nat) (h : i + 1 < xs.length) : atI xs ((i : Int) + 1) = some (xs.getD (i + 1) 0) := by
  have := atI_get xs (i + 1) h
  simpa using this
theorem zip_rng1 {n : Nat} (h : 1 ≤ n) : zip2D (rngD 0 n) (rngD 1 (n - 1)) = (List.range (n - 1)).map fun i : Nat => D.tup [.int (i : Int), .int ((i : Int) + 1)] := by
  obtain ⟨m, rfl⟩ : ∃ m, n = m + 1 := ⟨n - 1, by omega⟩
  refine List.ext_getElem ?_ fun i h1 h2 => ?_
  · simp [zip2D, rngD]
  · simp [zip2D, rngD, Int.add_comm]
def sp_in_reach : SpD := fun ds M Q E => ∃ ts ss, ds = [tI ts, tI ss] ∧ 1 ≤ ts.length ∧ ts.length ≤ 1000000 ∧ ss.length = ts.length ∧ Q (.bl (decide (inR ts ss))) M
theorem len_in_reach : ∀ ds M Q E, sp_in_reach ds M Q E → ds.length = 2 := fun _ _ _ _ ⟨_, _, e, _⟩ => by rw [e]; rfl
def t_in_reach : TDS := (dSeq (dFor (iZip2 (aCons (eCB gRange (aCons (eCB gLen (aCons (eVar 1) aNil)) aNil)) (aCons (eCB gRange (aCons (eC (.int 1)) (aCons (eCB gLen (aCons (eVar 1) aNil)) aNil))) aNil))) (dgTup 2 (dgCons (dgName 2) (dgCons (dgName 3) dgNil)))
  (dIf (dNot (tVal (eCh gLe gLe (eC (.int 0)) (eOp2 gSub (eOp2 gIx (eVar 1) (eVar 3)) (eOp2 gIx (eVar 1) (eVar 2))) (eOp2 gSub (eOp2 gIx (eVar 0) (eVar 3)) (eOp2 gIx (eVar 0) (eVar 2)))))) (dRet (eC (.bl false))) dNext))
  (dRet (eC (.bl true))))

theorem rd_in_reach (h : sp_in_reach ds M Q E) : t_in_reach { nx := fun _ M' => fin Q .non M', rt := fin Q } (startN 4 ds) M := by
  obtain ⟨ts, ss, rfl, h1, h2, hl, q⟩ := h
  show t_in_reach _ [some (tI ts), some (tI ss), none, none] M
  unfold t_in_reach
  simp
  have r1 : -(2 ^ 62) ≤ (0 : Int) ∧ (0 : Int) < 2 ^ 62 ∧ -(2 ^ 62) ≤ (ss.length : Int) ∧ (ss.length : Int) < 2 ^ 62 := by omega
  have r2 : -(2 ^ 62) ≤ (1 : Int) ∧ (1 : Int) < 2 ^ 62 ∧ -(2 ^ 62) ≤ (ss.length : Int) ∧ (ss.length : Int) < 2 ^ 62 := by omega
  refine ⟨_, s_itemsR r1, _, s_itemsR r2, ?_⟩
  have e1 : ((ss.length : Int) - 0).toNat = ts.length := by omega
  have e2 : ((ss.length : Int) - 1).toNat = ts.length - 1 := by omega
  rw [e1, e2, zip_rng1 h1]
  refine forL_rng _ (fun i ρ M' => M' = M ∧ (∃ o p, ρ = [some (tI ts), some (tI ss), o, p]) ∧ ∀ j < i, okP (ts.getD j 0) (ts.getD (j + 1) 0) (ss.getD j 0) (ss.getD (j + 1) 0)) (fun ρ M' ⟨e, ⟨o, p, e2⟩, h⟩ => ?_) (fun i ρ M' rec hi ⟨e, ⟨o, p, e2⟩, h⟩ hr => ?_) ⟨rfl, ⟨_, _, rfl⟩, by omega⟩
  · subst e e2
    simp
    have : inR ts ss := (inR_iff hl).mpr fun i hi => h i (by omega)
    rw [decide_eq_true this] at q
    exact fin_same q
  · subst e e2
    have i1 : i + 1 < ts.length := by omega
    simp [atI_get ts i (by omega), atI_get ss i (by omega), atI_get1 ts i i1, atI_get1 ss i (by omega), onB]
    have hno : ¬ okP (ts.getD i 0) (ts.getD (i + 1) 0) (ss.getD i 0) (ss.getD (i + 1) 0) → fin Q (.bl false) M' := fun hn => by
      have : ¬ inR ts ss := fun z => hn ((inR_iff hl).mp z i i1)
      rw [decide_eq_false this] at q
      exact fin_same q
    unfold okP at hno
    simp only [List.getD_eq_getElem?_getD] at hno ⊢
    by_cases c1 : ss[i]?.getD 0 ≤ ss[i + 1]?.getD 0
    · by_cases c2 : ss[i + 1]?.getD 0 - ss[i]?.getD 0 ≤ ts[i + 1]?.getD 0 - ts[i]?.getD 0
      · simp only [c1, c2, decide_true, if_true, Bool.not_true, Bool.false_eq_true, if_false]
        refine hr _ _ ⟨rfl, ⟨_, _, rfl⟩, fun j hj => ?_⟩
        by_cases e : j = i
        · subst e; unfold okP; simp only [List.getD_eq_getElem?_getD]; omega
        · exact h j (by omega)
      · simp [c1, c2]; exact hno (by omega)
    · simp [c1]; exact hno (by omega)
theorem asc_last : ∀ {ts : List Int} (h : ts ≠ []), Asc ts → ∀ t ∈ ts, t ≤ ts.getLast h
  | [a], _, _, t, ht => by simp at ht; subst ht; simp
  | a :: b :: r, _, ha, t, ht => by
    have ih := asc_last (ts := b :: r) (by simp) ha.2
    rw [List.getLast_cons (by simp)]
    rcases List.mem_cons.mp ht with rfl | ht
    · exact Int.le_trans ha.1 (ih b (by simp))
    · exact ih t ht
theorem Tops.ne {ts : List Int} (h : Tops ts) : ts ≠ [] := fun e => by have := h.n; rw [e] at this; simp at this
def lastT (ts : List Int) : Int := ts.getLastD 0
theorem lastT_eq {ts : List Int} (h : ts ≠ []) : lastT ts = ts.getLast h := by unfold lastT; rw [List.getLastD_eq_getLast?, List.getLast?_eq_some_getLast h]; rfl
theorem Tops.last {ts : List Int} (h : Tops ts) : ∀ t ∈ ts, 0 ≤ t ∧ t ≤ lastT ts := fun t ht => ⟨by have := h.b t ht; omega, by rw [lastT_eq h.ne]; exact asc_last h.ne h.asc t ht⟩
theorem Tops.lastb {ts : List Int} (h : Tops ts) : 1 ≤ lastT ts ∧ lastT ts ≤ 1000000 := by rw [lastT_eq h.ne]; exact h.b _ (List.getLast_mem _)
/-! ### the fewest presses, in plain numbers: lamps 0 .. n -/
def mvf (t a : Nat → Int) (d : Int) : Nat → Int := fun i => cl (t i) (a i + d)
def dist (t b : Nat → Int) : Nat → (Nat → Int) → Int
  | 0, a => (b 0 - a 0).natAbs
  | n + 1, a => if a (n + 1) - a n < b (n + 1) - b n then (t n + (b (n + 1) - b n) - a (n + 1)) + dist t b n t
    else if b (n + 1) - b n < a (n + 1) - a n then (a (n + 1) - (b (n + 1) - b n)) + dist t b n fun _ => 0
    else dist t b n a
/-- the run that comes next -/
def nrun (t b : Nat → Int) : Nat → (Nat → Int) → Int
  | 0, a => b 0 - a 0
  | n + 1, a => if a (n + 1) - a n < b (n + 1) - b n then t n + (b (n + 1) - b n) - a (n + 1)
    else if b (n + 1) - b n < a (n + 1) - a n then (b (n + 1) - b n) - a (n + 1)
    else nrun t b n a
def rank (b : Nat → Int) : Nat → (Nat → Int) → Nat
  | 0, a => if a 0 = b 0 then 0 else 1
  | n + 1, a => if a (n + 1) - a n = b (n + 1) - b n then rank b n a else n + 2
structure LampsF (t : Nat → Int) (n : Nat) : Prop where
  z : 0 ≤ t 0
  up : ∀ i, i < n → t i ≤ t (i + 1)
structure Rch (t : Nat → Int) (n : Nat) (a : Nat → Int) : Prop where
  b : ∀ i, i ≤ n → 0 ≤ a i ∧ a i ≤ t i
  g : ∀ i, i < n → okP (t i) (t (i + 1)) (a i) (a (i + 1))
section
variable {t b : Nat → Int} {n : Nat}
theorem LampsF.less (h : LampsF t (n + 1)) : LampsF t n := ⟨h.z, fun i hi => h.up i (by omega)⟩
theorem LampsF.nn (h : LampsF t n) : ∀ i, i ≤ n → 0 ≤ t i
  | 0, _ => h.z
  | i + 1, hi => Int.le_trans (LampsF.nn h i (by omega)) (h.up i (by omega))
theorem LampsF.le (h : LampsF t n) : ∀ k i, i + k ≤ n → t i ≤ t (i + k)
  | 0, i, _ => Int.le_refl _
  | k + 1, i, hi => Int.le_trans (LampsF.le h k i (by omega)) (h.up (i + k) (by omega))
theorem Rch.less {a : Nat → Int} (h : Rch t (n + 1) a) : Rch t n a := ⟨fun i hi => h.b i (by omega), fun i hi => h.g i (by omega)⟩
theorem okP_mv {T U y x d : Int} (htu : T ≤ U) (ht : 0 ≤ T) (hy : 0 ≤ y ∧ y ≤ T) (hx : 0 ≤ x ∧ x ≤ U) (h : okP T U y x) : okP T U (cl T (y + d)) (cl U (x + d)) := by
  unfold okP cl at *; omega
theorem cl_b {T x : Int} (h : 0 ≤ T) : 0 ≤ cl T x ∧ cl T x ≤ T := by unfold cl; omega
theorem Rch.mv (L : LampsF t n) {a : Nat → Int} (h : Rch t n a) (d : Int) : Rch t n (mvf t a d) :=
  ⟨fun i hi => cl_b (L.nn i hi), fun i hi => okP_mv (L.up i hi) (L.nn i (by omega)) (h.b i (by omega)) (h.b (i + 1) (by omega)) (h.g i hi)⟩
theorem Rch.zero (L : LampsF t n) : Rch t n fun _ => 0 := ⟨fun i hi => ⟨Int.le_refl _, L.nn i hi⟩, fun i hi => by have := L.up i hi; unfold okP; omega⟩
theorem Rch.tops (L : LampsF t n) : Rch t n t := ⟨fun i hi => ⟨L.nn i hi, Int.le_refl _⟩, fun i hi => by have := L.up i hi; unfold okP; omega⟩
theorem dist_congr {a c : Nat → Int} : ∀ n, (∀ i, i ≤ n → a i = c i) → dist t b n a = dist t b n c
  | 0, h => by simp only [dist, h 0 (by omega)]
  | n + 1, h => by simp only [dist, h (n + 1) (by omega), h n (by omega), dist_congr n fun i hi => h i (by omega)]
theorem full_down {a : Nat → Int} (h : Rch t n a) (e : a n = t n) : ∀ k, k ≤ n → a (n - k) = t (n - k)
  | 0, _ => e
  | k + 1, hk => by
    have ih := full_down h e k (by omega)
    have g := h.g (n - (k + 1)) (by omega)
    have q := h.b (n - (k + 1)) (by omega)
    rw [show n - (k + 1) + 1 = n - k by omega] at g
    unfold okP at g; omega
theorem full_all {a : Nat → Int} (h : Rch t n a) (e : a n = t n) (i : Nat) (hi : i ≤ n) : a i = t i := by
  have := full_down h e (n - i) (by omega)
  rwa [show n - (n - i) = i by omega] at this
theorem zero_down {a : Nat → Int} (h : Rch t n a) (e : a n = 0) : ∀ k, k ≤ n → a (n - k) = 0
  | 0, _ => e
  | k + 1, hk => by
    have ih := zero_down h e k (by omega)
    have g := h.g (n - (k + 1)) (by omega)
    have q := h.b (n - (k + 1)) (by omega)
    rw [show n - (k + 1) + 1 = n - k by omega] at g
    unfold okP at g; omega
theorem zero_all {a : Nat → Int} (h : Rch t n a) (e : a n = 0) (i : Nat) (hi : i ≤ n) : a i = 0 := by
  have := zero_down h e (n - i) (by omega)
  rwa [show n - (n - i) = i by omega] at this
theorem mvf_next {a : Nat → Int} {g : Int} (hg : g = 1 ∨ g = -1) (k : Nat) (i : Nat) (h : 0 ≤ a i ∧ a i ≤ t i) : mvf t (mvf t a (g * k)) g i = mvf t a (g * ((k + 1 : Nat) : Int)) i := by
  unfold mvf cl
  rcases hg with rfl | rfl <;> omega
theorem mvf_zero {a : Nat → Int} (i : Nat) (h : 0 ≤ a i ∧ a i ≤ t i) : mvf t a 0 i = a i := by unfold mvf cl; omega
/-- many presses one way -/
theorem lip_many (L : LampsF t n) (ih : ∀ a d, Rch t n a → (d = 1 ∨ d = -1) → dist t b n a ≤ 1 + dist t b n (mvf t a d)) {a : Nat → Int} (h : Rch t n a) {g : Int} (hg : g = 1 ∨ g = -1) : ∀ k : Nat, dist t b n a ≤ k + dist t b n (mvf t a (g * k))
  | 0 => by
    have : dist t b n (mvf t a (g * ((0 : Nat) : Int))) = dist t b n a := dist_congr n fun i hi => by
      rw [show g * ((0 : Nat) : Int) = 0 by simp]; exact mvf_zero i (h.b i hi)
    omega
  | k + 1 => by
    have h1 := lip_many L ih h hg k
    have h2 := ih (mvf t a (g * k)) g (h.mv L _) hg
    have : dist t b n (mvf t (mvf t a (g * k)) g) = dist t b n (mvf t a (g * ((k + 1 : Nat) : Int))) := dist_congr n fun i hi => mvf_next hg k i (h.b i hi)
    omega
theorem lip1 : ∀ n, LampsF t n → ∀ a d, Rch t n a → (d = 1 ∨ d = -1) → dist t b n a ≤ 1 + dist t b n (mvf t a d)
  | 0, L, a, d, h, hd => by
    have := h.b 0 (by omega)
    have := L.z
    simp only [dist, mvf, cl]
    rcases hd with rfl | rfl <;> omega
  | n + 1, L, a, d, h, hd => by
    have Ln := L.less
    have hn := h.less
    have ih := lip1 n Ln
    have i1 := ih a d hn hd
    have T0 : 0 ≤ t n := Ln.nn n (by omega)
    have TT := L.up n (by omega)
    have tz : dist t b n t ≤ t n + dist t b n fun _ => 0 := by
      have := lip_many Ln ih (Rch.tops Ln) (g := -1) (.inr rfl) (t n).toNat
      have e : dist t b n (mvf t t (-1 * ((t n).toNat : Int))) = dist t b n fun _ => 0 := dist_congr n fun i hi => by
        have := Ln.le (n - i) i (by omega)
        rw [show i + (n - i) = n by omega] at this
        have := Ln.nn i hi
        unfold mvf cl; omega
      omega
    have zt : (dist t b n fun _ => 0) ≤ t n + dist t b n t := by
      have := lip_many Ln ih (Rch.zero Ln) (g := 1) (.inl rfl) (t n).toNat
      have e : dist t b n (mvf t (fun _ => 0) (1 * ((t n).toNat : Int))) = dist t b n t := dist_congr n fun i hi => by
        have := Ln.le (n - i) i (by omega)
        rw [show i + (n - i) = n by omega] at this
        have := Ln.nn i hi
        show cl (t i) (0 + 1 * ((t n).toNat : Int)) = t i
        unfold cl; omega
      omega
    have mR := hn.mv Ln d
    have f1 : a n = t n → dist t b n a = dist t b n t := fun e => dist_congr n (full_all hn e)
    have f2 : a n = 0 → dist t b n a = dist t b n fun _ => 0 := fun e => dist_congr n (zero_all hn e)
    have f3 : mvf t a d n = t n → dist t b n (mvf t a d) = dist t b n t := fun e => dist_congr n (full_all mR e)
    have f4 : mvf t a d n = 0 → dist t b n (mvf t a d) = dist t b n fun _ => 0 := fun e => dist_congr n (zero_all mR e)
    have b1 := h.b n (by omega)
    have b2 := h.b (n + 1) (by omega)
    have gg := h.g n (by omega)
    unfold okP at gg
    have e1 : mvf t a d n = cl (t n) (a n + d) := rfl
    have e2 : mvf t a d (n + 1) = cl (t (n + 1)) (a (n + 1) + d) := rfl
    simp only [dist]
    generalize dist t b n a = A at *
    generalize dist t b n (mvf t a d) = A' at *
    generalize (dist t b n fun _ => 0) = Z at *
    generalize dist t b n t = P at *
    generalize mvf t a d n = y' at *
    generalize mvf t a d (n + 1) = x' at *
    unfold cl at e1 e2
    generalize a n = y at *
    generalize a (n + 1) = x at *
    generalize b (n + 1) - b n = w at *
    generalize t n = T at *
    generalize t (n + 1) = U at *
    rcases hd with rfl | rfl <;> split <;> split <;> (try split) <;> (try split) <;> omega
theorem lipd (L : LampsF t n) {a : Nat → Int} (h : Rch t n a) (d : Int) : dist t b n a ≤ d.natAbs + dist t b n (mvf t a d) := by
  by_cases c : 0 ≤ d
  · have := lip_many L (lip1 n L) (b := b) h (.inl rfl) d.toNat
    rw [show (1 : Int) * (d.toNat : Int) = d by omega] at this
    omega
  · have := lip_many L (lip1 n L) (b := b) h (.inr rfl) (-d).toNat
    rw [show (-1 : Int) * ((-d).toNat : Int) = d by omega] at this
    omega
theorem dist_nn : ∀ n, LampsF t n → ∀ a, Rch t n a → Rch t n b → 0 ≤ dist t b n a
  | 0, _, _, _, _ => by simp only [dist]; omega
  | n + 1, L, a, h, hb => by
    have z := dist_nn n L.less (fun _ => 0) (Rch.zero L.less) hb.less
    have p := dist_nn n L.less t (Rch.tops L.less) hb.less
    have i := dist_nn n L.less a h.less hb.less
    have b1 := h.b n (by omega)
    have b2 := h.b (n + 1) (by omega)
    have gg := h.g n (by omega)
    unfold okP at gg
    simp only [dist]
    split
    · omega
    · split <;> omega
theorem dist_self : ∀ n, LampsF t n → dist t b n b = 0
  | 0, _ => by simp [dist]
  | n + 1, L => by
    simp only [dist]
    rw [if_neg (by omega), if_neg (by omega)]
    exact dist_self n L.less
theorem rank_le (a : Nat → Int) : ∀ n, rank b n a ≤ n + 1
  | 0 => by simp only [rank]; split <;> omega
  | n + 1 => by simp only [rank]; have := rank_le a n; split <;> omega
theorem rank_zero {a : Nat → Int} : ∀ n, rank b n a = 0 → ∀ i, i ≤ n → a i = b i
  | 0, h, i, hi => by
    simp only [rank] at h
    have : i = 0 := by omega
    subst this
    by_cases c : a 0 = b 0
    · exact c
    · rw [if_neg c] at h; cases h
  | n + 1, h, i, hi => by
    simp only [rank] at h
    split at h
    · rename_i c
      have ih := rank_zero n h
      by_cases e : i ≤ n
      · exact ih i e
      · have : i = n + 1 := by omega
        subst this
        have := ih n (by omega)
        omega
    · cases h
theorem rank_congr {a c : Nat → Int} : ∀ n, (∀ i, i ≤ n → a i = c i) → rank b n a = rank b n c
  | 0, h => by simp only [rank, h 0 (by omega)]
  | n + 1, h => by simp only [rank, h (n + 1) (by omega), h n (by omega), rank_congr n fun i hi => h i (by omega)]
/-- a step of the way -/
theorem way_step : ∀ n, LampsF t n → ∀ a, Rch t n a → Rch t n b → rank b n a ≠ 0 →
    mvf t a (nrun t b n a) n = a n + nrun t b n a ∧ dist t b n a = (nrun t b n a).natAbs + dist t b n (mvf t a (nrun t b n a)) ∧ rank b n (mvf t a (nrun t b n a)) < rank b n a ∧ nrun t b n a ≠ 0
  | 0, L, a, h, hb, hr => by
    have b1 := h.b 0 (by omega)
    have b2 := hb.b 0 (by omega)
    have z := L.z
    have ne : a 0 ≠ b 0 := fun e => hr (by simp [rank, e])
    have e : mvf t a (b 0 - a 0) 0 = b 0 := by unfold mvf cl; omega
    simp only [nrun, dist, rank, e]
    rw [if_neg ne]
    simp
    omega
  | n + 1, L, a, h, hb, hr => by
    have T0 : 0 ≤ t n := L.less.nn n (by omega)
    have TT := L.up n (by omega)
    have b1 := h.b n (by omega)
    have b2 := h.b (n + 1) (by omega)
    have c1 := hb.b n (by omega)
    have c2 := hb.b (n + 1) (by omega)
    have gg := h.g n (by omega)
    have hg := hb.g n (by omega)
    unfold okP at gg hg
    by_cases c : a (n + 1) - a n < b (n + 1) - b n
    · have er : nrun t b (n + 1) a = t n + (b (n + 1) - b n) - a (n + 1) := by simp only [nrun]; rw [if_pos c]
      rw [er]
      generalize hR : t n + (b (n + 1) - b n) - a (n + 1) = r
      have e1 : mvf t a r (n + 1) = t n + (b (n + 1) - b n) := by unfold mvf cl; omega
      have e2 : mvf t a r n = t n := by unfold mvf cl; omega
      have ee : dist t b n (mvf t a r) = dist t b n t := dist_congr n (full_all (h.less.mv L.less r) e2)
      refine ⟨by omega, ?_, ?_, by omega⟩
      · simp only [dist]
        rw [if_pos c, if_neg (by omega), if_neg (by omega), ee]; omega
      · simp only [rank]
        rw [if_pos (by omega), if_neg (by omega)]
        have := rank_le (b := b) (mvf t a r) n
        omega
    · by_cases c' : b (n + 1) - b n < a (n + 1) - a n
      · have er : nrun t b (n + 1) a = (b (n + 1) - b n) - a (n + 1) := by simp only [nrun]; rw [if_neg c, if_pos c']
        rw [er]
        generalize hR : (b (n + 1) - b n) - a (n + 1) = r
        have e1 : mvf t a r (n + 1) = b (n + 1) - b n := by unfold mvf cl; omega
        have e2 : mvf t a r n = 0 := by unfold mvf cl; omega
        have ee : dist t b n (mvf t a r) = dist t b n fun _ => 0 := dist_congr n (zero_all (h.less.mv L.less r) e2)
        refine ⟨by omega, ?_, ?_, by omega⟩
        · simp only [dist]
          rw [if_neg c, if_pos c', if_neg (by omega), if_neg (by omega), ee]; omega
        · simp only [rank]
          rw [if_pos (by omega), if_neg (by omega)]
          have := rank_le (b := b) (mvf t a r) n
          omega
      · have er : nrun t b (n + 1) a = nrun t b n a := by simp only [nrun]; rw [if_neg c, if_neg c']
        have rk : rank b (n + 1) a = rank b n a := by simp only [rank]; rw [if_pos (by omega)]
        rw [er, rk]
        rw [rk] at hr
        obtain ⟨w1, w2, w3, w4⟩ := way_step n L.less a h.less hb.less hr
        have q := (h.less.mv L.less (nrun t b n a)).b n (by omega)
        generalize nrun t b n a = r at *
        have e1 : mvf t a r (n + 1) = a (n + 1) + r := by
          have : mvf t a r (n + 1) = cl (t (n + 1)) (a (n + 1) + r) := rfl
          rw [this]; unfold cl; omega
        refine ⟨e1, ?_, ?_, w4⟩
        · simp only [dist]
          rw [if_neg c, if_neg c', if_neg (by omega), if_neg (by omega)]; exact w2
        · simp only [rank]
          rw [if_pos (by omega)]; exact w3
end

/-! ### the same of lists -/
def fl (xs : List Int) : Nat → Int := fun i => xs.getD i 0
def dst (ts a b : List Int) : Int := dist (fl ts) (fl b) (ts.length - 1) (fl a)
def nr (ts b a : List Int) : Int := nrun (fl ts) (fl b) (ts.length - 1) (fl a)
theorem getD_mv1 (d : Int) : ∀ {ts ss : List Int}, ss.length = ts.length → ∀ i, (mv1 ts ss d).getD i 0 = cl (ts.getD i 0) (ss.getD i 0 + d)
  | [], [], _, i => by simp [mv1, cl]; omega
  | t :: ts, s :: ss, h, 0 => by simp [mv1]
  | t :: ts, s :: ss, h, i + 1 => by
    have := getD_mv1 d (ts := ts) (ss := ss) (by simpa using h) i
    simpa [mv1] using this
  | [], _ :: _, h, _ => by simp at h
  | _ :: _, [], h, _ => by simp at h
theorem fl_mv1 {ts ss : List Int} (h : ss.length = ts.length) (d : Int) : fl (mv1 ts ss d) = mvf (fl ts) (fl ss) d := funext fun i => getD_mv1 d h i
theorem mv1_len {ts ss : List Int} (h : ss.length = ts.length) (d : Int) : (mv1 ts ss d).length = ts.length := by simp [mv1, h]
theorem asc_get : ∀ {ts : List Int}, Asc ts → ∀ i, i + 1 < ts.length → ts.getD i 0 ≤ ts.getD (i + 1) 0
  | a :: b :: r, h, 0, _ => by simpa using h.1
  | a :: b :: r, h, i + 1, hi => by simpa using asc_get h.2 i (by simpa using hi)
  | [a], _, i, hi => by simp at hi
  | [], _, i, hi => by simp at hi
theorem St.get : ∀ {ts ss : List Int}, St ts ss → ∀ i, i < ts.length → 0 ≤ ss.getD i 0 ∧ ss.getD i 0 ≤ ts.getD i 0
  | t :: ts, s :: ss, h, 0, _ => by simpa using h.1
  | t :: ts, s :: ss, h, i + 1, hi => by simpa using St.get h.2 i (by simpa using hi)
  | [], [], _, i, hi => by simp at hi
theorem Tops.lamps {ts : List Int} (h : Tops ts) : LampsF (fl ts) (ts.length - 1) := by
  have n := h.n
  refine ⟨?_, fun i hi => asc_get h.asc i (by omega)⟩
  cases ts with
  | nil => simp at n
  | cons t r => have := h.b t (by simp); show 0 ≤ (t :: r).getD 0 0; simp; omega
theorem Tops.rch {ts ss : List Int} (h : Tops ts) (r : Rd ts ss) : Rch (fl ts) (ts.length - 1) (fl ss) := by
  have n := h.n
  exact ⟨fun i hi => r.1.get i (by omega), fun i hi => (inR_iff r.1.len).mp r.2 i (by omega)⟩
theorem St.mv (d : Int) : ∀ {ts ss : List Int}, (∀ t ∈ ts, 0 ≤ t) → St ts ss → St ts (mv1 ts ss d)
  | [], [], _, _ => trivial
  | t :: ts, s :: ss, hp, h => ⟨cl_b (hp t (by simp)), St.mv d (fun x hx => hp x (List.mem_cons_of_mem _ hx)) h.2⟩
theorem inR.mv (d : Int) : ∀ {ts ss : List Int}, (∀ t ∈ ts, 0 ≤ t) → Asc ts → St ts ss → inR ts ss → inR ts (mv1 ts ss d)
  | [], _, _, _, _, _ => trivial
  | [t], _, _, _, _, _ => by unfold inR; trivial
  | t :: u :: ts, s :: v :: ss, hp, ha, hs, h => ⟨okP_mv ha.1 (hp t (by simp)) hs.1 hs.2.1 h.1, inR.mv d (ts := u :: ts) (ss := v :: ss) (fun x hx => hp x (List.mem_cons_of_mem _ hx)) ha.2 hs.2 h.2⟩
theorem Tops.nn {ts : List Int} (h : Tops ts) : ∀ t ∈ ts, 0 ≤ t := fun t ht => by have := h.b t ht; omega
theorem Rd.mv {ts ss : List Int} (h : Tops ts) (r : Rd ts ss) (d : Int) : Rd ts (mv1 ts ss d) := ⟨r.1.mv d h.nn, r.2.mv d h.nn h.asc r.1⟩
theorem mvs_cons (l t r : Int) (rs : List Int) : mvs l t (r :: rs) = mvs (cl t (l + r)) t rs := rfl
theorem amv_cons (r : Int) (rs : List Int) : ∀ (ts ss : List Int), amv ts ss (r :: rs) = amv ts (mv1 ts ss r) rs
  | [], ss => by simp [amv, mv1]
  | t :: ts, [] => by simp [amv, mv1]
  | t :: ts, s :: ss => by
    show mvs s t (r :: rs) :: amv ts ss (r :: rs) = mvs (cl t (s + r)) t rs :: amv ts (mv1 ts ss r) rs
    rw [amv_cons r rs ts ss]; rfl
theorem amv_nil : ∀ {ts ss : List Int}, ss.length = ts.length → amv ts ss [] = ss
  | [], [], _ => rfl
  | t :: ts, s :: ss, h => by
    show s :: amv ts ss [] = s :: ss
    rw [amv_nil (ts := ts) (ss := ss) (by simpa using h)]
  | [], _ :: _, h => by simp at h
  | _ :: _, [], h => by simp at h
theorem amv_app {ts : List Int} (rs qs : List Int) : ∀ {ss : List Int}, ss.length = ts.length → amv ts ss (rs ++ qs) = amv ts (amv ts ss rs) qs := by
  induction rs with
  | nil => intro ss h; rw [amv_nil h]; rfl
  | cons r rs ih => intro ss h; rw [List.cons_append, amv_cons, amv_cons, ih (mv1_len h r)]
theorem St.amv {ts : List Int} (h : ∀ t ∈ ts, 0 ≤ t) : ∀ (rs : List Int) {ss : List Int}, St ts ss → St ts (amv ts ss rs)
  | [], ss, hs => by rw [amv_nil hs.len]; exact hs
  | r :: rs, ss, hs => by rw [amv_cons]; exact St.amv h rs (hs.mv r h)
theorem Rd.amv {ts : List Int} (h : Tops ts) (rs : List Int) : ∀ {ss : List Int}, Rd ts ss → Rd ts (amv ts ss rs) := by
  induction rs with
  | nil => intro ss r; rw [amv_nil r.1.len]; exact r
  | cons x rs ih => intro ss r; rw [amv_cons]; exact ih (r.mv h x)
def aSum (rs : List Int) : Int := (rs.map fun r => (r.natAbs : Int)).sum
theorem aSum_cons (r : Int) (rs : List Int) : aSum (r :: rs) = r.natAbs + aSum rs := by simp [aSum]
theorem aSum_nn : ∀ rs : List Int, 0 ≤ aSum rs
  | [] => by simp [aSum]
  | r :: rs => by rw [aSum_cons]; have := aSum_nn rs; omega
theorem dst_step {ts a b : List Int} (h : Tops ts) (ra : Rd ts a) (d : Int) : dst ts a b ≤ d.natAbs + dst ts (mv1 ts a d) b := by
  unfold dst
  rw [fl_mv1 ra.1.len]
  exact lipd h.lamps (h.rch ra) d
theorem dst_runs {ts b : List Int} (h : Tops ts) (rs : List Int) : ∀ {a : List Int}, Rd ts a → dst ts a b ≤ aSum rs + dst ts (amv ts a rs) b := by
  induction rs with
  | nil => intro a ra; rw [amv_nil ra.1.len]; simp [aSum]
  | cons r rs ih =>
    intro a ra
    have h1 := dst_step (b := b) h ra r
    have h2 := ih (ra.mv h r)
    rw [amv_cons, aSum_cons]; omega
theorem dst_self {ts b : List Int} (h : Tops ts) : dst ts b b = 0 := dist_self _ h.lamps
theorem dst_nn {ts a b : List Int} (h : Tops ts) (ra : Rd ts a) (rb : Rd ts b) : 0 ≤ dst ts a b := dist_nn _ h.lamps _ (h.rch ra) (h.rch rb)
def rtL (ts b : List Int) : Nat → List Int → List Int
  | 0, _ => []
  | k + 1, a => if a = b then [] else nr ts b a :: rtL ts b k (mv1 ts a (nr ts b a))
def rnk (ts b a : List Int) : Nat := rank (fl b) (ts.length - 1) (fl a)
def rt (ts a b : List Int) : List Int := rtL ts b ts.length a
theorem rnk_zero {ts a b : List Int} (h : Tops ts) (ha : a.length = ts.length) (hb : b.length = ts.length) (e : rnk ts b a = 0) : a = b := by
  have n := h.n
  refine List.ext_getElem (by omega) fun i h1 h2 => ?_
  have := rank_zero _ e i (by omega)
  simpa [fl, List.getD, h1, h2] using this
theorem rnk_self {ts a : List Int} : rnk ts a a = 0 := by
  unfold rnk
  generalize ts.length - 1 = n
  induction n with
  | zero => simp [rank]
  | succ n ih => simp [rank, ih]
theorem rnk_len (ts a b : List Int) (h : Tops ts) : rnk ts b a ≤ ts.length := by
  have := rank_le (b := fl b) (fl a) (ts.length - 1)
  have n := h.n
  unfold rnk; omega
structure Way (ts a b rs : List Int) : Prop where
  s : aSum rs = dst ts a b
  e : amv ts a rs = b
  nz : ∀ r ∈ rs, r ≠ 0 ∧ -1000000 ≤ r ∧ r ≤ 1000000
theorem nr_step {ts a b : List Int} (h : Tops ts) (ra : Rd ts a) (rb : Rd ts b) (ne : a ≠ b) : dst ts a b = (nr ts b a).natAbs + dst ts (mv1 ts a (nr ts b a)) b ∧ rnk ts b (mv1 ts a (nr ts b a)) < rnk ts b a ∧ nr ts b a ≠ 0 ∧ -1000000 ≤ nr ts b a ∧ nr ts b a ≤ 1000000 := by
  have n := h.n
  obtain ⟨w1, w2, w3, w4⟩ := way_step _ h.lamps _ (h.rch ra) (h.rch rb) (fun e => ne (rnk_zero h ra.1.len rb.1.len e))
  have q := ((h.rch ra).mv h.lamps (nr ts b a)).b (ts.length - 1) (Nat.le_refl _)
  have q2 := (h.rch ra).b (ts.length - 1) (Nat.le_refl _)
  have tb : fl ts (ts.length - 1) ≤ 1000000 := by
    have : fl ts (ts.length - 1) = ts[ts.length - 1]'(by omega) := by simp [fl, List.getD, show ts.length - 1 < ts.length by omega]
    rw [this]; exact (h.b _ (List.getElem_mem _)).2
  have e : fl (mv1 ts a (nr ts b a)) = mvf (fl ts) (fl a) (nr ts b a) := fl_mv1 ra.1.len _
  unfold dst rnk
  rw [e]
  refine ⟨w2, w3, w4, ?_, ?_⟩
  · have : mvf (fl ts) (fl a) (nr ts b a) (ts.length - 1) = fl a (ts.length - 1) + nr ts b a := w1
    omega
  · have : mvf (fl ts) (fl a) (nr ts b a) (ts.length - 1) = fl a (ts.length - 1) + nr ts b a := w1
    omega
theorem rtL_way {ts b : List Int} (h : Tops ts) (rb : Rd ts b) : ∀ (k : Nat) {a : List Int}, Rd ts a → rnk ts b a ≤ k → Way ts a b (rtL ts b k a) ∧ (rtL ts b k a).length ≤ rnk ts b a
  | 0, a, ra, hk => by
    have : a = b := rnk_zero h ra.1.len rb.1.len (by omega)
    subst this
    exact ⟨⟨by simp [rtL, aSum, dst_self h], by rw [rtL, amv_nil ra.1.len], by simp [rtL]⟩, by simp [rtL]⟩
  | k + 1, a, ra, hk => by
    by_cases e : a = b
    · subst e
      have : rtL ts a (k + 1) a = [] := by simp [rtL]
      rw [this]
      exact ⟨⟨by simp [aSum, dst_self h], amv_nil ra.1.len, by simp⟩, by simp⟩
    · have : rtL ts b (k + 1) a = nr ts b a :: rtL ts b k (mv1 ts a (nr ts b a)) := by simp [rtL, e]
      rw [this]
      obtain ⟨s1, s2, s3⟩ := nr_step h ra rb e
      obtain ⟨w, wl⟩ := rtL_way h rb k (ra.mv h (nr ts b a)) (by omega)
      refine ⟨⟨by rw [aSum_cons, w.s]; omega, by rw [amv_cons]; exact w.e, fun r hr => ?_⟩, by simp; omega⟩
      rcases List.mem_cons.mp hr with rfl | hr
      · exact s3
      · exact w.nz r hr
theorem rt_way {ts a b : List Int} (h : Tops ts) (ra : Rd ts a) (rb : Rd ts b) : Way ts a b (rt ts a b) ∧ (rt ts a b).length ≤ ts.length := by
  have := rtL_way h rb ts.length ra (rnk_len ts a b h)
  exact ⟨this.1, Nat.le_trans this.2 (rnk_len ts a b h)⟩
theorem dst_tri {ts a b c : List Int} (h : Tops ts) (ra : Rd ts a) (rc : Rd ts c) : dst ts a b ≤ dst ts a c + dst ts c b := by
  obtain ⟨w, _⟩ := rt_way h ra rc
  have := dst_runs (b := b) h (rt ts a c) ra
  rw [w.e, w.s] at this
  exact this
theorem dst_zero {ts a b : List Int} (h : Tops ts) (ra : Rd ts a) (rb : Rd ts b) (e : dst ts a b = 0) : a = b := by
  obtain ⟨w, _⟩ := rt_way h ra rb
  have s := w.s
  rw [e] at s
  cases hr : rt ts a b with
  | nil => have := w.e; rw [hr, amv_nil ra.1.len] at this; exact this
  | cons r rs =>
    rw [hr, aSum_cons] at s
    have := aSum_nn rs
    have := (w.nz r (by rw [hr]; simp)).1
    omega
theorem dst_le_of {ts a b : List Int} (h : Tops ts) (ra : Rd ts a) {rs : List Int} (e : amv ts a rs = b) : dst ts a b ≤ aSum rs := by
  have := dst_runs (b := b) h rs ra
  rw [e, dst_self h] at this
  omega

/-! ### the deck of the laws: an object, whose draws are taken as any -/
structure Dk (a : Addr) (n : Int) (M : Mm) : Prop where
  ex : ∃ d0 d1 d2 : Int, M.lookup a = some (.lst [.int d0, .int d1, .int d2]) ∧ 0 ≤ d1 ∧ d1 < 2147483579 ∧ 0 ≤ d2 ∧ d2 ≤ n
def Only (a : Addr) (M M' : Mm) : Prop := M' = M ∨ ∃ m, M' = putM M a m
theorem Only.refl (a : Addr) (M : Mm) : Only a M M := .inl rfl
theorem putM_putM {a : Addr} {m m' : MO} : ∀ M : Mm, putM (putM M a m) a m' = putM M a m'
  | [] => rfl
  | (b, n) :: r => by
    by_cases h : b = a
    · simp [putM, h]
    · simp [putM, h, putM_putM r]
theorem Only.trans {a : Addr} {M M1 M2 : Mm} (h : Only a M M1) (h' : Only a M1 M2) : Only a M M2 := by
  rcases h with rfl | ⟨m, rfl⟩
  · exact h'
  · rcases h' with rfl | ⟨m', rfl⟩
    · exact .inr ⟨m, rfl⟩
    · exact .inr ⟨m', putM_putM M⟩
theorem Only.under {a b : Addr} {m : MO} {M M2 : Mm} (hb : a ≠ b) (h : Only a ((b, m) :: M) M2) : ∃ M', M2 = (b, m) :: M' ∧ Only a M M' := by
  rcases h with rfl | ⟨x, rfl⟩
  · exact ⟨M, rfl, .inl rfl⟩
  · exact ⟨putM M a x, putM_under _ _ _ hb, .inr ⟨x, rfl⟩⟩
theorem Dk.more {a : Addr} {n m : Int} {M : Mm} (h : Dk a n M) (hm : n ≤ m) : Dk a m M := by
  obtain ⟨d0, d1, d2, h1, h2, h3, h4, h5⟩ := h.ex
  exact ⟨d0, d1, d2, h1, h2, h3, h4, by omega⟩
theorem Dk.push {a b : Addr} {n : Int} {m : MO} {M : Mm} (h : Dk a n M) (hb : a ≠ b) : Dk a n ((b, m) :: M) := by
  obtain ⟨d0, d1, d2, h1, h2⟩ := h.ex
  exact ⟨d0, d1, d2, by rw [lookup_under _ _ hb]; exact h1, h2⟩
theorem Dk.pop {a b : Addr} {n : Int} {m : MO} {M : Mm} (h : Dk a n ((b, m) :: M)) (hb : a ≠ b) : Dk a n M := by
  obtain ⟨d0, d1, d2, h1, h2⟩ := h.ex
  exact ⟨d0, d1, d2, by rw [lookup_under _ _ hb] at h1; exact h1, h2⟩
theorem Dk.ne {a b : Addr} {n : Int} {M : Mm} (h : Dk a n M) (hb : M.lookup b = none) : a ≠ b := fun e => by
  obtain ⟨d0, d1, d2, h1, _⟩ := h.ex
  rw [e, hb] at h1; cases h1
/-- the deck, drawn from at most c times more -/
structure Step (a : Addr) (n : Int) (M M' : Mm) : Prop where
  d : Dk a n M'
  o : Only a M M'
theorem Step.under {a b : Addr} {n : Int} {m : MO} {M M2 : Mm} (hb : a ≠ b) (h : Step a n ((b, m) :: M) M2) : ∃ M', M2 = (b, m) :: M' ∧ Step a n M M' := by
  obtain ⟨M', rfl, h'⟩ := h.o.under hb
  exact ⟨M', rfl, h.d.pop hb, h'⟩
theorem Step.trans {a : Addr} {n m : Int} {M M1 M2 : Mm} (h : Step a n M M1) (h' : Step a m M1 M2) : Step a m M M2 := ⟨h'.d, h.o.trans h'.o⟩
theorem Step.more {a : Addr} {n m : Int} {M M1 : Mm} (h : Step a n M M1) (hm : n ≤ m) : Step a m M M1 := ⟨h.d.more hm, h.o⟩
theorem Dk.step {a : Addr} {n : Int} {M : Mm} (h : Dk a n M) : Step a n M M := ⟨h, .inl rfl⟩
theorem TbM.step {tb : Str → Addr} {xs : List Str} {a : Addr} {n n0 : Int} {M M' : Mm} (h : TbM tb xs M) (hd : Dk a n0 M) (s : Step a n M M') : TbM tb xs M' := fun x hx => by
  have e := h x hx
  have ne : tb x ≠ a := fun z => by
    obtain ⟨_, _, _, h1, _⟩ := hd.ex
    rw [z, h1] at e; cases e
  rcases s.o with rfl | ⟨m, rfl⟩
  · exact e
  · rw [lookup_putM_ne ne]; exact e
def sp_law_deck : SpD := fun ds M Q E => ∃ c t : Int, ds = [.int c, .int t] ∧ 0 ≤ t ∧ ∀ a M', M.lookup a = none → Dk a t ((a, M') :: M) → Q (.obj a) ((a, M') :: M)
theorem len_law_deck : ∀ ds M Q E, sp_law_deck ds M Q E → ds.length = 2 := fun _ _ _ _ ⟨_, _, e, _⟩ => by rw [e]; rfl
def t_law_deck : TDS := (dSeq (dIf (tVal (eOp2 gGe (eVar 0) (eOp2 gPow (eC (.int 10)) (eC (.int 18))))) (dRet (eLstO (aCons (eOp2 gSub (eVar 0) (eOp2 gPow (eC (.int 10)) (eC (.int 18)))) (aCons (eOp2 gMod (eVar 0) (eC (.int 2147483579))) (aCons (eVar 1) aNil))))) dNext)
  (dRet (eLstO (aCons (eC (.int 0)) (aCons (eOp2 gMod (eVar 0) (eC (.int 2147483579))) (aCons (eVar 1) aNil))))))

theorem rd_law_deck (h : sp_law_deck ds M Q E) : t_law_deck { nx := fun _ M' => fin Q .non M', rt := fin Q } (startN 2 ds) M := by
  obtain ⟨c, t, rfl, ht, q⟩ := h
  show t_law_deck _ [some (.int c), some (.int t)] M
  have b1 := Int.emod_nonneg c (show (2147483579 : Int) ≠ 0 by decide)
  have b2 := Int.emod_lt_of_pos c (show (0 : Int) < 2147483579 by decide)
  have cp : CPow 10 18 := by unfold CPow; decide
  unfold t_law_deck
  by_cases h : (1000000000000000000 : Int) ≤ c
  · simp [onB, cp, h, -List.lookup_eq_none_iff]
    exact ⟨by decide, fun a ha => fin_same (q a _ ha ⟨_, _, _, lk_top _ _ _, b1, b2, ht, Int.le_refl _⟩)⟩
  · simp [onB, cp, h, -List.lookup_eq_none_iff]
    exact ⟨by decide, fun a ha => fin_same (q a _ ha ⟨_, _, _, lk_top _ _ _, b1, b2, ht, Int.le_refl _⟩)⟩
def sp_law_pick : SpD := fun ds M Q E => ∃ a l n, ds = [.obj a, .int l] ∧ Dk a n M ∧ n ≤ 100000000 ∧ 0 < l ∧ l ≤ 10 ^ 50 ∧ ∀ r M', 0 ≤ r → r < l → Step a (n + 1) M M' → Q (.int r) M'
theorem len_law_pick : ∀ ds M Q E, sp_law_pick ds M Q E → ds.length = 2 := fun _ _ _ _ ⟨_, _, _, e, _⟩ => by rw [e]; rfl
theorem s_gStIxO {a : Addr} {k : Int} {v : D} {xs : List D} {R : Mm → Prop} {j : Nat} (h : M.lookup a = some (.lst xs)) (hk : ixN xs.length k = some j) : gStIx (.obj a) (.int k) v M R = R (putM M a (.lst (xs.set j v))) := by
  show (match lstOf (M.lookup a) with | some xs => (match ixN xs.length k with | some j => R (putM M a (.lst (xs.set j v))) | none => False) | none => False) = _
  rw [h]; simp only [lstOf]; rw [hk]
def t_law_pick : TDS := (dSeq (dIf (tVal (eOp2 gGt (eOp2 gIx (eVar 0) (eC (.int 0))) (eC (.int 1)))) (dSeq (dSet 2 (eOp2 gMod (eOp2 gIx (eVar 0) (eC (.int 0))) (eVar 1)))
  (dSeq (dStIx (eOp2 gFdiv (eOp2 gIx (eVar 0) (eC (.int 0))) (eVar 1)) (eVar 0) (eC (.int 0)))
  (dRet (eVar 2)))) dNext)
  (dSeq (dStIx (eOp2 gAdd (eOp2 gIx (eVar 0) (eC (.int 2))) (eC (.int 1))) (eVar 0) (eC (.int 2)))
  (dSeq (dSet 3 (eOp2 gMod (eOp2 gPow (eOp2 gAdd (eOp2 gIx (eVar 0) (eC (.int 1))) (eOp2 gMul (eC (.int 15485867)) (eOp2 gIx (eVar 0) (eC (.int 2))))) (eC (.int 5))) (eC (.int 2147483647))))
  (dSeq (dSet 2 (eOp2 gFdiv (eOp2 gMod (eOp2 gPow (eOp2 gAdd (eVar 3) (eOp2 gMul (eC (.int 7919)) (eOp2 gIx (eVar 0) (eC (.int 2))))) (eC (.int 3))) (eC (.int 2147483629))) (eC (.int 32))))
  (dSeq (dIf (tVal (eOp2 gGt (eVar 1) (eC (.int 1000000)))) (dRet (eOp2 gMod (eOp2 gAdd (eOp2 gMul (eVar 2) (eC (.int 2147483563))) (eVar 3)) (eVar 1))) dNext)
  (dRet (eOp2 gMod (eVar 2) (eVar 1))))))))

theorem cpow_of {i j : Int} (h1 : -1000000000000000000 < i) (h2 : i < 1000000000000000000) (h3 : 0 ≤ j) (h4 : j ≤ 1000000) : CPow i j := ⟨h3, h4, by omega⟩
theorem rd_law_pick (h : sp_law_pick ds M Q E) : t_law_pick { nx := fun _ M' => fin Q .non M', rt := fin Q } (startN 4 ds) M := by
  obtain ⟨a, l, n, rfl, hd, hn, hl, hl2, q⟩ := h
  show t_law_pick _ [some (.obj a), some (.int l), none, none] M
  obtain ⟨d0, d1, d2, lk, h1, h2, h3, h4⟩ := hd.ex
  have c0 := s_gIxO (Q := Q) (i := 0) lk (atI_h0 _ _)
  unfold t_law_pick
  simp [onB, s_gIxO (i := 0) lk (atI_h0 _ _)]
  by_cases hc : 1 < d0
  · simp [hc, s_gIxO (i := 0) lk (atI_h0 _ _), hl]
    refine ⟨Sm.of (by omega) hl2, ?_⟩
    rw [s_gStIxO lk (j := 0) rfl]
    simp
    refine fin_same (q _ _ (Int.emod_nonneg _ (by omega)) (Int.emod_lt_of_pos _ hl) ⟨⟨_, _, _, lookup_put lk, h1, h2, h3, by omega⟩, .inr ⟨_, rfl⟩⟩)
  · have i2 : atI [D.int d0, .int d1, .int d2] 2 = some (.int d2) := rfl
    simp [hc, s_gIxO (i := 2) lk i2]
    rw [s_gStIxO lk (j := 2) rfl]
    simp
    generalize hM : putM M a (.lst [.int d0, .int d1, .int (d2 + 1)]) = M1
    have lk1 : M1.lookup a = some (.lst [.int d0, .int d1, .int (d2 + 1)]) := by rw [← hM]; exact lookup_put lk
    have j1 : atI [D.int d0, .int d1, .int (d2 + 1)] 1 = some (.int d1) := rfl
    have j2 : atI [D.int d0, .int d1, .int (d2 + 1)] 2 = some (.int (d2 + 1)) := rfl
    simp [s_gIxO (i := 1) lk1 j1, s_gIxO (i := 2) lk1 j2]
    have m1 := Int.emod_nonneg ((d1 + 15485867 * (d2 + 1)) ^ 5) (show (2147483647 : Int) ≠ 0 by decide)
    have m2 := Int.emod_lt_of_pos ((d1 + 15485867 * (d2 + 1)) ^ 5) (show (0 : Int) < 2147483647 by decide)
    generalize (d1 + 15485867 * (d2 + 1)) ^ 5 % 2147483647 = e at m1 m2 ⊢
    have st : Step a (n + 1) M M1 := ⟨⟨_, _, _, lk1, h1, h2, by omega, by omega⟩, .inr ⟨_, hM.symm⟩⟩
    refine ⟨⟨by decide, Sm.of (by omega) (by omega)⟩, cpow_of (by omega) (by omega) (by decide) (by decide), ⟨by decide, Sm.of (by omega) (by omega)⟩, cpow_of (by omega) (by omega) (by decide) (by decide), by decide, ?_⟩
    have p1 := Int.emod_nonneg ((e + 7919 * (d2 + 1)) ^ 3) (show (2147483629 : Int) ≠ 0 by decide)
    have p2 := Int.emod_lt_of_pos ((e + 7919 * (d2 + 1)) ^ 3) (show (0 : Int) < 2147483629 by decide)
    generalize (e + 7919 * (d2 + 1)) ^ 3 % 2147483629 = f at p1 p2 ⊢
    by_cases hb : 1000000 < l
    · simp [hb, hl]
      exact ⟨⟨Sm.of (by omega) (by omega), by decide⟩, fin_same (q _ _ (Int.emod_nonneg _ (by omega)) (Int.emod_lt_of_pos _ hl) st)⟩
    · simp [hb, hl]
      exact fin_same (q _ _ (Int.emod_nonneg _ (by omega)) (Int.emod_lt_of_pos _ hl) st)
def sp_law_one : SpD := fun ds M Q E => ∃ a s xs n, ds = [.obj a, s] ∧ (s = .lst xs ∨ s = .tup xs) ∧ xs ≠ [] ∧ xs.length ≤ 1000000 ∧ Dk a n M ∧ n ≤ 100000000 ∧ ∀ x M', x ∈ xs → Step a (n + 1) M M' → Q x M'
theorem len_law_one : ∀ ds M Q E, sp_law_one ds M Q E → ds.length = 2 := fun _ _ _ _ ⟨_, _, _, _, e, _⟩ => by rw [e]; rfl
def t_law_one : TDS := (dRet (eOp2 gIx (eVar 1) (eCall sp_law_pick noE (aCons (eVar 0) (aCons (eCB gLen (aCons (eVar 1) aNil)) aNil)))))

theorem rd_law_one (h : sp_law_one ds M Q E) : t_law_one { nx := fun _ M' => fin Q .non M', rt := fin Q } (startN 2 ds) M := by
  obtain ⟨a, s, xs, n, rfl, hs, hx, hl, hd, hn, q⟩ := h
  show t_law_one _ [some (.obj a), some s] M
  have h0 : 0 < xs.length := List.length_pos_iff.mpr hx
  have key : ∀ r : Int, 0 ≤ r → r < xs.length → ∃ x ∈ xs, atI xs r = some x := fun r h1 h2 => by
    obtain ⟨k, rfl⟩ := Int.eq_ofNat_of_zero_le h1
    exact ⟨xs[k]'(by omega), List.getElem_mem _, atI_nat xs k (by omega)⟩
  unfold t_law_one
  rcases hs with rfl | rfl
  · simp
    refine ⟨_, _, _, rfl, hd, hn, by omega, by omega, fun r M' r1 r2 st => ?_⟩
    obtain ⟨x, hx, e⟩ := key r r1 r2
    rw [s_gIxL, e]
    exact fin_same (q x M' hx st)
  · simp
    refine ⟨_, _, _, rfl, hd, hn, by omega, by omega, fun r M' r1 r2 st => ?_⟩
    obtain ⟨x, hx, e⟩ := key r r1 r2
    rw [s_gIxT, e]
    exact fin_same (q x M' hx st)
theorem pl_ints (xs : List Int) (n : Nat) : (tI xs).pl (n + 1) := fun d hd => by obtain ⟨i, _, rfl⟩ := List.mem_map.mp hd; cases n <;> trivial
theorem St.snoc {t s : Int} (h0 : 0 ≤ s) (h1 : s ≤ t) : ∀ {ts ss : List Int}, St ts ss → St (ts ++ [t]) (ss ++ [s])
  | [], [], _ => ⟨⟨h0, h1⟩, trivial⟩
  | _ :: _, _ :: _, h => ⟨h.1, St.snoc h0 h1 h.2⟩
theorem asc_pw : ∀ {ts : List Int}, ts.Pairwise (· ≤ ·) → Asc ts
  | [], _ => trivial
  | [_], _ => by unfold Asc; trivial
  | a :: b :: r, h => ⟨List.rel_of_pairwise_cons h (by simp), asc_pw (List.Pairwise.of_cons h)⟩
def sp_law_tops : SpD := fun ds M Q E => ∃ a m w n, ds = [.obj a, .int m, .int w] ∧ Dk a n M ∧ n ≤ 10000000 ∧ 1 ≤ m ∧ m ≤ 6 ∧ 1 ≤ w ∧ w ≤ 1000000 ∧ ∀ ts M', Tops ts → (ts.length : Int) ≤ m → (∀ t ∈ ts, t ≤ w) → Step a (n + 20) M M' → Q (tI ts) M'
theorem len_law_tops : ∀ ds M Q E, sp_law_tops ds M Q E → ds.length = 3 := fun _ _ _ _ ⟨_, _, _, _, e, _⟩ => by rw [e]; rfl
def t_law_tops : TDS := (dSeq (dSet 3 (eLstO aNil))
  (dSeq (dFor (iRng1 (aCons (eOp2 gAdd (eC (.int 1)) (eCall sp_law_pick noE (aCons (eVar 0) (aCons (eVar 1) aNil)))) aNil)) (dgName 4)
  (dDrop (eApp (eVar 3) (eCall sp_law_one noE (aCons (eVar 0) (aCons (eOp2 gAdd (eLst (aCons (eOp2 gAdd (eC (.int 1)) (eCall sp_law_pick noE (aCons (eVar 0) (aCons (eVar 2) aNil)))) (aCons (eOp2 gAdd (eC (.int 1)) (eCall sp_law_pick noE (aCons (eVar 0) (aCons (eVar 2) aNil)))) aNil))) (eSl (eVar 3) oNone (oSome (eC (.int 1))))) aNil))))))
  (dRet (eCB gTuple (aCons (eCB gSorted (aCons (eVar 3) aNil)) aNil)))))

theorem rd_law_tops (h : sp_law_tops ds M Q E) : t_law_tops { nx := fun _ M' => fin Q .non M', rt := fin Q } (startN 5 ds) M := by
  obtain ⟨a, m, w, n, rfl, hd, hn, m1, m2, w1, w2, q⟩ := h
  show t_law_tops _ [some (.obj a), some (.int m), some (.int w), none, none] M
  unfold t_law_tops
  simp [-List.lookup_eq_none_iff]
  intro b hb
  have ab := hd.ne hb
  refine ⟨a, m, n, rfl, hd.push ab, by omega, by omega, by omega, fun r M1 r0 r1 s1 => ?_⟩
  obtain ⟨M1, rfl, u1⟩ := s1.under ab
  simp
  refine ⟨by omega, ?_⟩
  rw [rngD_nat]
  refine forL_rng _ (fun i ρ M' => ∃ (acc : List Int) (M2 : Mm) (o : Option D), ρ = [some (.obj a), some (.int m), some (.int w), some (.obj b), o] ∧ M' = (b, .lst (acc.map .int)) :: M2 ∧ Step a (n + 1 + 3 * i) M M2 ∧ acc.length = i ∧ ∀ x ∈ acc, 1 ≤ x ∧ x ≤ w) (fun ρ M' ⟨acc, M2, o, e, e2, st, hl, hx⟩ => ?_) (fun i ρ M' rec hi ⟨acc, M2, o, e, e2, st, hl, hx⟩ hr => ?_) ⟨[], M1, _, rfl, rfl, by simpa using u1, rfl, by simp⟩
  · subst e e2
    simp
    rw [s_gSortO (lk_top _ _ _)]
    intro ns p1 p2
    simp
    refine fin_drop (List.sublist_cons_self _ _) (q ns M2 ⟨by rw [p1.length_eq]; omega, fun t ht => ?_, asc_pw p2⟩ (by rw [p1.length_eq]; omega) (fun t ht => (hx t (p1.mem_iff.mp ht)).2) (st.more (by omega)))
    have := hx t (p1.mem_iff.mp ht)
    omega
  · subst e e2
    simp [lstOf]
    refine ⟨a, w, _, rfl, st.d.push ab, by omega, by omega, by omega, fun r1 M3 r10 r11 s3 => ?_⟩
    obtain ⟨M3, rfl, u3⟩ := s3.under ab
    refine ⟨a, w, _, rfl, u3.d.push ab, by omega, by omega, by omega, fun r2 M4 r20 r21 s4 => ?_⟩
    obtain ⟨M4, rfl, u4⟩ := s4.under ab
    refine ⟨by decide, ?_⟩
    rw [s_gSlO (lk_top _ _ _)]
    simp
    refine ⟨Nat.le_trans (show _ ≤ 3 by omega) (by decide), a, _, _, _, rfl, .inl rfl, by simp, by simp; omega, u4.d.push ab, by omega, fun x M5 hx5 s5 => ?_⟩
    obtain ⟨M5, rfl, u5⟩ := s5.under ab
    have hx6 : ∃ y : Int, x = .int y ∧ 1 ≤ y ∧ y ≤ w := by
      rcases List.mem_cons.mp hx5 with rfl | hx5
      · exact ⟨_, rfl, by omega, by omega⟩
      rcases List.mem_cons.mp hx5 with rfl | hx5
      · exact ⟨_, rfl, by omega, by omega⟩
      obtain ⟨y, hy, rfl⟩ := List.mem_map.mp (List.mem_of_mem_take hx5)
      exact ⟨y, rfl, hx y hy⟩
    obtain ⟨y, rfl, y1, y2⟩ := hx6
    rw [s_gAppO (lk_top _ _ _)]
    refine ⟨Nat.lt_of_le_of_lt (show _ ≤ 1000000 by simp; omega) (by decide), ?_⟩
    simp
    refine hr _ _ ⟨acc ++ [y], M5, _, rfl, by simp, ((st.trans u3).trans (u4.trans u5)).more (by omega), by simp; omega, fun z hz => ?_⟩
    rcases List.mem_append.mp hz with hz | hz
    · exact hx z hz
    · simp at hz; subst hz; exact ⟨y1, y2⟩
theorem inR_snoc {t u x y : Int} (h : okP t u x y) : ∀ {ts ss : List Int}, ts.length = ss.length → inR (ts ++ [t]) (ss ++ [x]) → inR (ts ++ [t] ++ [u]) (ss ++ [x] ++ [y])
  | [], [], _, _ => ⟨h, by unfold inR; trivial⟩
  | [a], [b], _, hh => ⟨hh.1, h, by unfold inR; trivial⟩
  | a :: b :: ts, c :: d :: ss, hl, hh => ⟨hh.1, inR_snoc h (ts := b :: ts) (ss := d :: ss) (by simpa using hl) hh.2⟩
  | [], _ :: _, hl, _ => by simp at hl
  | _ :: _, [], hl, _ => by simp at hl
  | [_], _ :: _ :: _, hl, _ => by simp at hl
  | _ :: _ :: _, [_], hl, _ => by simp at hl
theorem St.last {t x : Int} : ∀ {ts ss : List Int}, St (ts ++ [t]) (ss ++ [x]) → 0 ≤ x ∧ x ≤ t
  | [], [], h => h.1
  | _ :: _, _ :: _, h => St.last h.2
  | [], [b], h => h.2.elim
  | [], b :: c :: r, h => h.2.elim
  | [a], [], h => h.2.elim
  | a :: b :: r, [], h => h.2.elim
def sp_law_reached : SpD := fun ds M Q E => ∃ a ts n, ds = [.obj a, tI ts] ∧ Dk a n M ∧ n ≤ 10000000 ∧ Tops ts ∧ ∀ ss M', St ts ss → inR ts ss → Step a (n + 20) M M' → Q (tI ss) M'
theorem len_law_reached : ∀ ds M Q E, sp_law_reached ds M Q E → ds.length = 2 := fun _ _ _ _ ⟨_, _, _, e, _⟩ => by rw [e]; rfl
def t_law_reached : TDS := (dSeq (dSet 2 (eLstO (aCons (eCall sp_law_one noE (aCons (eVar 0) (aCons (eLst (aCons (eC (.int 0)) (aCons (eOp2 gIx (eVar 1) (eC (.int 0))) (aCons (eCall sp_law_pick noE (aCons (eVar 0) (aCons (eOp2 gAdd (eOp2 gIx (eVar 1) (eC (.int 0))) (eC (.int 1))) aNil))) aNil)))) aNil))) aNil)))
  (dSeq (dFor (iZip2 (aCons (eVar 1) (aCons (eSl (eVar 1) (oSome (eC (.int 1))) oNone) aNil))) (dgTup 2 (dgCons (dgName 3) (dgCons (dgName 4) dgNil)))
  (dDrop (eApp (eVar 2) (eOp2 gAdd (eOp2 gIx (eVar 2) (eOp1 gNeg (eC (.int 1)))) (eCall sp_law_one noE (aCons (eVar 0) (aCons (eLst (aCons (eC (.int 0)) (aCons (eOp2 gSub (eVar 4) (eVar 3)) (aCons (eCall sp_law_pick noE (aCons (eVar 0) (aCons (eOp2 gAdd (eOp2 gSub (eVar 4) (eVar 3)) (eC (.int 1))) aNil))) aNil)))) aNil)))))))
  (dRet (eCB gTuple (aCons (eVar 2) aNil)))))

theorem asc_mid {t u : Int} : ∀ {dn r : List Int}, Asc (dn ++ t :: u :: r) → t ≤ u
  | [], _, h => h.1
  | [a], _, h => h.2.1
  | a :: b :: dn, r, h => asc_mid (dn := b :: dn) h.2
theorem rd_law_reached (h : sp_law_reached ds M Q E) : t_law_reached { nx := fun _ M' => fin Q .non M', rt := fin Q } (startN 5 ds) M := by
  obtain ⟨a, ts, n, rfl, hd, hn, ht, q⟩ := h
  show t_law_reached _ [some (.obj a), some (tI ts), none, none, none] M
  have h6 := ht.n
  cases ts with
  | nil => simp at h6
  | cons t0 ts =>
  have ht0 := ht.b t0 (by simp)
  have pk : ∀ (x : D) (u r : Int), 0 ≤ u → 0 ≤ r → r ≤ u → x ∈ [D.int 0, .int u, .int r] → ∃ z : Int, x = .int z ∧ 0 ≤ z ∧ z ≤ u := by
    intro x u r u0 r0 r1 hx
    simp at hx
    rcases hx with rfl | rfl | rfl
    · exact ⟨_, rfl, by omega, by omega⟩
    · exact ⟨_, rfl, by omega, by omega⟩
    · exact ⟨_, rfl, by omega, by omega⟩
  unfold t_law_reached
  simp [-List.lookup_eq_none_iff]
  refine ⟨a, _, n, rfl, hd, by omega, by omega, by omega, fun r1 M1 r10 r11 s1 => ⟨by decide, a, _, _, _, rfl, .inl rfl, by simp, by simp, s1.d, by omega, fun x M2 hx s2 => ⟨by decide, fun b hb => ?_⟩⟩⟩
  obtain ⟨x, rfl, x0, x1⟩ := pk x t0 r1 (by omega) r10 (by omega) hx
  have ab := s2.d.ne hb
  have ez : zip2D (.int t0 :: ts.map .int) (ts.map .int) = ((t0 :: ts).zip ts).map fun p => D.tup [.int p.1, .int p.2] := by rw [← zip2_int]; rfl
  rw [ez]
  refine forL_map (fun p : Int × Int => D.tup [.int p.1, .int p.2]) (fun r ρ M' => ∃ (dn sd rest : List Int) (t x : Int) (M3 : Mm) (o p : Option D), ρ = [some (.obj a), some (tI (t0 :: ts)), some (.obj b), o, p] ∧ M' = (b, .lst ((sd ++ [x]).map .int)) :: M3 ∧ t0 :: ts = dn ++ t :: rest ∧ r = (t :: rest).zip rest ∧ dn.length = sd.length ∧ St (dn ++ [t]) (sd ++ [x]) ∧ inR (dn ++ [t]) (sd ++ [x]) ∧ Step a (n + 2 + 2 * dn.length) M M3)
    (fun ρ M' ⟨dn, sd, rest, t, x, M3, o, p, e, e2, e3, e4, hl, hs, hi, st⟩ => ?_) (fun y r ρ M' rec ⟨dn, sd, rest, t, x, M3, o, p, e, e2, e3, e4, hl, hs, hi, st⟩ hr => ?_) ⟨[], [], ts, t0, x, M2, _, _, rfl, rfl, rfl, rfl, rfl, ⟨⟨x0, x1⟩, trivial⟩, by simp [inR], (s1.trans s2).more (by simp; omega)⟩
  · subst e e2
    cases rest with
    | cons _ _ => simp at e4
    | nil =>
      simp
      rw [s_gTupO (lk_top _ _ _)]
      rw [← e3] at hs hi
      have hl2 : dn.length ≤ 6 := by have := congrArg List.length e3; simp at this h6; omega
      have := q _ M3 hs hi (st.more (by omega))
      exact fin_drop (List.sublist_cons_self _ _) (by simpa [tI] using this)
  · subst e e2
    cases rest with
    | nil => simp at e4
    | cons u rest =>
      rw [List.zip_cons_cons] at e4
      cases e4
      have tu : t ≤ u := asc_mid (dn := dn) (by rw [← e3]; exact ht.asc)
      have hu := ht.b u (by rw [e3]; simp)
      have htt := ht.b t (by rw [e3]; simp)
      have hl2 : dn.length ≤ 5 := by have := congrArg List.length e3; simp at this h6; omega
      have la : atI (List.map D.int (sd ++ [x])) (-1) = some (.int x) := by rw [atI_map, atI_last _ (by simp)]; simp
      simp [lstOf]
      rw [s_gIxO (lk_top _ _ _) (by simpa using la)]
      refine ⟨a, _, _, rfl, st.d.push ab, by omega, by omega, by omega, fun r2 M4 r20 r21 s4 => ?_⟩
      obtain ⟨M4, rfl, u4⟩ := s4.under ab
      refine ⟨by decide, a, _, _, _, rfl, .inl rfl, by simp, by simp, u4.d.push ab, by omega, fun z M5 hz s5 => ?_⟩
      obtain ⟨M5, rfl, u5⟩ := s5.under ab
      obtain ⟨z, rfl, z0, z1⟩ := pk z (u - t) r2 (by omega) r20 (by omega) hz
      simp
      rw [s_gAppO (lk_top _ _ _)]
      refine ⟨Nat.lt_of_le_of_lt (show _ ≤ 1000000 by simp; omega) (by decide), ?_⟩
      simp
      have xl := St.last hs
      refine hr _ _ ⟨dn ++ [t], sd ++ [x], rest, u, x + z, M5, _, _, rfl, by simp, by rw [e3]; simp, rfl, by simpa using hl, hs.snoc (by omega) (by omega), inR_snoc ⟨by omega, by omega⟩ hl hi, (st.trans (u4.trans u5)).more (by simp; omega)⟩

theorem map_int_inj : ∀ {a b : List Int}, a.map D.int = b.map D.int → a = b
  | [], [], _ => rfl
  | [], _ :: _, h => by simp at h
  | _ :: _, [], h => by simp at h
  | x :: a, y :: b, h => by
    simp at h
    rw [h.1, map_int_inj h.2]
theorem tI_inj {a b : List Int} : tI a = tI b ↔ a = b := ⟨fun h => map_int_inj (by simpa [tI] using h), fun h => by rw [h]⟩
theorem gNe_tI {a b : List Int} (q : ∀ c : Bool, (c = true ↔ a ≠ b) → Q (.bl c) M) : gNe (tI a) (tI b) M Q := gNe_pl 1 (pl_ints _ _) (pl_ints _ _) (by decide) fun c hc => q c (by rw [hc, ne_eq, tI_inj])
theorem gEq_tI {a b : List Int} (q : ∀ c : Bool, (c = true ↔ a = b) → Q (.bl c) M) : gEq (tI a) (tI b) M Q := gEq_pl 1 (pl_ints _ _) (pl_ints _ _) (by decide) fun c hc => q c (by rw [hc, tI_inj])
theorem atI_fl (xs : List Int) (i : Nat) (h : i < xs.length) : atI xs (i : Int) = some (fl xs i) := atI_get xs i h
theorem atI_fl1 (xs : List Int) (i : Nat) (h : i + 1 < xs.length) : atI xs ((i : Int) + 1) = some (fl xs (i + 1)) := atI_get1 xs i h
theorem atI_fl0 (xs : List Int) (h : 0 < xs.length) : atI xs 0 = some (fl xs 0) := atI_get xs 0 h
theorem dnD_eq (lo : Int) (n : Nat) : dnD lo n = (List.range n).map fun (i : Nat) => D.int (lo - i) := rfl
def sp_need_reached : SpD := fun ds M Q E => ∃ ts ss, ds = [tI ts, tI ss] ∧ Tops ts ∧ Rd ts ss ∧ Q .non M
theorem len_need_reached : ∀ ds M Q E, sp_need_reached ds M Q E → ds.length = 2 := fun _ _ _ _ ⟨_, _, e, _⟩ => by rw [e]; rfl
def t_need_reached : TDS := (dSeq (dDrop (eCall sp_need_state noE (aCons (eVar 0) (aCons (eVar 1) aNil))))
  (dIf (dNot (tVal (eCall sp_in_reach noE (aCons (eVar 0) (aCons (eVar 1) aNil))))) dNever dNext))

theorem rd_need_reached (h : sp_need_reached ds M Q E) : t_need_reached { nx := fun _ M' => fin Q .non M', rt := fin Q } (startN 2 ds) M := by
  obtain ⟨ts, ss, rfl, ht, hs, q⟩ := h
  show t_need_reached _ [some (tI ts), some (tI ss)] M
  have := ht.n
  have := hs.1.len
  unfold t_need_reached
  simp
  exact ⟨ts, ss, rfl, ht, hs.1, ts, ss, rfl, by omega, by omega, by omega, by simpa [onB, hs.2] using fin_same q⟩
def sp_is_reached : SpD := fun ds M Q E => ∃ ts ss, ds = [tI ts, tI ss] ∧ Tops ts ∧ St ts ss ∧ Q (.bl (decide (inR ts ss))) M
theorem len_is_reached : ∀ ds M Q E, sp_is_reached ds M Q E → ds.length = 2 := fun _ _ _ _ ⟨_, _, e, _⟩ => by rw [e]; rfl
def t_is_reached : TDS := (dSeq (dDrop (eCall sp_need_ranges noE (aCons (eVar 0) aNil)))
  (dSeq (dDrop (eCall sp_need_state noE (aCons (eVar 0) (aCons (eVar 1) aNil))))
  (dRet (eCall sp_in_reach noE (aCons (eVar 0) (aCons (eVar 1) aNil))))))

theorem rd_is_reached (h : sp_is_reached ds M Q E) : t_is_reached { nx := fun _ M' => fin Q .non M', rt := fin Q } (startN 2 ds) M := by
  obtain ⟨ts, ss, rfl, ht, hs, q⟩ := h
  show t_is_reached _ [some (tI ts), some (tI ss)] M
  have := ht.n
  have := hs.len
  unfold t_is_reached
  simp
  exact ⟨_, rfl, ht, ts, ss, rfl, ht, hs, ts, ss, rfl, by omega, by omega, by omega, fin_same q⟩
def sp_need_both : SpD := fun ds M Q E => ∃ ts a b, ds = [tI ts, tI a, tI b] ∧ Tops ts ∧ Rd ts a ∧ Rd ts b ∧ Q .non M
theorem len_need_both : ∀ ds M Q E, sp_need_both ds M Q E → ds.length = 3 := fun _ _ _ _ ⟨_, _, _, e, _⟩ => by rw [e]; rfl
def t_need_both : TDS := (dSeq (dDrop (eCall sp_need_ranges noE (aCons (eVar 0) aNil)))
  (dSeq (dDrop (eCall sp_need_reached noE (aCons (eVar 0) (aCons (eVar 1) aNil))))
  (dDrop (eCall sp_need_reached noE (aCons (eVar 0) (aCons (eVar 2) aNil))))))

theorem rd_need_both (h : sp_need_both ds M Q E) : t_need_both { nx := fun _ M' => fin Q .non M', rt := fin Q } (startN 3 ds) M := by
  obtain ⟨ts, a, b, rfl, ht, ha, hb, q⟩ := h
  show t_need_both _ [some (tI ts), some (tI a), some (tI b)] M
  unfold t_need_both
  simp
  exact ⟨_, rfl, ht, ts, a, rfl, ht, ha, ts, b, rfl, ht, hb, fin_same q⟩
def sp_next_run : SpD := fun ds M Q E => ∃ ts a b, ds = [tI ts, tI a, tI b] ∧ 1 ≤ ts.length ∧ ts.length ≤ 1000000 ∧ a.length = ts.length ∧ b.length = ts.length ∧ Q (.int (nr ts b a)) M
theorem len_next_run : ∀ ds M Q E, sp_next_run ds M Q E → ds.length = 3 := fun _ _ _ _ ⟨_, _, _, e, _⟩ => by rw [e]; rfl
def t_next_run : TDS := (dSeq (dFor (iRng3D (aCons (eOp2 gSub (eCB gLen (aCons (eVar 0) aNil)) (eC (.int 2))) (aCons (eOp1 gNeg (eC (.int 1))) (aCons (eOp1 gNeg (eC (.int 1))) aNil)))) (dgName 3)
  (dSeq (dPar 4 5 (aCons (eOp2 gSub (eOp2 gIx (eVar 1) (eOp2 gAdd (eVar 3) (eC (.int 1)))) (eOp2 gIx (eVar 1) (eVar 3))) (aCons (eOp2 gSub (eOp2 gIx (eVar 2) (eOp2 gAdd (eVar 3) (eC (.int 1)))) (eOp2 gIx (eVar 2) (eVar 3))) aNil)))
  (dSeq (dIf (tVal (eOp2 gLt (eVar 4) (eVar 5))) (dRet (eOp2 gSub (eOp2 gAdd (eOp2 gIx (eVar 0) (eVar 3)) (eVar 5)) (eOp2 gIx (eVar 1) (eOp2 gAdd (eVar 3) (eC (.int 1)))))) dNext)
  (dIf (tVal (eOp2 gGt (eVar 4) (eVar 5))) (dRet (eOp2 gSub (eVar 5) (eOp2 gIx (eVar 1) (eOp2 gAdd (eVar 3) (eC (.int 1)))))) dNext))))
  (dRet (eOp2 gSub (eOp2 gIx (eVar 2) (eC (.int 0))) (eOp2 gIx (eVar 1) (eC (.int 0))))))

theorem rd_next_run (h : sp_next_run ds M Q E) : t_next_run { nx := fun _ M' => fin Q .non M', rt := fin Q } (startN 6 ds) M := by
  obtain ⟨ts, a, b, rfl, h1, h2, ha, hb, q⟩ := h
  show t_next_run _ [some (tI ts), some (tI a), some (tI b), none, none, none] M
  unfold t_next_run
  simp
  refine ⟨by omega, ?_⟩
  rw [show ((ts.length : Int) - 2 + 1).toNat = ts.length - 1 by omega, dnD_eq]
  refine forL_rng _ (fun i ρ M' => M' = M ∧ (∃ o1 o2 o3, ρ = [some (tI ts), some (tI a), some (tI b), o1, o2, o3]) ∧ nr ts b a = nrun (fl ts) (fl b) (ts.length - 1 - i) (fl a)) (fun ρ M' ⟨e, ⟨o1, o2, o3, e2⟩, h⟩ => ?_) (fun i ρ M' rec hi ⟨e, ⟨o1, o2, o3, e2⟩, h⟩ hr => ?_) ⟨rfl, ⟨_, _, _, rfl⟩, rfl⟩
  · subst e e2
    rw [Nat.sub_self] at h
    simp [atI_fl0 a (by omega), atI_fl0 b (by omega)]
    rw [h] at q
    exact fin_same q
  · subst e e2
    obtain ⟨m, hm⟩ : ∃ m, ts.length - 1 - i = m + 1 := ⟨ts.length - 2 - i, by omega⟩
    have em : (ts.length : Int) - 2 - i = (m : Int) := by omega
    rw [em]
    rw [hm] at h
    simp only [nrun] at h
    simp [atI_fl a m (by omega), atI_fl b m (by omega), atI_fl ts m (by omega), atI_fl1 a m (by omega), atI_fl1 b m (by omega), onB]
    by_cases c : fl a (m + 1) - fl a m < fl b (m + 1) - fl b m
    · rw [if_pos c] at h
      simp [c]
      rw [h] at q
      exact fin_same q
    · rw [if_neg c] at h
      by_cases c' : fl b (m + 1) - fl b m < fl a (m + 1) - fl a m
      · rw [if_pos c'] at h
        simp [c, c']
        rw [h] at q
        exact fin_same q
      · rw [if_neg c'] at h
        simp [c, c']
        exact hr _ _ ⟨rfl, ⟨_, _, _, rfl⟩, by rw [h]; congr 1; omega⟩
def sp_way : SpD := fun ds M Q E => ∃ ts a b, ds = [tI ts, tI a, tI b] ∧ Tops ts ∧ Rd ts a ∧ Rd ts b ∧ Q (.lst ((rt ts a b).map .int)) M
theorem len_way : ∀ ds M Q E, sp_way ds M Q E → ds.length = 3 := fun _ _ _ _ ⟨_, _, _, e, _⟩ => by rw [e]; rfl
def t_way : TDS := (dSeq (dPar 3 4 (aCons (eLstO aNil) (aCons (eVar 1) aNil)))
  (dSeq (dWhile (tVal (eOp2 gNe (eVar 4) (eVar 2)))
  (dSeq (dSet 5 (eCall sp_next_run noE (aCons (eVar 0) (aCons (eVar 4) (aCons (eVar 2) aNil)))))
  (dSeq (dDrop (eApp (eVar 3) (eVar 5)))
  (dSet 4 (eCall sp_all_moved noE (aCons (eVar 0) (aCons (eVar 4) (aCons (eTup (aCons (eVar 5) aNil)) aNil))))))))
  (dRet (eVar 3))))

theorem rd_way (h : sp_way ds M Q E) : t_way { nx := fun _ M' => fin Q .non M', rt := fin Q } (startN 6 ds) M := by
  obtain ⟨ts, a, b, rfl, ht, ha, hb, q⟩ := h
  show t_way _ [some (tI ts), some (tI a), some (tI b), none, none, none] M
  have n6 := ht.n
  unfold t_way
  simp [-List.lookup_eq_none_iff]
  intro f hf
  refine ⟨ts.length + 1, while_ind (fun k ρ M' => ∃ acc h o, ρ = [some (tI ts), some (tI a), some (tI b), some (.obj f), some (tI h), o] ∧ M' = (f, .lst (acc.map .int)) :: M ∧ Rd ts h ∧ rnk ts b h ≤ k ∧ acc ++ rtL ts b k h = rt ts a b ∧ acc.length + k ≤ ts.length) (fun k ρ M' ⟨acc, h, o, e, e2, hh, hk, hv, hl⟩ ih => ?_) _ _ _ ⟨[], a, _, rfl, rfl, ha, rnk_len ts a b ht, rfl, by simp⟩⟩
  subst e e2
  simp
  refine gNe_tI fun c hc => ?_
  by_cases e : h = b
  · have : c = false := by cases c <;> simp [e] at hc ⊢
    subst this
    simp [onB]
    have er : rtL ts b k h = [] := by cases k <;> simp [rtL, e]
    rw [er, List.append_nil] at hv
    rw [hv]
    exact fin_top q
  · have : c = true := hc.mpr e
    subst this
    simp [onB, lstOf]
    have l1 := hh.1.len
    have l2 := hb.1.len
    have rk : rnk ts b h ≠ 0 := fun z => e (rnk_zero ht l1 l2 z)
    obtain ⟨k, rfl⟩ : ∃ k', k = k' + 1 := ⟨k - 1, by omega⟩
    refine ⟨ts, h, b, rfl, by omega, by omega, l1, l2, ?_⟩
    simp
    rw [s_gAppO (lk_top _ _ _)]
    refine ⟨Nat.lt_of_le_of_lt (show _ ≤ 1000000 by simp; omega) (by decide), ?_⟩
    simp
    refine ⟨by decide, ts, h, [nr ts b h], rfl, by omega, ?_⟩
    obtain ⟨_, s2, _⟩ := nr_step ht hh hb e
    refine ih k rfl _ _ ⟨acc ++ [nr ts b h], mv1 ts h (nr ts b h), _, rfl, by simp, hh.mv ht _, by omega, ?_, by simp; omega⟩
    rw [← hv]
    simp [rtL, e]
theorem lst_abs (rs : List Int) : (rs.map fun r => D.int (r.natAbs : Int)) = (rs.map fun r => (r.natAbs : Int)).map .int := by simp
def sp_fewest : SpD := fun ds M Q E => ∃ ts a b, ds = [tI ts, tI a, tI b] ∧ Tops ts ∧ Rd ts a ∧ Rd ts b ∧ Q (.int (dst ts a b)) M
theorem len_fewest : ∀ ds M Q E, sp_fewest ds M Q E → ds.length = 3 := fun _ _ _ _ ⟨_, _, _, e, _⟩ => by rw [e]; rfl
def t_fewest : TDS := (dSeq (dDrop (eCall sp_need_both noE (aCons (eVar 0) (aCons (eVar 1) (aCons (eVar 2) aNil)))))
  (dRet (eCB gSum (aCons (eLc (iSeq (eCall sp_way noE (aCons (eVar 0) (aCons (eVar 1) (aCons (eVar 2) aNil))))) (dgName 3) tYesD (eCB gAbs (aCons (eVar 3) aNil)) [3]) aNil))))

theorem rd_fewest (h : sp_fewest ds M Q E) : t_fewest { nx := fun _ M' => fin Q .non M', rt := fin Q } (startN 4 ds) M := by
  obtain ⟨ts, a, b, rfl, ht, ha, hb, q⟩ := h
  show t_fewest _ [some (tI ts), some (tI a), some (tI b), none] M
  have n6 := ht.n
  obtain ⟨w, wl⟩ := rt_way ht ha hb
  unfold t_fewest
  simp
  refine ⟨ts, a, b, rfl, ht, ha, hb, ts, a, b, rfl, ht, ha, hb, ?_⟩
  refine ⟨by simpa using len_le (show (rt ts a b).length ≤ 1000000 by omega), ?_⟩
  refine lcL_fun .int (fun r => .int (r.natAbs : Int)) (fun _ => True) (fun x M acc rec hx h => ?_) (fun _ _ => trivial) ?_
  · simp; exact h
  rw [lst_abs, s_gSum]
  have := w.s
  unfold aSum at this
  rw [this]
  exact fin_same q
end DL

set_option maxHeartbeats 0
namespace DL
open PySem PySem.Spec PyProof.Rows L2
variable {N : List Str} {ds : List D} {M M' : Mm} {Q : D → Mm → Prop} {E : XD}
/-! ### some of the lamps -/
def sel (ix : List Nat) (xs : List Int) : List Int := ix.map fun i => xs.getD i 0
structure Ix (ix : List Nat) (n : Nat) : Prop where
  l : 1 ≤ ix.length ∧ ix.length ≤ 6
  b : ∀ i ∈ ix, i < n
  up : ix.Pairwise (· ≤ ·)
theorem sel_get {ix : List Nat} (xs : List Int) (i : Nat) (h : i < ix.length) : (sel ix xs).getD i 0 = xs.getD (ix[i]) 0 := by simp [sel, List.getD, h]
theorem asc_of : ∀ {ts : List Int}, (∀ i, i + 1 < ts.length → ts.getD i 0 ≤ ts.getD (i + 1) 0) → Asc ts
  | [], _ => trivial
  | [_], _ => by unfold Asc; trivial
  | a :: b :: r, h => ⟨by simpa using h 0 (by simp), asc_of (ts := b :: r) fun i hi => by simpa using h (i + 1) (by simpa using hi)⟩
theorem St_of : ∀ {ts ss : List Int}, ss.length = ts.length → (∀ i, i < ts.length → 0 ≤ ss.getD i 0 ∧ ss.getD i 0 ≤ ts.getD i 0) → St ts ss
  | [], [], _, _ => trivial
  | t :: ts, s :: ss, hl, h => ⟨by simpa using h 0 (by simp), St_of (by simpa using hl) fun i hi => by simpa using h (i + 1) (by simpa using hi)⟩
  | [], _ :: _, h, _ => by simp at h
  | _ :: _, [], h, _ => by simp at h
theorem okP_far {ts ss : List Int} (hl : ss.length = ts.length) (h : inR ts ss) : ∀ k i, i + k < ts.length → okP (ts.getD i 0) (ts.getD (i + k) 0) (ss.getD i 0) (ss.getD (i + k) 0)
  | 0, i, _ => by unfold okP; simp
  | k + 1, i, hi => by
    have h1 := okP_far hl h k i (by omega)
    have h2 := (inR_iff hl).mp h (i + k) (by omega)
    unfold okP at *
    rw [show i + (k + 1) = i + k + 1 by omega]
    omega
theorem asc_far {ts : List Int} (h : Asc ts) : ∀ k i, i + k < ts.length → ts.getD i 0 ≤ ts.getD (i + k) 0
  | 0, i, _ => Int.le_refl _
  | k + 1, i, hi => Int.le_trans (asc_far h k i (by omega)) (asc_get h (i + k) (by omega))
theorem Ix.two {ix : List Nat} {n : Nat} (h : Ix ix n) (i : Nat) (hi : i + 1 < ix.length) : ∃ k, ix[i + 1] = ix[i] + k ∧ ix[i] + k < n := by
  have h1 : ix[i] ≤ ix[i + 1] := List.pairwise_iff_getElem.mp h.up i (i + 1) (by omega) hi (by omega)
  exact ⟨ix[i + 1] - ix[i], by omega, by have := h.b _ (List.getElem_mem hi); omega⟩
theorem Ix.tops {ix : List Nat} {ts : List Int} (h : Ix ix ts.length) (ht : Tops ts) : Tops (sel ix ts) := by
  refine ⟨by simpa [sel] using h.l, fun t hm => ?_, asc_of fun i hi => ?_⟩
  · obtain ⟨i, hi, rfl⟩ := List.mem_map.mp hm
    have := h.b i hi
    have e : ts.getD i 0 = ts[i] := by simp [List.getD, this]
    rw [e]; exact ht.b _ (List.getElem_mem _)
  · have hi' : i + 1 < ix.length := by simpa [sel] using hi
    obtain ⟨k, e, hk⟩ := h.two i hi'
    rw [sel_get ts i (by omega), sel_get ts (i + 1) hi', e]
    exact asc_far ht.asc k _ hk
theorem Ix.rd {ix : List Nat} {ts ss : List Int} (h : Ix ix ts.length) (r : Rd ts ss) : Rd (sel ix ts) (sel ix ss) := by
  have hl := r.1.len
  refine ⟨St_of (by simp [sel]) fun i hi => ?_, (inR_iff (by simp [sel])).mpr fun i hi => ?_⟩
  · have hi' : i < ix.length := by simpa [sel] using hi
    rw [sel_get ts i hi', sel_get ss i hi']
    exact r.1.get _ (h.b _ (List.getElem_mem _))
  · have hi' : i + 1 < ix.length := by simpa [sel] using hi
    obtain ⟨k, e, hk⟩ := h.two i hi'
    rw [sel_get ts i (by omega), sel_get ss i (by omega), sel_get ts (i + 1) hi', sel_get ss (i + 1) hi', e]
    exact okP_far hl r.2 k _ hk
theorem sel_mv1 (ix : List Nat) {ts ss : List Int} (hl : ss.length = ts.length) (d : Int) : sel ix (mv1 ts ss d) = mv1 (sel ix ts) (sel ix ss) d := by
  induction ix with
  | nil => rfl
  | cons i ix ih =>
    show (mv1 ts ss d).getD i 0 :: sel ix (mv1 ts ss d) = cl (ts.getD i 0) (ss.getD i 0 + d) :: mv1 (sel ix ts) (sel ix ss) d
    rw [ih, getD_mv1 d hl i]
theorem sel_amv (ix : List Nat) {ts : List Int} (rs : List Int) : ∀ {ss : List Int}, ss.length = ts.length → sel ix (amv ts ss rs) = amv (sel ix ts) (sel ix ss) rs := by
  induction rs with
  | nil => intro ss h; rw [amv_nil h, amv_nil (by simp [sel])]
  | cons r rs ih => intro ss h; rw [amv_cons, amv_cons, ih (mv1_len h r), sel_mv1 ix h]
theorem Ix.dst {ix : List Nat} {ts a b : List Int} (h : Ix ix ts.length) (ht : Tops ts) (ha : Rd ts a) (hb : Rd ts b) : dst (sel ix ts) (sel ix a) (sel ix b) ≤ dst ts a b := by
  obtain ⟨w, _⟩ := rt_way ht ha hb
  have := dst_le_of (h.tops ht) (h.rd ha) (rs := rt ts a b) (b := sel ix b) (by rw [← sel_amv ix _ ha.1.len, w.e])
  rw [w.s] at this
  exact this
theorem sel_range (xs : List Int) (k m : Nat) (h : k + m ≤ xs.length) : sel (List.range' k m) xs = (xs.drop k).take m := by
  refine List.ext_getElem (by simp [sel]; omega) fun i h1 h2 => ?_
  have : k + i < xs.length := by simp [sel] at h1; omega
  simp [sel, List.getD, this]
theorem sel_app (ix jx : List Nat) (xs : List Int) : sel (ix ++ jx) xs = sel ix xs ++ sel jx xs := by simp [sel]
def outL (xs : List Int) (i : Nat) : List Int := xs.take i ++ xs.drop (i + 1)
def twiceL (xs : List Int) (i : Nat) : List Int := xs.take i ++ (xs.drop i).take 1 ++ xs.drop i
def outI (n i : Nat) : List Nat := List.range' 0 i ++ List.range' (i + 1) (n - i - 1)
def twiceI (n i : Nat) : List Nat := List.range' 0 i ++ List.range' i 1 ++ List.range' i (n - i)
theorem out_sel (xs : List Int) (i : Nat) (h : i < xs.length) : outL xs i = sel (outI xs.length i) xs := by
  unfold outI outL
  rw [sel_app, sel_range _ _ _ (by omega), sel_range _ _ _ (by omega)]
  simp
  exact (List.take_of_length_le (by simp; omega)).symm
theorem twice_sel (xs : List Int) (i : Nat) (h : i < xs.length) : twiceL xs i = sel (twiceI xs.length i) xs := by
  unfold twiceI twiceL
  rw [sel_app, sel_app, sel_range _ _ _ (by omega), sel_range _ _ _ (by omega), sel_range _ _ _ (by omega)]
  simp
  exact (List.take_of_length_le (by simp)).symm
theorem out_ix {n i : Nat} (h : i < n) (h6 : n ≤ 6) (h2 : 2 ≤ n) : Ix (outI n i) n := by
  refine ⟨by simp [outI]; omega, fun j hj => ?_, ?_⟩
  · simp [outI] at hj; omega
  · unfold outI
    rw [List.pairwise_append]
    exact ⟨List.Pairwise.imp Nat.le_of_lt (List.pairwise_lt_range' ..), List.Pairwise.imp Nat.le_of_lt (List.pairwise_lt_range' ..), fun x hx y hy => by simp at hx hy; omega⟩
theorem twice_ix {n i : Nat} (h : i < n) (h6 : n < 6) : Ix (twiceI n i) n := by
  refine ⟨by simp [twiceI]; omega, fun j hj => ?_, ?_⟩
  · simp [twiceI] at hj; omega
  · unfold twiceI
    rw [List.pairwise_append, List.pairwise_append]
    exact ⟨⟨List.Pairwise.imp Nat.le_of_lt (List.pairwise_lt_range' ..), List.Pairwise.imp Nat.le_of_lt (List.pairwise_lt_range' ..), fun x hx y hy => by simp at hx hy; omega⟩, List.Pairwise.imp Nat.le_of_lt (List.pairwise_lt_range' ..), fun x hx y hy => by simp at hx hy; omega⟩
theorem pair_ix {n i j : Nat} (h : i < j) (h2 : j < n) : Ix [i, j] n := ⟨by simp, fun k hk => by simp at hk; omega, by simp; omega⟩
theorem out_twice (xs : List Int) (i : Nat) (h : i < xs.length) : outL (twiceL xs i) i = xs := by
  have e : twiceL xs i = xs.take i ++ (xs[i] :: xs.drop i) := by
    unfold twiceL
    rw [List.append_assoc]
    congr 1
    rw [List.drop_eq_getElem_cons h]; rfl
  have l : (xs.take i).length = i := by simp; omega
  unfold outL
  rw [e, List.take_append_of_le_length (by omega), List.take_of_length_le (by omega), List.drop_append, List.drop_of_length_le (by omega), l, show i + 1 - i = 1 by omega]
  simp
theorem twice_out (xs : List Int) (i : Nat) (h : i + 1 < xs.length) (e : xs.getD i 0 = xs.getD (i + 1) 0) : twiceL (outL xs (i + 1)) i = xs := by
  have e' : xs[i] = xs[i + 1] := by simpa [List.getD, h, show i < xs.length by omega] using e
  have : ∃ p q x, xs = p ++ x :: x :: q ∧ p.length = i := by
    refine ⟨xs.take i, xs.drop (i + 2), xs[i], ?_, by simp; omega⟩
    conv => lhs; rw [← List.take_append_drop i xs, List.drop_eq_getElem_cons (show i < xs.length by omega), List.drop_eq_getElem_cons h]
    rw [← e']
  obtain ⟨p, q, x, rfl, rfl⟩ := this
  have e1 : outL (p ++ x :: x :: q) (p.length + 1) = p ++ x :: q := by
    unfold outL
    rw [List.take_append, List.drop_append]
    rw [List.take_of_length_le (show p.length ≤ p.length + 1 by omega), List.drop_of_length_le (show p.length ≤ p.length + 1 + 1 by omega), show p.length + 1 - p.length = 1 by omega, show p.length + 1 + 1 - p.length = 2 by omega]
    simp
  rw [e1]
  simp [twiceL]
theorem dst_twice {ts a b : List Int} (ht : Tops ts) (h6 : ts.length < 6) (ha : Rd ts a) (hb : Rd ts b) (i : Nat) (hi : i < ts.length) : dst (twiceL ts i) (twiceL a i) (twiceL b i) = dst ts a b ∧ Tops (twiceL ts i) ∧ Rd (twiceL ts i) (twiceL a i) ∧ Rd (twiceL ts i) (twiceL b i) := by
  have la := ha.1.len
  have lb := hb.1.len
  have X := twice_ix hi h6
  have e1 := twice_sel ts i hi
  have e2 := twice_sel a i (by omega)
  have e3 := twice_sel b i (by omega)
  rw [la] at e2
  rw [lb] at e3
  have T2 : Tops (twiceL ts i) := by rw [e1]; exact X.tops ht
  have A2 : Rd (twiceL ts i) (twiceL a i) := by rw [e1, e2]; exact X.rd ha
  have B2 : Rd (twiceL ts i) (twiceL b i) := by rw [e1, e3]; exact X.rd hb
  have d1 : dst (twiceL ts i) (twiceL a i) (twiceL b i) ≤ dst ts a b := by rw [e1, e2, e3]; exact X.dst ht ha hb
  have l2 : (twiceL ts i).length = ts.length + 1 := by simp [twiceL]; omega
  have la2 := A2.1.len
  have lb2 := B2.1.len
  have Y : Ix (outI (twiceL ts i).length i) (twiceL ts i).length := out_ix (by omega) (by omega) (by omega)
  have f1 := out_sel (twiceL ts i) i (by omega)
  have f2 := out_sel (twiceL a i) i (by omega)
  have f3 := out_sel (twiceL b i) i (by omega)
  rw [la2] at f2
  rw [lb2] at f3
  rw [out_twice _ _ hi] at f1
  rw [out_twice _ _ (by omega)] at f2 f3
  have d2 := Y.dst T2 A2 B2
  rw [← f1, ← f2, ← f3] at d2
  exact ⟨by omega, T2, A2, B2⟩
theorem dst_out {ts a b : List Int} (ht : Tops ts) (h2 : 2 ≤ ts.length) (ha : Rd ts a) (hb : Rd ts b) (i : Nat) (hi : i < ts.length) : dst (outL ts i) (outL a i) (outL b i) ≤ dst ts a b ∧ Tops (outL ts i) ∧ Rd (outL ts i) (outL a i) ∧ Rd (outL ts i) (outL b i) := by
  have la := ha.1.len
  have lb := hb.1.len
  have X := out_ix hi ht.n.2 h2
  have e1 := out_sel ts i hi
  have e2 := out_sel a i (by omega)
  have e3 := out_sel b i (by omega)
  rw [la] at e2
  rw [lb] at e3
  rw [e1, e2, e3]
  exact ⟨X.dst ht ha hb, X.tops ht, X.rd ha, X.rd hb⟩
theorem rd_same {ts a : List Int} (r : Rd ts a) (i : Nat) (hi : i + 1 < ts.length) (e : ts.getD i 0 = ts.getD (i + 1) 0) : a.getD i 0 = a.getD (i + 1) 0 := by
  have := (inR_iff r.1.len).mp r.2 i hi
  unfold okP at this; omega
theorem dst_out_eq {ts a b : List Int} (ht : Tops ts) (ha : Rd ts a) (hb : Rd ts b) (i : Nat) (hi : i + 1 < ts.length) (e : ts.getD i 0 = ts.getD (i + 1) 0) : dst (outL ts (i + 1)) (outL a (i + 1)) (outL b (i + 1)) = dst ts a b := by
  have la := ha.1.len
  have lb := hb.1.len
  obtain ⟨d1, T1, A1, B1⟩ := dst_out ht (by omega) ha hb (i + 1) hi
  have l1 : (outL ts (i + 1)).length = ts.length - 1 := by simp [outL]; omega
  have n := ht.n
  obtain ⟨d2, _⟩ := dst_twice T1 (by omega) A1 B1 i (by omega)
  rw [twice_out _ _ hi e, twice_out _ _ (by omega) (rd_same ha i hi e), twice_out _ _ (by omega) (rd_same hb i hi e)] at d2
  exact d2.symm
def sp_law_out : SpD := fun ds M Q E => ∃ xs i, ds = [tI xs, .int ((i : Nat) : Int)] ∧ xs.length ≤ 1000000 ∧ Q (tI (outL xs i)) M
theorem len_law_out : ∀ ds M Q E, sp_law_out ds M Q E → ds.length = 2 := fun _ _ _ _ ⟨_, _, e, _⟩ => by rw [e]; rfl
theorem cutD_from (ds : List D) (k : Nat) : cutD ds (some (k : Int)) none = ds.drop k := by
  unfold cutD
  rw [HT.sIx_nat, HT.sIx_none]
  by_cases h : k ≤ ds.length
  · rw [Nat.min_eq_left h]
    exact List.take_of_length_le (by simp)
  · rw [Nat.min_eq_right (by omega), List.drop_of_length_le (show ds.length ≤ k by omega)]; simp
theorem cutD_mid (ds : List D) (k m : Nat) : cutD ds (some (k : Int)) (some (m : Int)) = (ds.drop k).take (m - k) := by
  unfold cutD
  rw [HT.sIx_nat, HT.sIx_nat]
  by_cases h : k ≤ ds.length
  · rw [Nat.min_eq_left h]
    by_cases h2 : m ≤ ds.length
    · rw [Nat.min_eq_left h2]
    · rw [Nat.min_eq_right (by omega), List.take_of_length_le (by simp), List.take_of_length_le (by simp; omega)]
  · rw [Nat.min_eq_right (show ds.length ≤ k by omega), List.drop_of_length_le (show ds.length ≤ k by omega)]; simp
def t_law_out : TDS := (dRet (eOp2 gAdd (eSl (eVar 0) oNone (oSome (eVar 1))) (eSl (eVar 0) (oSome (eOp2 gAdd (eVar 1) (eC (.int 1)))) oNone)))

theorem rd_law_out (h : sp_law_out ds M Q E) : t_law_out { nx := fun _ M' => fin Q .non M', rt := fin Q } (startN 2 ds) M := by
  obtain ⟨xs, i, rfl, hl, q⟩ := h
  show t_law_out _ [some (tI xs), some (.int ((i : Nat) : Int))] M
  unfold t_law_out
  simp
  rw [show (i : Int) + 1 = ((i + 1 : Nat) : Int) from rfl, cutD_from]
  refine ⟨len_le (by simp; omega), fin_same ?_⟩
  simpa [tI, outL, List.map_drop, List.map_take] using q
def sp_law_twice : SpD := fun ds M Q E => ∃ xs i, ds = [tI xs, .int ((i : Nat) : Int)] ∧ xs.length ≤ 100000 ∧ Q (tI (twiceL xs i)) M
theorem len_law_twice : ∀ ds M Q E, sp_law_twice ds M Q E → ds.length = 2 := fun _ _ _ _ ⟨_, _, e, _⟩ => by rw [e]; rfl
def t_law_twice : TDS := (dRet (eOp2 gAdd (eOp2 gAdd (eSl (eVar 0) oNone (oSome (eVar 1))) (eSl (eVar 0) (oSome (eVar 1)) (oSome (eOp2 gAdd (eVar 1) (eC (.int 1)))))) (eSl (eVar 0) (oSome (eVar 1)) oNone)))

theorem rd_law_twice (h : sp_law_twice ds M Q E) : t_law_twice { nx := fun _ M' => fin Q .non M', rt := fin Q } (startN 2 ds) M := by
  obtain ⟨xs, i, rfl, hl, q⟩ := h
  show t_law_twice _ [some (tI xs), some (.int ((i : Nat) : Int))] M
  unfold t_law_twice
  simp
  rw [show (i : Int) + 1 = ((i + 1 : Nat) : Int) from rfl, cutD_from, cutD_mid]
  refine ⟨len_le (by simp; omega), len_le (by simp; omega), fin_same ?_⟩
  simpa [tI, twiceL, List.map_drop, List.map_take, show i + 1 - i = 1 by omega] using q
def sp_law_right : SpD := fun ds M Q E => ∃ ts a b, ds = [tI ts, tI a, tI b] ∧ Tops ts ∧ Rd ts a ∧ Rd ts b ∧ Q (.bl true) M
theorem len_law_right : ∀ ds M Q E, sp_law_right ds M Q E → ds.length = 3 := fun _ _ _ _ ⟨_, _, _, e, _⟩ => by rw [e]; rfl
theorem getD_mid (p q : List Int) (x : Int) : (p ++ x :: q).getD p.length 0 = x := by simp [List.getD]
theorem fl_get (xs : List Int) (i : Nat) : fl xs i = xs.getD i 0 := rfl
theorem wrong_get {p q : List Int} {x y : Int} : (p ++ y :: x :: q).getD p.length 0 = y ∧ (p ++ y :: x :: q).getD (p.length + 1) 0 = x := by
  constructor
  · simp [List.getD]
  · rw [List.getD_eq_getElem?_getD, List.getElem?_append_right (by omega), show p.length + 1 - p.length = 1 by omega]; rfl
def wrongL (a : List Int) (i : Nat) : List Int := a.take i ++ [a.getD i 0 - 1] ++ a.drop i
theorem wrong_ok {ts a : List Int} (ha : Rd ts a) (i : Nat) (hi : i < ts.length) (hp : 0 < a.getD i 0) : St (twiceL ts i) (wrongL a i) ∧ ¬ inR (twiceL ts i) (wrongL a i) := by
  have la := ha.1.len
  have et : twiceL ts i = ts.take i ++ (ts[i] :: ts[i] :: ts.drop (i + 1)) := by
    unfold twiceL
    rw [List.append_assoc, List.drop_eq_getElem_cons hi]; rfl
  have ea : wrongL a i = a.take i ++ ((a[i]'(by omega) - 1) :: a[i]'(by omega) :: a.drop (i + 1)) := by
    unfold wrongL
    rw [List.append_assoc, List.drop_eq_getElem_cons (show i < a.length by omega)]
    simp [List.getD, show i < a.length by omega]
  have lt : (ts.take i).length = i := by simp; omega
  have lt' : (a.take i).length = i := by simp; omega
  have hx : 0 < a[i]'(by omega) := by simpa [List.getD, show i < a.length by omega] using hp
  have hs : St (ts.take i ++ ts[i] :: ts.drop (i + 1)) (a.take i ++ a[i]'(by omega) :: a.drop (i + 1)) := by
    rw [← List.drop_eq_getElem_cons hi, ← List.drop_eq_getElem_cons (show i < a.length by omega), List.take_append_drop, List.take_append_drop]; exact ha.1
  have ins : ∀ {p p' : List Int} {t x : Int} {q q' : List Int}, p.length = p'.length → St (p ++ t :: q) (p' ++ x :: q') → 0 < x → St (p ++ t :: t :: q) (p' ++ (x - 1) :: x :: q') := by
    intro p
    induction p with
    | nil =>
      intro p' t x q q' hl hs hx
      cases p' with
      | nil => have h1 := hs.1; exact ⟨by omega, hs⟩
      | cons _ _ => simp at hl
    | cons y p ih =>
      intro p' t x q q' hl hs hx
      cases p' with
      | nil => simp at hl
      | cons z p' => exact ⟨hs.1, ih (by simpa using hl) hs.2 hx⟩
  have S := ins (by omega) hs hx
  rw [et, ea]
  refine ⟨S, fun hr => ?_⟩
  have := (inR_iff S.len).mp hr i (by simp; omega)
  have g1 := @wrong_get (ts.take i) (ts.drop (i + 1)) ts[i] ts[i]
  have g2 := @wrong_get (a.take i) (a.drop (i + 1)) (a[i]'(by omega)) (a[i]'(by omega) - 1)
  rw [lt] at g1
  rw [lt'] at g2
  rw [g1.1, g1.2, g2.1, g2.2] at this
  unfold okP at this; omega
theorem dst_pair {ts a b : List Int} (ht : Tops ts) (ha : Rd ts a) (hb : Rd ts b) (i j : Nat) (hi : i < j) (hj : j < ts.length) : dst [fl ts i, fl ts j] [fl a i, fl a j] [fl b i, fl b j] ≤ dst ts a b ∧ Tops [fl ts i, fl ts j] ∧ Rd [fl ts i, fl ts j] [fl a i, fl a j] ∧ Rd [fl ts i, fl ts j] [fl b i, fl b j] := by
  have X := pair_ix hi hj
  exact ⟨X.dst ht ha hb, X.tops ht, X.rd ha, X.rd hb⟩
def t_law_right : TDS := (dSeq (dSet 3 (eCall sp_fewest noE (aCons (eVar 0) (aCons (eVar 1) (aCons (eVar 2) aNil)))))
  (dSeq (dFor (iRng1 (aCons (eCB gLen (aCons (eVar 0) aNil)) aNil)) (dgName 4)
  (dSeq (dSet 5 (eCall sp_law_out noE (aCons (eVar 0) (aCons (eVar 4) aNil))))
  (dSeq (dPar 6 7 (aCons (eCall sp_law_out noE (aCons (eVar 1) (aCons (eVar 4) aNil))) (aCons (eCall sp_law_out noE (aCons (eVar 2) (aCons (eVar 4) aNil))) aNil)))
  (dSeq (dIf (tVal (eOp2 gNe (eVar 5) (eTup aNil))) (dSeq (dIf (dOr (dNot (tVal (eCall sp_is_reached noE (aCons (eVar 5) (aCons (eVar 6) aNil))))) (dOr (dNot (tVal (eCall sp_is_reached noE (aCons (eVar 5) (aCons (eVar 7) aNil))))) (tVal (eOp2 gGt (eCall sp_fewest noE (aCons (eVar 5) (aCons (eVar 6) (aCons (eVar 7) aNil)))) (eVar 3))))) (dRet (eC (.bl false))) dNext)
  (dIf (dAnd (tVal (eOp2 gGt (eVar 4) (eC (.int 0)))) (dAnd (tVal (eOp2 gEq (eOp2 gIx (eVar 0) (eVar 4)) (eOp2 gIx (eVar 0) (eOp2 gSub (eVar 4) (eC (.int 1)))))) (tVal (eOp2 gNe (eCall sp_fewest noE (aCons (eVar 5) (aCons (eVar 6) (aCons (eVar 7) aNil)))) (eVar 3))))) (dRet (eC (.bl false))) dNext)) dNext)
  (dIf (tVal (eOp2 gLt (eCB gLen (aCons (eVar 0) aNil)) (eC (.int 6)))) (dSeq (dSet 8 (eCall sp_law_twice noE (aCons (eVar 0) (aCons (eVar 4) aNil))))
  (dSeq (dIf (tVal (eOp2 gNe (eCall sp_fewest noE (aCons (eVar 8) (aCons (eCall sp_law_twice noE (aCons (eVar 1) (aCons (eVar 4) aNil))) (aCons (eCall sp_law_twice noE (aCons (eVar 2) (aCons (eVar 4) aNil))) aNil)))) (eVar 3))) (dRet (eC (.bl false))) dNext)
  (dIf (tVal (eOp2 gGt (eOp2 gIx (eCall sp_law_twice noE (aCons (eVar 1) (aCons (eVar 4) aNil))) (eVar 4)) (eC (.int 0)))) (dSeq (dSet 9 (eOp2 gAdd (eOp2 gAdd (eSl (eVar 1) oNone (oSome (eVar 4))) (eTup (aCons (eOp2 gSub (eOp2 gIx (eVar 1) (eVar 4)) (eC (.int 1))) aNil))) (eSl (eVar 1) (oSome (eVar 4)) oNone)))
  (dIf (tVal (eCall sp_is_reached noE (aCons (eVar 8) (aCons (eVar 9) aNil)))) (dRet (eC (.bl false))) dNext)) dNext))) dNext)))))
  (dSeq (dFor (iRng1 (aCons (eCB gLen (aCons (eVar 0) aNil)) aNil)) (dgName 10)
  (dFor (iRng2 (aCons (eOp2 gAdd (eVar 10) (eC (.int 1))) (aCons (eCB gLen (aCons (eVar 0) aNil)) aNil))) (dgName 11)
  (dSeq (dSet 12 (eTup (aCons (eOp2 gIx (eVar 0) (eVar 10)) (aCons (eOp2 gIx (eVar 0) (eVar 11)) aNil))))
  (dIf (tVal (eOp2 gGt (eCall sp_fewest noE (aCons (eVar 12) (aCons (eTup (aCons (eOp2 gIx (eVar 1) (eVar 10)) (aCons (eOp2 gIx (eVar 1) (eVar 11)) aNil))) (aCons (eTup (aCons (eOp2 gIx (eVar 2) (eVar 10)) (aCons (eOp2 gIx (eVar 2) (eVar 11)) aNil))) aNil)))) (eVar 3))) (dRet (eC (.bl false))) dNext))))
  (dRet (eC (.bl true))))))

theorem rd_law_right (h : sp_law_right ds M Q E) : t_law_right { nx := fun _ M' => fin Q .non M', rt := fin Q } (startN 13 ds) M := by
  obtain ⟨ts, a, b, rfl, ht, ha, hb, q⟩ := h
  show t_law_right _ [some (tI ts), some (tI a), some (tI b), none, none, none, none, none, none, none, none, none, none] M
  have n6 := ht.n
  have la := ha.1.len
  have lb := hb.1.len
  unfold t_law_right
  simp
  refine ⟨ts, a, b, rfl, ht, ha, hb, by omega, ?_⟩
  rw [rngD_nat]
  refine forL_rng _ (fun i ρ M' => M' = M ∧ ∃ o1 o2 o3 o4 o5 o6 o7 o8 o9, ρ = [some (tI ts), some (tI a), some (tI b), some (.int (dst ts a b)), o1, o2, o3, o4, o5, o6, o7, o8, o9]) (fun ρ M' ⟨e, o1, o2, o3, o4, o5, o6, o7, o8, o9, e2⟩ => ?_) (fun i ρ M' rec hi ⟨e, o1, o2, o3, o4, o5, o6, o7, o8, o9, e2⟩ hr => ?_) ⟨rfl, _, _, _, _, _, _, _, _, _, rfl⟩
  · subst e e2
    simp
    refine ⟨by omega, ?_⟩
    rw [rngD_nat]
    refine forL_rng _ (fun i ρ M2 => M2 = M' ∧ ∃ o1 o2 o3 o4 o5 o6 o7 o8 o9, ρ = [some (tI ts), some (tI a), some (tI b), some (.int (dst ts a b)), o1, o2, o3, o4, o5, o6, o7, o8, o9]) (fun ρ M2 ⟨e, o1, o2, o3, o4, o5, o6, o7, o8, o9, e2⟩ => ?_) (fun i ρ M2 rec hi ⟨e, o1, o2, o3, o4, o5, o6, o7, o8, o9, e2⟩ hr => ?_) ⟨rfl, _, _, _, _, _, _, _, _, _, rfl⟩
    · subst e e2
      simp
      exact fin_same q
    · subst e e2
      simp
      refine ⟨by omega, ?_⟩
      rw [show ((ts.length : Int) - (i + 1)).toNat = ts.length - (i + 1) by omega, show (i : Int) + 1 = ((i + 1 : Nat) : Int) from rfl, rngD_from]
      refine forL_rng _ (fun j ρ M3 => M3 = M2 ∧ ∃ o1 o2 o3 o4 o5 o6 o8 o9, ρ = [some (tI ts), some (tI a), some (tI b), some (.int (dst ts a b)), o1, o2, o3, o4, o5, o6, some (.int (i : Int)), o8, o9]) (fun ρ M3 ⟨e, o1, o2, o3, o4, o5, o6, o8, o9, e2⟩ => ?_) (fun j ρ M3 rec3 hj ⟨e, o1, o2, o3, o4, o5, o6, o8, o9, e2⟩ hr3 => ?_) ⟨rfl, _, _, _, _, _, _, _, _, rfl⟩
      · subst e e2
        exact hr _ _ ⟨rfl, _, _, _, _, _, _, _, _, _, rfl⟩
      · subst e e2
        generalize hk : i + 1 + j = k
        obtain ⟨d1, d2, d3, d4⟩ := dst_pair ht ha hb i k (by omega) (by omega)
        have nd : ¬ dst ts a b < dst [fl ts i, fl ts k] [fl a i, fl a k] [fl b i, fl b k] := by omega
        simp [atI_fl ts i (by omega), atI_fl ts k (by omega), atI_fl a i (by omega), atI_fl a k (by omega), atI_fl b i (by omega), atI_fl b k (by omega)]
        refine ⟨by decide, [fl ts i, fl ts k], [fl a i, fl a k], [fl b i, fl b k], rfl, d2, d3, d4, ?_⟩
        simp [onB, nd]
        exact hr3 _ _ ⟨rfl, _, _, _, _, _, _, _, _, rfl⟩
  · subst e e2
    simp
    refine ⟨ts, i, rfl, by omega, a, i, rfl, by omega, b, i, rfl, by omega, ?_⟩
    have nx : ∀ o2 o3 o4 o5 o6, rec [some (tI ts), some (tI a), some (tI b), some (.int (dst ts a b)), some (.int (i : Int)), o2, o3, o4, o5, o6, o7, o8, o9] M' := fun o2 o3 o4 o5 o6 => hr _ _ ⟨rfl, _, _, _, _, _, _, _, _, _, rfl⟩
    have part2 : ∀ (B : Rho → Mm → Prop) o2 o3 o4 o5 o6, (dIf (tVal (eOp2 gLt (eCB gLen (aCons (eVar 0) aNil)) (eC (.int 6)))) (dSeq (dSet 8 (eCall sp_law_twice noE (aCons (eVar 0) (aCons (eVar 4) aNil))))
  (dSeq (dIf (tVal (eOp2 gNe (eCall sp_fewest noE (aCons (eVar 8) (aCons (eCall sp_law_twice noE (aCons (eVar 1) (aCons (eVar 4) aNil))) (aCons (eCall sp_law_twice noE (aCons (eVar 2) (aCons (eVar 4) aNil))) aNil)))) (eVar 3))) (dRet (eC (.bl false))) dNext)
  (dIf (tVal (eOp2 gGt (eOp2 gIx (eCall sp_law_twice noE (aCons (eVar 1) (aCons (eVar 4) aNil))) (eVar 4)) (eC (.int 0)))) (dSeq (dSet 9 (eOp2 gAdd (eOp2 gAdd (eSl (eVar 1) oNone (oSome (eVar 4))) (eTup (aCons (eOp2 gSub (eOp2 gIx (eVar 1) (eVar 4)) (eC (.int 1))) aNil))) (eSl (eVar 1) (oSome (eVar 4)) oNone)))
  (dIf (tVal (eCall sp_is_reached noE (aCons (eVar 8) (aCons (eVar 9) aNil)))) (dRet (eC (.bl false))) dNext)) dNext))) dNext)
        { nx := rec, rt := fin Q, bk := B, ct := rec } [some (tI ts), some (tI a), some (tI b), some (.int (dst ts a b)), some (.int (i : Int)), o2, o3, o4, o5, o6, o7, o8, o9] M' := by
      intro B o2 o3 o4 o5 o6
      by_cases h6 : (ts.length : Int) < 6
      · obtain ⟨dtw, T2, A2, B2⟩ := dst_twice ht (by omega) ha hb i hi
        simp [onB, h6]
        refine ⟨ts, i, rfl, by omega, a, i, rfl, by omega, b, i, rfl, by omega, twiceL ts i, twiceL a i, twiceL b i, rfl, T2, A2, B2, ?_⟩
        rw [dtw]
        simp [onB]
        refine ⟨a, i, rfl, by omega, ?_⟩
        have lt : i < (twiceL a i).length := by simp [twiceL]; omega
        have ga : fl (twiceL a i) i = fl a i := by
          have e : twiceL a i = a.take i ++ (a[i]'(by omega) :: a.drop i) := by
            unfold twiceL
            rw [List.append_assoc]
            congr 1
            rw [List.drop_eq_getElem_cons (show i < a.length by omega)]; rfl
          have l : (a.take i).length = i := by simp; omega
          have := getD_mid (a.take i) (a.drop i) (a[i]'(by omega))
          rw [l, ← e] at this
          unfold fl
          rw [this]; simp [List.getD, show i < a.length by omega]
        simp [atI_fl _ i lt, ga, atI_fl a i (by omega)]
        by_cases hp : 0 < fl a i
        · obtain ⟨w1, w2⟩ := wrong_ok ha i hi hp
          simp [hp]
          rw [cutD_from]
          refine ⟨by decide, len_le (by omega), len_le (by simp; omega), twiceL ts i, wrongL a i, by simp [wrongL, fl, List.map_take, List.map_drop], T2, w1, ?_⟩
          rw [decide_eq_false w2]
          simp [onB]
          exact nx _ _ _ _ _
        · simp [hp]
          exact nx _ _ _ _ _
      · simp [onB, h6]
        exact nx _ _ _ _ _
    have part2 := part2 fun _ _ => True
    simp [onB] at part2
    refine gNe_pl 1 (pl_ints _ _) (pl_ints [] _) (by decide) fun c hc => ?_
    have lo : (outL ts i).length = ts.length - 1 := by simp [outL]; omega
    by_cases h1 : ts.length = 1
    · have e : outL ts i = [] := List.eq_nil_of_length_eq_zero (by omega)
      have hc : c = false := by cases c <;> simp [e] at hc ⊢
      subst hc
      simp [onB]
      exact part2 _ _ _ _ _
    · have e : outL ts i ≠ [] := fun z => by rw [z] at lo; simp at lo; omega
      have hc : c = true := hc.mpr fun z => e ((tI_inj (b := [])).mp z)
      subst hc
      obtain ⟨d1, T1, A1, B1⟩ := dst_out ht (by omega) ha hb i hi
      have nd : ¬ dst ts a b < dst (outL ts i) (outL a i) (outL b i) := by omega
      simp [onB]
      refine ⟨_, _, rfl, T1, A1.1, ?_⟩
      rw [decide_eq_true A1.2]
      simp [onB]
      refine ⟨_, _, rfl, T1, B1.1, ?_⟩
      rw [decide_eq_true B1.2]
      simp [onB]
      refine ⟨_, _, _, rfl, T1, A1, B1, ?_⟩
      simp [onB, nd]
      by_cases h0 : 0 < i
      · obtain ⟨j, hj⟩ : ∃ j, i = j + 1 := ⟨i - 1, by omega⟩
        have e0 : (i : Int) - 1 = (j : Int) := by omega
        have e2 := atI_fl ts j (by omega)
        simp [onB, h0, atI_fl ts i hi, e0, e2]
        by_cases ee : fl ts i = fl ts j
        · simp [ee]
          refine ⟨_, _, _, rfl, T1, A1, B1, ?_⟩
          have := dst_out_eq ht ha hb j (by omega) (by rw [hj] at ee; exact ee.symm)
          rw [← hj] at this
          rw [this]
          simp [onB]
          exact part2 _ _ _ _ _
        · simp [ee]
          exact part2 _ _ _ _ _
      · simp [onB, h0]
        exact part2 _ _ _ _ _
end DL

set_option maxHeartbeats 0
namespace DL
open PySem PySem.Spec PyProof.Rows L2
variable {N : List Str} {ds : List D} {M M' : Mm} {Q : D → Mm → Prop} {E : XD}
def t_law : TDS := (dSeq (dFor (iSeq (eSl (eOp2 gAdd (eLst (aCons (eC (.int 0)) aNil)) (eVar 0)) oNone (oSome (eC (.int 8))))) (dgName 1)
  (dSeq (dSet 2 (eCall sp_law_deck noE (aCons (eVar 1) (aCons (eC (.int 20)) aNil))))
  (dFor (iSeq (eTup (aCons (eC (.int 7)) (aCons (eOp2 gPow (eC (.int 10)) (eC (.int 6))) aNil)))) (dgName 3)
  (dSeq (dSet 4 (eCall sp_law_tops noE (aCons (eVar 2) (aCons (eC (.int 6)) (aCons (eVar 3) aNil)))))
  (dIf (dNot (tVal (eCall sp_law_right noE (aCons (eVar 4) (aCons (eCall sp_law_reached noE (aCons (eVar 2) (aCons (eVar 4) aNil))) (aCons (eCall sp_law_reached noE (aCons (eVar 2) (aCons (eVar 4) aNil))) aNil)))))) (dRet (eC (.bl false))) dNext)))))
  (dSeq (dIf (dOr (tVal (eOp2 gNe (eCall sp_fewest noE (aCons (eTup (aCons (eC (.int 2)) (aCons (eC (.int 5)) (aCons (eC (.int 5)) aNil)))) (aCons (eTup (aCons (eC (.int 0)) (aCons (eC (.int 0)) (aCons (eC (.int 0)) aNil)))) (aCons (eTup (aCons (eC (.int 0)) (aCons (eC (.int 3)) (aCons (eC (.int 3)) aNil)))) aNil)))) (eC (.int 7)))) (tVal (eOp2 gNe (eCall sp_fewest noE (aCons (eTup (aCons (eC (.int 2)) (aCons (eC (.int 2)) (aCons (eC (.int 5)) aNil)))) (aCons (eTup (aCons (eC (.int 0)) (aCons (eC (.int 0)) (aCons (eC (.int 0)) aNil)))) (aCons (eTup (aCons (eC (.int 0)) (aCons (eC (.int 0)) (aCons (eC (.int 3)) aNil)))) aNil)))) (eC (.int 7))))) (dRet (eC (.bl false))) dNext)
  (dSeq (dIf (tVal (eCall sp_is_reached noE (aCons (eTup (aCons (eC (.int 3)) (aCons (eC (.int 3)) aNil))) (aCons (eTup (aCons (eC (.int 1)) (aCons (eC (.int 2)) aNil))) aNil)))) (dRet (eC (.bl false))) dNext)
  (dRet (eAnd (eOp2 gEq (eCall sp_fewest noE (aCons (eTup (aCons (eC (.int 5)) aNil)) (aCons (eTup (aCons (eC (.int 0)) aNil)) (aCons (eTup (aCons (eC (.int 3)) aNil)) aNil)))) (eC (.int 3))) (eOp2 gEq (eCall sp_fewest noE (aCons (eTup (aCons (eC (.int 2)) (aCons (eC (.int 5)) (aCons (eC (.int 9)) aNil)))) (aCons (eTup (aCons (eC (.int 0)) (aCons (eC (.int 0)) (aCons (eC (.int 0)) aNil)))) (aCons (eTup (aCons (eC (.int 0)) (aCons (eC (.int 3)) (aCons (eC (.int 3)) aNil)))) aNil)))) (eC (.int 7))))))))

theorem rd_law (h : spLaw ds M Q E) : t_law { nx := fun _ M' => fin Q .non M', rt := fin Q } (startN 5 ds) M := by
  obtain ⟨ns, rfl, hl, q⟩ := h
  show t_law _ [some (.kl ns), none, none, none, none] M
  unfold t_law
  simp
  refine ⟨by decide, Nat.le_trans (show _ ≤ 64 by omega) (by decide), ?_⟩
  have e8 : cutD (D.int 0 :: ns.map .int) none (some 8) = ((0 :: ns).take 8).map .int := by
    have := cutD_to (D.int 0 :: ns.map .int) 8
    rw [show ((8 : Nat) : Int) = 8 from rfl] at this
    rw [this, List.map_take]; rfl
  rw [e8]
  refine forL_map .int (fun r ρ M' => ∃ o1 o2 o3 o4, ρ = [some (.kl ns), o1, o2, o3, o4]) (fun ρ M' ⟨o1, o2, o3, o4, e⟩ => ?_) (fun c r ρ M' rec ⟨o1, o2, o3, o4, e⟩ hr => ?_) ⟨_, _, _, _, rfl⟩
  · subst e
    simp
    have T1 : Tops [2, 5, 5] := ⟨by decide, by decide, by simp [Asc]⟩
    have T2 : Tops [2, 2, 5] := ⟨by decide, by decide, by simp [Asc]⟩
    have T3 : Tops [3, 3] := ⟨by decide, by decide, by simp [Asc]⟩
    have T4 : Tops [5] := ⟨by decide, by decide, by simp [Asc]⟩
    have T5 : Tops [2, 5, 9] := ⟨by decide, by decide, by simp [Asc]⟩
    refine ⟨by decide, [2, 5, 5], [0, 0, 0], [0, 3, 3], rfl, T1, ⟨by simp [St], by decide⟩, ⟨by simp [St], by decide⟩, ?_⟩
    rw [show dst [2, 5, 5] [0, 0, 0] [0, 3, 3] = 7 by decide +kernel]
    simp [onB]
    refine ⟨by decide, [2, 2, 5], [0, 0, 0], [0, 0, 3], rfl, T2, ⟨by simp [St], by decide⟩, ⟨by simp [St], by decide⟩, ?_⟩
    rw [show dst [2, 2, 5] [0, 0, 0] [0, 0, 3] = 7 by decide +kernel]
    simp [onB]
    refine ⟨by decide, [3, 3], [1, 2], rfl, T3, by simp [St], ?_⟩
    rw [show decide (inR [3, 3] [1, 2]) = false by decide]
    simp [onB]
    refine ⟨by decide, [5], [0], [3], rfl, T4, ⟨by simp [St], by decide⟩, ⟨by simp [St], by decide⟩, ?_⟩
    rw [show dst [5] [0] [3] = 3 by decide +kernel]
    simp [onB]
    refine ⟨by decide, [2, 5, 9], [0, 0, 0], [0, 3, 3], rfl, T5, ⟨by simp [St], by decide⟩, ⟨by simp [St], by decide⟩, ?_⟩
    rw [show dst [2, 5, 9] [0, 0, 0] [0, 3, 3] = 7 by decide +kernel]
    simp
    exact fin_same (q _)
  · subst e
    simp [-List.lookup_eq_none_iff]
    refine ⟨_, _, rfl, by decide, fun a x ha hd => ⟨by unfold CPow; decide, by decide, ?_⟩⟩
    refine forL_ind (fun r ρ M' => (∃ o1 o3 o4, ρ = [some (.kl ns), o1, some (.obj a), o3, o4]) ∧ (∀ e ∈ r, ∃ w : Int, e = .int w ∧ 1 ≤ w ∧ w ≤ 1000000) ∧ r.length ≤ 2 ∧ Dk a (20 + 100 * (2 - r.length)) M') (fun ρ M' ⟨⟨o1, o3, o4, e⟩, _⟩ => ?_) (fun y r ρ M' rec2 ⟨⟨o1, o3, o4, e⟩, hy, h3, hd⟩ hr2 => ?_) ⟨⟨_, _, _, rfl⟩, by simp, by simp, by simpa using hd⟩
    · subst e
      exact hr _ _ ⟨_, _, _, _, rfl⟩
    · subst e
      obtain ⟨w, rfl, w1, w2⟩ := hy y List.mem_cons_self
      simp only [List.length_cons] at h3 hd
      simp
      refine ⟨a, 6, w, _, rfl, hd, by omega, by decide, by decide, w1, w2, fun ts M1 ht _ _ s1 => ⟨a, ts, _, rfl, s1.d, by omega, ht, fun f M2 hf1 hf2 s2 => ⟨a, ts, _, rfl, s2.d, by omega, ht, fun g M3 hg1 hg2 s3 => ⟨ts, f, g, rfl, ht, ⟨hf1, hf2⟩, ⟨hg1, hg2⟩, ?_⟩⟩⟩⟩
      simp [onB]
      exact hr2 _ _ ⟨⟨_, _, _, rfl⟩, fun e he => hy e (List.mem_cons_of_mem _ he), by omega, s3.d.more (by simp; omega)⟩

end DL

namespace Lw
open PySem PySem.Spec PyProof.Rows L2 DL
def topS (i : Nat) : Stmt := PySem.Challenge.pw_oneremote_k20_whole_lamps_that_are_left.main.body.getD i (.Pass ⟨0, 0, 0, 0⟩)
abbrev s_is_from : Stmt := topS 8
abbrev n_is_from : List Str := ["value", "low", "high"]
abbrev p_is_from : List Str := ["value", "low", "high"]
theorem sc_is_from : FnScope n_is_from p_is_from (defScope s_is_from) := ⟨rfl, rfl, rfl, by decide +kernel, rfl, by decide +kernel, by decide +kernel⟩
abbrev s_is_ranges : Stmt := topS 9
abbrev n_is_ranges : List Str := ["value", "top", "one", "other"]
abbrev p_is_ranges : List Str := ["value"]
theorem sc_is_ranges : FnScope n_is_ranges p_is_ranges (defScope s_is_ranges) := ⟨rfl, rfl, rfl, by decide +kernel, rfl, by decide +kernel, by decide +kernel⟩
abbrev s_good_state : Stmt := topS 10
abbrev n_good_state : List Str := ["ranges", "value", "level", "top"]
abbrev p_good_state : List Str := ["ranges", "value"]
theorem sc_good_state : FnScope n_good_state p_good_state (defScope s_good_state) := ⟨rfl, rfl, rfl, by decide +kernel, rfl, by decide +kernel, by decide +kernel⟩
abbrev s_need_ranges : Stmt := topS 11
abbrev n_need_ranges : List Str := ["ranges"]
abbrev p_need_ranges : List Str := ["ranges"]
theorem sc_need_ranges : FnScope n_need_ranges p_need_ranges (defScope s_need_ranges) := ⟨rfl, rfl, rfl, by decide +kernel, rfl, by decide +kernel, by decide +kernel⟩
abbrev s_need_state : Stmt := topS 12
abbrev n_need_state : List Str := ["ranges", "state"]
abbrev p_need_state : List Str := ["ranges", "state"]
theorem sc_need_state : FnScope n_need_state p_need_state (defScope s_need_state) := ⟨rfl, rfl, rfl, by decide +kernel, rfl, by decide +kernel, by decide +kernel⟩
abbrev s_moved : Stmt := topS 13
abbrev n_moved : List Str := ["level", "top", "runs", "found", "run"]
abbrev p_moved : List Str := ["level", "top", "runs"]
theorem sc_moved : FnScope n_moved p_moved (defScope s_moved) := ⟨rfl, rfl, rfl, by decide +kernel, rfl, by decide +kernel, by decide +kernel⟩
abbrev s_all_moved : Stmt := topS 14
abbrev n_all_moved : List Str := ["ranges", "state", "runs", "level", "top"]
abbrev p_all_moved : List Str := ["ranges", "state", "runs"]
theorem sc_all_moved : FnScope n_all_moved p_all_moved (defScope s_all_moved) := ⟨rfl, rfl, rfl, by decide +kernel, rfl, by decide +kernel, by decide +kernel⟩
abbrev s_in_reach : Stmt := topS 16
abbrev n_in_reach : List Str := ["ranges", "state", "low", "high"]
abbrev p_in_reach : List Str := ["ranges", "state"]
theorem sc_in_reach : FnScope n_in_reach p_in_reach (defScope s_in_reach) := ⟨rfl, rfl, rfl, by decide +kernel, rfl, by decide +kernel, by decide +kernel⟩
abbrev s_need_reached : Stmt := topS 17
abbrev n_need_reached : List Str := ["ranges", "state"]
abbrev p_need_reached : List Str := ["ranges", "state"]
theorem sc_need_reached : FnScope n_need_reached p_need_reached (defScope s_need_reached) := ⟨rfl, rfl, rfl, by decide +kernel, rfl, by decide +kernel, by decide +kernel⟩
abbrev s_is_reached : Stmt := topS 18
abbrev n_is_reached : List Str := ["ranges", "state"]
abbrev p_is_reached : List Str := ["ranges", "state"]
theorem sc_is_reached : FnScope n_is_reached p_is_reached (defScope s_is_reached) := ⟨rfl, rfl, rfl, by decide +kernel, rfl, by decide +kernel, by decide +kernel⟩
abbrev s_next_run : Stmt := topS 20
abbrev n_next_run : List Str := ["ranges", "state", "goal", "low", "have", "want"]
abbrev p_next_run : List Str := ["ranges", "state", "goal"]
theorem sc_next_run : FnScope n_next_run p_next_run (defScope s_next_run) := ⟨rfl, rfl, rfl, by decide +kernel, rfl, by decide +kernel, by decide +kernel⟩
abbrev s_way : Stmt := topS 21
abbrev n_way : List Str := ["ranges", "first", "second", "found", "here", "run"]
abbrev p_way : List Str := ["ranges", "first", "second"]
theorem sc_way : FnScope n_way p_way (defScope s_way) := ⟨rfl, rfl, rfl, by decide +kernel, rfl, by decide +kernel, by decide +kernel⟩
abbrev s_need_both : Stmt := topS 22
abbrev n_need_both : List Str := ["ranges", "first", "second"]
abbrev p_need_both : List Str := ["ranges", "first", "second"]
theorem sc_need_both : FnScope n_need_both p_need_both (defScope s_need_both) := ⟨rfl, rfl, rfl, by decide +kernel, rfl, by decide +kernel, by decide +kernel⟩
abbrev s_fewest : Stmt := topS 23
abbrev n_fewest : List Str := ["ranges", "first", "second", "run"]
abbrev p_fewest : List Str := ["ranges", "first", "second"]
theorem sc_fewest : FnScope n_fewest p_fewest (defScope s_fewest) := ⟨rfl, rfl, rfl, by decide +kernel, rfl, by decide +kernel, by decide +kernel⟩
abbrev s__law_deck : Stmt := topS 25
abbrev n__law_deck : List Str := ["cell", "turn"]
abbrev p__law_deck : List Str := ["cell", "turn"]
theorem sc__law_deck : FnScope n__law_deck p__law_deck (defScope s__law_deck) := ⟨rfl, rfl, rfl, by decide +kernel, rfl, by decide +kernel, by decide +kernel⟩
abbrev s__law_pick : Stmt := topS 26
abbrev n__law_pick : List Str := ["deck", "limit", "found", "number"]
abbrev p__law_pick : List Str := ["deck", "limit"]
theorem sc__law_pick : FnScope n__law_pick p__law_pick (defScope s__law_pick) := ⟨rfl, rfl, rfl, by decide +kernel, rfl, by decide +kernel, by decide +kernel⟩
abbrev s__law_one : Stmt := topS 27
abbrev n__law_one : List Str := ["deck", "some"]
abbrev p__law_one : List Str := ["deck", "some"]
theorem sc__law_one : FnScope n__law_one p__law_one (defScope s__law_one) := ⟨rfl, rfl, rfl, by decide +kernel, rfl, by decide +kernel, by decide +kernel⟩
abbrev s__law_tops : Stmt := topS 33
abbrev n__law_tops : List Str := ["deck", "many", "wide", "found", "lamp"]
abbrev p__law_tops : List Str := ["deck", "many", "wide"]
theorem sc__law_tops : FnScope n__law_tops p__law_tops (defScope s__law_tops) := ⟨rfl, rfl, rfl, by decide +kernel, rfl, by decide +kernel, by decide +kernel⟩
abbrev s__law_reached : Stmt := topS 35
abbrev n__law_reached : List Str := ["deck", "tops", "found", "low", "high"]
abbrev p__law_reached : List Str := ["deck", "tops"]
theorem sc__law_reached : FnScope n__law_reached p__law_reached (defScope s__law_reached) := ⟨rfl, rfl, rfl, by decide +kernel, rfl, by decide +kernel, by decide +kernel⟩
abbrev s__law_out : Stmt := topS 37
abbrev n__law_out : List Str := ["some", "at"]
abbrev p__law_out : List Str := ["some", "at"]
theorem sc__law_out : FnScope n__law_out p__law_out (defScope s__law_out) := ⟨rfl, rfl, rfl, by decide +kernel, rfl, by decide +kernel, by decide +kernel⟩
abbrev s__law_twice : Stmt := topS 38
abbrev n__law_twice : List Str := ["some", "at"]
abbrev p__law_twice : List Str := ["some", "at"]
theorem sc__law_twice : FnScope n__law_twice p__law_twice (defScope s__law_twice) := ⟨rfl, rfl, rfl, by decide +kernel, rfl, by decide +kernel, by decide +kernel⟩
abbrev s__law_right : Stmt := topS 39
abbrev n__law_right : List Str := ["tops", "first", "second", "number", "at", "few", "one", "two", "more", "wrong", "low", "high", "pair"]
abbrev p__law_right : List Str := ["tops", "first", "second"]
theorem sc__law_right : FnScope n__law_right p__law_right (defScope s__law_right) := ⟨rfl, rfl, rfl, by decide +kernel, rfl, by decide +kernel, by decide +kernel⟩
abbrev s_law : Stmt := topS 40
abbrev n_law : List Str := ["script", "cell", "deck", "wide", "tops"]
abbrev p_law : List Str := ["script"]
theorem sc_law : FnScope n_law p_law (defScope s_law) := ⟨rfl, rfl, rfl, by decide +kernel, rfl, by decide +kernel, by decide +kernel⟩
structure Facts (K : PySem.W.Frag) (mg : Str → Option Value) where
  is_from : DefF K mg "is_from" s_is_from p_is_from
  is_ranges : DefF K mg "is_ranges" s_is_ranges p_is_ranges
  good_state : DefF K mg "good_state" s_good_state p_good_state
  need_ranges : DefF K mg "need_ranges" s_need_ranges p_need_ranges
  need_state : DefF K mg "need_state" s_need_state p_need_state
  moved : DefF K mg "moved" s_moved p_moved
  all_moved : DefF K mg "all_moved" s_all_moved p_all_moved
  in_reach : DefF K mg "in_reach" s_in_reach p_in_reach
  need_reached : DefF K mg "need_reached" s_need_reached p_need_reached
  is_reached : DefF K mg "is_reached" s_is_reached p_is_reached
  next_run : DefF K mg "next_run" s_next_run p_next_run
  way : DefF K mg "way" s_way p_way
  need_both : DefF K mg "need_both" s_need_both p_need_both
  fewest : DefF K mg "fewest" s_fewest p_fewest
  _law_deck : DefF K mg "_law_deck" s__law_deck p__law_deck
  _law_pick : DefF K mg "_law_pick" s__law_pick p__law_pick
  _law_one : DefF K mg "_law_one" s__law_one p__law_one
  _law_tops : DefF K mg "_law_tops" s__law_tops p__law_tops
  _law_reached : DefF K mg "_law_reached" s__law_reached p__law_reached
  _law_out : DefF K mg "_law_out" s__law_out p__law_out
  _law_twice : DefF K mg "_law_twice" s__law_twice p__law_twice
  _law_right : DefF K mg "_law_right" s__law_right p__law_right
  law : DefF K mg "law" s_law p_law
  c_LARGEST : ∃ t, mg "LARGEST" = some (.int 1000000 t)
  c_MOST_LAMPS : ∃ t, mg "MOST_LAMPS" = some (.int 6 t)
  n_abs : mg "abs" = none
  n_all : mg "all" = none
  n_bool : mg "bool" = none
  n_int : mg "int" = none
  n_isinstance : mg "isinstance" = none
  n_len : mg "len" = none
  n_max : mg "max" = none
  n_min : mg "min" = none
  n_range : mg "range" = none
  n_sorted : mg "sorted" = none
  n_sum : mg "sum" = none
  n_tuple : mg "tuple" = none
  n_zip : mg "zip" = none
section
variable {P : Program} {w : World} {K : PySem.W.Frag} {mg : Str → Option Value} {base : Heap}
abbrev Okf (P : Program) (w : World) (K : PySem.W.Frag) (mg : Str → Option Value) (base : Heap) (k : Nat) {x : Str} {st : Stmt} {ps : List Str} (D : DefF K mg x st ps) (sp : SpD) : Prop := FnOk P w K mg base (L2N.CX P w) k D.f D.fd ps (liftSp K sp)
theorem ok_is_from (T : Facts K mg) : Okf P w K mg base 1 T.is_from sp_is_from :=
  FunD.ok T.is_from.fu sc_is_from len_is_from fun cdv A outer s H Ev lo ds M Q E hr tk h => ⟨t_is_from, (dss_one (ds_ret (de_and (de_callB call_isi ok_isi (by rfl) T.n_isinstance (by decide +kernel) (da_cons (dv 0) (da_cons (de_bltT (by rfl) T.n_int (by decide +kernel)) da_nil))) (de_and (de_not (de_callB call_isi ok_isi (by rfl) T.n_isinstance (by decide +kernel) (da_cons (dv 0) (da_cons (de_bltT (by rfl) T.n_bool (by decide +kernel)) da_nil)))) (de_one (de_chain op_le op_le ok_le ok_le (dv 1) (dv 0) (dv 2))))))), rd_is_from h⟩
theorem ok_is_ranges (T : Facts K mg) : Okf P w K mg base 2 T.is_ranges sp_is_ranges :=
  FunD.ok T.is_ranges.fu sc_is_ranges len_is_ranges fun cdv A outer s H Ev lo ds M Q E hr tk h => ⟨t_is_ranges, (dss_cons (ds_if (dw_pt (dw_or (dt_not (dt_val (de_callB call_isi ok_isi (by rfl) T.n_isinstance (by decide +kernel) (da_cons (dv 0) (da_cons (de_bltT (by rfl) T.n_tuple (by decide +kernel)) da_nil))))) (dw_or1 (dt_not (dt_chain op_le op_le ok_le ok_le de_int (de_callB call_len ok_len (by rfl) T.n_len (by decide +kernel) (da_cons (dv 0) da_nil)) (de_globI (by rfl) T.c_MOST_LAMPS.choose_spec)))))) (dss_one (ds_ret de_bl)) dss_nil)
  (dss_cons (ds_if (dt_not (dt_val (de_callB (cr_all rfl) ok_all (by rfl) T.n_all (by decide +kernel) (da_cons (de_lc (own := [("top", 1)]) rfl sc_is_ranges.nd (di_seq (dv 0)) (blkOk_by (own := [("top", 1)]) (N := n_is_ranges) (sc := defScope s_is_ranges) (by decide +kernel)) (by decide) (fun _ _ _ _ _ => (dg_name (i := 1) sc_is_ranges.nd rfl (by first | exact .inl rfl | exact .inr rfl))) (fun _ _ _ _ _ => dts_nil) (fun _ _ _ _ _ => (dcall T.is_from (ok_is_from T) (hr.mono (by decide)) passN (da_cons (dv 1) (da_cons de_int (da_cons (de_globI (by rfl) T.c_LARGEST.choose_spec) da_nil)))))) da_nil)))) (dss_one (ds_ret de_bl)) dss_nil)
  (dss_one (ds_ret (de_callB (cr_all rfl) ok_all (by rfl) T.n_all (by decide +kernel) (da_cons (de_lc (own := [("one", 2), ("other", 3)]) rfl sc_is_ranges.nd (di_zip2 (by rfl) T.n_zip (da_cons (dv 0) (da_cons (de_sl (dv 0) (do_some de_int) do_none) da_nil))) (blkOk_by (own := [("one", 2), ("other", 3)]) (N := n_is_ranges) (sc := defScope s_is_ranges) (by decide +kernel)) (by decide) (fun _ _ _ _ _ => (dg_tup rfl (dgs_cons (dg_name (i := 2) sc_is_ranges.nd rfl (by first | exact .inl rfl | exact .inr rfl)) (dgs_cons (dg_name (i := 3) sc_is_ranges.nd rfl (by first | exact .inl rfl | exact .inr rfl)) dgs_nil)))) (fun _ _ _ _ _ => dts_nil) (fun _ _ _ _ _ => (de_cmp op_le ok_le (dv 2) (dv 3) (nomark _)))) da_nil)))))), rd_is_ranges h⟩
theorem ok_good_state (T : Facts K mg) : Okf P w K mg base 2 T.good_state sp_good_state :=
  FunD.ok T.good_state.fu sc_good_state len_good_state fun cdv A outer s H Ev lo ds M Q E hr tk h => ⟨t_good_state, (dss_cons (ds_if (dw_pt (dw_or (dt_not (dt_val (de_callB call_isi ok_isi (by rfl) T.n_isinstance (by decide +kernel) (da_cons (dv 1) (da_cons (de_bltT (by rfl) T.n_tuple (by decide +kernel)) da_nil))))) (dw_or1 (dt_cmp (op_neD hr.units) ok_ne (de_callB call_len ok_len (by rfl) T.n_len (by decide +kernel) (da_cons (dv 1) da_nil)) (de_callB call_len ok_len (by rfl) T.n_len (by decide +kernel) (da_cons (dv 0) da_nil)) (nomark _))))) (dss_one (ds_ret de_bl)) dss_nil)
  (dss_one (ds_ret (de_callB (cr_all rfl) ok_all (by rfl) T.n_all (by decide +kernel) (da_cons (de_lc (own := [("level", 2), ("top", 3)]) rfl sc_good_state.nd (di_zip2 (by rfl) T.n_zip (da_cons (dv 1) (da_cons (dv 0) da_nil))) (blkOk_by (own := [("level", 2), ("top", 3)]) (N := n_good_state) (sc := defScope s_good_state) (by decide +kernel)) (by decide) (fun _ _ _ _ _ => (dg_tup rfl (dgs_cons (dg_name (i := 2) sc_good_state.nd rfl (by first | exact .inl rfl | exact .inr rfl)) (dgs_cons (dg_name (i := 3) sc_good_state.nd rfl (by first | exact .inl rfl | exact .inr rfl)) dgs_nil)))) (fun _ _ _ _ _ => dts_nil) (fun _ _ _ _ _ => (dcall T.is_from (ok_is_from T) (hr.mono (by decide)) passN (da_cons (dv 2) (da_cons de_int (da_cons (dv 3) da_nil)))))) da_nil))))), rd_good_state h⟩
theorem ok_need_ranges (T : Facts K mg) : Okf P w K mg base 3 T.need_ranges sp_need_ranges :=
  FunD.ok T.need_ranges.fu sc_need_ranges len_need_ranges fun cdv A outer s H Ev lo ds M Q E hr tk h => ⟨t_need_ranges, (dss_one (ds_if (dt_not (dt_val (dcall T.is_ranges (ok_is_ranges T) (hr.mono (by decide)) passN (da_cons (dv 0) da_nil)))) (dss_one ds_never) dss_nil)), rd_need_ranges h⟩
theorem ok_need_state (T : Facts K mg) : Okf P w K mg base 3 T.need_state sp_need_state :=
  FunD.ok T.need_state.fu sc_need_state len_need_state fun cdv A outer s H Ev lo ds M Q E hr tk h => ⟨t_need_state, (dss_one (ds_if (dt_not (dt_val (dcall T.good_state (ok_good_state T) (hr.mono (by decide)) passN (da_cons (dv 0) (da_cons (dv 1) da_nil))))) (dss_one ds_never) dss_nil)), rd_need_state h⟩
theorem ok_moved (T : Facts K mg) : Okf P w K mg base 1 T.moved sp_moved :=
  FunD.ok T.moved.fu sc_moved len_moved fun cdv A outer s H Ev lo ds M Q E hr tk h => ⟨t_moved, (dss_cons (ds_set (i := 3) sc_moved.nd rfl (.inl rfl) (dv 0))
  (dss_cons (ds_for (passes_of rfl) rfl (di_seq (dv 2)) (dg_name (i := 4) sc_moved.nd rfl (.inl rfl))
  (dss_one (ds_set (i := 3) sc_moved.nd rfl (.inl rfl) (de_callB (call_max2 rfl) ok_max2 (by rfl) T.n_max (by decide +kernel) (da_cons de_int (da_cons (de_callB (call_min2 rfl) ok_min2 (by rfl) T.n_min (by decide +kernel) (da_cons (dv 1) (da_cons (de_op op_addX ok_add (dv 3) (dv 4)) da_nil))) da_nil))))))
  (dss_one (ds_ret (dv 3))))), rd_moved h⟩
theorem ok_all_moved (T : Facts K mg) : Okf P w K mg base 2 T.all_moved sp_all_moved :=
  FunD.ok T.all_moved.fu sc_all_moved len_all_moved fun cdv A outer s H Ev lo ds M Q E hr tk h => ⟨t_all_moved, (dss_one (ds_ret (de_callTy call_tuple_of ok_tuple (by rfl) T.n_tuple (by decide +kernel) (da_cons (de_lc (own := [("level", 3), ("top", 4)]) rfl sc_all_moved.nd (di_zip2 (by rfl) T.n_zip (da_cons (dv 1) (da_cons (dv 0) da_nil))) (blkOk_by (own := [("level", 3), ("top", 4)]) (N := n_all_moved) (sc := defScope s_all_moved) (by decide +kernel)) (by decide) (fun _ _ _ _ _ => (dg_tup rfl (dgs_cons (dg_name (i := 3) sc_all_moved.nd rfl (by first | exact .inl rfl | exact .inr rfl)) (dgs_cons (dg_name (i := 4) sc_all_moved.nd rfl (by first | exact .inl rfl | exact .inr rfl)) dgs_nil)))) (fun _ _ _ _ _ => dts_nil) (fun _ _ _ _ _ => (dcall T.moved (ok_moved T) (hr.mono (by decide)) passN (da_cons (dv 3) (da_cons (dv 4) (da_cons (dv 2) da_nil)))))) da_nil)))), rd_all_moved h⟩
theorem ok_in_reach (T : Facts K mg) : Okf P w K mg base 1 T.in_reach sp_in_reach :=
  FunD.ok T.in_reach.fu sc_in_reach len_in_reach fun cdv A outer s H Ev lo ds M Q E hr tk h => ⟨t_in_reach, (dss_cons (ds_for (passes_of rfl) rfl (di_zip2 (by rfl) T.n_zip (da_cons (de_callTy cr_range ok_range (by rfl) T.n_range (by decide +kernel) (da_cons (de_callB call_len ok_len (by rfl) T.n_len (by decide +kernel) (da_cons (dv 1) da_nil)) da_nil)) (da_cons (de_callTy cr_range ok_range (by rfl) T.n_range (by decide +kernel) (da_cons de_int (da_cons (de_callB call_len ok_len (by rfl) T.n_len (by decide +kernel) (da_cons (dv 1) da_nil)) da_nil))) da_nil))) (dg_tup rfl (dgs_cons (dg_name (i := 2) sc_in_reach.nd rfl (.inl rfl)) (dgs_cons (dg_name (i := 3) sc_in_reach.nd rfl (.inl rfl)) dgs_nil)))
  (dss_one (ds_if (dt_not (dt_chain op_le op_le ok_le ok_le de_int (de_op op_sub ok_sub (de_ix (dv 1) (dv 3)) (de_ix (dv 1) (dv 2))) (de_op op_sub ok_sub (de_ix (dv 0) (dv 3)) (de_ix (dv 0) (dv 2))))) (dss_one (ds_ret de_bl)) dss_nil)))
  (dss_one (ds_ret de_bl))), rd_in_reach h⟩
theorem ok_need_reached (T : Facts K mg) : Okf P w K mg base 4 T.need_reached sp_need_reached :=
  FunD.ok T.need_reached.fu sc_need_reached len_need_reached fun cdv A outer s H Ev lo ds M Q E hr tk h => ⟨t_need_reached, (dss_cons (ds_expr (dcall T.need_state (ok_need_state T) (hr.mono (by decide)) passN (da_cons (dv 0) (da_cons (dv 1) da_nil))))
  (dss_one (ds_if (dt_not (dt_val (dcall T.in_reach (ok_in_reach T) (hr.mono (by decide)) passN (da_cons (dv 0) (da_cons (dv 1) da_nil))))) (dss_one ds_never) dss_nil))), rd_need_reached h⟩
theorem ok_is_reached (T : Facts K mg) : Okf P w K mg base 4 T.is_reached sp_is_reached :=
  FunD.ok T.is_reached.fu sc_is_reached len_is_reached fun cdv A outer s H Ev lo ds M Q E hr tk h => ⟨t_is_reached, (dss_cons (ds_expr (dcall T.need_ranges (ok_need_ranges T) (hr.mono (by decide)) passN (da_cons (dv 0) da_nil)))
  (dss_cons (ds_expr (dcall T.need_state (ok_need_state T) (hr.mono (by decide)) passN (da_cons (dv 0) (da_cons (dv 1) da_nil))))
  (dss_one (ds_ret (dcall T.in_reach (ok_in_reach T) (hr.mono (by decide)) passN (da_cons (dv 0) (da_cons (dv 1) da_nil))))))), rd_is_reached h⟩
theorem ok_next_run (T : Facts K mg) : Okf P w K mg base 1 T.next_run sp_next_run :=
  FunD.ok T.next_run.fu sc_next_run len_next_run fun cdv A outer s H Ev lo ds M Q E hr tk h => ⟨t_next_run, (dss_cons (ds_for (passes_of rfl) rfl (di_rng3 (by rfl) T.n_range (da_cons (de_op op_sub ok_sub (de_callB call_len ok_len (by rfl) T.n_len (by decide +kernel) (da_cons (dv 0) da_nil)) de_int) (da_cons (de_un un_neg ok_neg de_int) (da_cons (de_un un_neg ok_neg de_int) da_nil)))) (dg_name (i := 3) sc_next_run.nd rfl (.inl rfl))
  (dss_cons (ds_par (i := 4) (j := 5) rfl sc_next_run.nd rfl rfl (by decide) rfl rfl (da_cons (de_op op_sub ok_sub (de_ix (dv 1) (de_op op_addX ok_add (dv 3) de_int)) (de_ix (dv 1) (dv 3))) (da_cons (de_op op_sub ok_sub (de_ix (dv 2) (de_op op_addX ok_add (dv 3) de_int)) (de_ix (dv 2) (dv 3))) da_nil)) (by rfl))
  (dss_cons (ds_if (dt_cmp op_lt ok_lt (dv 4) (dv 5) (nomark _)) (dss_one (ds_ret (de_op op_sub ok_sub (de_op op_addX ok_add (de_ix (dv 0) (dv 3)) (dv 5)) (de_ix (dv 1) (de_op op_addX ok_add (dv 3) de_int))))) dss_nil)
  (dss_one (ds_if (dt_cmp op_gt ok_gt (dv 4) (dv 5) (nomark _)) (dss_one (ds_ret (de_op op_sub ok_sub (dv 5) (de_ix (dv 1) (de_op op_addX ok_add (dv 3) de_int))))) dss_nil)))))
  (dss_one (ds_ret (de_op op_sub ok_sub (de_ix (dv 2) de_int) (de_ix (dv 1) de_int))))), rd_next_run h⟩
theorem ok_way (T : Facts K mg) : Okf P w K mg base 3 T.way sp_way :=
  FunD.ok T.way.fu sc_way len_way fun cdv A outer s H Ev lo ds M Q E hr tk h => ⟨t_way, (dss_cons (ds_par (i := 3) (j := 4) rfl sc_way.nd rfl rfl (by decide) rfl rfl (da_cons (de_lstO da_nil) (da_cons (dv 1) da_nil)) (by rfl))
  (dss_cons (ds_while (passes_of rfl) (dt_cmp (op_neD hr.units) ok_ne (dv 4) (dv 2) (nomark _))
  (dss_cons (ds_set (i := 5) sc_way.nd rfl (.inl rfl) (dcall T.next_run (ok_next_run T) (hr.mono (by decide)) passN (da_cons (dv 0) (da_cons (dv 4) (da_cons (dv 2) da_nil)))))
  (dss_cons (ds_expr (de_append (dv 3) (dv 5)))
  (dss_one (ds_set (i := 4) sc_way.nd rfl (.inl rfl) (dcall T.all_moved (ok_all_moved T) (hr.mono (by decide)) passN (da_cons (dv 0) (da_cons (dv 4) (da_cons (de_tup (da_cons (dv 5) da_nil)) da_nil)))))))))
  (dss_one (ds_ret (dv 3))))), rd_way h⟩
theorem ok_need_both (T : Facts K mg) : Okf P w K mg base 5 T.need_both sp_need_both :=
  FunD.ok T.need_both.fu sc_need_both len_need_both fun cdv A outer s H Ev lo ds M Q E hr tk h => ⟨t_need_both, (dss_cons (ds_expr (dcall T.need_ranges (ok_need_ranges T) (hr.mono (by decide)) passN (da_cons (dv 0) da_nil)))
  (dss_cons (ds_expr (dcall T.need_reached (ok_need_reached T) (hr.mono (by decide)) passN (da_cons (dv 0) (da_cons (dv 1) da_nil))))
  (dss_one (ds_expr (dcall T.need_reached (ok_need_reached T) (hr.mono (by decide)) passN (da_cons (dv 0) (da_cons (dv 2) da_nil))))))), rd_need_both h⟩
theorem ok_fewest (T : Facts K mg) : Okf P w K mg base 6 T.fewest sp_fewest :=
  FunD.ok T.fewest.fu sc_fewest len_fewest fun cdv A outer s H Ev lo ds M Q E hr tk h => ⟨t_fewest, (dss_cons (ds_expr (dcall T.need_both (ok_need_both T) (hr.mono (by decide)) passN (da_cons (dv 0) (da_cons (dv 1) (da_cons (dv 2) da_nil)))))
  (dss_one (ds_ret (de_callB (cr_sum rfl) ok_sum (by rfl) T.n_sum (by decide +kernel) (da_cons (de_lc (own := [("run", 3)]) rfl sc_fewest.nd (di_seq (dcall T.way (ok_way T) (hr.mono (by decide)) passN (da_cons (dv 0) (da_cons (dv 1) (da_cons (dv 2) da_nil))))) (blkOk_by (own := [("run", 3)]) (N := n_fewest) (sc := defScope s_fewest) (by decide +kernel)) (by decide) (fun _ _ _ _ _ => (dg_name (i := 3) sc_fewest.nd rfl (by first | exact .inl rfl | exact .inr rfl))) (fun _ _ _ _ _ => dts_nil) (fun _ _ _ _ _ => (de_callB call_abs ok_abs (by rfl) T.n_abs (by decide +kernel) (da_cons (dv 3) da_nil)))) da_nil))))), rd_fewest h⟩
theorem ok__law_deck (T : Facts K mg) : Okf P w K mg base 1 T._law_deck sp_law_deck :=
  FunD.ok T._law_deck.fu sc__law_deck len_law_deck fun cdv A outer s H Ev lo ds M Q E hr tk h => ⟨t_law_deck, (dss_cons (ds_if (dt_cmp op_ge ok_ge (dv 0) (de_op op_pow ok_pow de_int de_int) (nomark _)) (dss_one (ds_ret (de_lstO (da_cons (de_op op_sub ok_sub (dv 0) (de_op op_pow ok_pow de_int de_int)) (da_cons (de_op op_mod ok_mod (dv 0) de_int) (da_cons (dv 1) da_nil)))))) dss_nil)
  (dss_one (ds_ret (de_lstO (da_cons de_int (da_cons (de_op op_mod ok_mod (dv 0) de_int) (da_cons (dv 1) da_nil))))))), rd_law_deck h⟩
theorem ok__law_pick (T : Facts K mg) : Okf P w K mg base 1 T._law_pick sp_law_pick :=
  FunD.ok T._law_pick.fu sc__law_pick len_law_pick fun cdv A outer s H Ev lo ds M Q E hr tk h => ⟨t_law_pick, (dss_cons (ds_if (dt_cmp op_gt ok_gt (de_ix (dv 0) de_int) de_int (nomark _)) (dss_cons (ds_set (i := 2) sc__law_pick.nd rfl (.inl rfl) (de_op op_mod ok_mod (de_ix (dv 0) de_int) (dv 1)))
  (dss_cons (ds_stIx (de_op op_fdivX ok_fdiv (de_ix (dv 0) de_int) (dv 1)) (dv 0) de_int)
  (dss_one (ds_ret (dv 2))))) dss_nil)
  (dss_cons (ds_stIx (de_op op_addX ok_add (de_ix (dv 0) de_int) de_int) (dv 0) de_int)
  (dss_cons (ds_set (i := 3) sc__law_pick.nd rfl (.inl rfl) (de_op op_mod ok_mod (de_op op_pow ok_pow (de_op op_addX ok_add (de_ix (dv 0) de_int) (de_op op_mulX ok_mul de_int (de_ix (dv 0) de_int))) de_int) de_int))
  (dss_cons (ds_set (i := 2) sc__law_pick.nd rfl (.inl rfl) (de_op op_fdivX ok_fdiv (de_op op_mod ok_mod (de_op op_pow ok_pow (de_op op_addX ok_add (dv 3) (de_op op_mulX ok_mul de_int (de_ix (dv 0) de_int))) de_int) de_int) de_int))
  (dss_cons (ds_if (dt_cmp op_gt ok_gt (dv 1) de_int (nomark _)) (dss_one (ds_ret (de_op op_mod ok_mod (de_op op_addX ok_add (de_op op_mulX ok_mul (dv 2) de_int) (dv 3)) (dv 1)))) dss_nil)
  (dss_one (ds_ret (de_op op_mod ok_mod (dv 2) (dv 1))))))))), rd_law_pick h⟩
theorem ok__law_one (T : Facts K mg) : Okf P w K mg base 2 T._law_one sp_law_one :=
  FunD.ok T._law_one.fu sc__law_one len_law_one fun cdv A outer s H Ev lo ds M Q E hr tk h => ⟨t_law_one, (dss_one (ds_ret (de_ix (dv 1) (dcall T._law_pick (ok__law_pick T) (hr.mono (by decide)) passN (da_cons (dv 0) (da_cons (de_callB call_len ok_len (by rfl) T.n_len (by decide +kernel) (da_cons (dv 1) da_nil)) da_nil)))))), rd_law_one h⟩
theorem ok__law_tops (T : Facts K mg) : Okf P w K mg base 3 T._law_tops sp_law_tops :=
  FunD.ok T._law_tops.fu sc__law_tops len_law_tops fun cdv A outer s H Ev lo ds M Q E hr tk h => ⟨t_law_tops, (dss_cons (ds_set (i := 3) sc__law_tops.nd rfl (.inl rfl) (de_lstO da_nil))
  (dss_cons (ds_for (passes_of rfl) rfl (di_rng1 (by rfl) T.n_range (da_cons (de_op op_addX ok_add de_int (dcall T._law_pick (ok__law_pick T) (hr.mono (by decide)) passN (da_cons (dv 0) (da_cons (dv 1) da_nil)))) da_nil)) (dg_name (i := 4) sc__law_tops.nd rfl (.inl rfl))
  (dss_one (ds_expr (de_append (dv 3) (dcall T._law_one (ok__law_one T) (hr.mono (by decide)) passN (da_cons (dv 0) (da_cons (de_op op_addX ok_add (de_lst (da_cons (de_op op_addX ok_add de_int (dcall T._law_pick (ok__law_pick T) (hr.mono (by decide)) passN (da_cons (dv 0) (da_cons (dv 2) da_nil)))) (da_cons (de_op op_addX ok_add de_int (dcall T._law_pick (ok__law_pick T) (hr.mono (by decide)) passN (da_cons (dv 0) (da_cons (dv 2) da_nil)))) da_nil))) (de_sl (dv 3) do_none (do_some de_int))) da_nil)))))))
  (dss_one (ds_ret (de_callTy call_tuple_of ok_tuple (by rfl) T.n_tuple (by decide +kernel) (da_cons (de_callB cr_sortedI ok_sorted (by rfl) T.n_sorted (by decide +kernel) (da_cons (dv 3) da_nil)) da_nil)))))), rd_law_tops h⟩
theorem ok__law_reached (T : Facts K mg) : Okf P w K mg base 3 T._law_reached sp_law_reached :=
  FunD.ok T._law_reached.fu sc__law_reached len_law_reached fun cdv A outer s H Ev lo ds M Q E hr tk h => ⟨t_law_reached, (dss_cons (ds_set (i := 2) sc__law_reached.nd rfl (.inl rfl) (de_lstO (da_cons (dcall T._law_one (ok__law_one T) (hr.mono (by decide)) passN (da_cons (dv 0) (da_cons (de_lst (da_cons de_int (da_cons (de_ix (dv 1) de_int) (da_cons (dcall T._law_pick (ok__law_pick T) (hr.mono (by decide)) passN (da_cons (dv 0) (da_cons (de_op op_addX ok_add (de_ix (dv 1) de_int) de_int) da_nil))) da_nil)))) da_nil))) da_nil)))
  (dss_cons (ds_for (passes_of rfl) rfl (di_zip2 (by rfl) T.n_zip (da_cons (dv 1) (da_cons (de_sl (dv 1) (do_some de_int) do_none) da_nil))) (dg_tup rfl (dgs_cons (dg_name (i := 3) sc__law_reached.nd rfl (.inl rfl)) (dgs_cons (dg_name (i := 4) sc__law_reached.nd rfl (.inl rfl)) dgs_nil)))
  (dss_one (ds_expr (de_append (dv 2) (de_op op_addX ok_add (de_ix (dv 2) (de_un un_neg ok_neg de_int)) (dcall T._law_one (ok__law_one T) (hr.mono (by decide)) passN (da_cons (dv 0) (da_cons (de_lst (da_cons de_int (da_cons (de_op op_sub ok_sub (dv 4) (dv 3)) (da_cons (dcall T._law_pick (ok__law_pick T) (hr.mono (by decide)) passN (da_cons (dv 0) (da_cons (de_op op_addX ok_add (de_op op_sub ok_sub (dv 4) (dv 3)) de_int) da_nil))) da_nil)))) da_nil))))))))
  (dss_one (ds_ret (de_callTy call_tuple_of ok_tuple (by rfl) T.n_tuple (by decide +kernel) (da_cons (dv 2) da_nil)))))), rd_law_reached h⟩
theorem ok__law_out (T : Facts K mg) : Okf P w K mg base 1 T._law_out sp_law_out :=
  FunD.ok T._law_out.fu sc__law_out len_law_out fun cdv A outer s H Ev lo ds M Q E hr tk h => ⟨t_law_out, (dss_one (ds_ret (de_op op_addX ok_add (de_sl (dv 0) do_none (do_some (dv 1))) (de_sl (dv 0) (do_some (de_op op_addX ok_add (dv 1) de_int)) do_none)))), rd_law_out h⟩
theorem ok__law_twice (T : Facts K mg) : Okf P w K mg base 1 T._law_twice sp_law_twice :=
  FunD.ok T._law_twice.fu sc__law_twice len_law_twice fun cdv A outer s H Ev lo ds M Q E hr tk h => ⟨t_law_twice, (dss_one (ds_ret (de_op op_addX ok_add (de_op op_addX ok_add (de_sl (dv 0) do_none (do_some (dv 1))) (de_sl (dv 0) (do_some (dv 1)) (do_some (de_op op_addX ok_add (dv 1) de_int)))) (de_sl (dv 0) (do_some (dv 1)) do_none)))), rd_law_twice h⟩
theorem ok__law_right (T : Facts K mg) : Okf P w K mg base 7 T._law_right sp_law_right :=
  FunD.ok T._law_right.fu sc__law_right len_law_right fun cdv A outer s H Ev lo ds M Q E hr tk h => ⟨t_law_right, (dss_cons (ds_set (i := 3) sc__law_right.nd rfl (.inl rfl) (dcall T.fewest (ok_fewest T) (hr.mono (by decide)) passN (da_cons (dv 0) (da_cons (dv 1) (da_cons (dv 2) da_nil)))))
  (dss_cons (ds_for (passes_of rfl) rfl (di_rng1 (by rfl) T.n_range (da_cons (de_callB call_len ok_len (by rfl) T.n_len (by decide +kernel) (da_cons (dv 0) da_nil)) da_nil)) (dg_name (i := 4) sc__law_right.nd rfl (.inl rfl))
  (dss_cons (ds_set (i := 5) sc__law_right.nd rfl (.inl rfl) (dcall T._law_out (ok__law_out T) (hr.mono (by decide)) passN (da_cons (dv 0) (da_cons (dv 4) da_nil))))
  (dss_cons (ds_par (i := 6) (j := 7) rfl sc__law_right.nd rfl rfl (by decide) rfl rfl (da_cons (dcall T._law_out (ok__law_out T) (hr.mono (by decide)) passN (da_cons (dv 1) (da_cons (dv 4) da_nil))) (da_cons (dcall T._law_out (ok__law_out T) (hr.mono (by decide)) passN (da_cons (dv 2) (da_cons (dv 4) da_nil))) da_nil)) (by rfl))
  (dss_cons (ds_if (dt_cmp (op_neD hr.units) ok_ne (dv 5) (de_tup da_nil) (nomark _)) (dss_cons (ds_if (dw_pt (dw_or (dt_not (dt_val (dcall T.is_reached (ok_is_reached T) (hr.mono (by decide)) passN (da_cons (dv 5) (da_cons (dv 6) da_nil))))) (dw_or (dt_not (dt_val (dcall T.is_reached (ok_is_reached T) (hr.mono (by decide)) passN (da_cons (dv 5) (da_cons (dv 7) da_nil))))) (dw_or1 (dt_cmp op_gt ok_gt (dcall T.fewest (ok_fewest T) (hr.mono (by decide)) passN (da_cons (dv 5) (da_cons (dv 6) (da_cons (dv 7) da_nil)))) (dv 3) (nomark _)))))) (dss_one (ds_ret de_bl)) dss_nil)
  (dss_one (ds_if (dw_pt (dw_and (dt_cmp op_gt ok_gt (dv 4) de_int (nomark _)) (dw_and (dt_cmp (op_eqD hr.units) ok_eq (de_ix (dv 0) (dv 4)) (de_ix (dv 0) (de_op op_sub ok_sub (dv 4) de_int)) (nomark _)) (dw_and1 (dt_cmp (op_neD hr.units) ok_ne (dcall T.fewest (ok_fewest T) (hr.mono (by decide)) passN (da_cons (dv 5) (da_cons (dv 6) (da_cons (dv 7) da_nil)))) (dv 3) (nomark _)))))) (dss_one (ds_ret de_bl)) dss_nil))) dss_nil)
  (dss_one (ds_if (dt_cmp op_lt ok_lt (de_callB call_len ok_len (by rfl) T.n_len (by decide +kernel) (da_cons (dv 0) da_nil)) de_int (nomark _)) (dss_cons (ds_set (i := 8) sc__law_right.nd rfl (.inl rfl) (dcall T._law_twice (ok__law_twice T) (hr.mono (by decide)) passN (da_cons (dv 0) (da_cons (dv 4) da_nil))))
  (dss_cons (ds_if (dt_cmp (op_neD hr.units) ok_ne (dcall T.fewest (ok_fewest T) (hr.mono (by decide)) passN (da_cons (dv 8) (da_cons (dcall T._law_twice (ok__law_twice T) (hr.mono (by decide)) passN (da_cons (dv 1) (da_cons (dv 4) da_nil))) (da_cons (dcall T._law_twice (ok__law_twice T) (hr.mono (by decide)) passN (da_cons (dv 2) (da_cons (dv 4) da_nil))) da_nil)))) (dv 3) (nomark _)) (dss_one (ds_ret de_bl)) dss_nil)
  (dss_one (ds_if (dt_cmp op_gt ok_gt (de_ix (dcall T._law_twice (ok__law_twice T) (hr.mono (by decide)) passN (da_cons (dv 1) (da_cons (dv 4) da_nil))) (dv 4)) de_int (nomark _)) (dss_cons (ds_set (i := 9) sc__law_right.nd rfl (.inl rfl) (de_op op_addX ok_add (de_op op_addX ok_add (de_sl (dv 1) do_none (do_some (dv 4))) (de_tup (da_cons (de_op op_sub ok_sub (de_ix (dv 1) (dv 4)) de_int) da_nil))) (de_sl (dv 1) (do_some (dv 4)) do_none)))
  (dss_one (ds_if (dt_val (dcall T.is_reached (ok_is_reached T) (hr.mono (by decide)) passN (da_cons (dv 8) (da_cons (dv 9) da_nil)))) (dss_one (ds_ret de_bl)) dss_nil))) dss_nil)))) dss_nil))))))
  (dss_cons (ds_for (passes_of rfl) rfl (di_rng1 (by rfl) T.n_range (da_cons (de_callB call_len ok_len (by rfl) T.n_len (by decide +kernel) (da_cons (dv 0) da_nil)) da_nil)) (dg_name (i := 10) sc__law_right.nd rfl (.inl rfl))
  (dss_one (ds_for (passes_of rfl) rfl (di_rng2 (by rfl) T.n_range (da_cons (de_op op_addX ok_add (dv 10) de_int) (da_cons (de_callB call_len ok_len (by rfl) T.n_len (by decide +kernel) (da_cons (dv 0) da_nil)) da_nil))) (dg_name (i := 11) sc__law_right.nd rfl (.inl rfl))
  (dss_cons (ds_set (i := 12) sc__law_right.nd rfl (.inl rfl) (de_tup (da_cons (de_ix (dv 0) (dv 10)) (da_cons (de_ix (dv 0) (dv 11)) da_nil))))
  (dss_one (ds_if (dt_cmp op_gt ok_gt (dcall T.fewest (ok_fewest T) (hr.mono (by decide)) passN (da_cons (dv 12) (da_cons (de_tup (da_cons (de_ix (dv 1) (dv 10)) (da_cons (de_ix (dv 1) (dv 11)) da_nil))) (da_cons (de_tup (da_cons (de_ix (dv 2) (dv 10)) (da_cons (de_ix (dv 2) (dv 11)) da_nil))) da_nil)))) (dv 3) (nomark _)) (dss_one (ds_ret de_bl)) dss_nil))))))
  (dss_one (ds_ret de_bl))))), rd_law_right h⟩
theorem ok_law (T : Facts K mg) : Okf P w K mg base 8 T.law spLaw :=
  FunD.ok T.law.fu sc_law len_spLaw fun cdv A outer s H Ev lo ds M Q E hr tk h => ⟨t_law, (dss_cons (ds_for (passes_of rfl) rfl (di_seq (de_sl (de_op op_addX ok_add (de_lst (da_cons de_int da_nil)) (dv 0)) do_none (do_some de_int))) (dg_name (i := 1) sc_law.nd rfl (.inl rfl))
  (dss_cons (ds_set (i := 2) sc_law.nd rfl (.inl rfl) (dcall T._law_deck (ok__law_deck T) (hr.mono (by decide)) passN (da_cons (dv 1) (da_cons de_int da_nil))))
  (dss_one (ds_for (passes_of rfl) rfl (di_seq (de_tup (da_cons de_int (da_cons (de_op op_pow ok_pow de_int de_int) da_nil)))) (dg_name (i := 3) sc_law.nd rfl (.inl rfl))
  (dss_cons (ds_set (i := 4) sc_law.nd rfl (.inl rfl) (dcall T._law_tops (ok__law_tops T) (hr.mono (by decide)) passN (da_cons (dv 2) (da_cons de_int (da_cons (dv 3) da_nil)))))
  (dss_one (ds_if (dt_not (dt_val (dcall T._law_right (ok__law_right T) (hr.mono (by decide)) passN (da_cons (dv 4) (da_cons (dcall T._law_reached (ok__law_reached T) (hr.mono (by decide)) passN (da_cons (dv 2) (da_cons (dv 4) da_nil))) (da_cons (dcall T._law_reached (ok__law_reached T) (hr.mono (by decide)) passN (da_cons (dv 2) (da_cons (dv 4) da_nil))) da_nil)))))) (dss_one (ds_ret de_bl)) dss_nil)))))))
  (dss_cons (ds_if (dw_pt (dw_or (dt_cmp (op_neD hr.units) ok_ne (dcall T.fewest (ok_fewest T) (hr.mono (by decide)) passN (da_cons (de_tup (da_cons de_int (da_cons de_int (da_cons de_int da_nil)))) (da_cons (de_tup (da_cons de_int (da_cons de_int (da_cons de_int da_nil)))) (da_cons (de_tup (da_cons de_int (da_cons de_int (da_cons de_int da_nil)))) da_nil)))) de_int (nomark _)) (dw_or1 (dt_cmp (op_neD hr.units) ok_ne (dcall T.fewest (ok_fewest T) (hr.mono (by decide)) passN (da_cons (de_tup (da_cons de_int (da_cons de_int (da_cons de_int da_nil)))) (da_cons (de_tup (da_cons de_int (da_cons de_int (da_cons de_int da_nil)))) (da_cons (de_tup (da_cons de_int (da_cons de_int (da_cons de_int da_nil)))) da_nil)))) de_int (nomark _))))) (dss_one (ds_ret de_bl)) dss_nil)
  (dss_cons (ds_if (dt_val (dcall T.is_reached (ok_is_reached T) (hr.mono (by decide)) passN (da_cons (de_tup (da_cons de_int (da_cons de_int da_nil))) (da_cons (de_tup (da_cons de_int (da_cons de_int da_nil))) da_nil)))) (dss_one (ds_ret de_bl)) dss_nil)
  (dss_one (ds_ret (de_and (de_cmp (op_eqD hr.units) ok_eq (dcall T.fewest (ok_fewest T) (hr.mono (by decide)) passN (da_cons (de_tup (da_cons de_int da_nil)) (da_cons (de_tup (da_cons de_int da_nil)) (da_cons (de_tup (da_cons de_int da_nil)) da_nil)))) de_int (nomark _)) (de_one (de_cmp (op_eqD hr.units) ok_eq (dcall T.fewest (ok_fewest T) (hr.mono (by decide)) passN (da_cons (de_tup (da_cons de_int (da_cons de_int (da_cons de_int da_nil)))) (da_cons (de_tup (da_cons de_int (da_cons de_int (da_cons de_int da_nil)))) (da_cons (de_tup (da_cons de_int (da_cons de_int (da_cons de_int da_nil)))) da_nil)))) de_int (nomark _))))))))), rd_law h⟩
end
theorem mk_is_from {K : PySem.W.Frag} {h : Heap} {mg : Str → Option Value} {f : Addr} {oc : Value} {od an : Option Addr} {osl : Array (Option Value)} {kV doc pm cdv ct : Value} (X : K.In h) (G : h.Ns mainGlobals mg) (a : PySem.W.nsIn K mainGlobals "is_from" = some (some (.ref f))) (l : K.lookup f = some ⟨oc, od, .func (PySem.W.fnOf "is_from" "is_from" (defArgs s_is_from) (defBody s_is_from) (defScope s_is_from) .none kV doc pm an cdv ct), osl⟩) (c : PySem.W.codeIn K cdv "is_from" = true) (k : PySem.W.keepIn K (.ref f) = true) : Nonempty (DefF K mg "is_from" s_is_from p_is_from) :=
  def_mk X G a l c k fun _ _ _ _ _ _ us hl => match us, hl with | [_, _, _], _ => rfl
theorem mk_is_ranges {K : PySem.W.Frag} {h : Heap} {mg : Str → Option Value} {f : Addr} {oc : Value} {od an : Option Addr} {osl : Array (Option Value)} {kV doc pm cdv ct : Value} (X : K.In h) (G : h.Ns mainGlobals mg) (a : PySem.W.nsIn K mainGlobals "is_ranges" = some (some (.ref f))) (l : K.lookup f = some ⟨oc, od, .func (PySem.W.fnOf "is_ranges" "is_ranges" (defArgs s_is_ranges) (defBody s_is_ranges) (defScope s_is_ranges) .none kV doc pm an cdv ct), osl⟩) (c : PySem.W.codeIn K cdv "is_ranges" = true) (k : PySem.W.keepIn K (.ref f) = true) : Nonempty (DefF K mg "is_ranges" s_is_ranges p_is_ranges) :=
  def_mk X G a l c k fun _ _ _ _ _ _ us hl => match us, hl with | [_], _ => rfl
theorem mk_good_state {K : PySem.W.Frag} {h : Heap} {mg : Str → Option Value} {f : Addr} {oc : Value} {od an : Option Addr} {osl : Array (Option Value)} {kV doc pm cdv ct : Value} (X : K.In h) (G : h.Ns mainGlobals mg) (a : PySem.W.nsIn K mainGlobals "good_state" = some (some (.ref f))) (l : K.lookup f = some ⟨oc, od, .func (PySem.W.fnOf "good_state" "good_state" (defArgs s_good_state) (defBody s_good_state) (defScope s_good_state) .none kV doc pm an cdv ct), osl⟩) (c : PySem.W.codeIn K cdv "good_state" = true) (k : PySem.W.keepIn K (.ref f) = true) : Nonempty (DefF K mg "good_state" s_good_state p_good_state) :=
  def_mk X G a l c k fun _ _ _ _ _ _ us hl => match us, hl with | [_, _], _ => rfl
theorem mk_need_ranges {K : PySem.W.Frag} {h : Heap} {mg : Str → Option Value} {f : Addr} {oc : Value} {od an : Option Addr} {osl : Array (Option Value)} {kV doc pm cdv ct : Value} (X : K.In h) (G : h.Ns mainGlobals mg) (a : PySem.W.nsIn K mainGlobals "need_ranges" = some (some (.ref f))) (l : K.lookup f = some ⟨oc, od, .func (PySem.W.fnOf "need_ranges" "need_ranges" (defArgs s_need_ranges) (defBody s_need_ranges) (defScope s_need_ranges) .none kV doc pm an cdv ct), osl⟩) (c : PySem.W.codeIn K cdv "need_ranges" = true) (k : PySem.W.keepIn K (.ref f) = true) : Nonempty (DefF K mg "need_ranges" s_need_ranges p_need_ranges) :=
  def_mk X G a l c k fun _ _ _ _ _ _ us hl => match us, hl with | [_], _ => rfl
theorem mk_need_state {K : PySem.W.Frag} {h : Heap} {mg : Str → Option Value} {f : Addr} {oc : Value} {od an : Option Addr} {osl : Array (Option Value)} {kV doc pm cdv ct : Value} (X : K.In h) (G : h.Ns mainGlobals mg) (a : PySem.W.nsIn K mainGlobals "need_state" = some (some (.ref f))) (l : K.lookup f = some ⟨oc, od, .func (PySem.W.fnOf "need_state" "need_state" (defArgs s_need_state) (defBody s_need_state) (defScope s_need_state) .none kV doc pm an cdv ct), osl⟩) (c : PySem.W.codeIn K cdv "need_state" = true) (k : PySem.W.keepIn K (.ref f) = true) : Nonempty (DefF K mg "need_state" s_need_state p_need_state) :=
  def_mk X G a l c k fun _ _ _ _ _ _ us hl => match us, hl with | [_, _], _ => rfl
theorem mk_moved {K : PySem.W.Frag} {h : Heap} {mg : Str → Option Value} {f : Addr} {oc : Value} {od an : Option Addr} {osl : Array (Option Value)} {kV doc pm cdv ct : Value} (X : K.In h) (G : h.Ns mainGlobals mg) (a : PySem.W.nsIn K mainGlobals "moved" = some (some (.ref f))) (l : K.lookup f = some ⟨oc, od, .func (PySem.W.fnOf "moved" "moved" (defArgs s_moved) (defBody s_moved) (defScope s_moved) .none kV doc pm an cdv ct), osl⟩) (c : PySem.W.codeIn K cdv "moved" = true) (k : PySem.W.keepIn K (.ref f) = true) : Nonempty (DefF K mg "moved" s_moved p_moved) :=
  def_mk X G a l c k fun _ _ _ _ _ _ us hl => match us, hl with | [_, _, _], _ => rfl
theorem mk_all_moved {K : PySem.W.Frag} {h : Heap} {mg : Str → Option Value} {f : Addr} {oc : Value} {od an : Option Addr} {osl : Array (Option Value)} {kV doc pm cdv ct : Value} (X : K.In h) (G : h.Ns mainGlobals mg) (a : PySem.W.nsIn K mainGlobals "all_moved" = some (some (.ref f))) (l : K.lookup f = some ⟨oc, od, .func (PySem.W.fnOf "all_moved" "all_moved" (defArgs s_all_moved) (defBody s_all_moved) (defScope s_all_moved) .none kV doc pm an cdv ct), osl⟩) (c : PySem.W.codeIn K cdv "all_moved" = true) (k : PySem.W.keepIn K (.ref f) = true) : Nonempty (DefF K mg "all_moved" s_all_moved p_all_moved) :=
  def_mk X G a l c k fun _ _ _ _ _ _ us hl => match us, hl with | [_, _, _], _ => rfl
theorem mk_in_reach {K : PySem.W.Frag} {h : Heap} {mg : Str → Option Value} {f : Addr} {oc : Value} {od an : Option Addr} {osl : Array (Option Value)} {kV doc pm cdv ct : Value} (X : K.In h) (G : h.Ns mainGlobals mg) (a : PySem.W.nsIn K mainGlobals "in_reach" = some (some (.ref f))) (l : K.lookup f = some ⟨oc, od, .func (PySem.W.fnOf "in_reach" "in_reach" (defArgs s_in_reach) (defBody s_in_reach) (defScope s_in_reach) .none kV doc pm an cdv ct), osl⟩) (c : PySem.W.codeIn K cdv "in_reach" = true) (k : PySem.W.keepIn K (.ref f) = true) : Nonempty (DefF K mg "in_reach" s_in_reach p_in_reach) :=
  def_mk X G a l c k fun _ _ _ _ _ _ us hl => match us, hl with | [_, _], _ => rfl
theorem mk_need_reached {K : PySem.W.Frag} {h : Heap} {mg : Str → Option Value} {f : Addr} {oc : Value} {od an : Option Addr} {osl : Array (Option Value)} {kV doc pm cdv ct : Value} (X : K.In h) (G : h.Ns mainGlobals mg) (a : PySem.W.nsIn K mainGlobals "need_reached" = some (some (.ref f))) (l : K.lookup f = some ⟨oc, od, .func (PySem.W.fnOf "need_reached" "need_reached" (defArgs s_need_reached) (defBody s_need_reached) (defScope s_need_reached) .none kV doc pm an cdv ct), osl⟩) (c : PySem.W.codeIn K cdv "need_reached" = true) (k : PySem.W.keepIn K (.ref f) = true) : Nonempty (DefF K mg "need_reached" s_need_reached p_need_reached) :=
  def_mk X G a l c k fun _ _ _ _ _ _ us hl => match us, hl with | [_, _], _ => rfl
theorem mk_is_reached {K : PySem.W.Frag} {h : Heap} {mg : Str → Option Value} {f : Addr} {oc : Value} {od an : Option Addr} {osl : Array (Option Value)} {kV doc pm cdv ct : Value} (X : K.In h) (G : h.Ns mainGlobals mg) (a : PySem.W.nsIn K mainGlobals "is_reached" = some (some (.ref f))) (l : K.lookup f = some ⟨oc, od, .func (PySem.W.fnOf "is_reached" "is_reached" (defArgs s_is_reached) (defBody s_is_reached) (defScope s_is_reached) .none kV doc pm an cdv ct), osl⟩) (c : PySem.W.codeIn K cdv "is_reached" = true) (k : PySem.W.keepIn K (.ref f) = true) : Nonempty (DefF K mg "is_reached" s_is_reached p_is_reached) :=
  def_mk X G a l c k fun _ _ _ _ _ _ us hl => match us, hl with | [_, _], _ => rfl
theorem mk_next_run {K : PySem.W.Frag} {h : Heap} {mg : Str → Option Value} {f : Addr} {oc : Value} {od an : Option Addr} {osl : Array (Option Value)} {kV doc pm cdv ct : Value} (X : K.In h) (G : h.Ns mainGlobals mg) (a : PySem.W.nsIn K mainGlobals "next_run" = some (some (.ref f))) (l : K.lookup f = some ⟨oc, od, .func (PySem.W.fnOf "next_run" "next_run" (defArgs s_next_run) (defBody s_next_run) (defScope s_next_run) .none kV doc pm an cdv ct), osl⟩) (c : PySem.W.codeIn K cdv "next_run" = true) (k : PySem.W.keepIn K (.ref f) = true) : Nonempty (DefF K mg "next_run" s_next_run p_next_run) :=
  def_mk X G a l c k fun _ _ _ _ _ _ us hl => match us, hl with | [_, _, _], _ => rfl
theorem mk_way {K : PySem.W.Frag} {h : Heap} {mg : Str → Option Value} {f : Addr} {oc : Value} {od an : Option Addr} {osl : Array (Option Value)} {kV doc pm cdv ct : Value} (X : K.In h) (G : h.Ns mainGlobals mg) (a : PySem.W.nsIn K mainGlobals "way" = some (some (.ref f))) (l : K.lookup f = some ⟨oc, od, .func (PySem.W.fnOf "way" "way" (defArgs s_way) (defBody s_way) (defScope s_way) .none kV doc pm an cdv ct), osl⟩) (c : PySem.W.codeIn K cdv "way" = true) (k : PySem.W.keepIn K (.ref f) = true) : Nonempty (DefF K mg "way" s_way p_way) :=
  def_mk X G a l c k fun _ _ _ _ _ _ us hl => match us, hl with | [_, _, _], _ => rfl
theorem mk_need_both {K : PySem.W.Frag} {h : Heap} {mg : Str → Option Value} {f : Addr} {oc : Value} {od an : Option Addr} {osl : Array (Option Value)} {kV doc pm cdv ct : Value} (X : K.In h) (G : h.Ns mainGlobals mg) (a : PySem.W.nsIn K mainGlobals "need_both" = some (some (.ref f))) (l : K.lookup f = some ⟨oc, od, .func (PySem.W.fnOf "need_both" "need_both" (defArgs s_need_both) (defBody s_need_both) (defScope s_need_both) .none kV doc pm an cdv ct), osl⟩) (c : PySem.W.codeIn K cdv "need_both" = true) (k : PySem.W.keepIn K (.ref f) = true) : Nonempty (DefF K mg "need_both" s_need_both p_need_both) :=
  def_mk X G a l c k fun _ _ _ _ _ _ us hl => match us, hl with | [_, _, _], _ => rfl
theorem mk_fewest {K : PySem.W.Frag} {h : Heap} {mg : Str → Option Value} {f : Addr} {oc : Value} {od an : Option Addr} {osl : Array (Option Value)} {kV doc pm cdv ct : Value} (X : K.In h) (G : h.Ns mainGlobals mg) (a : PySem.W.nsIn K mainGlobals "fewest" = some (some (.ref f))) (l : K.lookup f = some ⟨oc, od, .func (PySem.W.fnOf "fewest" "fewest" (defArgs s_fewest) (defBody s_fewest) (defScope s_fewest) .none kV doc pm an cdv ct), osl⟩) (c : PySem.W.codeIn K cdv "fewest" = true) (k : PySem.W.keepIn K (.ref f) = true) : Nonempty (DefF K mg "fewest" s_fewest p_fewest) :=
  def_mk X G a l c k fun _ _ _ _ _ _ us hl => match us, hl with | [_, _, _], _ => rfl
theorem mk__law_deck {K : PySem.W.Frag} {h : Heap} {mg : Str → Option Value} {f : Addr} {oc : Value} {od an : Option Addr} {osl : Array (Option Value)} {kV doc pm cdv ct : Value} (X : K.In h) (G : h.Ns mainGlobals mg) (a : PySem.W.nsIn K mainGlobals "_law_deck" = some (some (.ref f))) (l : K.lookup f = some ⟨oc, od, .func (PySem.W.fnOf "_law_deck" "_law_deck" (defArgs s__law_deck) (defBody s__law_deck) (defScope s__law_deck) .none kV doc pm an cdv ct), osl⟩) (c : PySem.W.codeIn K cdv "_law_deck" = true) (k : PySem.W.keepIn K (.ref f) = true) : Nonempty (DefF K mg "_law_deck" s__law_deck p__law_deck) :=
  def_mk X G a l c k fun _ _ _ _ _ _ us hl => match us, hl with | [_, _], _ => rfl
theorem mk__law_pick {K : PySem.W.Frag} {h : Heap} {mg : Str → Option Value} {f : Addr} {oc : Value} {od an : Option Addr} {osl : Array (Option Value)} {kV doc pm cdv ct : Value} (X : K.In h) (G : h.Ns mainGlobals mg) (a : PySem.W.nsIn K mainGlobals "_law_pick" = some (some (.ref f))) (l : K.lookup f = some ⟨oc, od, .func (PySem.W.fnOf "_law_pick" "_law_pick" (defArgs s__law_pick) (defBody s__law_pick) (defScope s__law_pick) .none kV doc pm an cdv ct), osl⟩) (c : PySem.W.codeIn K cdv "_law_pick" = true) (k : PySem.W.keepIn K (.ref f) = true) : Nonempty (DefF K mg "_law_pick" s__law_pick p__law_pick) :=
  def_mk X G a l c k fun _ _ _ _ _ _ us hl => match us, hl with | [_, _], _ => rfl
theorem mk__law_one {K : PySem.W.Frag} {h : Heap} {mg : Str → Option Value} {f : Addr} {oc : Value} {od an : Option Addr} {osl : Array (Option Value)} {kV doc pm cdv ct : Value} (X : K.In h) (G : h.Ns mainGlobals mg) (a : PySem.W.nsIn K mainGlobals "_law_one" = some (some (.ref f))) (l : K.lookup f = some ⟨oc, od, .func (PySem.W.fnOf "_law_one" "_law_one" (defArgs s__law_one) (defBody s__law_one) (defScope s__law_one) .none kV doc pm an cdv ct), osl⟩) (c : PySem.W.codeIn K cdv "_law_one" = true) (k : PySem.W.keepIn K (.ref f) = true) : Nonempty (DefF K mg "_law_one" s__law_one p__law_one) :=
  def_mk X G a l c k fun _ _ _ _ _ _ us hl => match us, hl with | [_, _], _ => rfl
theorem mk__law_tops {K : PySem.W.Frag} {h : Heap} {mg : Str → Option Value} {f : Addr} {oc : Value} {od an : Option Addr} {osl : Array (Option Value)} {kV doc pm cdv ct : Value} (X : K.In h) (G : h.Ns mainGlobals mg) (a : PySem.W.nsIn K mainGlobals "_law_tops" = some (some (.ref f))) (l : K.lookup f = some ⟨oc, od, .func (PySem.W.fnOf "_law_tops" "_law_tops" (defArgs s__law_tops) (defBody s__law_tops) (defScope s__law_tops) .none kV doc pm an cdv ct), osl⟩) (c : PySem.W.codeIn K cdv "_law_tops" = true) (k : PySem.W.keepIn K (.ref f) = true) : Nonempty (DefF K mg "_law_tops" s__law_tops p__law_tops) :=
  def_mk X G a l c k fun _ _ _ _ _ _ us hl => match us, hl with | [_, _, _], _ => rfl
theorem mk__law_reached {K : PySem.W.Frag} {h : Heap} {mg : Str → Option Value} {f : Addr} {oc : Value} {od an : Option Addr} {osl : Array (Option Value)} {kV doc pm cdv ct : Value} (X : K.In h) (G : h.Ns mainGlobals mg) (a : PySem.W.nsIn K mainGlobals "_law_reached" = some (some (.ref f))) (l : K.lookup f = some ⟨oc, od, .func (PySem.W.fnOf "_law_reached" "_law_reached" (defArgs s__law_reached) (defBody s__law_reached) (defScope s__law_reached) .none kV doc pm an cdv ct), osl⟩) (c : PySem.W.codeIn K cdv "_law_reached" = true) (k : PySem.W.keepIn K (.ref f) = true) : Nonempty (DefF K mg "_law_reached" s__law_reached p__law_reached) :=
  def_mk X G a l c k fun _ _ _ _ _ _ us hl => match us, hl with | [_, _], _ => rfl
theorem mk__law_out {K : PySem.W.Frag} {h : Heap} {mg : Str → Option Value} {f : Addr} {oc : Value} {od an : Option Addr} {osl : Array (Option Value)} {kV doc pm cdv ct : Value} (X : K.In h) (G : h.Ns mainGlobals mg) (a : PySem.W.nsIn K mainGlobals "_law_out" = some (some (.ref f))) (l : K.lookup f = some ⟨oc, od, .func (PySem.W.fnOf "_law_out" "_law_out" (defArgs s__law_out) (defBody s__law_out) (defScope s__law_out) .none kV doc pm an cdv ct), osl⟩) (c : PySem.W.codeIn K cdv "_law_out" = true) (k : PySem.W.keepIn K (.ref f) = true) : Nonempty (DefF K mg "_law_out" s__law_out p__law_out) :=
  def_mk X G a l c k fun _ _ _ _ _ _ us hl => match us, hl with | [_, _], _ => rfl
theorem mk__law_twice {K : PySem.W.Frag} {h : Heap} {mg : Str → Option Value} {f : Addr} {oc : Value} {od an : Option Addr} {osl : Array (Option Value)} {kV doc pm cdv ct : Value} (X : K.In h) (G : h.Ns mainGlobals mg) (a : PySem.W.nsIn K mainGlobals "_law_twice" = some (some (.ref f))) (l : K.lookup f = some ⟨oc, od, .func (PySem.W.fnOf "_law_twice" "_law_twice" (defArgs s__law_twice) (defBody s__law_twice) (defScope s__law_twice) .none kV doc pm an cdv ct), osl⟩) (c : PySem.W.codeIn K cdv "_law_twice" = true) (k : PySem.W.keepIn K (.ref f) = true) : Nonempty (DefF K mg "_law_twice" s__law_twice p__law_twice) :=
  def_mk X G a l c k fun _ _ _ _ _ _ us hl => match us, hl with | [_, _], _ => rfl
theorem mk__law_right {K : PySem.W.Frag} {h : Heap} {mg : Str → Option Value} {f : Addr} {oc : Value} {od an : Option Addr} {osl : Array (Option Value)} {kV doc pm cdv ct : Value} (X : K.In h) (G : h.Ns mainGlobals mg) (a : PySem.W.nsIn K mainGlobals "_law_right" = some (some (.ref f))) (l : K.lookup f = some ⟨oc, od, .func (PySem.W.fnOf "_law_right" "_law_right" (defArgs s__law_right) (defBody s__law_right) (defScope s__law_right) .none kV doc pm an cdv ct), osl⟩) (c : PySem.W.codeIn K cdv "_law_right" = true) (k : PySem.W.keepIn K (.ref f) = true) : Nonempty (DefF K mg "_law_right" s__law_right p__law_right) :=
  def_mk X G a l c k fun _ _ _ _ _ _ us hl => match us, hl with | [_, _, _], _ => rfl
theorem mk_law {K : PySem.W.Frag} {h : Heap} {mg : Str → Option Value} {f : Addr} {oc : Value} {od an : Option Addr} {osl : Array (Option Value)} {kV doc pm cdv ct : Value} (X : K.In h) (G : h.Ns mainGlobals mg) (a : PySem.W.nsIn K mainGlobals "law" = some (some (.ref f))) (l : K.lookup f = some ⟨oc, od, .func (PySem.W.fnOf "law" "law" (defArgs s_law) (defBody s_law) (defScope s_law) .none kV doc pm an cdv ct), osl⟩) (c : PySem.W.codeIn K cdv "law" = true) (k : PySem.W.keepIn K (.ref f) = true) : Nonempty (DefF K mg "law" s_law p_law) :=
  def_mk X G a l c k fun _ _ _ _ _ _ us hl => match us, hl with | [_], _ => rfl
theorem law_binds {K : PySem.W.Frag} {mg : Str → Option Value} (D : DefF K mg "law" s_law p_law) (s : Shared) (v : Value) : BindsTo s D.fd ⟨[v], []⟩ [("script", v)] := by
  obtain ⟨oc, od, kV, doc, pm, an, cdv, ct, osl, e, lk, hcd⟩ := D.fu.ex
  rw [e]
  exact .of_eq rfl
theorem all_mk {l : PySem.W.OpenLaw} {w : World} {K : PySem.W.Frag} {h : Heap} {mg : Str → Option Value} {fa : Addr} (X : K.In h) (G : h.Ns mainGlobals mg) (hfa : mg "law" = some (.ref fa))
    (d0 : Nonempty (DefF K mg "is_from" s_is_from p_is_from))
    (d1 : Nonempty (DefF K mg "is_ranges" s_is_ranges p_is_ranges))
    (d2 : Nonempty (DefF K mg "good_state" s_good_state p_good_state))
    (d3 : Nonempty (DefF K mg "need_ranges" s_need_ranges p_need_ranges))
    (d4 : Nonempty (DefF K mg "need_state" s_need_state p_need_state))
    (d5 : Nonempty (DefF K mg "moved" s_moved p_moved))
    (d6 : Nonempty (DefF K mg "all_moved" s_all_moved p_all_moved))
    (d7 : Nonempty (DefF K mg "in_reach" s_in_reach p_in_reach))
    (d8 : Nonempty (DefF K mg "need_reached" s_need_reached p_need_reached))
    (d9 : Nonempty (DefF K mg "is_reached" s_is_reached p_is_reached))
    (d10 : Nonempty (DefF K mg "next_run" s_next_run p_next_run))
    (d11 : Nonempty (DefF K mg "way" s_way p_way))
    (d12 : Nonempty (DefF K mg "need_both" s_need_both p_need_both))
    (d13 : Nonempty (DefF K mg "fewest" s_fewest p_fewest))
    (d14 : Nonempty (DefF K mg "_law_deck" s__law_deck p__law_deck))
    (d15 : Nonempty (DefF K mg "_law_pick" s__law_pick p__law_pick))
    (d16 : Nonempty (DefF K mg "_law_one" s__law_one p__law_one))
    (d17 : Nonempty (DefF K mg "_law_tops" s__law_tops p__law_tops))
    (d18 : Nonempty (DefF K mg "_law_reached" s__law_reached p__law_reached))
    (d19 : Nonempty (DefF K mg "_law_out" s__law_out p__law_out))
    (d20 : Nonempty (DefF K mg "_law_twice" s__law_twice p__law_twice))
    (d21 : Nonempty (DefF K mg "_law_right" s__law_right p__law_right))
    (d22 : Nonempty (DefF K mg "law" s_law p_law))
    (c_LARGEST : ∃ t, mg "LARGEST" = some (.int 1000000 t))
    (c_MOST_LAMPS : ∃ t, mg "MOST_LAMPS" = some (.int 6 t))
    (z_abs : PySem.W.nsIn K mainGlobals "abs" = some none)
    (z_all : PySem.W.nsIn K mainGlobals "all" = some none)
    (z_bool : PySem.W.nsIn K mainGlobals "bool" = some none)
    (z_int : PySem.W.nsIn K mainGlobals "int" = some none)
    (z_isinstance : PySem.W.nsIn K mainGlobals "isinstance" = some none)
    (z_len : PySem.W.nsIn K mainGlobals "len" = some none)
    (z_max : PySem.W.nsIn K mainGlobals "max" = some none)
    (z_min : PySem.W.nsIn K mainGlobals "min" = some none)
    (z_range : PySem.W.nsIn K mainGlobals "range" = some none)
    (z_sorted : PySem.W.nsIn K mainGlobals "sorted" = some none)
    (z_sum : PySem.W.nsIn K mainGlobals "sum" = some none)
    (z_tuple : PySem.W.nsIn K mainGlobals "tuple" = some none)
    (z_zip : PySem.W.nsIn K mainGlobals "zip" = some none)
    : ∃ fd : FuncData, (∀ (s : Shared) (v : Value), BindsTo s fd ⟨[v], []⟩ [("script", v)]) ∧ ∀ base : Heap, K.In base → base.Ns mainGlobals mg → FnOk l.prog w K mg base (L2N.CX l.prog w) 8 fa fd ["script"] (liftSp K spLaw) := by
  obtain ⟨d0⟩ := d0
  obtain ⟨d1⟩ := d1
  obtain ⟨d2⟩ := d2
  obtain ⟨d3⟩ := d3
  obtain ⟨d4⟩ := d4
  obtain ⟨d5⟩ := d5
  obtain ⟨d6⟩ := d6
  obtain ⟨d7⟩ := d7
  obtain ⟨d8⟩ := d8
  obtain ⟨d9⟩ := d9
  obtain ⟨d10⟩ := d10
  obtain ⟨d11⟩ := d11
  obtain ⟨d12⟩ := d12
  obtain ⟨d13⟩ := d13
  obtain ⟨d14⟩ := d14
  obtain ⟨d15⟩ := d15
  obtain ⟨d16⟩ := d16
  obtain ⟨d17⟩ := d17
  obtain ⟨d18⟩ := d18
  obtain ⟨d19⟩ := d19
  obtain ⟨d20⟩ := d20
  obtain ⟨d21⟩ := d21
  obtain ⟨d22⟩ := d22
  have T : Facts K mg := ⟨d0, d1, d2, d3, d4, d5, d6, d7, d8, d9, d10, d11, d12, d13, d14, d15, d16, d17, d18, d19, d20, d21, d22, c_LARGEST, c_MOST_LAMPS, PySem.W.mg_none_of X G z_abs, PySem.W.mg_none_of X G z_all, PySem.W.mg_none_of X G z_bool, PySem.W.mg_none_of X G z_int, PySem.W.mg_none_of X G z_isinstance, PySem.W.mg_none_of X G z_len, PySem.W.mg_none_of X G z_max, PySem.W.mg_none_of X G z_min, PySem.W.mg_none_of X G z_range, PySem.W.mg_none_of X G z_sorted, PySem.W.mg_none_of X G z_sum, PySem.W.mg_none_of X G z_tuple, PySem.W.mg_none_of X G z_zip⟩
  have e := hfa.symm.trans T.law.g
  cases e
  exact ⟨T.law.fd, law_binds T.law, fun base _ _ => ok_law T⟩
end Lw
open PySem PySem.W PyProof.Rows
set_option maxHeartbeats 0 in
theorem PySem.Challenge.cw_oneremote_k20_whole_lamps_that_are_left_holds : PySem.Challenge.rw_oneremote_k20_whole_lamps_that_are_left.Holds := by
  w_on; o_law; k_head; (case hw => w_witness2)
  k_fill
  refine DL.walk_D (l := PySem.Challenge.rw_oneremote_k20_whole_lamps_that_are_left) (k := 8) (x := "script") rfl rfl ⟨rfl, by decide, by decide⟩ (fun w h Y => PySem.W.kIn_of Y) ?F
  case F =>
    intro w mg fa h KX G XL hmg
    refine' Lw.all_mk KX G hmg (Lw.mk_is_from KX G ?a0 ?l0 ?c0 ?k0) (Lw.mk_is_ranges KX G ?a1 ?l1 ?c1 ?k1) (Lw.mk_good_state KX G ?a2 ?l2 ?c2 ?k2) (Lw.mk_need_ranges KX G ?a3 ?l3 ?c3 ?k3) (Lw.mk_need_state KX G ?a4 ?l4 ?c4 ?k4) (Lw.mk_moved KX G ?a5 ?l5 ?c5 ?k5) (Lw.mk_all_moved KX G ?a6 ?l6 ?c6 ?k6) (Lw.mk_in_reach KX G ?a7 ?l7 ?c7 ?k7) (Lw.mk_need_reached KX G ?a8 ?l8 ?c8 ?k8) (Lw.mk_is_reached KX G ?a9 ?l9 ?c9 ?k9) (Lw.mk_next_run KX G ?a10 ?l10 ?c10 ?k10) (Lw.mk_way KX G ?a11 ?l11 ?c11 ?k11) (Lw.mk_need_both KX G ?a12 ?l12 ?c12 ?k12) (Lw.mk_fewest KX G ?a13 ?l13 ?c13 ?k13) (Lw.mk__law_deck KX G ?a14 ?l14 ?c14 ?k14) (Lw.mk__law_pick KX G ?a15 ?l15 ?c15 ?k15) (Lw.mk__law_one KX G ?a16 ?l16 ?c16 ?k16) (Lw.mk__law_tops KX G ?a17 ?l17 ?c17 ?k17) (Lw.mk__law_reached KX G ?a18 ?l18 ?c18 ?k18) (Lw.mk__law_out KX G ?a19 ?l19 ?c19 ?k19) (Lw.mk__law_twice KX G ?a20 ?l20 ?c20 ?k20) (Lw.mk__law_right KX G ?a21 ?l21 ?c21 ?k21) (Lw.mk_law KX G ?a22 ?l22 ?c22 ?k22) (DL.loose_mk XL List.mem_cons_self) (DL.const_mk KX G ?v_MOST_LAMPS) ?z_abs ?z_all ?z_bool ?z_int ?z_isinstance ?z_len ?z_max ?z_min ?z_range ?z_sorted ?z_sum ?z_tuple ?z_zip
    (case a0 => k_is); (case l0 => k_is); (case c0 => k_is); (case k0 => k_is); (case a1 => k_is); (case l1 => k_is); (case c1 => k_is); (case k1 => k_is)
    (case a2 => k_is); (case l2 => k_is); (case c2 => k_is); (case k2 => k_is); (case a3 => k_is); (case l3 => k_is); (case c3 => k_is); (case k3 => k_is)
    (case a4 => k_is); (case l4 => k_is); (case c4 => k_is); (case k4 => k_is); (case a5 => k_is); (case l5 => k_is); (case c5 => k_is); (case k5 => k_is)
    (case a6 => k_is); (case l6 => k_is); (case c6 => k_is); (case k6 => k_is); (case a7 => k_is); (case l7 => k_is); (case c7 => k_is); (case k7 => k_is)
    (case a8 => k_is); (case l8 => k_is); (case c8 => k_is); (case k8 => k_is); (case a9 => k_is); (case l9 => k_is); (case c9 => k_is); (case k9 => k_is)
    (case a10 => k_is); (case l10 => k_is); (case c10 => k_is); (case k10 => k_is); (case a11 => k_is); (case l11 => k_is); (case c11 => k_is); (case k11 => k_is)
    (case a12 => k_is); (case l12 => k_is); (case c12 => k_is); (case k12 => k_is); (case a13 => k_is); (case l13 => k_is); (case c13 => k_is); (case k13 => k_is)
    (case a14 => k_is); (case l14 => k_is); (case c14 => k_is); (case k14 => k_is); (case a15 => k_is); (case l15 => k_is); (case c15 => k_is); (case k15 => k_is)
    (case a16 => k_is); (case l16 => k_is); (case c16 => k_is); (case k16 => k_is); (case a17 => k_is); (case l17 => k_is); (case c17 => k_is); (case k17 => k_is)
    (case a18 => k_is); (case l18 => k_is); (case c18 => k_is); (case k18 => k_is); (case a19 => k_is); (case l19 => k_is); (case c19 => k_is); (case k19 => k_is)
    (case a20 => k_is); (case l20 => k_is); (case c20 => k_is); (case k20 => k_is); (case a21 => k_is); (case l21 => k_is); (case c21 => k_is); (case k21 => k_is)
    (case a22 => k_is); (case l22 => k_is); (case c22 => k_is); (case k22 => k_is); (case v_MOST_LAMPS => k_is); (case z_abs => k_is); (case z_all => k_is); (case z_bool => k_is)
    (case z_int => k_is); (case z_isinstance => k_is); (case z_len => k_is); (case z_max => k_is); (case z_min => k_is); (case z_range => k_is); (case z_sorted => k_is); (case z_sum => k_is)
    (case z_tuple => k_is); (case z_zip => k_is)
