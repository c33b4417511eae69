import PyProof.Rows.All
import Wide.All
import OpenK.AllK
import Wide.FinOn
import HandS.ForMost
import KE.KeyNested
import KE.KDictKeyed
import HandS.TupAny
import HandS.TupMul
import HandS.IsInst
import HandS.Strs
import HandS.SetFor
import HandS.Conv
import HandS.Rev
import HandS.Iter
import HandS.Dict
import KE.KDictDisplayH
import KE.KDictList
import HandS.RevTup
import HandS.Head0
import HandS.Head1
import HandS.Head2
import HandS.HeadEnd
import HandS.HeadHook1
import HandS.HeadHook2
import HandS.Walk
import KE.SortData
import KE.KDictSum
import HandS.SortInts
import HandS.Style
import HandS.Text
import HandS.Steps
import HandS.Deep
import HandS.HotCalls
import HandS.ExcIs
import HandS.ExcCtx
import HandS.HeadHook3
import HandS.HeadHook4
import KE.KExcIs
import PySem.Challenge.RW_gatehands_k18_whole_written_and_read
set_option Elab.async false
set_option linter.all false
set_option maxRecDepth 100000
set_option maxHeartbeats 0
set_option autoImplicit false
/-! Abstract states over the hand layer: data, owned cells, what holds of a heap. -/
namespace Ab
open PySem PySem.Spec L2

/-- data that nobody changes -/
inductive D where
  | non | bl (b : Bool) | int (i : Int) | str (s : Str) | tup (xs : List D) | lst (xs : List D) | scr (K : PySem.W.Frag) (ns : List Int) | obj (C : Addr) (fs : List (Str × D)) | any | ref (a : Addr) | kd (kvs : List (Key × D)) | nd (w : World) (kvs : List (NestedKey × D)) | xc (a dd : Addr) (fs : List (Str × D))
/-- a value: data; data that is only looked at here; a cell of one's own -/
inductive B where
  | dat (d : D) | vw (d : D) | own (k : Nat) | ty (n : String)
inductive Cell where
  | lst (bs : List B) | ins (C : Addr) (fs : List (Str × B)) | dct (w : World) (kvs : List (NestedKey × B)) | dk (kvs : List (Key × B)) | lk (ad : Addr) (od : Obj) (u : HO) (c : Cell) | tp (bs : List B)
/-- refusals -/
inductive XB where
  | gate (why : Str) (hand step : Int) | hand | many | two (w : List Int) | other | text (row : Int)
abbrev Mem := List (Option Cell)
abbrev Rho := List (Option B)
abbrev As := List (Option Addr)
inductive Res (α : Type) where
  | stuck | exc (x : XB) | ok (a : α) (M : Mem)
def Res.bind {α β : Type} : Res α → (α → Mem → Res β) → Res β
  | .stuck, _ => .stuck
  | .exc x, _ => .exc x
  | .ok a M, f => f a M
@[simp] theorem Res.bind_ok {α β : Type} (a : α) (M : Mem) (f : α → Mem → Res β) : (Res.ok a M).bind f = f a M := rfl
@[simp] theorem Res.bind_exc {α β : Type} (x : XB) (f : α → Mem → Res β) : (Res.exc x : Res α).bind f = .exc x := rfl
@[simp] theorem Res.bind_stuck {α β : Type} (f : α → Mem → Res β) : (Res.stuck : Res α).bind f = .stuck := rfl
theorem Res.bind_assoc {α β γ : Type} (r : Res α) (f : α → Mem → Res β) (g : β → Mem → Res γ) : (r.bind f).bind g = r.bind fun a M => (f a M).bind g := by cases r <;> rfl
abbrev Ev := Rho → Mem → Res B
abbrev Et := Rho → Mem → Res Bool
abbrev Ea := Rho → Mem → Res (List B)
inductive Out where
  | nx (ρ : Rho) | ret (b : B) | brk (ρ : Rho) | ct (ρ : Rho)
abbrev Es := Rho → Mem → Res Out

/-- a key as data -/
def toD : NestedKey → D
  | .none => .non
  | .num i => .int i
  | .text x => .str x
  | .tup ks => .tup (toDs ks)
where toDs : List NestedKey → List D
  | [] => []
  | k :: ks => toD k :: toDs ks
/-- a dict whose keys are tuples: for each key where it stands, and the value -/
def NdO (w : World) (a : Addr) (ks : List (NestedKey × Addr × V)) : HO := .ext fun h => (a == sysModules) = false ∧ ∃ xs : List (NestedKey × Addr × Value), Paired (fun p q => p.1 = q.1 ∧ p.2.1 = q.2.1 ∧ RelV p.2.2 q.2.2) ks xs ∧
  ∃ o es ep, h.get? a = some o ∧ o.ExactDict ∧ o.data = .dict es ep ∧ es.toList = xs.map fun x => (⟨x.1.hash w, .ref x.2.1, x.2.2⟩ : DictEntry)
/-! ### what data a value stands for -/
mutual
inductive Den (H : Hp) (T : Addr → Prop) : V → D → Prop
  | non : Den H T .non .non
  | bl (b : Bool) : Den H T (.bl b) (.bl b)
  | int (i : Int) : Den H T (.int i) (.int i)
  | str (x : Str) : Den H T (.str x) (.str x)
  | tup {a : Addr} {xs : List V} {ds : List D} : H a = some (.tup xs) → ¬ T a → Dens H T xs ds → Den H T (.ref a) (.tup ds)
  | lst {a : Addr} {xs : List V} {ds : List D} : H a = some (.lst xs) → ¬ T a → Dens H T xs ds → Den H T (.ref a) (.lst ds)
  | frz {K : PySem.W.Frag} {a : Addr} {o : Obj} {ns : List Int} : H a = some (.frz o (.lst (ns.map V.int))) → ¬ T a → Den H T (.ref a) (.scr K ns)
  | kls {K : PySem.W.Frag} {a : Addr} {ns : List Int} : (∀ H', SqL K H' a (ns.map V.int)) → Den H T (.ref a) (.scr K ns)
  | obj {a C dx : Addr} {ns : List Str} {xs : List V} {ds : List D} : H a = some (.ins C dx (ns.zip xs)) → ¬ T a → ns.length = ds.length → Dens H T xs ds → Den H T (.ref a) (.obj C (ns.zip ds))
  | any (v : V) : Den H T v .any
  | ref (a : Addr) : Den H T (.ref a) (.ref a)
  | kd {a : Addr} {ks : List Key} {xs : List V} {ds : List D} : H a = some (.dK (ks.zip xs)) → ¬ T a → ks.length = ds.length → Dens H T xs ds → Den H T (.ref a) (.kd (ks.zip ds))
  | nd {w : World} {a : Addr} {ks : List NestedKey} {ads : List Addr} {xs : List V} {ds : List D} : H a = some (NdO w a (ks.zip (ads.zip xs))) → ¬ T a → ks.length = ds.length → Dens H T (ads.map V.ref) (ks.map toD) → ks.Nodup → (∀ k ∈ ks, k.depth ≤ 8) → Dens H T xs ds → Den H T (.ref a) (.nd w (ks.zip ds))
  | xc {a dd : Addr} {ns : List Str} {xs : List V} {ds : List D} : H dd = some (.xd (ns.zip xs).reverse) → ¬ T dd → ns.length = ds.length → Dens H T xs ds → Den H T (.ref a) (.xc a dd (ns.zip ds))
inductive Dens (H : Hp) (T : Addr → Prop) : List V → List D → Prop
  | nil : Dens H T [] []
  | cons {v : V} {vs : List V} {d : D} {ds : List D} : Den H T v d → Dens H T vs ds → Dens H T (v :: vs) (d :: ds)
end
section
variable {H H' : Hp} {T T' : Addr → Prop}
mutual
theorem Den.mono (hk : ∀ a o, H a = some o → ¬ T a → H' a = some o ∧ ¬ T' a) : ∀ {v : V} {d : D}, Den H T v d → Den H' T' v d
  | _, _, .non => .non
  | _, _, .bl b => .bl b
  | _, _, .int i => .int i
  | _, _, .str x => .str x
  | _, _, .any v => .any v
  | _, _, .ref a => .ref a
  | _, _, .kd h n e r => .kd (hk _ _ h n).1 (hk _ _ h n).2 e (Dens.mono hk r)
  | _, _, .nd h n e q u v r => .nd (hk _ _ h n).1 (hk _ _ h n).2 e (Dens.mono hk q) u v (Dens.mono hk r)
  | _, _, .xc h n e r => .xc (hk _ _ h n).1 (hk _ _ h n).2 e (Dens.mono hk r)
  | _, _, .tup h n r => .tup (hk _ _ h n).1 (hk _ _ h n).2 (Dens.mono hk r)
  | _, _, .lst h n r => .lst (hk _ _ h n).1 (hk _ _ h n).2 (Dens.mono hk r)
  | _, _, .frz h n => .frz (hk _ _ h n).1 (hk _ _ h n).2
  | _, _, .kls h => .kls h
  | _, _, .obj h n e r => .obj (hk _ _ h n).1 (hk _ _ h n).2 e (Dens.mono hk r)
theorem Dens.mono (hk : ∀ a o, H a = some o → ¬ T a → H' a = some o ∧ ¬ T' a) : ∀ {vs : List V} {ds : List D}, Dens H T vs ds → Dens H' T' vs ds
  | _, _, .nil => .nil
  | _, _, .cons h r => .cons (Den.mono hk h) (Dens.mono hk r)
end
theorem Den.scr_sq {K : PySem.W.Frag} {ns : List Int} {v : V} (h : Den H T v (.scr K ns)) : ∃ a, v = .ref a ∧ SqL K H a (ns.map V.int) := by
  cases h with
  | frz h n => exact ⟨_, rfl, .inl (.inr ⟨_, h⟩)⟩
  | kls h => exact ⟨_, rfl, h H⟩
theorem Dens.length : ∀ {vs : List V} {ds : List D}, Dens H T vs ds → vs.length = ds.length
  | _, _, .nil => rfl
  | _, _, .cons _ r => by rw [List.length_cons, List.length_cons, Dens.length r]
theorem Dens.get : ∀ {vs : List V} {ds : List D} {i : Nat} {d : D}, Dens H T vs ds → ds[i]? = some d → ∃ v, vs[i]? = some v ∧ Den H T v d
  | _, _, 0, _, .cons h _, e => by
    have e' := Option.some.inj e
    subst e'
    exact ⟨_, rfl, h⟩
  | _, _, i + 1, _, .cons _ r, e => by
    have e' : (_ : List D)[i]? = some _ := e
    obtain ⟨v, h1, h2⟩ := Dens.get r e'
    exact ⟨v, h1, h2⟩
theorem Dens.getv : ∀ {vs : List V} {ds : List D} {i : Nat} {v : V}, Dens H T vs ds → vs[i]? = some v → ∃ d, ds[i]? = some d ∧ Den H T v d
  | _, _, 0, _, .cons h _, e => by
    have e' := Option.some.inj e
    subst e'
    exact ⟨_, rfl, h⟩
  | _, _, i + 1, _, .cons _ r, e => by
    have e' : (_ : List V)[i]? = some _ := e
    obtain ⟨v, h1, h2⟩ := Dens.getv r e'
    exact ⟨v, h1, h2⟩
theorem Dens.append : ∀ {vs ws : List V} {ds es : List D}, Dens H T vs ds → Dens H T ws es → Dens H T (vs ++ ws) (ds ++ es)
  | _, _, _, _, .nil, s => s
  | _, _, _, _, .cons h r, s => .cons h (Dens.append r s)
theorem Dens.take : ∀ {vs : List V} {ds : List D} (n : Nat), Dens H T vs ds → Dens H T (vs.take n) (ds.take n)
  | _, _, 0, _ => .nil
  | _, _, _ + 1, .nil => .nil
  | _, _, n + 1, .cons h r => .cons h (Dens.take n r)
theorem Dens.drop : ∀ {vs : List V} {ds : List D} (n : Nat), Dens H T vs ds → Dens H T (vs.drop n) (ds.drop n)
  | _, _, 0, r => r
  | _, _, _ + 1, .nil => .nil
  | _, _, n + 1, .cons _ r => Dens.drop n r
theorem Dens.ints : ∀ {vs : List V} {ns : List Int}, Dens H T vs (ns.map .int) → vs = ns.map V.int
  | _, [], .nil => rfl
  | _, n :: ns, .cons h r => by
    cases h
    rw [List.map_cons, Dens.ints r]
theorem Dens.of_ints : ∀ (ns : List Int), Dens H T (ns.map V.int) (ns.map .int)
  | [] => .nil
  | n :: ns => .cons (.int n) (Dens.of_ints ns)
theorem Dens.rev {vs : List V} {ds : List D} (h : Dens H T vs ds) : Dens H T vs.reverse ds.reverse := by
  induction vs generalizing ds with
  | nil => cases h; exact .nil
  | cons v vs ih =>
    cases h with
    | cons h r =>
      rw [List.reverse_cons, List.reverse_cons]
      exact (ih r).append (.cons h .nil)
end

/-! ### values -/
def RB (S : Addr → Prop) (as : As) (H : Hp) (v : V) : B → Prop
  | .dat d => Den H (fun a => S a ∨ some a ∈ as) v d
  | .vw d => Den H (fun a => some a ∈ as) v d
  | .own k => ∃ a, as[k]? = some (some a) ∧ v = .ref a
  | .ty n => v = .ty n
abbrev RBs (S : Addr → Prop) (as : As) (H : Hp) : List V → List B → Prop := Paired (RB S as H)
/-- from one heap to another: what nobody owns stays -/
structure Stp (S : Addr → Prop) (as : As) (H : Hp) (S' : Addr → Prop) (as' : As) (H' : Hp) : Prop where
  hk : ∀ a o, H a = some o → ¬ (S a ∨ some a ∈ as) → H' a = some o ∧ ¬ (S' a ∨ some a ∈ as')
  hv : ∀ a o, H a = some o → ¬ some a ∈ as → H' a = some o ∧ ¬ some a ∈ as'
  ho : ∀ (k : Nat) (a : Addr), as[k]? = some (some a) → as'[k]? = some (some a)
theorem Stp.same {S : Addr → Prop} {as as' : As} {H H' : Hp} (hv : ∀ a o, H a = some o → ¬ some a ∈ as → H' a = some o ∧ ¬ some a ∈ as') (ho : ∀ (k : Nat) (a : Addr), as[k]? = some (some a) → as'[k]? = some (some a)) : Stp S as H S as' H' :=
  ⟨fun a o h n => ⟨(hv a o h fun z => n (.inr z)).1, fun z => z.elim (fun z => n (.inl z)) (hv a o h fun z => n (.inr z)).2⟩, hv, ho⟩
section
variable {S S' : Addr → Prop} {as as' : As} {H H' : Hp}
theorem RB.mono (s : Stp S as H S' as' H') : ∀ {v : V} {b : B}, RB S as H v b → RB S' as' H' v b
  | v, .dat d, h => Den.mono s.hk h
  | v, .vw d, h => Den.mono s.hv h
  | v, .own k, ⟨a, e, r⟩ => ⟨a, s.ho k a e, r⟩
  | v, .ty n, h => h
theorem RBs.mono (s : Stp S as H S' as' H') {vs : List V} {bs : List B} (h : RBs S as H vs bs) : RBs S' as' H' vs bs := Paired.mapP h fun _ _ q => RB.mono s q
theorem RB.get {vs : List V} {bs : List B} {i : Nat} {b : B} (r : RBs S as H vs bs) (e : bs[i]? = some b) : ∃ v, vs[i]? = some v ∧ RB S as H v b := by
  induction r generalizing i with
  | nil => cases e
  | cons h t ih =>
    cases i with
    | zero =>
      have e' := Option.some.inj e
      subst e'
      exact ⟨_, rfl, h⟩
    | succ i => exact ih e
theorem RBs.length {vs : List V} {bs : List B} (r : RBs S as H vs bs) : vs.length = bs.length := Paired.length r
theorem RBs.append {vs ws : List V} {bs cs : List B} (r : RBs S as H vs bs) (q : RBs S as H ws cs) : RBs S as H (vs ++ ws) (bs ++ cs) := by
  induction r with
  | nil => exact q
  | cons h t ih => exact .cons h ih
theorem RBs.set {vs : List V} {bs : List B} {v : V} {b : B} (i : Nat) (r : RBs S as H vs bs) (q : RB S as H v b) : RBs S as H (vs.set i v) (bs.set i b) := by
  induction r generalizing i with
  | nil => exact .nil
  | cons h t ih =>
    cases i with
    | zero => exact .cons q t
    | succ i => exact .cons h (ih i)
end
/-- what a cell holds, by the object at its address; lk: a dict that a loop walks -/
def HCo (S : Addr → Prop) (as : As) (H : Hp) (a : Addr) (o : Option HO) : Cell → Prop
  | .lst bs => ∃ xs, o = some (.lst xs) ∧ RBs S as H xs bs
  | .ins C fs => ∃ dx xs, o = some (.ins C dx ((fs.map (·.1)).zip xs)) ∧ RBs S as H xs (fs.map (·.2))
  | .dct w kvs => ∃ (ads : List Addr) (vs : List V), o = some (NdO w a ((kvs.map (·.1)).zip (ads.zip vs))) ∧ Dens H (fun c => S c ∨ some c ∈ as) (ads.map V.ref) (kvs.map fun p => toD p.1) ∧ RBs S as H vs (kvs.map (·.2)) ∧ (kvs.map (·.1)).Nodup ∧ ∀ k ∈ kvs.map (·.1), k.depth ≤ 8
  | .dk kvs => ∃ vs, o = some (.dK ((kvs.map (·.1)).zip vs)) ∧ RBs S as H vs (kvs.map (·.2))
  | .lk ad od u c => a = ad ∧ o = some (.frz od u) ∧ HCo S as H a (some u) c
  | .tp bs => ∃ xs, o = some (.tup xs) ∧ RBs S as H xs bs
def HC (S : Addr → Prop) (as : As) (H : Hp) (a : Addr) (c : Cell) : Prop := HCo S as H a (H a) c
def mapC (g : B → B) : Cell → Cell
  | .lst bs => .lst (bs.map g)
  | .ins C fs => .ins C (fs.map fun p => (p.1, g p.2))
  | .dct w kvs => .dct w (kvs.map fun p => (p.1, g p.2))
  | .dk kvs => .dk (kvs.map fun p => (p.1, g p.2))
  | .lk ad od u c => .lk ad od u (mapC g c)
  | .tp bs => .tp (bs.map g)
def allC (p : B → Bool) : Cell → Bool
  | .lst bs => bs.all p
  | .ins _ fs => (fs.map (·.2)).all p
  | .dct _ kvs => (kvs.map (·.2)).all p
  | .dk kvs => (kvs.map (·.2)).all p
  | .lk _ _ _ c => allC p c
  | .tp bs => bs.all p
theorem map_fst {α : Type} (g : B → B) (fs : List (α × B)) : (fs.map fun p => (p.1, g p.2)).map (·.1) = fs.map (·.1) := by rw [List.map_map]; rfl
theorem map_snd {α : Type} (g : B → B) (fs : List (α × B)) : (fs.map fun p => (p.1, g p.2)).map (·.2) = (fs.map (·.2)).map g := by rw [List.map_map, List.map_map]; rfl
theorem RBs.map {S S' : Addr → Prop} {as as' : As} {H H' : Hp} {p : B → Bool} {g : B → B} (hg : ∀ v b, p b = true → RB S as H v b → RB S' as' H' v (g b)) : ∀ {vs : List V} {bs : List B}, bs.all p = true → RBs S as H vs bs → RBs S' as' H' vs (bs.map g)
  | _, _, _, .nil => .nil
  | _, _, h, .cons r t => by
    rw [List.all_cons, Bool.and_eq_true] at h
    exact .cons (hg _ _ h.1 r) (RBs.map hg h.2 t)
theorem HCo.map {S S' : Addr → Prop} {as as' : As} {H H' : Hp} {p : B → Bool} {g : B → B} (hg : ∀ v b, p b = true → RB S as H v b → RB S' as' H' v (g b)) (hd : ∀ a o, H a = some o → ¬ (S a ∨ some a ∈ as) → H' a = some o ∧ ¬ (S' a ∨ some a ∈ as')) {a : Addr} :
    ∀ {c : Cell} {o : Option HO}, allC p c = true → HCo S as H a o c → HCo S' as' H' a o (mapC g c)
  | .lst bs, _, h, ⟨xs, h1, r⟩ => ⟨xs, h1, RBs.map hg h r⟩
  | .ins C fs, _, h, ⟨dx, xs, h1, r⟩ => ⟨dx, xs, by rw [map_fst]; exact h1, by rw [map_snd]; exact RBs.map hg h r⟩
  | .dct w kvs, _, h, ⟨ads, vs, h1, d, r, n⟩ => ⟨ads, vs, by rw [map_fst]; exact h1, by rw [List.map_map]; exact d.mono hd, by rw [map_snd]; exact RBs.map hg h r, by rw [map_fst]; exact n⟩
  | .dk kvs, _, h, ⟨vs, h1, r⟩ => ⟨vs, by rw [map_fst]; exact h1, by rw [map_snd]; exact RBs.map hg h r⟩
  | .lk ad od u c, _, h, ⟨h1, h2, r⟩ => ⟨h1, h2, HCo.map hg hd (c := c) h r⟩
  | .tp bs, _, h, ⟨xs, h1, r⟩ => ⟨xs, h1, RBs.map hg h r⟩
theorem HC.map {S S' : Addr → Prop} {as as' : As} {H H' : Hp} {p : B → Bool} {g : B → B} (hg : ∀ v b, p b = true → RB S as H v b → RB S' as' H' v (g b)) (hd : ∀ a o, H a = some o → ¬ (S a ∨ some a ∈ as) → H' a = some o ∧ ¬ (S' a ∨ some a ∈ as')) {a : Addr} (ha : H' a = H a)
    {c : Cell} (h : allC p c = true) (r : HC S as H a c) : HC S' as' H' a (mapC g c) := by
  have q := HCo.map (a := a) hg hd h r
  unfold HC
  rw [ha]
  exact q
theorem allC_true : ∀ c : Cell, allC (fun _ => true) c = true
  | .lst bs => by simp [allC]
  | .ins C fs => by simp [allC]
  | .dct w kvs => by simp [allC]
  | .dk kvs => by simp [allC]
  | .lk ad od u c => allC_true c
  | .tp bs => by simp [allC]
theorem mapC_id : ∀ c : Cell, mapC id c = c
  | .lst bs => by simp [mapC]
  | .ins C fs => by simp [mapC]
  | .dct w kvs => by simp [mapC]
  | .dk kvs => by simp [mapC]
  | .lk ad od u c => congrArg (Cell.lk ad od u) (mapC_id c)
  | .tp bs => by simp [mapC]
theorem HC.mono {S S' : Addr → Prop} {as as' : As} {H H' : Hp} (s : Stp S as H S' as' H') {a : Addr} (ha : H' a = H a) {c : Cell} (h : HC S as H a c) : HC S' as' H' a c := by
  have q := HC.map (p := fun _ => true) (g := id) (fun v b _ r => RB.mono s r) s.hk ha (allC_true c) h
  rw [mapC_id] at q
  exact q

/-! ### the state -/
structure Gh where
  H0 : Hp
  S : Addr → Prop
  ow : As
  tmp : List (V × B)
  keep : List (Addr × HO)
/-- the cells -/
structure Cells (S : Addr → Prop) (as : As) (H : Hp) (M : Mem) : Prop where
  len : as.length = M.length
  cell : ∀ (k : Nat) (c : Cell), M[k]? = some (some c) → ∃ a : Addr, as[k]? = some (some a) ∧ HC S as H a c
  nd : ∀ (i j : Nat) (a : Addr), as[i]? = some (some a) → as[j]? = some (some a) → i = j
  dj : ∀ a, some a ∈ as → ¬ S a
  al : ∀ a, some a ∈ as → ∃ o, H a = some o
  dS : ∀ a, S a → ∃ o, H a = some o
structure Rep (G : Gh) (as : As) (H : Hp) (ρ : Rho) (M : Mem) (σ : St) : Prop where
  cs : Cells G.S as H M
  len : σ.length = ρ.length
  sl : ∀ (i : Nat) (b : B), ρ[i]? = some (some b) → ∃ v, σ[i]? = some (some v) ∧ RB G.S as H v b
  tp : ∀ p ∈ G.tmp, RB G.S as H p.1 p.2
  kp : ∀ p ∈ G.keep, H p.1 = some p.2 ∧ ¬ some p.1 ∈ as
  fr : ∀ a o, G.H0 a = some o → ¬ some a ∈ G.ow → H a = some o
  nw : ∀ a, some a ∈ as → some a ∈ G.ow ∨ G.H0 a = none
  ot : as.take G.ow.length = G.ow
/-- what stood at the entry and is not owned stands -/
def FrG (G : Gh) (H' : Hp) : Prop := ∀ a o, G.H0 a = some o → ¬ some a ∈ G.ow → H' a = some o
def Gh.push (G : Gh) (v : V) (b : B) : Gh := { G with tmp := (v, b) :: G.tmp }
def Gh.pushs (G : Gh) (l : List (V × B)) : Gh := { G with tmp := l ++ G.tmp }
section
variable {G : Gh} {as as' : As} {H H' : Hp} {ρ ρ' : Rho} {M M' : Mem} {σ σ' : St} {v : V} {b : B} {p : Addr} {o : HO} {c : Cell}
theorem Rep.push (R : Rep G as H ρ M σ) (h : RB G.S as H v b) : Rep (G.push v b) as H ρ M σ :=
  ⟨R.cs, R.len, R.sl, fun q hq => by
    rcases List.mem_cons.mp hq with rfl | hq
    · exact h
    · exact R.tp q hq, R.kp, R.fr, R.nw, R.ot⟩
theorem Rep.pop (R : Rep (G.push v b) as H ρ M σ) : Rep G as H ρ M σ := ⟨R.cs, R.len, R.sl, fun q hq => R.tp q (List.mem_cons_of_mem _ hq), R.kp, R.fr, R.nw, R.ot⟩
theorem Rep.top (R : Rep (G.push v b) as H ρ M σ) : RB G.S as H v b := R.tp (v, b) List.mem_cons_self
theorem Rep.ol (R : Rep G as H ρ M σ) : G.ow.length ≤ as.length := by
  have e := congrArg List.length R.ot
  rw [List.length_take] at e
  omega
/-- the heap goes on, the cells hold -/
theorem Rep.step (R : Rep G as H ρ M σ) (s : Stp G.S as H G.S as' H') (cs : Cells G.S as' H' M') (hn : ∀ a, some a ∈ as' → some a ∈ as ∨ H a = none) (ht : as'.take G.ow.length = G.ow) : Rep G as' H' ρ M' σ := by
  have hN : ∀ a, some a ∈ as' → some a ∈ G.ow ∨ G.H0 a = none := fun a ha => by
    rcases hn a ha with z | z
    · exact R.nw a z
    · cases q : G.H0 a with
      | none => exact .inr rfl
      | some o =>
        refine .inl (Classical.byContradiction fun n => ?_)
        rw [R.fr a o q n] at z
        cases z
  refine ⟨cs, R.len, fun i b e => ?_, fun q hq => RB.mono s (R.tp q hq), fun q hq => ?_, fun a o h n => ?_, hN, ht⟩
  · obtain ⟨v, h1, h2⟩ := R.sl i b e
    exact ⟨v, h1, RB.mono s h2⟩
  · obtain ⟨h1, h2⟩ := R.kp q hq
    exact s.hv _ _ h1 h2
  · have h1 := R.fr a o h n
    have h2 : ¬ some a ∈ as := fun z => by
      rcases R.nw a z with z | z
      · exact n z
      · rw [h] at z; cases z
    exact (s.hv a o h1 h2).1
theorem stp_upd (hp : H p = none) : Stp G.S as H G.S as (upd H p o) :=
  .same (fun a u h n => ⟨by rw [upd_ne (ne_of_none h hp)]; exact h, n⟩) fun _ _ h => h
theorem Cells.mono {S : Addr → Prop} (R : Cells S as H M) (s : Stp S as H S as H') (ha : ∀ a, some a ∈ as → H' a = H a) (hS : ∀ a, S a → H' a = H a) : Cells S as H' M :=
  ⟨R.len, fun k c e => by
    obtain ⟨a, h1, h2⟩ := R.cell k c e
    exact ⟨a, h1, HC.mono s (ha a (List.mem_of_getElem? h1)) h2⟩, R.nd, R.dj, fun a h => by rw [ha a h]; exact R.al a h, fun a h => by rw [hS a h]; exact R.dS a h⟩
/-- a new object that nobody will change -/
theorem Rep.laid (R : Rep G as H ρ M σ) (hp : H p = none) : Rep G as (upd H p o) ρ M σ := by
  have ne : ∀ a, (∃ o, H a = some o) → a ≠ p := fun a ⟨_, h⟩ => ne_of_none h hp
  exact R.step (stp_upd hp) (R.cs.mono (stp_upd (G := G) hp) (fun a h => upd_ne (ne a (R.cs.al a h))) fun a h => upd_ne (ne a (R.cs.dS a h))) (fun _ h => .inl h) R.ot
/-- it is not owned -/
theorem Rep.fresh (R : Rep G as H ρ M σ) (hp : H p = none) : ¬ (G.S p ∨ some p ∈ as) := fun z => by
  rcases z with z | z
  · obtain ⟨o, h⟩ := R.cs.dS p z
    rw [hp] at h; cases h
  · obtain ⟨o, h⟩ := R.cs.al p z
    rw [hp] at h; cases h
theorem stp_new (hp : H p = none) : Stp G.S as H G.S (as ++ [some p]) (upd H p o) :=
  .same (fun a u h n => ⟨by rw [upd_ne (ne_of_none h hp)]; exact h, fun z => by
    rcases List.mem_append.mp z with z | z
    · exact n z
    · have e : a = p := by simpa using z
      exact ne_of_none h hp e⟩) fun k a h => by
    rw [List.getElem?_append_left (List.getElem?_eq_some_iff.mp h).1]; exact h
/-- a new cell -/
theorem Rep.own (R : Rep G as H ρ M σ) (hp : H p = none) (hc : HC G.S (as ++ [some p]) (upd H p o) p c) : Rep G (as ++ [some p]) (upd H p o) ρ (M ++ [some c]) σ := by
  have ne : ∀ a, (∃ o, H a = some o) → a ≠ p := fun a ⟨_, h⟩ => ne_of_none h hp
  have nin : ¬ some p ∈ as := fun z => R.fresh hp (.inr z)
  refine R.step (stp_new hp) ⟨?_, fun k c' e => ?_, fun i j a e1 e2 => ?_, fun a h => ?_, fun a h => ?_, fun a h => ?_⟩ (fun a h => ?_) (by rw [List.take_append_of_le_length R.ol]; exact R.ot)
  · rw [List.length_append, List.length_append, R.cs.len]; rfl
  · by_cases hk : k < M.length
    · rw [List.getElem?_append_left hk] at e
      obtain ⟨a, h1, h2⟩ := R.cs.cell k c' e
      refine ⟨a, by rw [List.getElem?_append_left (by rw [R.cs.len]; exact hk)]; exact h1, HC.mono (stp_new (G := G) hp) (upd_ne (ne a (R.cs.al a (List.mem_of_getElem? h1)))) h2⟩
    · rw [List.getElem?_append_right (Nat.le_of_not_lt hk)] at e
      have hk' : k - M.length = 0 := by
        cases q : k - M.length with
        | zero => rfl
        | succ n => rw [q] at e; simp at e
      rw [hk'] at e
      have e' : some c = some c' := Option.some.inj e
      cases e'
      refine ⟨p, ?_, hc⟩
      rw [List.getElem?_append_right (by rw [R.cs.len]; exact Nat.le_of_not_lt hk), R.cs.len, hk']
      rfl
  · have get : ∀ (k : Nat) (a : Addr), (as ++ [some p])[k]? = some (some a) → (as[k]? = some (some a)) ∨ (k = as.length ∧ a = p) := fun k a e => by
      by_cases hk : k < as.length
      · rw [List.getElem?_append_left hk] at e; exact .inl e
      · rw [List.getElem?_append_right (Nat.le_of_not_lt hk)] at e
        cases q : k - as.length with
        | zero =>
          rw [q] at e
          have e' : p = a := by simpa using e
          exact .inr ⟨by omega, e'.symm⟩
        | succ n => rw [q] at e; simp at e
    rcases get i a e1 with f1 | ⟨f1, r1⟩ <;> rcases get j a e2 with f2 | ⟨f2, r2⟩
    · exact R.cs.nd i j a f1 f2
    · exact (nin (by rw [← r2]; exact List.mem_of_getElem? f1)).elim
    · exact (nin (by rw [← r1]; exact List.mem_of_getElem? f2)).elim
    · rw [f1, f2]
  · rcases List.mem_append.mp h with z | z
    · exact R.cs.dj a z
    · have e : a = p := by simpa using z
      subst e
      exact fun z => R.fresh hp (.inl z)
  · rcases List.mem_append.mp h with z | z
    · rw [upd_ne (ne a (R.cs.al a z))]; exact R.cs.al a z
    · have e : a = p := by simpa using z
      subst e
      exact ⟨_, upd_same⟩
  · rw [upd_ne (ne a (R.cs.dS a h))]; exact R.cs.dS a h
  · rcases List.mem_append.mp h with z | z
    · exact .inl z
    · have e : a = p := by simpa using z
      subst e
      exact .inr hp
/-- a cell is written -/
theorem Rep.store {k : Nat} {a : Addr} (R : Rep G as H ρ M σ) (hk : as[k]? = some (some a)) (hc : HC G.S as (upd H a o) a c) : Rep G as (upd H a o) ρ (M.set k (some c)) σ := by
  have hin : some a ∈ as := List.mem_of_getElem? hk
  have s : Stp G.S as H G.S as (upd H a o) := .same (fun b u h n => ⟨by rw [upd_ne (fun z => n (by rw [z]; exact hin))]; exact h, n⟩) fun _ _ h => h
  refine R.step s ⟨by rw [List.length_set]; exact R.cs.len, fun j c' e => ?_, R.cs.nd, R.cs.dj, fun b h => ?_, fun b h => ?_⟩ (fun _ h => .inl h) R.ot
  · by_cases hj : j = k
    · subst hj
      have hlt : j < M.length := by rw [← R.cs.len]; exact (List.getElem?_eq_some_iff.mp hk).1
      rw [List.getElem?_set_self hlt] at e
      have e' : some c = some c' := Option.some.inj e
      cases e'
      exact ⟨a, hk, hc⟩
    · rw [List.getElem?_set_ne (Ne.symm hj)] at e
      obtain ⟨b, h1, h2⟩ := R.cs.cell j c' e
      exact ⟨b, h1, HC.mono s (upd_ne (fun z => hj (R.cs.nd j k a (by rw [← z]; exact h1) hk))) h2⟩
  · by_cases hb : b = a
    · subst hb; exact ⟨_, upd_same⟩
    · rw [upd_ne hb]; exact R.cs.al b h
  · have hb : b ≠ a := fun z => R.cs.dj a hin (by rw [← z]; exact h)
    rw [upd_ne hb]; exact R.cs.dS b h
theorem Rep.setSlot {i : Nat} (R : Rep G as H ρ M σ) (hb : RB G.S as H v b) : Rep G as H (ρ.set i (some b)) M (σ.set i (some v)) := by
  refine ⟨R.cs, by rw [List.length_set, List.length_set]; exact R.len, fun j b' e => ?_, R.tp, R.kp, R.fr, R.nw, R.ot⟩
  by_cases hj : j = i
  · subst hj
    by_cases hlt : j < ρ.length
    · rw [List.getElem?_set_self hlt] at e
      have e' : some b = some b' := Option.some.inj e
      cases e'
      exact ⟨v, by rw [List.getElem?_set_self (by rw [R.len]; exact hlt)], hb⟩
    · rw [List.getElem?_eq_none_iff.mpr (by rw [List.length_set]; exact Nat.le_of_not_lt hlt)] at e
      cases e
  · rw [List.getElem?_set_ne (Ne.symm hj)] at e ⊢
    exact R.sl j b' e
end
end Ab

namespace Ab
open PySem PySem.Spec L2

/-! ### what follows -/
def PoE (G : Gh) (ρ : Rho) (σ : St) (W : XB → Hp → Prop) (Q : VK) : Res B → Prop
  | .stuck => False
  | .exc x => ∀ H', FrG G H' → W x H'
  | .ok b M' => ∀ v as' H', Rep G as' H' ρ M' σ → RB G.S as' H' v b → Q v H'
def PoA (G : Gh) (ρ : Rho) (σ : St) (W : XB → Hp → Prop) (Q : List V → Hp → Prop) : Res (List B) → Prop
  | .stuck => False
  | .exc x => ∀ H', FrG G H' → W x H'
  | .ok bs M' => ∀ vs as' H', Rep G as' H' ρ M' σ → RBs G.S as' H' vs bs → Q vs H'
def PoT (G : Gh) (ρ : Rho) (σ : St) (W : XB → Hp → Prop) (Q : Bool → Hp → Prop) : Res Bool → Prop
  | .stuck => False
  | .exc x => ∀ H', FrG G H' → W x H'
  | .ok c M' => ∀ as' H', Rep G as' H' ρ M' σ → Q c H'
def PoO (G : Gh) (ρ : Rho) (σ : St) (W : XB → Hp → Prop) (Q : Option Int → Hp → Prop) : Res (Option Int) → Prop
  | .stuck => False
  | .exc x => ∀ H', FrG G H' → W x H'
  | .ok c M' => ∀ as' H', Rep G as' H' ρ M' σ → Q c H'
def PoS (G : Gh) (W : XB → Hp → Prop) (D : Ends) : Res Out → Prop
  | .stuck => False
  | .exc x => ∀ H', FrG G H' → W x H'
  | .ok (.nx ρ') M' => ∀ σ' as' H', Rep G as' H' ρ' M' σ' → D.nx σ' H'
  | .ok (.ret b) M' => ∀ v σ' ρ' as' H', Rep G as' H' ρ' M' σ' → RB G.S as' H' v b → D.rt v H'
  | .ok (.brk ρ') M' => ∀ σ' as' H', Rep G as' H' ρ' M' σ' → D.bk σ' H'
  | .ok (.ct ρ') M' => ∀ σ' as' H', Rep G as' H' ρ' M' σ' → D.ct σ' H'
def cE (W : XB → Hp → Prop) (e : Ev) : TE := fun σ H Q => ∃ G as ρ M, Rep G as H ρ M σ ∧ PoE G ρ σ W Q (e ρ M)
def cA (W : XB → Hp → Prop) (e : Ea) : TA := fun σ H Q => ∃ G as ρ M, Rep G as H ρ M σ ∧ PoA G ρ σ W Q (e ρ M)
def cT (W : XB → Hp → Prop) (e : Et) : TT := fun σ H Q => ∃ G as ρ M, Rep G as H ρ M σ ∧ PoT G ρ σ W Q (e ρ M)
abbrev Eo := Rho → Mem → Res (Option Int)
def cO (W : XB → Hp → Prop) (e : Eo) : TO := fun σ H Q => ∃ G as ρ M, Rep G as H ρ M σ ∧ PoO G ρ σ W Q (e ρ M)
def isD : B → Bool
  | .own _ => false
  | _ => true
def cS (W : XB → Hp → Prop) (n : Nat) (s : Es) : TS := fun D σ H => ∃ G as ρ M, (G.ow.length = n ∧ ∀ p ∈ G.tmp, isD p.2 = true) ∧ Rep G as H ρ M σ ∧ PoS G W D (s ρ M)

abbrev EV (X : Cx) (W : XB → Hp → Prop) (e : Expr) (t : Ev) : Prop := PE X e (cE W t)
abbrev EA (X : Cx) (W : XB → Hp → Prop) (e : List Expr) (t : Ea) : Prop := PA X e (cA W t)
abbrev ET (X : Cx) (W : XB → Hp → Prop) (e : Expr) (t : Et) : Prop := PT X e (cT W t)
abbrev EW (X : Cx) (W : XB → Hp → Prop) (e : Expr) (t : Et) : Prop := PW X e (cT W t)
abbrev EO (X : Cx) (W : XB → Hp → Prop) (e : Option Expr) (t : Eo) : Prop := PO X e (cO W t)
abbrev ES (X : Cx) (W : XB → Hp → Prop) (n : Nat) (s : Stmt) (t : Es) : Prop := PS X s (cS W n t)
abbrev ESs (X : Cx) (W : XB → Hp → Prop) (n : Nat) (s : List Stmt) (t : Es) : Prop := PSs X s (cS W n t)

section
variable {X : Cx} {W : XB → Hp → Prop}
theorem pe_imp {e : Expr} {t t' : TE} (h : PE X e t) (i : ∀ σ H Q, t' σ H Q → t σ H Q) : PE X e t' := ⟨fun pins s σ H Q I q => h.run pins s σ H Q I (i σ H Q q)⟩
theorem pt_imp {e : Expr} {t t' : TT} (h : PT X e t) (i : ∀ σ H Q, t' σ H Q → t σ H Q) : PT X e t' := ⟨fun pins s σ H Q I q => h.run pins s σ H Q I (i σ H Q q)⟩
theorem pw_imp {e : Expr} {t t' : TT} (h : PW X e t) (i : ∀ σ H Q, t' σ H Q → t σ H Q) : PW X e t' := ⟨fun w pins s σ H Q I q => h.run w pins s σ H Q I (i σ H Q q)⟩
theorem pa_imp {e : List Expr} {t t' : TA} (h : PA X e t) (i : ∀ σ H Q, t' σ H Q → t σ H Q) : PA X e t' := ⟨fun p pins s σ H Q I q => h.run p pins s σ H Q I (i σ H Q q)⟩
theorem po_imp {e : Option Expr} {t t' : TO} (h : PO X e t) (i : ∀ σ H Q, t' σ H Q → t σ H Q) : PO X e t' := ⟨fun pins s σ H Q I q => h.run pins s σ H Q I (i σ H Q q)⟩
theorem ps_imp {e : Stmt} {t t' : TS} (h : PS X e t) (i : ∀ D σ H, t' D σ H → t D σ H) : PS X e t' := ⟨fun pins s σ H D I q => h.run pins s σ H D I (i D σ H q)⟩
theorem pss_imp {e : List Stmt} {t t' : TS} (h : PSs X e t) (i : ∀ D σ H, t' D σ H → t D σ H) : PSs X e t' := ⟨fun pins s σ H D I q => h.run pins s σ H D I (i D σ H q)⟩

/-! ### by values -/
/-- a two-place operation by values -/
def V2 (W : XB → Hp → Prop) (r : R2) (f : B → B → Mem → Res B) : Prop := ∀ {G : Gh} {as : As} {H : Hp} {ρ : Rho} {M : Mem} {σ : St} {x y : B} {v u : V} {Q : VK},
  Rep G as H ρ M σ → RB G.S as H v x → RB G.S as H u y → PoE G ρ σ W Q (f x y M) → r v u H Q
def V1 (W : XB → Hp → Prop) (r : V → Hp → VK → Prop) (f : B → Mem → Res B) : Prop := ∀ {G : Gh} {as : As} {H : Hp} {ρ : Rho} {M : Mem} {σ : St} {x : B} {v : V} {Q : VK},
  Rep G as H ρ M σ → RB G.S as H v x → PoE G ρ σ W Q (f x M) → r v H Q
def VN (W : XB → Hp → Prop) (r : List V → Hp → VK → Prop) (f : List B → Mem → Res B) : Prop := ∀ {G : Gh} {as : As} {H : Hp} {ρ : Rho} {M : Mem} {σ : St} {xs : List B} {vs : List V} {Q : VK},
  Rep G as H ρ M σ → RBs G.S as H vs xs → PoE G ρ σ W Q (f xs M) → r vs H Q
def VM (W : XB → Hp → Prop) (r : V → List V → Hp → VK → Prop) (f : B → List B → Mem → Res B) : Prop := ∀ {G : Gh} {as : As} {H : Hp} {ρ : Rho} {M : Mem} {σ : St} {x : B} {v : V} {xs : List B} {vs : List V} {Q : VK},
  Rep G as H ρ M σ → RB G.S as H v x → RBs G.S as H vs xs → PoE G ρ σ W Q (f x xs M) → r v vs H Q
def eBin (f : B → B → Mem → Res B) (a b : Ev) : Ev := fun ρ M => (a ρ M).bind fun x M1 => (b ρ M1).bind fun y M2 => f x y M2
def eUn (f : B → Mem → Res B) (a : Ev) : Ev := fun ρ M => (a ρ M).bind f
def eApp (f : List B → Mem → Res B) (a : Ea) : Ev := fun ρ M => (a ρ M).bind f
def eMt (f : B → List B → Mem → Res B) (a : Ev) (b : Ea) : Ev := fun ρ M => (a ρ M).bind fun x M1 => (b ρ M1).bind fun y M2 => f x y M2
def eVar (i : Nat) : Ev := fun ρ M => match ρ[i]? with
  | some (some b) => .ok b M
  | _ => .stuck
def eC (d : D) : Ev := fun _ M => .ok (.dat d) M
def eTy (n : String) : Ev := fun _ M => .ok (.ty n) M
def aNil : Ea := fun _ M => .ok [] M
def aCons (a : Ev) (r : Ea) : Ea := fun ρ M => (a ρ M).bind fun x M1 => (r ρ M1).bind fun xs M2 => .ok (x :: xs) M2

section
variable {σ : St} {H : Hp} {Q : VK} {a b e : Expr} {ea eb : Ev} {es : List Expr} {eas : Ea}
theorem cE_bin {r : R2} {f : B → B → Mem → Res B} (hf : V2 W r f) (h : cE W (eBin f ea eb) σ H Q) : tOp r (cE W ea) (cE W eb) σ H Q := by
  obtain ⟨G, as, ρ, M, R, h⟩ := h
  refine ⟨G, as, ρ, M, R, ?_⟩
  unfold eBin at h
  cases q : ea ρ M with
  | stuck => rw [q] at h; exact h
  | exc x => rw [q] at h; exact h
  | ok x M1 =>
    rw [q] at h
    intro v as1 H1 R1 r1
    refine ⟨G.push v x, as1, ρ, M1, R1.push r1, ?_⟩
    have h' : PoE G ρ σ W Q ((eb ρ M1).bind fun y M2 => f x y M2) := h
    cases q2 : eb ρ M1 with
    | stuck => rw [q2] at h'; exact h'
    | exc x => rw [q2] at h'; exact h'
    | ok y M2 =>
      rw [q2] at h'
      intro u as2 H2 R2 r2
      exact hf R2.pop R2.top r2 h'
theorem cE_un {r : V → Hp → VK → Prop} {f : B → Mem → Res B} (hf : V1 W r f) (h : cE W (eUn f ea) σ H Q) : tUn r (cE W ea) σ H Q := by
  obtain ⟨G, as, ρ, M, R, h⟩ := h
  refine ⟨G, as, ρ, M, R, ?_⟩
  unfold eUn at h
  cases q : ea ρ M with
  | stuck => rw [q] at h; exact h
  | exc x => rw [q] at h; exact h
  | ok x M1 =>
    rw [q] at h
    intro v as1 H1 R1 r1
    exact hf R1 r1 h
theorem cE_app {r : List V → Hp → VK → Prop} {f : List B → Mem → Res B} (hf : VN W r f) (h : cE W (eApp f eas) σ H Q) : cA W eas σ H fun vs H1 => r vs H1 Q := by
  obtain ⟨G, as, ρ, M, R, h⟩ := h
  refine ⟨G, as, ρ, M, R, ?_⟩
  unfold eApp at h
  cases q : eas ρ M with
  | stuck => rw [q] at h; exact h
  | exc x => rw [q] at h; exact h
  | ok x M1 =>
    rw [q] at h
    intro v as1 H1 R1 r1
    exact hf R1 r1 h
theorem cE_mt {r : V → List V → Hp → VK → Prop} {f : B → List B → Mem → Res B} (hf : VM W r f) (h : cE W (eMt f ea eas) σ H Q) :
    cE W ea σ H fun x H1 => cA W eas σ H1 fun vs H2 => r x vs H2 Q := by
  obtain ⟨G, as, ρ, M, R, h⟩ := h
  refine ⟨G, as, ρ, M, R, ?_⟩
  unfold eMt at h
  cases q : ea ρ M with
  | stuck => rw [q] at h; exact h
  | exc x => rw [q] at h; exact h
  | ok x M1 =>
    rw [q] at h
    intro v as1 H1 R1 r1
    refine ⟨G.push v x, as1, ρ, M1, R1.push r1, ?_⟩
    have h' : PoE G ρ σ W Q ((eas ρ M1).bind fun y M2 => f x y M2) := h
    cases q2 : eas ρ M1 with
    | stuck => rw [q2] at h'; exact h'
    | exc x => rw [q2] at h'; exact h'
    | ok y M2 =>
      rw [q2] at h'
      intro u as2 H2 R2 r2
      exact hf R2.pop R2.top r2 h'
theorem ev_bin {r : R2} {f : B → B → Mem → Res B} {op : Operator} {pos : Pos} (ho : OpR X (binaryOp op) r) (hf : V2 W r f) (ha : EV X W a ea) (hb : EV X W b eb) : EV X W (.BinOp a op b pos) (eBin f ea eb) :=
  pe_imp (pe_op ho ha hb) fun _ _ _ h => cE_bin hf h
theorem ev_cmp {r : R2} {f : B → B → Mem → Res B} {op : CmpOp} {pos : Pos} (ho : OpR X (compareOp op) r) (hf : V2 W r f) (ha : EV X W a ea) (hb : EV X W b eb) (hm : behindInMarks op b = false) : EV X W (.Compare a [op] [b] pos) (eBin f ea eb) :=
  pe_imp (pe_cmpR ho ha hb hm) fun _ _ _ h => cE_bin hf h
theorem ev_un {r : V → Hp → VK → Prop} {f : B → Mem → Res B} {op : UnaryOp} {pos : Pos} (ho : UnR X (unaryOp op) r) (hf : V1 W r f) (ha : EV X W a ea) : EV X W (.UnaryOp op a pos) (eUn f ea) :=
  pe_imp (pe_un ho ha) fun _ _ _ h => cE_un hf h
theorem ev_ix {r : R2} {f : B → B → Mem → Res B} {pos : Pos} (ho : IxR X r) (hf : V2 W r f) (ha : EV X W a ea) (hb : EV X W b eb) (hs : PlainIx b := by exact fun _ _ => rfl) : EV X W (.Subscript a b pos) (eBin f ea eb) :=
  pe_imp (pe_ix ho ha hb hs) fun _ _ _ h => cE_bin hf h
theorem ev_var (i : Nat) {x : Str} {pos : Pos} (hN : X.N[i]? = some x := by rfl) (hv : Vis X.env.scope x := by first | exact Or.inl rfl | exact Or.inr (Or.inl rfl) | exact Or.inr (Or.inr rfl)) (hd : (x == ("__debug__" : Str)) = false := by decide) (hcd : (x == ("__classdict__" : Str)) = false := by decide) :
    EV X W (.Name x pos) (eVar i) := pe_imp (pe_var hN hv hd hcd) fun σ H Q h => by
  obtain ⟨G, as, ρ, M, R, h⟩ := h
  unfold eVar at h
  split at h
  · rename_i b q
    obtain ⟨v, h1, h2⟩ := R.sl i b q
    exact ⟨v, h1, h v as H R h2⟩
  · exact h.elim
theorem cE_C {d : D} {v : V} (hd : ∀ T, Den H T v d) (h : cE W (eC d) σ H Q) : tC v σ H Q := by
  obtain ⟨G, as, ρ, M, R, h⟩ := h
  exact h v as H R (hd _)
theorem ev_int {i : Int} {j : Nat} {pos : Pos} : EV X W (.Constant (.int i) j pos) (eC (.int i)) := pe_imp pe_int fun _ _ _ h => cE_C (fun _ => .int i) h
theorem ev_bl {b : Bool} {j : Nat} {pos : Pos} : EV X W (.Constant (.bool b) j pos) (eC (.bl b)) := pe_imp pe_bl fun _ _ _ h => cE_C (fun _ => .bl b) h
theorem ev_non {j : Nat} {pos : Pos} : EV X W (.Constant .none j pos) (eC .non) := pe_imp pe_non fun _ _ _ h => cE_C (fun _ => .non) h
theorem ev_str {x : Str} {j : Nat} {pos : Pos} : EV X W (.Constant (.str x) j pos) (eC (.str x)) := pe_imp pe_str fun _ _ _ h => cE_C (fun _ => .str x) h
/-- a constant of the module -/
theorem ev_glob {x : Str} {i : Int} {u : Value} {pos : Pos} (hg : Gl X x) (hm : X.mg x = some u) (r : RelV (.int i) u) (hd : (x == ("__debug__" : Str)) = false := by decide) : EV X W (.Name x pos) (eC (.int i)) :=
  pe_imp (pe_glob hg hm r hd) fun _ _ _ h => cE_C (fun _ => .int i) h
theorem ev_ty {x : Str} {n : String} {pos : Pos} (hg : Gl X x) (hm : X.mg x = none) (hv : bootBuiltins x = some (.type n)) (hn : x ≠ "__name__" := by decide) (hd : (x == ("__debug__" : Str)) = false := by decide) : EV X W (.Name x pos) (eTy n) :=
  pe_imp (pe_bltn (v := .ty n) hg hm hv rfl hn hd) fun σ H Q h => by
    obtain ⟨G, as, ρ, M, R, h⟩ := h
    exact h _ as H R rfl
theorem ea_nil : EA X W [] aNil := pa_imp pa_nil fun σ H Q h => by
  obtain ⟨G, as, ρ, M, R, h⟩ := h
  exact h [] as H R .nil
theorem ea_cons (ha : EV X W e ea) (hr : EA X W es eas) (hs : starEach (e :: es) X.env = (false, eval e X.env) :: starEach es X.env := by rfl) : EA X W (e :: es) (aCons ea eas) :=
  pa_imp (pa_cons ha hr hs) fun σ H Q h => by
    obtain ⟨G, as, ρ, M, R, h⟩ := h
    refine ⟨G, as, ρ, M, R, ?_⟩
    unfold aCons at h
    cases q : ea ρ M with
    | stuck => rw [q] at h; exact h
    | exc x => rw [q] at h; exact h
    | ok x M1 =>
      rw [q] at h
      intro v as1 H1 R1 r1
      refine ⟨G.push v x, as1, ρ, M1, R1.push r1, ?_⟩
      have h' : PoA G ρ σ W Q ((eas ρ M1).bind fun y M2 => .ok (x :: y) M2) := h
      cases q2 : eas ρ M1 with
      | stuck => rw [q2] at h'; exact h'
      | exc x => rw [q2] at h'; exact h'
      | ok y M2 =>
        rw [q2] at h'
        intro u as2 H2 R2 r2
        exact h' _ as2 H2 R2.pop (.cons R2.top r2)
/-- a built-in function, a built-in class, called -/
theorem ev_callB {r : List V → Hp → VK → Prop} {f : List B → Mem → Res B} {x : Str} {id : String} {p pos : Pos} (hc : CallR X (.builtin id) r) (hf : VN W r f) (hg : Gl X x) (hm : X.mg x = none) (hv : bootBuiltins x = some (.builtin id)) (ha : EA X W (e :: es) eas) (hn : x ≠ "__name__" := by decide) (hdb : (x == ("__debug__" : Str)) = false := by decide)
    (he : starEach (e :: es) X.env = (false, eval e X.env) :: starEach es X.env := by rfl) (hpl : (backTo pos (starEach es X.env)).any (·.1) = false := by rfl) : EV X W (.Call (.Name x p) (e :: es) [] pos) (eApp f eas) :=
  pe_imp (pe_callB hc hg hm hv ha hn hdb he hpl) fun _ _ _ h => cE_app hf h
theorem ev_callT {r : List V → Hp → VK → Prop} {f : List B → Mem → Res B} {x : Str} {T : String} {p pos : Pos} (hc : CallR X (.type T) r) (hf : VN W r f) (hg : Gl X x) (hm : X.mg x = none) (hv : bootBuiltins x = some (.type T)) (ha : EA X W (e :: es) eas) (hn : x ≠ "__name__" := by decide) (hdb : (x == ("__debug__" : Str)) = false := by decide)
    (he : starEach (e :: es) X.env = (false, eval e X.env) :: starEach es X.env := by rfl) (hpl : (backTo pos (starEach es X.env)).any (·.1) = false := by rfl) : EV X W (.Call (.Name x p) (e :: es) [] pos) (eApp f eas) :=
  pe_imp (pe_callTy hc hg hm hv ha hn hdb he hpl) fun _ _ _ h => cE_app hf h
end

/-! ### tests, and, or, not -/
section
variable {σ : St} {H : Hp} {a b c e : Expr} {ea eb : Ev} {ta tb : Et} {rest : List Expr} {pos : Pos}
def tV (a : Ev) : Et := fun ρ M => (a ρ M).bind fun x M1 => match x with
  | .dat (.bl c) => .ok c M1
  | _ => .stuck
def tNt (a : Et) : Et := fun ρ M => (a ρ M).bind fun c M1 => .ok (!c) M1
def tAn (a b : Et) : Et := fun ρ M => (a ρ M).bind fun c M1 => if c = true then b ρ M1 else .ok false M1
def tOrr (a b : Et) : Et := fun ρ M => (a ρ M).bind fun c M1 => if c = true then .ok true M1 else b ρ M1
def eOfT (a : Et) : Ev := fun ρ M => (a ρ M).bind fun c M1 => .ok (.dat (.bl c)) M1
def eIf (c : Et) (a b : Ev) : Ev := fun ρ M => (c ρ M).bind fun k M1 => if k = true then a ρ M1 else b ρ M1
theorem et_val (h : EV X W e ea) (he : ∀ whole, isTrue e X.env whole = (do let v ← whole; standAt e.pos; holding [v] (truthy v)) := by intro _; rfl) : ET X W e (tV ea) :=
  pt_imp (pt_val h he) fun σ H Q h => by
    obtain ⟨G, as, ρ, M, R, h⟩ := h
    refine ⟨G, as, ρ, M, R, ?_⟩
    unfold tV at h
    cases q : ea ρ M with
    | stuck => rw [q] at h; exact h
    | exc x => rw [q] at h; exact h
    | ok x M1 =>
      rw [q] at h
      intro v as1 H1 R1 r1
      simp only [Res.bind_ok] at h
      split at h
      · cases r1
        exact ⟨_, rfl, h as1 H1 R1⟩
      · exact h.elim
theorem et_of {t : TE} (h : PT X e (tTest t)) (i : ∀ σ H Q, cE W ea σ H Q → t σ H Q) : ET X W e (tV ea) :=
  pt_imp h fun σ H Q h => by
    obtain ⟨G, as, ρ, M, R, h⟩ := h
    refine i _ _ _ ⟨G, as, ρ, M, R, ?_⟩
    unfold tV at h
    cases q : ea ρ M with
    | stuck => rw [q] at h; exact h
    | exc x => rw [q] at h; exact h
    | ok x M1 =>
      rw [q] at h
      intro v as1 H1 R1 r1
      simp only [Res.bind_ok] at h
      split at h
      · cases r1
        exact ⟨_, rfl, h as1 H1 R1⟩
      · exact h.elim
theorem et_cmp {r : R2} {f : B → B → Mem → Res B} {op : CmpOp} (ho : OpR X (compareOp op) r) (hf : V2 W r f) (ha : EV X W a ea) (hb : EV X W b eb) (hm : behindInMarks op b = false) : ET X W (.Compare a [op] [b] pos) (tV (eBin f ea eb)) :=
  et_of (pt_cmpR ho ha hb hm) fun _ _ _ h => cE_bin hf h
theorem et_not (h : ET X W a ta) : ET X W (.UnaryOp .Not a pos) (tNt ta) :=
  pt_imp (pt_not h) fun σ H Q h => by
    obtain ⟨G, as, ρ, M, R, h⟩ := h
    refine ⟨G, as, ρ, M, R, ?_⟩
    unfold tNt at h
    cases q : ta ρ M with
    | stuck => rw [q] at h; exact h
    | exc x => rw [q] at h; exact h
    | ok x M1 =>
      rw [q] at h
      intro as1 H1 R1
      exact h as1 H1 R1
theorem ew_and1 (h : ET X W a ta) : EW X W (.BoolOp .And [a] pos) ta := pw_and1 h
theorem ew_or1 (h : ET X W a ta) : EW X W (.BoolOp .Or [a] pos) ta := pw_or1 h
theorem ew_and (ha : ET X W a ta) (hb : EW X W (.BoolOp .And (b :: rest) pos) tb) : EW X W (.BoolOp .And (a :: b :: rest) pos) (tAn ta tb) :=
  pw_imp (pw_and ha hb) fun σ H Q h => by
    obtain ⟨G, as, ρ, M, R, h⟩ := h
    refine ⟨G, as, ρ, M, R, ?_⟩
    unfold tAn at h
    cases q : ta ρ M with
    | stuck => rw [q] at h; exact h
    | exc x => rw [q] at h; exact h
    | ok x M1 =>
      rw [q] at h
      intro as1 H1 R1
      cases x with
      | true => rw [if_pos rfl]; exact ⟨G, as1, ρ, M1, R1, h⟩
      | false => rw [if_neg Bool.false_ne_true]; exact h as1 H1 R1
theorem ew_or (ha : ET X W a ta) (hb : EW X W (.BoolOp .Or (b :: rest) pos) tb) : EW X W (.BoolOp .Or (a :: b :: rest) pos) (tOrr ta tb) :=
  pw_imp (pw_or ha hb) fun σ H Q h => by
    obtain ⟨G, as, ρ, M, R, h⟩ := h
    refine ⟨G, as, ρ, M, R, ?_⟩
    unfold tOrr at h
    cases q : ta ρ M with
    | stuck => rw [q] at h; exact h
    | exc x => rw [q] at h; exact h
    | ok x M1 =>
      rw [q] at h
      intro as1 H1 R1
      cases x with
      | true => rw [if_pos rfl]; exact h as1 H1 R1
      | false => rw [if_neg Bool.false_ne_true]; exact ⟨G, as1, ρ, M1, R1, h⟩
/-- values that are truth values, as tests: for and, or, not as values -/
def boolE (a : Ev) : Prop := ∀ ρ M b M1, a ρ M = .ok b M1 → ∃ c, b = .dat (.bl c)
theorem ev_one {op : BoolOp} (h : EV X W a ea) : EV X W (.BoolOp op [a] pos) ea := pe_one h
def eAnd (a b : Ev) : Ev := fun ρ M => (a ρ M).bind fun x M1 => match x with
  | .dat (.bl true) => b ρ M1
  | .dat (.bl false) => .ok (.dat (.bl false)) M1
  | _ => .stuck
def eOr (a b : Ev) : Ev := fun ρ M => (a ρ M).bind fun x M1 => match x with
  | .dat (.bl true) => .ok (.dat (.bl true)) M1
  | .dat (.bl false) => b ρ M1
  | _ => .stuck
def eNot (a : Ev) : Ev := fun ρ M => (a ρ M).bind fun x M1 => match x with
  | .dat (.bl c) => .ok (.dat (.bl (!c))) M1
  | _ => .stuck
theorem ev_and (ha : EV X W a ea) (hb : EV X W (.BoolOp .And (b :: rest) pos) eb) : EV X W (.BoolOp .And (a :: b :: rest) pos) (eAnd ea eb) :=
  pe_imp (pe_and ha hb) fun σ H Q h => by
    obtain ⟨G, as, ρ, M, R, h⟩ := h
    refine ⟨G, as, ρ, M, R, ?_⟩
    unfold eAnd at h
    cases q : ea ρ M with
    | stuck => rw [q] at h; exact h
    | exc x => rw [q] at h; exact h
    | ok x M1 =>
      rw [q] at h
      intro v as1 H1 R1 r1
      simp only [Res.bind_ok] at h
      split at h
      · cases r1
        exact ⟨true, rfl, by rw [if_pos rfl]; exact ⟨G, as1, ρ, M1, R1, h⟩⟩
      · cases r1
        exact ⟨false, rfl, by rw [if_neg Bool.false_ne_true]; exact h _ as1 H1 R1 (Den.bl false)⟩
      · exact h.elim
theorem ev_or (ha : EV X W a ea) (hb : EV X W (.BoolOp .Or (b :: rest) pos) eb) : EV X W (.BoolOp .Or (a :: b :: rest) pos) (eOr ea eb) :=
  pe_imp (pe_or ha hb) fun σ H Q h => by
    obtain ⟨G, as, ρ, M, R, h⟩ := h
    refine ⟨G, as, ρ, M, R, ?_⟩
    unfold eOr at h
    cases q : ea ρ M with
    | stuck => rw [q] at h; exact h
    | exc x => rw [q] at h; exact h
    | ok x M1 =>
      rw [q] at h
      intro v as1 H1 R1 r1
      simp only [Res.bind_ok] at h
      split at h
      · cases r1
        exact ⟨true, rfl, by rw [if_pos rfl]; exact h _ as1 H1 R1 (Den.bl true)⟩
      · cases r1
        exact ⟨false, rfl, by rw [if_neg Bool.false_ne_true]; exact ⟨G, as1, ρ, M1, R1, h⟩⟩
      · exact h.elim
theorem ev_not (ha : EV X W a ea) : EV X W (.UnaryOp .Not a pos) (eNot ea) :=
  pe_imp (pe_not ha) fun σ H Q h => by
    obtain ⟨G, as, ρ, M, R, h⟩ := h
    refine ⟨G, as, ρ, M, R, ?_⟩
    unfold eNot at h
    cases q : ea ρ M with
    | stuck => rw [q] at h; exact h
    | exc x => rw [q] at h; exact h
    | ok x M1 =>
      rw [q] at h
      intro v as1 H1 R1 r1
      simp only [Res.bind_ok] at h
      split at h
      · cases r1
        exact ⟨_, rfl, h _ as1 H1 R1 (Den.bl _)⟩
      · exact h.elim
theorem ev_if (hc : ET X W c ta) (ha : EV X W a ea) (hb : EV X W b eb) : EV X W (.IfExp c a b pos) (eIf ta ea eb) :=
  pe_imp (pe_ifExp hc ha hb) fun σ H Q h => by
    obtain ⟨G, as, ρ, M, R, h⟩ := h
    refine ⟨G, as, ρ, M, R, ?_⟩
    unfold eIf at h
    cases q : ta ρ M with
    | stuck => rw [q] at h; exact h
    | exc x => rw [q] at h; exact h
    | ok x M1 =>
      rw [q] at h
      intro as1 H1 R1
      cases x with
      | true => rw [if_pos rfl]; exact ⟨G, as1, ρ, M1, R1, h⟩
      | false => rw [if_neg Bool.false_ne_true]; exact ⟨G, as1, ρ, M1, R1, h⟩
end
end
end Ab

namespace Ab
open PySem PySem.Spec L2

/-! ### data as the library's data, equality -/
mutual
def D.py : D → PyData
  | .non => .none
  | .bl b => .bool b
  | .int i => .int i
  | .str s => .str s
  | .tup xs => .tuple (pyL xs)
  | .lst xs => .list (pyL xs)
  | .scr _ _ => .none
  | .obj _ _ => .none
  | .xc _ _ _ => .none
  | .any => .none
  | .ref _ => .none
  | .kd _ => .none
  | .nd _ _ => .none
def pyL : List D → List PyData
  | [] => []
  | x :: xs => x.py :: pyL xs
end
mutual
def okD : D → Nat → Bool
  | .non, _ => true
  | .bl _, _ => true
  | .int _, _ => true
  | .str s, _ => PyData.strOk s
  | .tup xs, n + 1 => okL xs n
  | .lst xs, n + 1 => okL xs n
  | _, _ => false
def okL : List D → Nat → Bool
  | [], _ => true
  | x :: xs, n => okD x n && okL xs n
end
mutual
theorem ok_py : ∀ (d : D) (n : Nat), okD d n = true → d.py.canLay0 = true ∧ d.py.depth ≤ n
  | .non, _, _ => by simp [D.py, PyData.canLay0, PyData.depth]
  | .bl _, _, _ => by simp [D.py, PyData.canLay0, PyData.depth]
  | .int _, _, _ => by simp [D.py, PyData.canLay0, PyData.depth]
  | .str s, _, h => by
    simp only [okD] at h
    simp [D.py, PyData.canLay0, PyData.depth, h]
  | .tup xs, 0, h => by simp [okD] at h
  | .lst xs, 0, h => by simp [okD] at h
  | .tup xs, n + 1, h => by
    simp only [okD] at h
    have q := ok_pyL xs n h
    simp only [D.py, PyData.canLay0, PyData.depth]
    exact ⟨q.1, by omega⟩
  | .lst xs, n + 1, h => by
    simp only [okD] at h
    have q := ok_pyL xs n h
    simp only [D.py, PyData.canLay0, PyData.depth]
    exact ⟨q.1, by omega⟩
  | .scr _ _, _, h => by simp [okD] at h
  | .obj _ _, _, h => by simp [okD] at h
  | .xc _ _ _, _, h => by simp [okD] at h
  | .any, _, h => by simp [okD] at h
  | .ref _, _, h => by simp [okD] at h
  | .kd _, _, h => by simp [okD] at h
  | .nd _ _, _, h => by simp [okD] at h
theorem ok_pyL : ∀ (ds : List D) (n : Nat), okL ds n = true → PyData.canLayAll0 (pyL ds) = true ∧ PyData.depthAll (pyL ds) ≤ n
  | [], _, _ => by simp [pyL, PyData.canLayAll0, PyData.depthAll]
  | x :: xs, n, h => by
    simp only [okL, Bool.and_eq_true] at h
    have h1 := ok_py x n h.1
    have h2 := ok_pyL xs n h.2
    simp only [pyL, PyData.canLayAll0, PyData.depthAll, Bool.and_eq_true]
    exact ⟨⟨h1.1, h2.1⟩, by omega⟩
end
theorem ok_shaped {d : D} {n : Nat} (h : okD d n = true) (hn : n ≤ 64) : SeqAt.shaped d.py = true := by
  have q := ok_py d n h
  unfold SeqAt.shaped
  rw [q.1, Bool.true_and]
  exact decide_eq_true (by omega)
mutual
theorem den_dp {K : PySem.W.Frag} {H : Hp} {T : Addr → Prop} : ∀ {d : D} {v : V} {n : Nat}, okD d n = true → Den H T v d → Dp K H v d.py
  | .non, _, _, _, h => by cases h; exact .non
  | .bl _, _, _, _, h => by cases h; exact .bl _
  | .int _, _, _, _, h => by cases h; exact .int _
  | .str _, _, _, _, h => by cases h; exact .str _
  | .tup xs, _, 0, ok, h => by simp [okD] at ok
  | .lst xs, _, 0, ok, h => by simp [okD] at ok
  | .tup xs, _, n + 1, ok, h => by
    simp only [okD] at ok
    cases h with
    | tup h1 _ h2 => exact .tup (SqT.of h1) (den_dpL ok h2)
  | .lst xs, _, n + 1, ok, h => by
    simp only [okD] at ok
    cases h with
    | lst h1 _ h2 => exact .lst (SqL.of h1) (den_dpL ok h2)
  | .scr _ _, _, _, ok, _ => by simp [okD] at ok
  | .obj _ _, _, _, ok, _ => by simp [okD] at ok
  | .xc _ _ _, _, _, ok, _ => by simp [okD] at ok
  | .any, _, _, ok, _ => by simp [okD] at ok
  | .ref _, _, _, ok, _ => by simp [okD] at ok
  | .kd _, _, _, ok, _ => by simp [okD] at ok
  | .nd _ _, _, _, ok, _ => by simp [okD] at ok
theorem den_dpL {K : PySem.W.Frag} {H : Hp} {T : Addr → Prop} : ∀ {ds : List D} {vs : List V} {n : Nat}, okL ds n = true → Dens H T vs ds → DpAll K H vs (pyL ds)
  | [], _, _, _, h => by cases h; exact .nil
  | d :: ds, _, _, ok, h => by
    simp only [okL, Bool.and_eq_true] at ok
    cases h with
    | cons h1 h2 => exact .cons (den_dp ok.1 h1) (den_dpL ok.2 h2)
end
def eqD (d e : D) : Bool := PyData.eqv d.py e.py
def eqL (d e : List D) : Bool := PyData.eqvAll (pyL d) (pyL e)
@[simp] theorem eqD_int (i j : Int) : eqD (.int i) (.int j) = (i == j) := by simp [eqD, D.py, PyData.eqv]
@[simp] theorem eqD_str (i j : Str) : eqD (.str i) (.str j) = (i == j) := by simp [eqD, D.py, PyData.eqv]
@[simp] theorem eqD_bl (i j : Bool) : eqD (.bl i) (.bl j) = (i == j) := by simp [eqD, D.py, PyData.eqv]
@[simp] theorem eqD_tup (i j : List D) : eqD (.tup i) (.tup j) = eqL i j := by simp [eqD, eqL, D.py, PyData.eqv]
@[simp] theorem eqD_lst (i j : List D) : eqD (.lst i) (.lst j) = eqL i j := by simp [eqD, eqL, D.py, PyData.eqv]
@[simp] theorem eqL_nil : eqL [] [] = true := by simp [eqL, pyL, PyData.eqvAll]
@[simp] theorem eqL_cons (x y : D) (xs ys : List D) : eqL (x :: xs) (y :: ys) = (eqD x y && eqL xs ys) := by simp [eqD, eqL, pyL, PyData.eqvAll]
@[simp] theorem eqL_nc (y : D) (ys : List D) : eqL [] (y :: ys) = false := by simp [eqL, pyL, PyData.eqvAll]
@[simp] theorem eqL_cn (y : D) (ys : List D) : eqL (y :: ys) [] = false := by simp [eqL, pyL, PyData.eqvAll]
theorem eqD_self {d : D} {n : Nat} (h : okD d n = true) : eqD d d = true := SeqAt.eqv_refl d.py (ok_py d n h).1
theorem eqL_self {d : List D} {n : Nat} (h : okL d n = true) : eqL d d = true := by
  have q := eqD_self (d := .tup d) (n := n + 1) (by simpa [okD] using h)
  simpa using q
/-! no truth values in it -/
mutual
def nb : D → Bool
  | .non => true
  | .int _ => true
  | .str _ => true
  | .tup xs => nbL xs
  | .lst xs => nbL xs
  | _ => false
def nbL : List D → Bool
  | [] => true
  | x :: xs => nb x && nbL xs
end
mutual
theorem eqD_eq : ∀ (d e : D), nb d = true → nb e = true → eqD d e = true → d = e
  | .non, e, _, he, h => by cases e <;> simp_all [eqD, D.py, PyData.eqv, nb]
  | .int _, e, _, he, h => by cases e <;> simp_all [eqD, D.py, PyData.eqv, nb]
  | .str _, e, _, he, h => by cases e <;> simp_all [eqD, D.py, PyData.eqv, nb]
  | .tup xs, e, hd, he, h => by
    cases e with
    | tup ys =>
      simp only [nb] at hd he
      rw [eqD_tup] at h
      rw [eqL_eq xs ys hd he h]
    | _ => simp_all [eqD, D.py, PyData.eqv, nb]
  | .lst xs, e, hd, he, h => by
    cases e with
    | lst ys =>
      simp only [nb] at hd he
      rw [eqD_lst] at h
      rw [eqL_eq xs ys hd he h]
    | _ => simp_all [eqD, D.py, PyData.eqv, nb]
  | .bl _, _, hd, _, _ => by simp [nb] at hd
  | .scr _ _, _, hd, _, _ => by simp [nb] at hd
  | .obj _ _, _, hd, _, _ => by simp [nb] at hd
  | .xc _ _ _, _, hd, _, _ => by simp [nb] at hd
  | .any, _, hd, _, _ => by simp [nb] at hd
  | .ref _, _, hd, _, _ => by simp [nb] at hd
  | .kd _, _, hd, _, _ => by simp [nb] at hd
  | .nd _ _, _, hd, _, _ => by simp [nb] at hd
theorem eqL_eq : ∀ (d e : List D), nbL d = true → nbL e = true → eqL d e = true → d = e
  | [], [], _, _, _ => rfl
  | [], _ :: _, _, _, h => by simp at h
  | _ :: _, [], _, _, h => by simp at h
  | x :: xs, y :: ys, hd, he, h => by
    simp only [nbL, Bool.and_eq_true] at hd he
    rw [eqL_cons, Bool.and_eq_true] at h
    rw [eqD_eq x y hd.1 he.1 h.1, eqL_eq xs ys hd.2 he.2 h.2]
end

/-! ### reading -/
def isSc : D → Bool
  | .non => true
  | .bl _ => true
  | .int _ => true
  | .str _ => true
  | _ => false
/-- an element of data that is only looked at -/
def lo (d : D) : B := if isSc d = true then .dat d else .vw d
/-- all of them, where all are there -/
def optAll {α : Type} : List (Option α) → Option (List α)
  | [] => some []
  | some a :: r => match optAll r with
    | some l => some (a :: l)
    | none => none
  | none :: _ => none
theorem optAll_some {α : Type} : ∀ (l : List α), optAll (l.map some) = some l
  | [] => rfl
  | a :: l => by
    rw [List.map_cons]
    unfold optAll
    rw [optAll_some l]
/-- the data that a value stands for, cells looked through -/
def viewN (m : Nat) (M : Mem) : Nat → B → Option D
  | _, .dat d => some d
  | _, .vw d => some d
  | n + 1, .own k => if m ≤ k then (match M[k]? with
    | some (some (.lst bs)) => (optAll (bs.map (viewN m M n))).map .lst
    | some (some (.tp bs)) => (optAll (bs.map (viewN m M n))).map .tup
    | _ => none) else none
  | _, _ => none
abbrev view (M : Mem) : Nat → B → Option D := viewN 0 M
section
variable {S : Addr → Prop} {as : As} {H : Hp} {M : Mem}
theorem den_weak {T T' : Addr → Prop} (h : ∀ a, T' a → T a) {v : V} {d : D} (q : Den H T v d) : Den H T' v d := q.mono fun a o e n => ⟨e, fun z => n (h a z)⟩
theorem dens_weak {T T' : Addr → Prop} (h : ∀ a, T' a → T a) {v : List V} {d : List D} (q : Dens H T v d) : Dens H T' v d := q.mono fun a o e n => ⟨e, fun z => n (h a z)⟩
theorem den_sc {T T' : Addr → Prop} {v : V} {d : D} (hs : isSc d = true) (q : Den H T v d) : Den H T' v d := by
  cases q <;> first | (simp [isSc] at hs; done) | constructor
theorem rb_lo {v : V} {d : D} (q : Den H (fun a => some a ∈ as) v d) : RB S as H v (lo d) := by
  unfold lo
  by_cases h : isSc d = true
  · rw [if_pos h]; exact den_sc h q
  · rw [if_neg h]; exact q
theorem rb_dat {v : V} {d : D} (q : RB S as H v (.dat d)) : Den H (fun a => some a ∈ as) v d := den_weak (fun _ h => .inr h) q
theorem dens_of {f : B → D → Prop} : ∀ {vs : List V} {bs : List B} {ds : List D} {T : Addr → Prop}, RBs S as H vs bs → (∀ v b d, b ∈ bs → f b d → RB S as H v b → Den H T v d) → Paired f bs ds → Dens H T vs ds
  | _, _, _, _, .nil, _, .nil => .nil
  | _, _, _, _, .cons r t, h, .cons q u => .cons (h _ _ _ List.mem_cons_self q r) (dens_of t (fun v b d hb => h v b d (List.mem_cons_of_mem _ hb)) u)
theorem rbs_dat : ∀ {vs : List V} {ds : List D}, Dens H (fun a => S a ∨ some a ∈ as) vs ds → RBs S as H vs (ds.map .dat)
  | _, _, .nil => .nil
  | _, _, .cons h r => .cons h (rbs_dat r)
theorem of_rbs_dat : ∀ {vs : List V} {ds : List D}, RBs S as H vs (ds.map .dat) → Dens H (fun a => S a ∨ some a ∈ as) vs ds
  | _, [], .nil => .nil
  | _, d :: ds, .cons h r => .cons h (of_rbs_dat r)
theorem optAll_dens {T : Addr → Prop} {f : B → Option D} (h : ∀ b d v, f b = some d → RB S as H v b → Den H T v d) : ∀ {bs : List B} {ds : List D} {vs : List V}, optAll (bs.map f) = some ds → RBs S as H vs bs → Dens H T vs ds
  | [], _, _, e, r => by
    cases e
    cases r
    exact .nil
  | b :: bs, ds, vs, e, r => by
    cases r with
    | cons r1 r2 =>
      rw [List.map_cons] at e
      cases q : f b with
      | none => rw [q] at e; cases e
      | some d =>
        rw [q] at e
        unfold optAll at e
        cases q2 : optAll (bs.map f) with
        | none => rw [q2] at e; cases e
        | some l =>
          rw [q2] at e
          cases e
          exact .cons (h b d _ q r1) (optAll_dens h q2 r2)
theorem mem_take' {as : As} {m : Nat} {a : Addr} (h : some a ∈ as.take m) : some a ∈ as := List.mem_of_mem_take h
theorem viewN_ok {m : Nat} (C : Cells S as H M) : ∀ (n : Nat) (b : B) (d : D) (v : V), viewN m M n b = some d → RB S as H v b → Den H (fun a => some a ∈ as.take m) v d
  | 0, .dat d, d', v, h, r => by
    cases h
    exact den_weak (fun _ z => .inr (mem_take' z)) r
  | _ + 1, .dat d, d', v, h, r => by
    cases h
    exact den_weak (fun _ z => .inr (mem_take' z)) r
  | 0, .vw d, d', v, h, r => by
    cases h
    exact den_weak (fun _ z => mem_take' z) r
  | _ + 1, .vw d, d', v, h, r => by
    cases h
    exact den_weak (fun _ z => mem_take' z) r
  | 0, .own k, d', v, h, r => by cases h
  | n + 1, .own k, d', v, h, r => by
    unfold viewN at h
    split at h
    · rename_i hk
      split at h
      · rename_i bs e
        obtain ⟨a, h1, h2⟩ := C.cell k _ e
        obtain ⟨xs, h3, h4⟩ := h2
        obtain ⟨a', h5, rfl⟩ := r
        rw [h1] at h5
        cases h5
        have nin : ¬ some a ∈ as.take m := fun z => by
          obtain ⟨j, hj⟩ := List.mem_iff_getElem?.mp z
          have hlt : j < m := by
            have := (List.getElem?_eq_some_iff.mp hj).1
            rw [List.length_take] at this
            omega
          rw [List.getElem?_take_of_lt hlt] at hj
          have := C.nd k j a h1 hj
          omega
        cases q : optAll (bs.map (viewN m M n)) with
        | none => rw [q] at h; cases h
        | some ds =>
          rw [q] at h
          cases h
          exact .lst h3 nin (optAll_dens (fun b d v e r => viewN_ok C n b d v e r) q h4)
      · rename_i bs e
        obtain ⟨a, h1, h2⟩ := C.cell k _ e
        obtain ⟨xs, h3, h4⟩ := h2
        obtain ⟨a', h5, rfl⟩ := r
        rw [h1] at h5
        cases h5
        have nin : ¬ some a ∈ as.take m := fun z => by
          obtain ⟨j, hj⟩ := List.mem_iff_getElem?.mp z
          have hlt : j < m := by
            have := (List.getElem?_eq_some_iff.mp hj).1
            rw [List.length_take] at this
            omega
          rw [List.getElem?_take_of_lt hlt] at hj
          have := C.nd k j a h1 hj
          omega
        cases q : optAll (bs.map (viewN m M n)) with
        | none => rw [q] at h; cases h
        | some ds =>
          rw [q] at h
          cases h
          exact .tup h3 nin (optAll_dens (fun b d v e r => viewN_ok C n b d v e r) q h4)
      · cases h
    · cases h
  | 0, .ty _, _, _, h, _ => by cases h
  | _ + 1, .ty _, _, _, h, _ => by cases h
theorem view_ok (C : Cells S as H M) (n : Nat) (b : B) (d : D) (v : V) (e : view M n b = some d) (r : RB S as H v b) : Den H (fun _ => False) v d := den_weak (fun _ z => z.elim) (viewN_ok C n b d v e r)
end
end Ab

namespace Ab
open PySem PySem.Spec L2

def SZ : Nat := 16777216
theorem SZ_eq : sizeLine = SZ := sizeLine_eq
section
variable {X : Cx} {W : XB → Hp → Prop}

/-! ### ints -/
def vI (g : Int → Int → Option D) (x y : B) (M : Mem) : Res B := match x, y with
  | .dat (.int i), .dat (.int j) => (match g i j with
    | some d => .ok (.dat d) M
    | none => .stuck)
  | _, _ => .stuck
theorem v2_int {C : Int → Int → Prop} {g : Int → Int → V} {gd : Int → Int → Option D} (hg : ∀ i j d, gd i j = some d → C i j ∧ ∀ H T, Den H T (g i j) d) : V2 W (rI C g) (vI gd) := by
  intro G as H ρ M σ x y v u Q R r1 r2 h
  unfold vI at h
  split at h
  · rename_i i j
    cases r1
    cases r2
    split at h
    · rename_i d e
      obtain ⟨c, hd⟩ := hg i j d e
      exact ⟨i, j, rfl, rfl, c, h _ as H R (hd _ _)⟩
    · exact h.elim
  · exact h.elim
theorem v2_int0 {g : Int → Int → V} {gd : Int → Int → Option D} (hg : ∀ i j d, gd i j = some d → ∀ H T, Den H T (g i j) d) : V2 W (rI0 g) (vI gd) := by
  intro G as H ρ M σ x y v u Q R r1 r2 h
  unfold vI at h
  split at h
  · rename_i i j
    cases r1
    cases r2
    split at h
    · rename_i d e
      exact ⟨i, j, rfl, rfl, h _ as H R (hg i j d e _ _)⟩
    · exact h.elim
  · exact h.elim
def vSub := vI fun i j => some (.int (i - j))
def vMod := vI fun i j => if 0 < j then some (.int (i % j)) else none
def vDiv := vI fun i j => if 0 < j ∧ j < 1073741824 then some (.int (i / j)) else none
def vPow := vI fun i j => if 0 ≤ j ∧ j ≤ 1000000 ∧ i.natAbs < 2 ^ 64 then some (.int (i ^ j.toNat)) else none
def vLt := vI fun i j => some (.bl (decide (i < j)))
def vLe := vI fun i j => some (.bl (decide (i ≤ j)))
def vGt := vI fun i j => some (.bl (decide (j < i)))
def vGe := vI fun i j => some (.bl (decide (j ≤ i)))
theorem v2_sub : V2 W (rI0 fun i j => .int (i - j)) vSub := v2_int0 fun i j d h H T => by cases h; exact .int _
theorem v2_lt : V2 W (rI0 fun i j => .bl (decide (i < j))) vLt := v2_int0 fun i j d h H T => by cases h; exact .bl _
theorem v2_le : V2 W (rI0 fun i j => .bl (decide (i ≤ j))) vLe := v2_int0 fun i j d h H T => by cases h; exact .bl _
theorem v2_gt : V2 W (rI0 fun i j => .bl (decide (j < i))) vGt := v2_int0 fun i j d h H T => by cases h; exact .bl _
theorem v2_ge : V2 W (rI0 fun i j => .bl (decide (j ≤ i))) vGe := v2_int0 fun i j d h H T => by cases h; exact .bl _
theorem v2_mod : V2 W (rI (fun _ j => 0 < j) fun i j => .int (i % j)) vMod := v2_int fun i j d h => by
  split at h
  · cases h; exact ⟨by assumption, fun _ _ => .int _⟩
  · cases h
theorem v2_div : V2 W (rI CDiv fun i j => .int (i / j)) vDiv := v2_int fun i j d h => by
  split at h
  · cases h; exact ⟨by assumption, fun _ _ => .int _⟩
  · cases h
theorem v2_pow : V2 W (rI CPow fun i j => .int (i ^ j.toNat)) vPow := v2_int fun i j d h => by
  split at h
  · cases h; exact ⟨by assumption, fun _ _ => .int _⟩
  · cases h

/-! ### + and * -/
/-- the elements of a list or tuple, as values -/
def els (x : B) (M : Mem) : Option (List B) := match x with
  | .dat (.lst ds) => some (ds.map .dat)
  | .dat (.tup ds) => some (ds.map .dat)
  | .vw (.lst ds) => some (ds.map lo)
  | .vw (.tup ds) => some (ds.map lo)
  | .own k => match M[k]? with
    | some (some (.lst bs)) => some bs
    | _ => none
  | _ => none
theorem rbs_lo {S : Addr → Prop} {as : As} {H : Hp} : ∀ {vs : List V} {ds : List D}, Dens H (fun a => some a ∈ as) vs ds → RBs S as H vs (ds.map lo)
  | _, _, .nil => .nil
  | _, _, .cons h r => .cons (rb_lo h) (rbs_lo r)
theorem els_ok {S : Addr → Prop} {as : As} {H : Hp} {M : Mem} (C : Cells S as H M) {x : B} {v : V} {bs : List B} (h : els x M = some bs) (r : RB S as H v x) : ∃ a xs, v = .ref a ∧ (H a = some (.lst xs) ∨ H a = some (.tup xs)) ∧ RBs S as H xs bs := by
  unfold els at h
  split at h
  · cases h
    cases r with
    | lst h1 h2 h3 => exact ⟨_, _, rfl, .inl h1, rbs_dat h3⟩
  · cases h
    cases r with
    | tup h1 h2 h3 => exact ⟨_, _, rfl, .inr h1, rbs_dat h3⟩
  · cases h
    cases r with
    | lst h1 h2 h3 => exact ⟨_, _, rfl, .inl h1, rbs_lo h3⟩
  · cases h
    cases r with
    | tup h1 h2 h3 => exact ⟨_, _, rfl, .inr h1, rbs_lo h3⟩
  · split at h
    · rename_i k _ bs' e
      cases h
      obtain ⟨a, h1, xs, h2, h3⟩ := C.cell k _ e
      obtain ⟨a', h4, rfl⟩ := r
      rw [h1] at h4
      cases h4
      exact ⟨_, _, rfl, .inl h2, h3⟩
    · cases h
  · cases h
def vAdd (x y : B) (M : Mem) : Res B := match x, y with
  | .dat (.int i), .dat (.int j) => .ok (.dat (.int (i + j))) M
  | .dat (.str i), .dat (.str j) => if i.length + j.length ≤ SZ then .ok (.dat (.str (i ++ j))) M else .stuck
  | .dat (.tup a), .dat (.tup b) => if a.length + b.length ≤ SZ then .ok (.dat (.tup (a ++ b))) M else .stuck
  | .dat (.lst a), .dat (.lst b) => if a.length + b.length ≤ SZ then .ok (.dat (.lst (a ++ b))) M else .stuck
  | _, _ => .stuck
def rAdd (K : PySem.W.Frag) : R2 := fun x y H Q => rI0 (fun i j => .int (i + j)) x y H Q ∨ (∃ i j, x = .str i ∧ y = .str j ∧ i.length + j.length ≤ sizeLine ∧ Q (.str (i ++ j)) H) ∨ rCatA K x y H Q ∨ rCat x y H Q
theorem op_addA : OpR X (binaryOp .Add) (rAdd X.K) := by
  intro pins s σ H x y v u Q I rx ry h
  rcases h with h | h | h | h
  · exact op_add pins s σ H x y v u Q I rx ry h
  · exact op_add_str pins s σ H x y v u Q I rx ry h
  · exact op_catA pins s σ H x y v u Q I rx ry h
  · exact op_cat pins s σ H x y v u Q I rx ry h
theorem v2_add {K : PySem.W.Frag} : V2 W (rAdd K) vAdd := by
  intro G as H ρ M σ x y v u Q R r1 r2 h
  unfold vAdd at h
  split at h
  · cases r1
    cases r2
    exact .inl ⟨_, _, rfl, rfl, h _ as H R (Den.int _)⟩
  · split at h
    · rename_i hz
      cases r1
      cases r2
      exact .inr (.inl ⟨_, _, rfl, rfl, by rw [SZ_eq]; exact hz, h _ as H R (Den.str _)⟩)
    · exact h.elim
  · split at h
    · rename_i a b hz
      cases r1 with
      | tup h1 n1 d1 =>
        cases r2 with
        | tup h2 n2 d2 =>
          refine .inr (.inr (.inl ⟨_, _, _, _, rfl, rfl, SqT.of h1, SqT.of h2, by rw [d1.length, d2.length, SZ_eq]; exact hz, fun e => ?_, fun _ e => ?_, fun _ _ p hp => ?_⟩))
          · subst e
            cases d1
            exact h _ as H R (Den.tup h2 n2 d2)
          · subst e
            cases d2
            refine h _ as H R ?_
            rw [List.append_nil]
            exact Den.tup h1 n1 d1
          · exact h _ as _ (R.laid hp) (Den.tup upd_same (R.fresh hp) ((d1.append d2).mono fun c o e n => ⟨by rw [upd_ne (ne_of_none e hp)]; exact e, n⟩))
    · exact h.elim
  · split at h
    · rename_i a b hz
      cases r1 with
      | lst h1 n1 d1 =>
        cases r2 with
        | lst h2 n2 d2 =>
          refine .inr (.inr (.inr ⟨_, _, _, _, rfl, rfl, h1, h2, by rw [d1.length, d2.length, SZ_eq]; exact hz, fun p hp => ?_⟩))
          exact h _ as _ (R.laid hp) (Den.lst upd_same (R.fresh hp) ((d1.append d2).mono fun c o e n => ⟨by rw [upd_ne (ne_of_none e hp)]; exact e, n⟩))
    · exact h.elim
  · exact h.elim
/-- a new list of one's own -/
def newL (bs : List B) (M : Mem) : Res B := .ok (.own M.length) (M ++ [some (.lst bs)])
theorem newL_ok {G : Gh} {as : As} {H : Hp} {ρ : Rho} {M : Mem} {σ : St} {Q : VK} {bs : List B} {xs : List V} {p : Addr} (R : Rep G as H ρ M σ) (h : PoE G ρ σ W Q (newL bs M)) (r : RBs G.S as H xs bs) (hp : H p = none) : Q (.ref p) (upd H p (.lst xs)) := by
  refine h (.ref p) (as ++ [some p]) _ (R.own hp ⟨xs, upd_same, r.mono (stp_new hp)⟩) ⟨p, ?_, rfl⟩
  rw [← R.cs.len]
  simp
/-- list + list, the sum one's own -/
def vAddO (x y : B) (M : Mem) : Res B := match els x M, els y M with
  | some bs, some cs => if bs.length + cs.length ≤ SZ then newL (bs ++ cs) M else .stuck
  | _, _ => .stuck
/-- lists only -/
def isL (x : B) (M : Mem) : Bool := match x with
  | .dat (.lst _) => true
  | .vw (.lst _) => true
  | .own k => match M[k]? with
    | some (some (.lst _)) => true
    | _ => false
  | _ => false
theorem isL_ok {S : Addr → Prop} {as : As} {H : Hp} {M : Mem} (C : Cells S as H M) {x : B} {v : V} {bs : List B} (h : els x M = some bs) (hl : isL x M = true) (r : RB S as H v x) : ∃ a xs, v = .ref a ∧ H a = some (.lst xs) ∧ RBs S as H xs bs := by
  obtain ⟨a, xs, e, q, rs⟩ := els_ok C h r
  rcases q with q | q
  · exact ⟨a, xs, e, q, rs⟩
  · subst e
    unfold isL at hl
    split at hl
    · cases r with
      | lst h1 _ _ => rw [q] at h1; cases h1
    · cases r with
      | lst h1 _ _ => rw [q] at h1; cases h1
    · split at hl
      · rename_i k _ bs' e
        obtain ⟨a, h1, xs, h2, h3⟩ := C.cell k _ e
        obtain ⟨a', h4, e4⟩ := r
        rw [h1] at h4
        cases h4
        cases e4
        rw [q] at h2
        cases h2
      · cases hl
    · cases hl
def vAddL (x y : B) (M : Mem) : Res B := if isL x M = true ∧ isL y M = true then vAddO x y M else .stuck
theorem v2_addL : V2 W rCat vAddL := by
  intro G as H ρ M σ x y v u Q R r1 r2 h
  unfold vAddL at h
  split at h
  · rename_i hl
    unfold vAddO at h
    split at h
    · rename_i bs cs e1 e2
      obtain ⟨a, xs, rfl, q1, s1⟩ := isL_ok R.cs e1 hl.1 r1
      obtain ⟨b, ys, rfl, q2, s2⟩ := isL_ok R.cs e2 hl.2 r2
      split at h
      · rename_i hz
        exact ⟨a, b, xs, ys, rfl, rfl, q1, q2, by rw [s1.length, s2.length, SZ_eq]; exact hz, fun p hp => newL_ok R h (s1.append s2) hp⟩
      · exact h.elim
    · exact h.elim
  · exact h.elim
theorem rep_dens {H : Hp} {T : Addr → Prop} {xs : List V} {ds : List D} (h : Dens H T xs ds) : ∀ n, Dens H T (List.replicate n xs).flatten (List.replicate n ds).flatten
  | 0 => .nil
  | n + 1 => by
    rw [List.replicate_succ, List.replicate_succ, List.flatten_cons, List.flatten_cons]
    exact h.append (rep_dens h n)
def vMul (x y : B) (M : Mem) : Res B := match x, y with
  | .dat (.int i), .dat (.int j) => if -(2 ^ 64) < i ∧ i < 2 ^ 64 ∨ -(2 ^ 64) < j ∧ j < 2 ^ 64 then .ok (.dat (.int (i * j))) M else .stuck
  | .dat (.lst a), .dat (.int k) => if -(2 ^ 63) ≤ k ∧ k < 2 ^ 63 ∧ a.length * k.toNat ≤ SZ then .ok (.dat (.lst (List.replicate k.toNat a).flatten)) M else .stuck
  | .dat (.tup a), .dat (.int k) => if a ≠ [] ∧ 1 ≤ k ∧ k ≤ 1000 ∧ a.length ≤ 1000 then .ok (.dat (.tup (List.replicate k.toNat a).flatten)) M else .stuck
  | _, _ => .stuck
def rRepT1 (K : PySem.W.Frag) : R2 := fun x y H Q => ∃ l xs, x = .ref l ∧ y = .int 1 ∧ SqT K H l xs ∧ xs ≠ [] ∧ Q (.ref l) H
end
end Ab

namespace Ab
open PySem PySem.Spec PyProof.Rows
theorem tuple_mulW1 (l : Addr) (items : Array Value) (n : Nat) (dd : Option Addr) (sl : Array (Option Value)) (u : Tok) :
    Meets (Builtin.«tuple.__mul__» ⟨[.ref l, .int 1 u], []⟩) (fun _ R s => s.heap.get? l = some { cls := .type "tuple", dict := dd, data := .seq items n, slots := sl } ∧ R (.ok (.ret (Value.ref l))) s) :=
  .of_wp fun prog w A R s h => by
    obtain ⟨hp, g, d, tk, os⟩ := s
    obtain ⟨hl, h⟩ := h
    have f1 := AutoSeq1.idx_int
    have c1 : (items.isEmpty || (1 : Int) == 1) = true := by simp
    wp_walk using wpAny_loadPart' hl
    all_goals exact ⟨_, rfl, h⟩
end Ab
namespace Ab
open PySem PySem.Spec L2
open PyProof.Rows hiding St
section
variable {X : Cx} {W : XB → Hp → Prop}
theorem op_repT1 : OpR X (binaryOp .Mult) (rRepT1 X.K) := by
  intro pins s σ H x y v u Q I rx ry h
  obtain ⟨l, xs, rfl, rfl, hT, hne, q⟩ := h
  cases rx
  obtain ⟨t, rfl⟩ := ry
  obtain ⟨its, r, ⟨⟨cls, dd, data, sl⟩, ho, hc, n, hd⟩, hs⟩ := I.tuple hT
  simp only at hc hd
  subst hc hd
  refine wpAny_binaryOp_repeat_ref (T := "tuple") (U := "int") (by decide) ⟨_, ho, rfl⟩ (fun s' => typeIs_int s' 1 t) noFill_tuple_mul F.fills_int_mul F.slot_int_rmul repeat_tuple F.slot_int_index.lookup
    (call_meets F.slot_int_rmul (typeIs_int s 1 t) F.entry_int_rmul (F.args_int_rmul_2 _ _) (int_rmul_tuple 1 t l its.toArray n dd sl)
      ⟨ho, rfl, ⟨_, ho, rfl⟩, call_meets F.slot_tuple_mul ⟨_, ho, rfl⟩ F.entry_tuple_mul (F.args_tuple_mul_2 _ _) (tuple_mulW1 l its.toArray n dd sl t) ⟨ho, ?_⟩⟩)
  exact ⟨.ref l, H, I, rfl, q⟩
def rMul (K : PySem.W.Frag) : R2 := fun x y H Q => rI CMul (fun i j => .int (i * j)) x y H Q ∨ rRep x y H Q ∨ rRepT K x y H Q ∨ rRepT1 K x y H Q
theorem op_mulA : OpR X (binaryOp .Mult) (rMul X.K) := by
  intro pins s σ H x y v u Q I rx ry h
  rcases h with h | h | h | h
  · exact op_mul pins s σ H x y v u Q I rx ry h
  · exact op_rep pins s σ H x y v u Q I rx ry h
  · exact op_repT pins s σ H x y v u Q I rx ry h
  · exact op_repT1 pins s σ H x y v u Q I rx ry h
theorem v2_mul {K : PySem.W.Frag} : V2 W (rMul K) vMul := by
  intro G as H ρ M σ x y v u Q R r1 r2 h
  unfold vMul at h
  split at h
  · split at h
    · rename_i i j hc
      cases r1
      cases r2
      exact .inl ⟨_, _, rfl, rfl, hc, h _ as H R (Den.int _)⟩
    · exact h.elim
  · split at h
    · rename_i a k hc
      cases r1 with
      | lst h1 n1 d1 =>
        cases r2
        exact .inr (.inl ⟨_, _, _, rfl, rfl, h1, hc.1, hc.2.1, by rw [d1.length, SZ_eq]; exact hc.2.2, fun p hp => h _ as _ (R.laid hp) (Den.lst upd_same (R.fresh hp) ((rep_dens d1 _).mono fun c o e n => ⟨by rw [upd_ne (ne_of_none e hp)]; exact e, n⟩))⟩)
    · exact h.elim
  · split at h
    · rename_i a k hc
      cases r1 with
      | tup h1 n1 d1 =>
        cases r2
        have hne : ∀ xs : List V, xs.length = a.length → xs ≠ [] := fun xs e z => by
          rw [z] at e
          exact hc.1 (List.eq_nil_of_length_eq_zero e.symm)
        by_cases hk : k = 1
        · subst hk
          refine .inr (.inr (.inr ⟨_, _, rfl, rfl, SqT.of h1, hne _ d1.length, h _ as H R ?_⟩))
          have e : (List.replicate (1 : Int).toNat a).flatten = a := by simp
          rw [e]
          exact Den.tup h1 n1 d1
        · exact .inr (.inr (.inl ⟨_, _, _, rfl, rfl, SqT.of h1, hne _ d1.length, by omega, hc.2.2.1, by rw [d1.length]; exact hc.2.2.2, fun p hp => h _ as _ (R.laid hp) (Den.tup upd_same (R.fresh hp) ((rep_dens d1 _).mono fun c o e n => ⟨by rw [upd_ne (ne_of_none e hp)]; exact e, n⟩))⟩))
    · exact h.elim
  · exact h.elim

/-! ### == and != -/
def vEq (x y : B) (M : Mem) : Res B := match view M 4 x, view M 4 y with
  | some d, some e => if okD d 8 = true ∧ okD e 8 = true then .ok (.dat (.bl (eqD d e))) M else .stuck
  | _, _ => .stuck
def vNe (x y : B) (M : Mem) : Res B := match view M 4 x, view M 4 y with
  | some d, some e => if okD d 8 = true ∧ okD e 8 = true then .ok (.dat (.bl (!eqD d e))) M else .stuck
  | _, _ => .stuck
theorem v2_eq {K : PySem.W.Frag} : V2 W (rEqD K) vEq := by
  intro G as H ρ M σ x y v u Q R r1 r2 h
  unfold vEq at h
  split at h
  · rename_i d e e1 e2
    split at h
    · rename_i hc
      have d1 := view_ok R.cs 4 x d v e1 r1
      have d2 := view_ok R.cs 4 y e u e2 r2
      exact ⟨d.py, e.py, den_dp hc.1 d1, den_dp hc.2 d2, ok_shaped hc.1 (by decide), ok_shaped hc.2 (by decide), h _ as H R (Den.bl _)⟩
    · exact h.elim
  · exact h.elim
theorem v2_ne {K : PySem.W.Frag} : V2 W (rNeD K) vNe := by
  intro G as H ρ M σ x y v u Q R r1 r2 h
  unfold vNe at h
  split at h
  · rename_i d e e1 e2
    split at h
    · rename_i hc
      have d1 := view_ok R.cs 4 x d v e1 r1
      have d2 := view_ok R.cs 4 y e u e2 r2
      exact ⟨d.py, e.py, den_dp hc.1 d1, den_dp hc.2 d2, ok_shaped hc.1 (by decide), ok_shaped hc.2 (by decide), h _ as H R (Den.bl _)⟩
    · exact h.elim
  · exact h.elim

/-! ### in a tuple or list of ints; is None -/
def asInt : D → Option Int
  | .int i => some i
  | _ => none
def asInts (ds : List D) : Option (List Int) := optAll (ds.map asInt)
@[simp] theorem asInts_map (ns : List Int) : asInts (ns.map .int) = some ns := by
  unfold asInts
  rw [List.map_map]
  exact optAll_some ns
theorem asInts_ok {H : Hp} {T : Addr → Prop} : ∀ {ds : List D} {vs : List V} {ns : List Int}, asInts ds = some ns → Dens H T vs ds → vs = ns.map V.int
  | [], _, _, e, .nil => by cases e; rfl
  | d :: ds, _, ns, e, .cons h r => by
    unfold asInts at e
    rw [List.map_cons] at e
    cases q : asInt d with
    | none => rw [q] at e; cases e
    | some i =>
      rw [q] at e
      unfold optAll at e
      cases q2 : optAll (ds.map asInt) with
      | none => rw [q2] at e; cases e
      | some l =>
        rw [q2] at e
        cases e
        have hd : d = .int i := by
          cases d <;> simp_all [asInt]
        subst hd
        cases h
        rw [List.map_cons, asInts_ok (ns := l) q2 r]
def seqD : B → Option (List D)
  | .dat (.tup ds) => some ds
  | .dat (.lst ds) => some ds
  | .vw (.tup ds) => some ds
  | .vw (.lst ds) => some ds
  | _ => none
theorem seqD_ok {S : Addr → Prop} {as : As} {H : Hp} {x : B} {v : V} {ds : List D} (K : PySem.W.Frag) (e : seqD x = some ds) (r : RB S as H v x) : ∃ a xs, v = .ref a ∧ (SqL K H a xs ∨ SqT K H a xs) ∧ Dens H (fun a => some a ∈ as) xs ds := by
  unfold seqD at e
  split at e
  · cases e
    cases r with
    | tup h1 n d => exact ⟨_, _, rfl, .inr (SqT.of h1), dens_weak (fun _ z => .inr z) d⟩
  · cases e
    cases r with
    | lst h1 n d => exact ⟨_, _, rfl, .inl (SqL.of h1), dens_weak (fun _ z => .inr z) d⟩
  · cases e
    cases r with
    | tup h1 n d => exact ⟨_, _, rfl, .inr (SqT.of h1), d⟩
  · cases e
    cases r with
    | lst h1 n d => exact ⟨_, _, rfl, .inl (SqL.of h1), d⟩
  · cases e
theorem inV_ints (i : Int) : ∀ ns : List Int, inV (.int i) (ns.map V.int) = ns.contains i
  | [] => rfl
  | n :: ns => by
    have e := inV_ints i ns
    unfold inV at e ⊢
    rw [List.map_cons, List.any_cons, e, List.contains_cons]
    congr 1
    rw [Bool.eq_iff_iff]
    simp [eqV]
    exact eq_comm
def vInN (neg : Bool) (x y : B) (M : Mem) : Res B := match x, seqD y with
  | .dat (.int i), some ds => (match asInts ds with
    | some ns => .ok (.dat (.bl (if neg then !ns.contains i else ns.contains i))) M
    | none => .stuck)
  | _, _ => .stuck
theorem flat_ints : ∀ ns : List Int, (ns.map V.int).all flatV = true
  | [] => rfl
  | n :: ns => by rw [List.map_cons, List.all_cons, flat_ints ns]; rfl
theorem v2_in {K : PySem.W.Frag} {neg : Bool} : V2 W (rIn K neg) (vInN neg) := by
  intro G as H ρ M σ x y v u Q R r1 r2 h
  unfold vInN at h
  split at h
  · rename_i i ds e
    split at h
    · rename_i ns e2
      cases r1
      obtain ⟨a, xs, rfl, hs, hd⟩ := seqD_ok K e r2
      have ex := asInts_ok e2 hd
      subst ex
      refine ⟨a, _, rfl, hs, rfl, flat_ints ns, ?_⟩
      rw [inV_ints]
      exact h _ as H R (Den.bl _)
    · exact h.elim
  · exact h.elim
def isNon : B → Option Bool
  | .dat .non => some true
  | .vw .non => some true
  | .dat .any => none
  | .vw .any => none
  | _ => some false
theorem isNon_ok {S : Addr → Prop} {as : As} {H : Hp} {x : B} {v : V} {c : Bool} (e : isNon x = some c) (r : RB S as H v x) : decide (v = .non) = c := by
  unfold isNon at e
  split at e
  · cases e; cases r; rfl
  · cases e; cases r; rfl
  · cases e
  · cases e
  · cases e
    rename_i n1 n2 n3 n4
    cases x with
    | dat d =>
      have hd : d ≠ .non := fun z => n1 (by rw [z])
      have ha : d ≠ .any := fun z => n3 (by rw [z])
      cases r <;> first | rfl | (exact absurd rfl hd) | (exact absurd rfl ha)
    | vw d =>
      have hd : d ≠ .non := fun z => n2 (by rw [z])
      have ha : d ≠ .any := fun z => n4 (by rw [z])
      cases r <;> first | rfl | (exact absurd rfl hd) | (exact absurd rfl ha)
    | own k => obtain ⟨a, _, rfl⟩ := r; rfl
    | ty n => cases r; rfl
def eIsN (a : Ev) : Ev := fun ρ M => (a ρ M).bind fun x M1 => match isNon x with
  | some c => .ok (.dat (.bl c)) M1
  | none => .stuck
def eNotN (a : Ev) : Ev := fun ρ M => (a ρ M).bind fun x M1 => match isNon x with
  | some c => .ok (.dat (.bl (!c))) M1
  | none => .stuck
theorem isN_imp {ea : Ev} {σ : L2.St} {H : Hp} {Q : VK} (h : cE W (eIsN ea) σ H Q) : tIsN (cE W ea) σ H Q := by
    obtain ⟨G, as, ρ, M, R, h⟩ := h
    refine ⟨G, as, ρ, M, R, ?_⟩
    unfold eIsN at h
    cases q : ea ρ M with
    | stuck => rw [q] at h; exact h
    | exc x => rw [q] at h; exact h
    | ok x M1 =>
      rw [q] at h
      intro v as1 H1 R1 r1
      simp only [Res.bind_ok] at h
      split at h
      · rename_i c e
        rw [isNon_ok e r1]
        exact h _ as1 H1 R1 (Den.bl _)
      · exact h.elim
theorem ev_isN {a : Expr} {ea : Ev} {j : Nat} {p' pos : Pos} (ha : EV X W a ea) : EV X W (.Compare a [.Is] [.Constant .none j p'] pos) (eIsN ea) :=
  pe_imp (pe_cmp (pc_isN ha) rfl) fun _ _ _ h => isN_imp h
theorem et_isN {a : Expr} {ea : Ev} {j : Nat} {p' pos : Pos} (ha : EV X W a ea) : ET X W (.Compare a [.Is] [.Constant .none j p'] pos) (tV (eIsN ea)) :=
  et_of (pt_cmp (pc_isN ha) rfl) fun _ _ _ h => isN_imp h
theorem notN_imp {ea : Ev} {σ : L2.St} {H : Hp} {Q : VK} (h : cE W (eNotN ea) σ H Q) : tNotN (cE W ea) σ H Q := by
    obtain ⟨G, as, ρ, M, R, h⟩ := h
    refine ⟨G, as, ρ, M, R, ?_⟩
    unfold eNotN at h
    cases q : ea ρ M with
    | stuck => rw [q] at h; exact h
    | exc x => rw [q] at h; exact h
    | ok x M1 =>
      rw [q] at h
      intro v as1 H1 R1 r1
      simp only [Res.bind_ok] at h
      split at h
      · rename_i c e
        rw [isNon_ok e r1]
        exact h _ as1 H1 R1 (Den.bl _)
      · exact h.elim
theorem ev_notN {a : Expr} {ea : Ev} {j : Nat} {p' pos : Pos} (ha : EV X W a ea) : EV X W (.Compare a [.IsNot] [.Constant .none j p'] pos) (eNotN ea) :=
  pe_imp (pe_cmp (pc_notN ha) rfl) fun _ _ _ h => notN_imp h
theorem et_notN {a : Expr} {ea : Ev} {j : Nat} {p' pos : Pos} (ha : EV X W a ea) : ET X W (.Compare a [.IsNot] [.Constant .none j p'] pos) (tV (eNotN ea)) :=
  et_of (pt_cmp (pc_notN ha) rfl) fun _ _ _ h => notN_imp h

/-! ### subscripts, len -/
theorem atI_len {α β : Type} {xs : List α} {ys : List β} (hl : xs.length = ys.length) {i : Int} {y : β} (h : atI ys i = some y) : ∃ j, ixN xs.length i = some j ∧ ys[j]? = some y := by
  unfold atI at h
  rw [← hl] at h
  cases e : ixN xs.length i with
  | none => rw [e] at h; cases h
  | some j => rw [e] at h; exact ⟨j, rfl, h⟩
theorem dens_at {H : Hp} {T : Addr → Prop} {vs : List V} {ds : List D} {i : Int} {d : D} (r : Dens H T vs ds) (h : atI ds i = some d) : ∃ v, atI vs i = some v ∧ Den H T v d := by
  obtain ⟨j, e1, e2⟩ := atI_len r.length h
  obtain ⟨v, h1, h2⟩ := r.get e2
  exact ⟨v, by unfold atI; rw [e1]; exact h1, h2⟩
theorem rbs_at {S : Addr → Prop} {as : As} {H : Hp} {vs : List V} {bs : List B} {i : Int} {b : B} (r : RBs S as H vs bs) (h : atI bs i = some b) : ∃ v, atI vs i = some v ∧ RB S as H v b := by
  obtain ⟨j, e1, e2⟩ := atI_len r.length h
  obtain ⟨v, h1, h2⟩ := RB.get r e2
  exact ⟨v, by unfold atI; rw [e1]; exact h1, h2⟩
def vIx (x y : B) (M : Mem) : Res B := match y with
  | .dat (.int i) => (match x with
    | .dat (.str s) => if s.length ≤ SZ then (match atI s.cps.toList i with
      | some c => .ok (.dat (.str ⟨#[c]⟩)) M
      | none => .stuck) else .stuck
    | x => (match els x M with
      | some bs => (match atI bs i with
        | some b => .ok b M
        | none => .stuck)
      | none => .stuck))
  | _ => .stuck
theorem v2_ix {K : PySem.W.Frag} : V2 W (rIx K) vIx := by
  intro G as H ρ M σ x y v u Q R r1 r2 h
  unfold vIx at h
  split at h
  · cases r2
    split at h
    · split at h
      · rename_i hz
        split at h
        · rename_i c e
          cases r1
          exact .inr (.inr ⟨_, _, c, rfl, rfl, by rw [SZ_eq]; exact hz, e, h _ as H R (Den.str _)⟩)
        · exact h.elim
      · exact h.elim
    · split at h
      · rename_i bs e
        split at h
        · rename_i b e2
          obtain ⟨a, xs, rfl, q, rs⟩ := els_ok R.cs e r1
          obtain ⟨w, e3, r3⟩ := rbs_at rs e2
          rcases q with q | q
          · exact .inl ⟨a, xs, _, w, rfl, rfl, SqL.of q, e3, h _ as H R r3⟩
          · exact .inr (.inl ⟨a, xs, _, w, rfl, rfl, SqT.of q, e3, h _ as H R r3⟩)
        · exact h.elim
      · exact h.elim
  · exact h.elim
def vLen (xs : List B) (M : Mem) : Res B := match xs with
  | [.dat (.str s)] => if s.length ≤ SZ then .ok (.dat (.int s.length)) M else .stuck
  | [x] => (match els x M with
    | some bs => .ok (.dat (.int bs.length)) M
    | none => .stuck)
  | _ => .stuck
theorem vn_len {K : PySem.W.Frag} : VN W (fun xs H Q => ∃ x n, xs = [x] ∧ LenV K x H n ∧ Q (.int n) H) vLen := by
  intro G as H ρ M σ xs vs Q R r h
  unfold vLen at h
  split at h
  · split at h
    · rename_i hz
      cases r with
      | cons r1 t =>
        cases t
        cases r1
        exact ⟨_, _, rfl, ⟨by rw [SZ_eq]; exact hz, rfl⟩, h _ as H R (Den.int _)⟩
    · exact h.elim
  · split at h
    · rename_i bs e
      cases r with
      | cons r1 t =>
        cases t
        obtain ⟨a, xs, rfl, q, rs⟩ := els_ok R.cs e r1
        have e2 : (V.int (xs.length : Int)) = V.int (bs.length : Int) := by rw [rs.length]
        refine ⟨_, xs.length, rfl, ?_, by rw [e2]; exact h _ as H R (Den.int _)⟩
        rcases q with q | q
        · exact .inl ⟨xs, SqL.of q, rfl⟩
        · exact .inr ⟨xs, SqT.of q, rfl⟩
    · exact h.elim
  · exact h.elim
/-! ### tuple(), list(), abs, int -/
def datOf : B → Option D
  | .dat d => some d
  | _ => none
theorem datOf_some {b : B} {d : D} (h : datOf b = some d) : b = .dat d := by
  cases b <;> simp_all [datOf]
def dats (bs : List B) : Option (List D) := optAll (bs.map datOf)
@[simp] theorem dats_map (ds : List D) : dats (ds.map .dat) = some ds := by
  unfold dats
  rw [List.map_map]
  exact optAll_some ds
theorem dats_ok {S : Addr → Prop} {as : As} {H : Hp} {bs : List B} {ds : List D} {vs : List V} (e : dats bs = some ds) (r : RBs S as H vs bs) : Dens H (fun a => S a ∨ some a ∈ as) vs ds :=
  optAll_dens (fun b d v h q => by rw [datOf_some h] at q; exact q) e r
def vTup (xs : List B) (M : Mem) : Res B := match xs with
  | [.dat (.tup ds)] => .ok (.dat (.tup ds)) M
  | [.vw (.tup ds)] => .ok (.vw (.tup ds)) M
  | [x] => if isL x M = true then (match els x M with
    | some bs => (match dats bs with
      | some ds => .ok (.dat (.tup ds)) M
      | none => .stuck)
    | none => .stuck) else .stuck
  | _ => .stuck
theorem vn_tup {K : PySem.W.Frag} : VN W (fun xs H Q => ∃ p ys, xs = [.ref p] ∧ ((SqL K H p ys ∧ ∀ l, H l = none → Q (.ref l) (upd H l (.tup ys))) ∨ (SqT K H p ys ∧ Q (.ref p) H))) vTup := by
  intro G as H ρ M σ xs vs Q R r h
  unfold vTup at h
  split at h
  · cases r with
    | cons r1 t =>
      cases t
      cases r1 with
      | tup h1 n d1 => exact ⟨_, _, rfl, .inr ⟨SqT.of h1, h _ as H R (Den.tup h1 n d1)⟩⟩
  · cases r with
    | cons r1 t =>
      cases t
      cases r1 with
      | tup h1 n d1 => exact ⟨_, _, rfl, .inr ⟨SqT.of h1, h _ as H R (Den.tup h1 n d1)⟩⟩
  · split at h
    · rename_i hl
      split at h
      · rename_i bs e
        split at h
        · rename_i ds e2
          cases r with
          | cons r1 t =>
            cases t
            obtain ⟨a, ys, rfl, q, rs⟩ := isL_ok R.cs e hl r1
            have hd := dats_ok e2 rs
            exact ⟨a, ys, rfl, .inl ⟨SqL.of q, fun p hp => h _ as _ (R.laid hp) (Den.tup upd_same (R.fresh hp) (hd.mono fun c o e n => ⟨by rw [upd_ne (ne_of_none e hp)]; exact e, n⟩))⟩⟩
        · exact h.elim
      · exact h.elim
    · exact h.elim
  · exact h.elim
/-- list(x): data -/
def vLstD (xs : List B) (M : Mem) : Res B := match xs with
  | [x] => (match els x M with
    | some bs => (match dats bs with
      | some ds => .ok (.dat (.lst ds)) M
      | none => .stuck)
    | none => .stuck)
  | _ => .stuck
/-- list(x): one's own -/
def vLstO (xs : List B) (M : Mem) : Res B := match xs with
  | [x] => (match els x M with
    | some bs => newL bs M
    | none => .stuck)
  | _ => .stuck
abbrev rLst (K : PySem.W.Frag) : List V → Hp → VK → Prop := fun xs H Q => ∃ p ys, xs = [.ref p] ∧ (SqL K H p ys ∨ SqT K H p ys) ∧ ∀ l, H l = none → Q (.ref l) (upd H l (.lst ys))
theorem vn_lstD {K : PySem.W.Frag} : VN W (rLst K) vLstD := by
  intro G as H ρ M σ xs vs Q R r h
  unfold vLstD at h
  split at h
  · split at h
    · rename_i bs e
      split at h
      · rename_i ds e2
        cases r with
        | cons r1 t =>
          cases t
          obtain ⟨a, ys, rfl, q, rs⟩ := els_ok R.cs e r1
          have hd := dats_ok e2 rs
          exact ⟨a, ys, rfl, q.imp SqL.of SqT.of, fun p hp => h _ as _ (R.laid hp) (Den.lst upd_same (R.fresh hp) (hd.mono fun c o e n => ⟨by rw [upd_ne (ne_of_none e hp)]; exact e, n⟩))⟩
      · exact h.elim
    · exact h.elim
  · exact h.elim
theorem vn_lstO {K : PySem.W.Frag} : VN W (rLst K) vLstO := by
  intro G as H ρ M σ xs vs Q R r h
  unfold vLstO at h
  split at h
  · split at h
    · rename_i bs e
      cases r with
      | cons r1 t =>
        cases t
        obtain ⟨a, ys, rfl, q, rs⟩ := els_ok R.cs e r1
        exact ⟨a, ys, rfl, q.imp SqL.of SqT.of, fun p hp => newL_ok R h rs hp⟩
    · exact h.elim
  · exact h.elim
def vAbs (xs : List B) (M : Mem) : Res B := match xs with
  | [.dat (.int i)] => .ok (.dat (.int (if i < 0 then -i else i))) M
  | _ => .stuck
theorem vn_abs : VN W (fun xs H Q => ∃ i, xs = [.int i] ∧ Q (.int (if i < 0 then -i else i)) H) vAbs := by
  intro G as H ρ M σ xs vs Q R r h
  unfold vAbs at h
  split at h
  · cases r with
    | cons r1 t =>
      cases t
      cases r1
      exact ⟨_, rfl, h _ as H R (Den.int _)⟩
  · exact h.elim
def vInt (xs : List B) (M : Mem) : Res B := match xs with
  | [.dat (.int i)] => .ok (.dat (.int i)) M
  | [.dat (.bl b)] => .ok (.dat (.int (if b then 1 else 0))) M
  | _ => .stuck
theorem vn_int : VN W (fun xs H Q => (∃ i, xs = [.int i] ∧ Q (.int i) H) ∨ ∃ k, xs = [.bl k] ∧ Q (.int (if k then 1 else 0)) H) vInt := by
  intro G as H ρ M σ xs vs Q R r h
  unfold vInt at h
  split at h
  · cases r with
    | cons r1 t =>
      cases t
      cases r1
      exact .inl ⟨_, rfl, h _ as H R (Den.int _)⟩
  · cases r with
    | cons r1 t =>
      cases t
      cases r1
      exact .inr ⟨_, rfl, h _ as H R (Den.int _)⟩
  · exact h.elim
/-! ### isinstance of built-in types -/
def tyName : D → Option String
  | .non => some "NoneType"
  | .bl _ => some "bool"
  | .int _ => some "int"
  | .str _ => some "str"
  | .tup _ => some "tuple"
  | .lst _ => some "list"
  | _ => none
def vIsi (xs : List B) (M : Mem) : Res B := match xs with
  | [x, .ty n] => (match (view M 1 x).bind tyName with
    | some t => (match kitB t n with
      | some b => .ok (.dat (.bl b)) M
      | none => .stuck)
    | none => .stuck)
  | _ => .stuck
theorem den_ty {K : PySem.W.Frag} {H : Hp} {T : Addr → Prop} {v : V} {d : D} {t : String} (e : tyName d = some t) (h : Den H T v d) : TyX K H v (.type t) := by
  cases h with
  | non => cases e; exact .base .non
  | bl b => cases e; exact .base (.bl b)
  | int i => cases e; exact .base (.int i)
  | str x => cases e; exact .base (.str x)
  | tup h1 _ _ => cases e; exact .base (.tup h1)
  | lst h1 _ _ => cases e; exact .base (.lst h1)
  | frz _ _ => cases e
  | kls _ => cases e
  | obj _ _ _ _ => cases e
  | any _ => cases e
  | ref _ => cases e
  | kd _ _ _ _ => cases e
  | nd _ _ _ _ _ _ _ => cases e
  | xc _ _ _ _ => cases e
/-- the type of a value, cells looked at from outside -/
def tyB (x : B) (M : Mem) : Option String := match x with
  | .dat d => tyName d
  | .vw d => tyName d
  | .own k => (match M[k]? with
    | some (some (.lst _)) => some "list"
    | _ => none)
  | _ => none
theorem tyB_ok {K : PySem.W.Frag} {S : Addr → Prop} {as : As} {H : Hp} {M : Mem} (C : Cells S as H M) {x : B} {v : V} {t : String} (e : tyB x M = some t) (r : RB S as H v x) : TyX K H v (.type t) := by
  unfold tyB at e
  split at e
  · exact den_ty e r
  · exact den_ty e r
  · split at e
    · rename_i k _ bs q
      cases e
      obtain ⟨a, h1, xs, h2, h3⟩ := C.cell k _ q
      obtain ⟨a', h4, rfl⟩ := r
      rw [h1] at h4
      cases h4
      exact .base (.lst h2)
    · cases e
  · cases e
def vIsT (xs : List B) (M : Mem) : Res B := match xs with
  | [x, .ty n] => (match tyB x M with
    | some t => (match kitB t n with
      | some b => .ok (.dat (.bl b)) M
      | none => .stuck)
    | none => .stuck)
  | _ => .stuck
theorem vn_isT {K : PySem.W.Frag} : VN W (rIsi K) vIsT := by
  intro G as H ρ M σ xs vs Q R r h
  unfold vIsT at h
  split at h
  · rename_i x n
    split at h
    · rename_i t e
      split at h
      · rename_i b e2
        cases r with
        | cons r1 tl =>
          cases tl with
          | cons r2 tl =>
            cases tl
            cases r2
            exact ⟨_, _, _, _, b, rfl, .ty n, tyB_ok R.cs e r1, kit_ty e2, h _ as H R (Den.bl _)⟩
      · exact h.elim
    · exact h.elim
  · exact h.elim
def asBl : D → Option Bool
  | .bl b => some b
  | _ => none
def vAll (xs : List B) (M : Mem) : Res B := match xs with
  | [.dat (.lst ds)] => (match optAll (ds.map asBl) with
    | some bs => .ok (.dat (.bl (bs.all id))) M
    | none => .stuck)
  | _ => .stuck
theorem asBl_ok {H : Hp} {T : Addr → Prop} : ∀ {ds : List D} {vs : List V} {ns : List Bool}, optAll (ds.map asBl) = some ns → Dens H T vs ds → vs = ns.map V.bl
  | [], _, _, e, .nil => by cases e; rfl
  | d :: ds, _, ns, e, .cons h r => by
    rw [List.map_cons] at e
    cases q : asBl d with
    | none => rw [q] at e; cases e
    | some i =>
      rw [q] at e
      unfold optAll at e
      cases q2 : optAll (ds.map asBl) with
      | none => rw [q2] at e; cases e
      | some l =>
        rw [q2] at e
        cases e
        have hd : d = .bl i := by
          cases d <;> simp_all [asBl]
        subst hd
        cases h
        rw [List.map_cons, asBl_ok (ns := l) q2 r]
theorem vn_all {K : PySem.W.Frag} : VN W (rAll K) vAll := by
  intro G as H ρ M σ xs vs Q R r h
  unfold vAll at h
  split at h
  · split at h
    · rename_i bs e
      cases r with
      | cons r1 t =>
        cases t
        cases r1 with
        | lst h1 n1 d1 =>
          have ex := asBl_ok e d1
          subst ex
          exact ⟨_, bs, rfl, SqL.of h1, h _ as H R (Den.bl _)⟩
    · exact h.elim
  · exact h.elim
end
end Ab

namespace Ab
open PySem PySem.Spec L2
section
variable {X : Cx} {W : XB → Hp → Prop}

/-! ### displays -/
def eTup (a : Ea) : Ev := eApp (fun bs M => match dats bs with
  | some ds => if ds.length ≤ SZ then .ok (.dat (.tup ds)) M else .stuck
  | none => .stuck) a
def eLst (a : Ea) : Ev := eApp (fun bs M => match dats bs with
  | some ds => if ds.length ≤ SZ then .ok (.dat (.lst ds)) M else .stuck
  | none => .stuck) a
def eLstO (a : Ea) : Ev := eApp (fun bs M => if bs.length ≤ SZ then newL bs M else .stuck) a
theorem laid_den {G : Gh} {as : As} {H : Hp} {ρ : Rho} {M : Mem} {σ : St} {p : Addr} {o : HO} (R : Rep G as H ρ M σ) (hp : H p = none) {xs : List V} {ds : List D} (h : Dens H (fun a => G.S a ∨ some a ∈ as) xs ds) : Dens (upd H p o) (fun a => G.S a ∨ some a ∈ as) xs ds :=
  h.mono fun c o e n => ⟨by rw [upd_ne (ne_of_none e hp)]; exact e, n⟩
theorem ev_tup {es : List Expr} {eas : Ea} {x1 : _} {pos : Pos} (h : EA X W es eas) : EV X W (.Tuple es x1 pos) (eTup eas) :=
  pe_imp (pe_tup h) fun σ H Q h => cE_app (r := fun xs H1 Q => xs.length ≤ sizeLine ∧ ∀ p, H1 p = none → Q (.ref p) (upd H1 p (.tup xs))) (fun {G as H ρ M σ xs vs Q} R r h => by
    split at h
    · rename_i ds e
      split at h
      · rename_i hz
        have hd := dats_ok e r
        exact ⟨by rw [hd.length, SZ_eq]; exact hz, fun p hp => h _ as _ (R.laid hp) (Den.tup upd_same (R.fresh hp) (laid_den R hp hd))⟩
      · exact h.elim
    · exact h.elim) h
theorem ev_lst {es : List Expr} {eas : Ea} {pos : Pos} (h : EA X W es eas) : EV X W (.List es pos) (eLst eas) :=
  pe_imp (pe_lst h) fun σ H Q h => cE_app (r := fun xs H1 Q => xs.length ≤ sizeLine ∧ ∀ p, H1 p = none → Q (.ref p) (upd H1 p (.lst xs))) (fun {G as H ρ M σ xs vs Q} R r h => by
    split at h
    · rename_i ds e
      split at h
      · rename_i hz
        have hd := dats_ok e r
        exact ⟨by rw [hd.length, SZ_eq]; exact hz, fun p hp => h _ as _ (R.laid hp) (Den.lst upd_same (R.fresh hp) (laid_den R hp hd))⟩
      · exact h.elim
    · exact h.elim) h
theorem ev_lstO {es : List Expr} {eas : Ea} {pos : Pos} (h : EA X W es eas) : EV X W (.List es pos) (eLstO eas) :=
  pe_imp (pe_lst h) fun σ H Q h => cE_app (r := fun xs H1 Q => xs.length ≤ sizeLine ∧ ∀ p, H1 p = none → Q (.ref p) (upd H1 p (.lst xs))) (fun {G as H ρ M σ xs vs Q} R r h => by
    split at h
    · rename_i hz
      exact ⟨by rw [r.length, SZ_eq]; exact hz, fun p hp => newL_ok R h r hp⟩
    · exact h.elim) h

/-! ### methods of lists -/
theorem isL_at {S : Addr → Prop} {as : As} {H : Hp} {M : Mem} (C : Cells S as H M) {x : B} {v : V} (hl : isL x M = true) (r : RB S as H v x) : ∃ a xs, v = .ref a ∧ H a = some (.lst xs) := by
  unfold isL at hl
  split at hl
  · cases r with
    | lst h1 _ _ => exact ⟨_, _, rfl, h1⟩
  · cases r with
    | lst h1 _ _ => exact ⟨_, _, rfl, h1⟩
  · split at hl
    · rename_i k _ bs' e
      obtain ⟨a, h1, xs, h2, h3⟩ := C.cell k _ e
      obtain ⟨a', h4, e4⟩ := r
      rw [h1] at h4
      cases h4
      exact ⟨_, _, e4, h2⟩
    · cases hl
  · cases hl
def eMtL (f : B → List B → Mem → Res B) (a : Ev) (b : Ea) : Ev := fun ρ M => (a ρ M).bind fun x M1 => if isL x M1 = true then (b ρ M1).bind fun y M2 => f x y M2 else .stuck
theorem ev_mtL {o e : Expr} {es : List Expr} {eo : Ev} {eas : Ea} {name : Str} {apos cpos : Pos} {id : String} {r : V → List V → Hp → VK → Prop} {f : B → List B → Mem → Res B} (slot : Slot "list" name id) (hty : typeOf (.builtin id) = pure (.type "method_descriptor")) (hm : MtR X id r) (hf : VM W r f) (ho : EV X W o eo) (ha : EA X W (e :: es) eas)
    (hbase : attributeBase o name X.env (eval o X.env) = eval o X.env := by rfl)
    (hfew : ((backTo cpos (starEach (e :: es) X.env)).all (fun x => !x.1) && (backToKw cpos (keywordEach [] X.env)).all (fun x => x.1.isSome)
      && decide ((e :: es).length + ([] : List Keyword).length + (if ([] : List Keyword).isEmpty then 0 else 1) < 30)) = true := by rfl)
    (hline : (apos.endLine == cpos.line) = true := by rfl) (hs : starEach (e :: es) X.env = (false, eval e X.env) :: starEach es X.env := by rfl) (hplain : (backTo cpos (starEach es X.env)).any (·.1) = false := by rfl) :
    EV X W (.Call (.Attribute o name apos) (e :: es) [] cpos) (eMtL f eo eas) :=
  pe_imp (pe_bm PySem.F.plainAttrs_list slot hty hm ho ha hbase hfew hline hs hplain) fun σ H Q h => by
    obtain ⟨G, as, ρ, M, R, h⟩ := h
    refine ⟨G, as, ρ, M, R, ?_⟩
    unfold eMtL at h
    cases q : eo ρ M with
    | stuck => rw [q] at h; exact h
    | exc x => rw [q] at h; exact h
    | ok x M1 =>
      rw [q] at h
      intro v as1 H1 R1 r1
      simp only [Res.bind_ok] at h
      split at h
      · rename_i hl
        refine ⟨?_, G.push v x, as1, ρ, M1, R1.push r1, ?_⟩
        · obtain ⟨a, xs, rfl, ha⟩ := isL_at R1.cs hl r1
          exact .inl ⟨rfl, xs, SqL.of ha⟩
        · cases q2 : eas ρ M1 with
          | stuck => rw [q2] at h; exact h
          | exc x => rw [q2] at h; exact h
          | ok y M2 =>
            rw [q2] at h
            intro u as2 H2 R2 r2
            exact hf R2.pop R2.top r2 h
      · exact h.elim
theorem ev_mtL0 {o : Expr} {eo : Ev} {name : Str} {apos cpos : Pos} {id : String} {r : V → List V → Hp → VK → Prop} {f : B → List B → Mem → Res B} (slot : Slot "list" name id) (hty : typeOf (.builtin id) = pure (.type "method_descriptor")) (hm : MtR X id r) (hf : VM W r f) (ho : EV X W o eo)
    (hbase : attributeBase o name X.env (eval o X.env) = eval o X.env := by rfl) (hline : (apos.endLine == cpos.line) = true := by rfl) :
    EV X W (.Call (.Attribute o name apos) [] [] cpos) (eMtL f eo aNil) :=
  pe_imp (pe_bm0 PySem.F.plainAttrs_list slot hty hm ho hbase hline) fun σ H Q h => by
    obtain ⟨G, as, ρ, M, R, h⟩ := h
    refine ⟨G, as, ρ, M, R, ?_⟩
    unfold eMtL at h
    cases q : eo ρ M with
    | stuck => rw [q] at h; exact h
    | exc x => rw [q] at h; exact h
    | ok x M1 =>
      rw [q] at h
      intro v as1 H1 R1 r1
      simp only [Res.bind_ok] at h
      split at h
      · rename_i hl
        refine ⟨?_, hf R1 r1 .nil h⟩
        obtain ⟨a, xs, rfl, ha⟩ := isL_at R1.cs hl r1
        exact .inl ⟨rfl, xs, SqL.of ha⟩
      · exact h.elim
/-- a cell that is a list -/
theorem own_lst {S : Addr → Prop} {as : As} {H : Hp} {M : Mem} (C : Cells S as H M) {k : Nat} {v : V} {bs : List B} (e : M[k]? = some (some (.lst bs))) (r : RB S as H v (.own k)) : ∃ a xs, v = .ref a ∧ as[k]? = some (some a) ∧ H a = some (.lst xs) ∧ RBs S as H xs bs := by
  obtain ⟨a, h1, xs, h2, h3⟩ := C.cell k _ e
  obtain ⟨a', h4, e4⟩ := r
  rw [h1] at h4
  cases h4
  exact ⟨a, xs, e4, h1, h2, h3⟩
theorem stp_own {G : Gh} {as : As} {H : Hp} {a : Addr} {o : HO} (h : some a ∈ as) : Stp G.S as H G.S as (upd H a o) :=
  .same (fun b u e n => ⟨by rw [upd_ne (fun z => n (by rw [z]; exact h))]; exact e, n⟩) fun _ _ h => h
def vAppend (x : B) (ys : List B) (M : Mem) : Res B := match x, ys with
  | .own k, [y] => (match M[k]? with
    | some (some (.lst bs)) => if bs.length < SZ then .ok (.dat .non) (M.set k (some (.lst (bs ++ [y])))) else .stuck
    | _ => .stuck)
  | _, _ => .stuck
theorem vm_append : VM W rAppend vAppend := by
  intro G as H ρ M σ x v xs vs Q R r rs h
  unfold vAppend at h
  split at h
  · rename_i k y
    split at h
    · rename_i bs e
      split at h
      · rename_i hz
        obtain ⟨a, zs, rfl, h1, h2, h3⟩ := own_lst R.cs e r
        cases rs with
        | cons r1 t =>
          cases t
          rename_i w
          refine ⟨a, zs, w, rfl, rfl, h2, by rw [h3.length, SZ_eq]; exact hz, ?_⟩
          have s := stp_own (G := G) (H := H) (o := .lst (zs ++ [w])) (List.mem_of_getElem? h1)
          exact h _ as _ (R.store h1 ⟨_, upd_same, (h3.append (.cons r1 .nil)).mono s⟩) Den.non
      · exact h.elim
    · exact h.elim
  · exact h.elim
def vClear (x : B) (ys : List B) (M : Mem) : Res B := match x, ys with
  | .own k, [] => (match M[k]? with
    | some (some (.lst bs)) => .ok (.dat .non) (M.set k (some (.lst [])))
    | _ => .stuck)
  | _, _ => .stuck
theorem vm_clear : VM W rClear vClear := by
  intro G as H ρ M σ x v xs vs Q R r rs h
  unfold vClear at h
  split at h
  · rename_i k
    split at h
    · rename_i bs e
      obtain ⟨a, zs, rfl, h1, h2, h3⟩ := own_lst R.cs e r
      cases rs
      exact ⟨a, zs, rfl, rfl, h2, h _ as _ (R.store h1 ⟨_, upd_same, .nil⟩) Den.non⟩
    · exact h.elim
  · exact h.elim
theorem RBs.eraseIdx {S : Addr → Prop} {as : As} {H : Hp} : ∀ {xs : List V} {bs : List B} (i : Nat), RBs S as H xs bs → RBs S as H (xs.eraseIdx i) (bs.eraseIdx i)
  | _, _, _, .nil => .nil
  | _, _, 0, .cons _ t => t
  | _, _, i + 1, .cons r t => .cons r (RBs.eraseIdx i t)
theorem RBs.dropLast {S : Addr → Prop} {as : As} {H : Hp} : ∀ {xs : List V} {bs : List B}, RBs S as H xs bs → RBs S as H xs.dropLast bs.dropLast
  | _, _, .nil => .nil
  | _, _, .cons r .nil => .nil
  | _, _, .cons r (.cons q t) => .cons r (RBs.dropLast (.cons q t))
def vPop (x : B) (ys : List B) (M : Mem) : Res B := match x, ys with
  | .own k, [] => (match M[k]? with
    | some (some (.lst bs)) => (match bs[bs.length - 1]? with
      | some y => .ok y (M.set k (some (.lst bs.dropLast)))
      | none => .stuck)
    | _ => .stuck)
  | _, _ => .stuck
theorem vm_pop : VM W rPop vPop := by
  intro G as H ρ M σ x v xs vs Q R r rs h
  unfold vPop at h
  split at h
  · rename_i k
    split at h
    · rename_i bs e
      split at h
      · rename_i y ey
        obtain ⟨a, zs, rfl, h1, h2, h3⟩ := own_lst R.cs e r
        cases rs
        obtain ⟨w, e1, e2⟩ := RB.get h3 ey
        have s := stp_own (G := G) (H := H) (o := .lst zs.dropLast) (List.mem_of_getElem? h1)
        exact ⟨a, zs, w, rfl, rfl, h2, by rw [h3.length]; exact e1, h _ as _ (R.store h1 ⟨_, upd_same, h3.dropLast.mono s⟩) (e2.mono s)⟩
      · exact h.elim
    · exact h.elim
  · exact h.elim
def vPopAt (x : B) (ys : List B) (M : Mem) : Res B := match x, ys with
  | .own k, [.dat (.int i)] => (match M[k]? with
    | some (some (.lst bs)) => if 0 ≤ i ∧ i < 2 ^ 63 then (match bs[i.toNat]? with
      | some y => .ok y (M.set k (some (.lst (bs.eraseIdx i.toNat))))
      | none => .stuck) else .stuck
    | _ => .stuck)
  | _, _ => .stuck
theorem vm_popAt : VM W rPopAt vPopAt := by
  intro G as H ρ M σ x v xs vs Q R r rs h
  unfold vPopAt at h
  split at h
  · rename_i k i
    split at h
    · rename_i bs e
      split at h
      · rename_i hi
        split at h
        · rename_i y ey
          obtain ⟨a, zs, rfl, h1, h2, h3⟩ := own_lst R.cs e r
          cases rs with
          | cons r1 t =>
            cases t
            cases r1
            obtain ⟨w, e1, e2⟩ := RB.get h3 ey
            have hlt : i.toNat < zs.length := (List.getElem?_eq_some_iff.mp e1).1
            have hx : ixN zs.length i = some i.toNat := by
              unfold ixN
              rw [if_pos hi.1, if_pos (by omega)]
            have s := stp_own (G := G) (H := H) (o := .lst (zs.eraseIdx i.toNat)) (List.mem_of_getElem? h1)
            exact ⟨a, zs, i, i.toNat, w, rfl, rfl, h2, by omega, hi.2, (ixN_seq hx).1, e1, h _ as _ (R.store h1 ⟨_, upd_same, (h3.eraseIdx _).mono s⟩) (e2.mono s)⟩
        · exact h.elim
      · exact h.elim
    · exact h.elim
  · exact h.elim
def vExtend (x : B) (ys : List B) (M : Mem) : Res B := match x, ys with
  | .own k, [y] => (match M[k]?, els y M with
    | some (some (.lst bs)), some cs => if isL y M = true ∧ bs.length + cs.length ≤ SZ then .ok (.dat .non) (M.set k (some (.lst (bs ++ cs)))) else .stuck
    | _, _ => .stuck)
  | _, _ => .stuck

/-! ### slices -/
def oNone : Eo := fun _ M => .ok none M
def oSome (a : Ev) : Eo := fun ρ M => (a ρ M).bind fun x M1 => match x with
  | .dat (.int i) => .ok (some i) M1
  | _ => .stuck
theorem eo_none : EO X W none oNone := po_imp po_none fun σ H Q h => by
  obtain ⟨G, as, ρ, M, R, h⟩ := h
  exact h as H R
theorem eo_some {e : Expr} {ea : Ev} (ha : EV X W e ea) : EO X W (some e) (oSome ea) := po_imp (po_some ha) fun σ H Q h => by
  obtain ⟨G, as, ρ, M, R, h⟩ := h
  refine ⟨G, as, ρ, M, R, ?_⟩
  unfold oSome at h
  cases q : ea ρ M with
  | stuck => rw [q] at h; exact h
  | exc x => rw [q] at h; exact h
  | ok x M1 =>
    rw [q] at h
    intro v as1 H1 R1 r1
    simp only [Res.bind_ok] at h
    split at h
    · cases r1
      exact ⟨_, rfl, h as1 H1 R1⟩
    · exact h.elim
def cut {α : Type} (xs : List α) (lo hi : Option Int) : List α := (xs.drop (HT.sIx xs.length 0 lo)).take (HT.sIx xs.length xs.length hi - HT.sIx xs.length 0 lo)
def vSl (x : B) (lo hi : Option Int) (M : Mem) : Res B := match x with
  | .dat (.lst ds) => .ok (.dat (.lst (cut ds lo hi))) M
  | .dat (.tup ds) => .ok (.dat (.tup (cut ds lo hi))) M
  | _ => .stuck
def eSl (a : Ev) (l h : Eo) : Ev := fun ρ M => (a ρ M).bind fun x M1 => (l ρ M1).bind fun i M2 => (h ρ M2).bind fun j M3 => vSl x i j M3
theorem cut_whole {α : Type} {xs : List α} {l h : Option Int} (e : HT.sIx xs.length 0 l = 0 ∧ HT.sIx xs.length xs.length h = xs.length) : cut xs l h = xs := by
  unfold cut
  rw [e.1, e.2]
  simp
theorem ev_sl {e : Expr} {lo hi : Option Expr} {ea : Ev} {l h : Eo} {p2 pos : Pos} (he : EV X W e ea) (hl : EO X W lo l) (hh : EO X W hi h) : EV X W (.Subscript e (.Slice lo hi none p2) pos) (eSl ea l h) :=
  pe_imp (pe_slice ((sl_list (X := X)).or sl_tupA) he hl hh) fun σ H Q hq => by
    obtain ⟨G, as, ρ, M, R, hq⟩ := hq
    refine ⟨G, as, ρ, M, R, ?_⟩
    unfold eSl at hq
    cases q : ea ρ M with
    | stuck => rw [q] at hq; exact hq
    | exc x => rw [q] at hq; exact hq
    | ok x M1 =>
      rw [q] at hq
      intro v as1 H1 R1 r1
      refine ⟨G.push v x, as1, ρ, M1, R1.push r1, ?_⟩
      simp only [Res.bind_ok] at hq
      cases q2 : l ρ M1 with
      | stuck => rw [q2] at hq; exact hq
      | exc x => rw [q2] at hq; exact hq
      | ok i M2 =>
        rw [q2] at hq
        intro as2 H2 R2
        refine ⟨G.push v x, as2, ρ, M2, R2, ?_⟩
        simp only [Res.bind_ok] at hq
        cases q3 : h ρ M2 with
        | stuck => rw [q3] at hq; exact hq
        | exc x => rw [q3] at hq; exact hq
        | ok j M3 =>
          rw [q3] at hq
          intro as3 H3 R3
          have r3 := R3.top
          have R4 := R3.pop
          clear R3
          simp only [Res.bind_ok] at hq
          unfold vSl at hq
          split at hq
          · cases r3 with
            | lst h1 n1 d1 =>
              refine .inl ⟨_, _, rfl, SqL.of h1, fun p hp => hq _ as3 _ (R4.laid hp) (Den.lst upd_same (R4.fresh hp) (laid_den R4 hp ?_))⟩
              unfold cutV cut
              rw [d1.length]
              exact (d1.drop _).take _
          · cases r3 with
            | tup h1 n1 d1 =>
              refine .inr ⟨_, _, rfl, SqT.of h1, fun e => hq _ as3 _ R4 ?_, fun e p hp => hq _ as3 _ (R4.laid hp) (Den.tup upd_same (R4.fresh hp) (laid_den R4 hp ?_))⟩
              · rw [d1.length] at e
                rw [cut_whole e]
                exact Den.tup h1 n1 d1
              · unfold cutV cut
                rw [d1.length]
                exact (d1.drop _).take _
          · exact hq.elim
end
end Ab

namespace Ab
open PySem PySem.Spec L2
section
variable {X : Cx} {W : XB → Hp → Prop} {n : Nat}
/-! ### statements -/
def sNil : Es := fun ρ M => .ok (.nx ρ) M
def sSeq (s r : Es) : Es := fun ρ M => (s ρ M).bind fun o M1 => match o with
  | .nx ρ1 => r ρ1 M1
  | o => .ok o M1
def sSet (i : Nat) (e : Ev) : Es := fun ρ M => (e ρ M).bind fun b M1 => .ok (.nx (ρ.set i (some b))) M1
def sExpr (e : Ev) : Es := fun ρ M => (e ρ M).bind fun _ M1 => .ok (.nx ρ) M1
def sRet (e : Ev) : Es := fun ρ M => (e ρ M).bind fun b M1 => .ok (.ret b) M1
def sRetN : Es := fun _ M => .ok (.ret (.dat .non)) M
def sIf (t : Et) (a b : Es) : Es := fun ρ M => (t ρ M).bind fun c M1 => if c = true then a ρ M1 else b ρ M1
def sNever : Es := fun _ _ => .stuck
def sCt : Es := fun ρ M => .ok (.ct ρ) M
def sBrk : Es := fun ρ M => .ok (.brk ρ) M
section
variable {e c : Expr} {ea : Ev} {s r : Es} {st : Stmt} {sts a b : List Stmt} {pos : Pos} {t : Et}
theorem ess_nil : ESs X W n [] sNil := pss_imp pss_nil fun D σ H h => by
  obtain ⟨G, as, ρ, M, hg, R, h⟩ := h
  exact h σ as H R
theorem ess_cons (h1 : ES X W n st s) (h2 : ESs X W n sts r) : ESs X W n (st :: sts) (sSeq s r) := pss_imp (pss_cons h1 h2) fun D σ H h => by
  obtain ⟨G, as, ρ, M, hg, R, h⟩ := h
  refine ⟨G, as, ρ, M, hg, R, ?_⟩
  unfold sSeq at h
  cases q : s ρ M with
  | stuck => rw [q] at h; exact h
  | exc x => rw [q] at h; exact h
  | ok o M1 =>
    rw [q] at h
    cases o with
    | nx ρ1 => exact fun σ1 as1 H1 R1 => ⟨G, as1, ρ1, M1, hg, R1, h⟩
    | ret b => exact h
    | brk ρ1 => exact h
    | ct ρ1 => exact h
theorem ess_one (h1 : ES X W n st s) : ESs X W n [st] s := pss_one h1
theorem es_set {i : Nat} {x : Str} {pos' : Pos} (he : EV X W e ea) (hN : X.N.Nodup) (hi : X.N[i]? = some x := by rfl) (hx : Loc X.env.scope x := by first | exact Or.inl rfl | exact Or.inr rfl) (hs : swapsWith e (some (.Name x pos')) pos.line X.env = pure false := by rfl)
    (hf : X.fn x = true ∨ X.env.scope.names.lookup x = some .local := by first | exact .inl rfl | exact .inr rfl | assumption) : ES X W n (.Assign [.Name x pos'] e pos) (sSet i ea) :=
  ps_imp (ps_set hN hi hx he hs hf) fun D σ H h => by
    obtain ⟨G, as, ρ, M, hg, R, h⟩ := h
    refine ⟨G, as, ρ, M, R, ?_⟩
    unfold sSet at h
    cases q : ea ρ M with
    | stuck => rw [q] at h; exact h
    | exc x => rw [q] at h; exact h
    | ok x M1 =>
      rw [q] at h
      intro v as1 H1 R1 r1
      exact h _ as1 H1 (R1.setSlot r1)
theorem es_expr (he : EV X W e ea) (hs : swapsWith e none pos.line X.env = pure false := by rfl) : ES X W n (.Expr e pos) (sExpr ea) := ps_imp (ps_expr he hs) fun D σ H h => by
  obtain ⟨G, as, ρ, M, hg, R, h⟩ := h
  refine ⟨G, as, ρ, M, R, ?_⟩
  unfold sExpr at h
  cases q : ea ρ M with
  | stuck => rw [q] at h; exact h
  | exc x => rw [q] at h; exact h
  | ok x M1 =>
    rw [q] at h
    intro v as1 H1 R1 r1
    exact h _ as1 H1 R1
theorem es_ret (he : EV X W e ea) : ES X W n (.Return (some e) pos) (sRet ea) := ps_imp (ps_ret he) fun D σ H h => by
  obtain ⟨G, as, ρ, M, hg, R, h⟩ := h
  refine ⟨G, as, ρ, M, R, ?_⟩
  unfold sRet at h
  cases q : ea ρ M with
  | stuck => rw [q] at h; exact h
  | exc x => rw [q] at h; exact h
  | ok x M1 =>
    rw [q] at h
    intro v as1 H1 R1 r1
    exact h v σ ρ as1 H1 R1 r1
theorem es_retN : ES X W n (.Return none pos) sRetN := ps_imp ps_retN fun D σ H h => by
  obtain ⟨G, as, ρ, M, hg, R, h⟩ := h
  exact h .non σ ρ as H R Den.non
theorem es_if (hc : ET X W c t) (ha : ESs X W n a s) (hb : ESs X W n b r) : ES X W n (.If c a b pos) (sIf t s r) := ps_imp (ps_if hc ha hb) fun D σ H h => by
  obtain ⟨G, as, ρ, M, hg, R, h⟩ := h
  refine ⟨G, as, ρ, M, R, ?_⟩
  unfold sIf at h
  cases q : t ρ M with
  | stuck => rw [q] at h; exact h
  | exc x => rw [q] at h; exact h
  | ok x M1 =>
    rw [q] at h
    intro as1 H1 R1
    cases x with
    | true => rw [if_pos rfl]; exact ⟨G, as1, ρ, M1, hg, R1, h⟩
    | false => rw [if_neg Bool.false_ne_true]; exact ⟨G, as1, ρ, M1, hg, R1, h⟩
theorem es_never : ES X W n st sNever := ps_imp ps_never fun D σ H h => by
  obtain ⟨G, as, ρ, M, hg, R, h⟩ := h
  exact h
theorem ess_never : ESs X W n sts sNever := pss_imp pss_never fun D σ H h => by
  obtain ⟨G, as, ρ, M, hg, R, h⟩ := h
  exact h
theorem es_pass : ES X W n (.Pass pos) sNil := ps_imp ps_pass fun D σ H h => by
  obtain ⟨G, as, ρ, M, hg, R, h⟩ := h
  exact h σ as H R
theorem es_ct : ES X W n (.Continue pos) sCt := ps_imp ps_continue fun D σ H h => by
  obtain ⟨G, as, ρ, M, hg, R, h⟩ := h
  exact h σ as H R
end

/-! ### targets -/
abbrev Tg := B → Rho → Option Rho
def gN (i : Nat) : Tg := fun b ρ => some (ρ.set i (some b))
def gsSet : List Nat → List B → Rho → Option Rho
  | [], [], ρ => some ρ
  | i :: is, b :: bs, ρ => gsSet is bs (ρ.set i (some b))
  | _, _, _ => none
/-- the elements of a tuple -/
def tupB : B → Option (List B)
  | .dat (.tup ds) => some (ds.map .dat)
  | .vw (.tup ds) => some (ds.map lo)
  | _ => none
def gT (is : List Nat) : Tg := fun b ρ => match tupB b with
  | some bs => gsSet is bs ρ
  | none => none
/-- a target that only sets slots -/
def cG (g : Tg) : TG := fun v σ H Q => ∃ G as ρ M b ρ', Rep G as H ρ M σ ∧ RB G.S as H v b ∧ g b ρ = some ρ' ∧ ∀ σ', Rep G as H ρ' M σ' → Q σ' H
abbrev EG (X : Cx) (e : Expr) (g : Tg) : Prop := PG X e (cG g)
theorem pg_imp {e : Expr} {t t' : TG} (h : PG X e t) (i : ∀ v σ H Q, t' v σ H Q → t v σ H Q) : PG X e t' := ⟨fun pins s σ H v u Q I r hw => h.run pins s σ H v u Q I r (i v σ H Q hw)⟩
theorem eg_name {i : Nat} {x : Str} {pos : Pos} (hN : X.N.Nodup) (hi : X.N[i]? = some x := by rfl) (hx : Loc X.env.scope x := by first | exact Or.inl rfl | exact Or.inr rfl) (hf : X.fn x = true ∨ X.env.scope.names.lookup x = some .local := by first | exact .inl rfl | exact .inr rfl | assumption) : EG X (.Name x pos) (gN i) :=
  pg_imp (pg_name hN hi hx hf) fun v σ H Q h => by
    obtain ⟨G, as, ρ, M, b, ρ', R, r, e, k⟩ := h
    cases e
    exact k _ (R.setSlot r)
/-- names of a tuple target -/
def cGs (is : List Nat) : TGs := fun vs σ H Q => ∃ G as ρ M bs ρ', Rep G as H ρ M σ ∧ RBs G.S as H vs bs ∧ gsSet is bs ρ = some ρ' ∧ ∀ σ', Rep G as H ρ' M σ' → Q σ' H
abbrev EGs (X : Cx) (es : List Expr) (is : List Nat) : Prop := PGs X es (cGs is)
theorem pgs_imp {e : List Expr} {t t' : TGs} (h : PGs X e t) (i : ∀ v σ H Q, t' v σ H Q → t v σ H Q) : PGs X e t' := ⟨fun pins s σ H v u Q I r hw => h.run pins s σ H v u Q I r (i v σ H Q hw)⟩
theorem egs_nil : EGs X [] [] := pgs_imp pgs_nil fun vs σ H Q h => by
  obtain ⟨G, as, ρ, M, bs, ρ', R, r, e, k⟩ := h
  cases r with
  | nil =>
    unfold gsSet at e
    cases e
    exact ⟨rfl, k σ R⟩
  | cons _ _ =>
    unfold gsSet at e
    cases e
theorem egs_cons {i : Nat} {is : List Nat} {x : Str} {pos : Pos} {es : List Expr} (hr : EGs X es is) (hN : X.N.Nodup) (hi : X.N[i]? = some x := by rfl) (hx : Loc X.env.scope x := by first | exact Or.inl rfl | exact Or.inr rfl) (hf : X.fn x = true ∨ X.env.scope.names.lookup x = some .local := by first | exact .inl rfl | exact .inr rfl | assumption) : EGs X (.Name x pos :: es) (i :: is) :=
  pgs_imp (pgs_cons (pg_name hN hi hx hf) hr) fun vs σ H Q h => by
    obtain ⟨G, as, ρ, M, bs, ρ', R, r, e, k⟩ := h
    cases r with
    | nil =>
      unfold gsSet at e
      cases e
    | cons r1 t =>
      exact ⟨_, _, rfl, G, as, _, M, _, ρ', R.setSlot r1, t, e, k⟩
theorem eg_tup {es : List Expr} {is : List Nat} {k : _} {pos : Pos} {n : Nat} (hc : X.calm = true) (h : EGs X es is) (hl : is.length = n := by rfl)
    (hn : (assignEach es X.env).length = n := by rfl) (hst : (assignEach es X.env).findIdx? (·.1) = none := by rfl) : EG X (.Tuple es k pos) (gT is) :=
  pg_imp (pg_tup hc h hn hst) fun v σ H Q h => by
    obtain ⟨G, as, ρ, M, b, ρ', R, r, e, k⟩ := h
    unfold gT at e
    split at e
    · rename_i bs eb
      have len : ∀ (is : List Nat) (bs : List B) (ρ : Rho), gsSet is bs ρ = some ρ' → is.length = bs.length := by
        intro is
        induction is with
        | nil => intro bs ρ h; cases bs with
          | nil => rfl
          | cons _ _ => unfold gsSet at h; cases h
        | cons i is ih => intro bs ρ h; cases bs with
          | nil => unfold gsSet at h; cases h
          | cons b bs => rw [List.length_cons, List.length_cons, ih bs _ h]
      have hlen := len is bs ρ e
      unfold tupB at eb
      split at eb
      · cases eb
        cases r with
        | tup h1 n1 d1 => exact ⟨_, _, rfl, SqT.of h1, by rw [d1.length, ← hl, hlen, List.length_map], G, as, ρ, M, _, ρ', R, rbs_dat d1, e, k⟩
      · cases eb
        cases r with
        | tup h1 n1 d1 => exact ⟨_, _, rfl, SqT.of h1, by rw [d1.length, ← hl, hlen, List.length_map], G, as, ρ, M, _, ρ', R, rbs_lo d1, e, k⟩
      · cases eb
    · cases e
def sAsg (g : Tg) (e : Ev) : Es := fun ρ M => (e ρ M).bind fun b M1 => match g b ρ with
  | some ρ1 => .ok (.nx ρ1) M1
  | none => .stuck
theorem es_asg {tg e : Expr} {ea : Ev} {g : Tg} {pos : Pos} (he : EV X W e ea) (hg : EG X tg g) (hs : swapsWithSole [tg] e pos.line X.env = pure false := by rfl) (hw : swappedStores [tg] e X.env = pure none := by rfl) (h1 : List.map (·.2) (assignEach [tg] X.env) = [assign tg X.env] := by rfl) : ES X W n (.Assign [tg] e pos) (sAsg g ea) :=
  ps_imp (ps_asg he hg hs hw h1) fun D σ H h => by
    obtain ⟨G, as, ρ, M, hg, R, h⟩ := h
    refine ⟨G, as, ρ, M, R, ?_⟩
    unfold sAsg at h
    cases q : ea ρ M with
    | stuck => rw [q] at h; exact h
    | exc x => rw [q] at h; exact h
    | ok x M1 =>
      rw [q] at h
      intro v as1 H1 R1 r1
      simp only [Res.bind_ok] at h
      split at h
      · rename_i ρ1 e1
        exact ⟨G, as1, ρ, M1, x, ρ1, R1, r1, e1, fun σ' R' => h σ' as1 H1 R'⟩
      · exact h.elim
/-- x, y = e1, e2 -/
def sPar (i j : Nat) (a : Ea) : Es := fun ρ M => (a ρ M).bind fun bs M1 => match bs with
  | [x, y] => .ok (.nx ((ρ.set i (some x)).set j (some y))) M1
  | _ => .stuck
/-- list[i] = e -/
def sSub (o i e : Ev) : Es := fun ρ M => (e ρ M).bind fun b M1 => (o ρ M1).bind fun x M2 => (i ρ M2).bind fun y M3 => match x, y with
  | .own k, .dat (.int n) => (match M3[k]? with
    | some (some (.lst bs)) => (match ixN bs.length n with
      | some j => .ok (.nx ρ) (M3.set k (some (.lst (bs.set j b))))
      | none => .stuck)
    | _ => .stuck)
  | _, _ => .stuck
theorem es_sub {o i e : Expr} {eo ei ee : Ev} {pos pos' : Pos} (he : EV X W e ee) (ho : EV X W o eo) (hi : EV X W i ei)
    (ha : ∀ v, assign (.Subscript o i pos') X.env v = (do
      let ov ← holding [v] (eval o X.env)
      let iv ← holding [v, ov] (eval i X.env)
      standAt pos'
      holding [v, ov, iv] (setItem ov iv v)
      release [v, ov, iv] []) := by intro _; rfl)
    (hs : swapsWithSole [.Subscript o i pos'] e pos.line X.env = pure false := by rfl) (hw : swappedStores [.Subscript o i pos'] e X.env = pure none := by rfl) (h1 : (assignEach [.Subscript o i pos'] X.env).map (·.2) = [assign (.Subscript o i pos') X.env] := by rfl) : ES X W n (.Assign [.Subscript o i pos'] e pos) (sSub eo ei ee) :=
  ps_imp (ps_asg he (pg_sub ho hi set_list ha) hs hw h1) fun D σ H h => by
    obtain ⟨G, as, ρ, M, hg, R, h⟩ := h
    refine ⟨G, as, ρ, M, R, ?_⟩
    unfold sSub at h
    cases q : ee ρ M with
    | stuck => rw [q] at h; exact h
    | exc x => rw [q] at h; exact h
    | ok b M1 =>
      rw [q] at h
      intro v as1 H1 R1 r1
      refine ⟨G.push v b, as1, ρ, M1, R1.push r1, ?_⟩
      simp only [Res.bind_ok] at h
      cases q2 : eo ρ M1 with
      | stuck => rw [q2] at h; exact h
      | exc x => rw [q2] at h; exact h
      | ok x M2 =>
        rw [q2] at h
        intro u as2 H2 R2 r2
        refine ⟨(G.push v b).push u x, as2, ρ, M2, R2.push r2, ?_⟩
        simp only [Res.bind_ok] at h
        cases q3 : ei ρ M2 with
        | stuck => rw [q3] at h; exact h
        | exc x => rw [q3] at h; exact h
        | ok y M3 =>
          rw [q3] at h
          intro w as3 H3 R3 r3
          have t1 := R3.top
          have R4 := R3.pop
          have t2 := R4.top
          have R5 := R4.pop
          simp only [Res.bind_ok] at h
          split at h
          · split at h
            · rename_i bs e3
              split at h
              · rename_i j ej
                cases r3
                obtain ⟨a, zs, rfl, h1, h2, h3⟩ := own_lst R5.cs e3 t1
                have s := stp_own (G := G) (H := H3) (o := .lst (zs.set j v)) (List.mem_of_getElem? h1)
                exact ⟨a, zs, _, j, rfl, rfl, h2, by rw [h3.length]; exact ej, h _ as3 _ (R5.store h1 ⟨_, upd_same, (h3.set j t2).mono s⟩)⟩
              · exact h.elim
            · exact h.elim
          · exact h.elim
end
end Ab

namespace Ab
open PySem PySem.Spec L2
section
variable {X : Cx} {W : XB → Hp → Prop} {n : Nat}
/-- what is left of a state when the cells from m on are let go -/
def lowB (m : Nat) : B → Bool
  | .own k => decide (k < m)
  | _ => true
def lowC (m : Nat) (c : Cell) : Bool := allC (lowB m) c
def lowM (m : Nat) (M : Mem) : Bool := M.all fun o => match o with
  | some c => lowC m c
  | none => true
def gcR (m : Nat) (ρ : Rho) : Rho := ρ.map fun o => match o with
  | some b => if lowB m b = true then some b else none
  | none => none
/-- the cells from m on are let go -/
def gc (m : Nat) (ρ : Rho) (M : Mem) : Option (Rho × Mem) := if lowM m (M.take m) = true then some (gcR m ρ, M.take m) else none
section
variable {G : Gh} {as : As} {H : Hp} {ρ : Rho} {M : Mem} {σ : St}
theorem mem_take {as : As} {m : Nat} {a : Addr} (h : some a ∈ as.take m) : some a ∈ as := List.mem_of_mem_take h
theorem rb_take {S : Addr → Prop} {m : Nat} {v : V} {b : B} (hb : lowB m b = true) (r : RB S as H v b) : RB S (as.take m) H v b := by
  cases b with
  | dat d => exact den_weak (fun a z => z.imp id mem_take) r
  | vw d => exact den_weak (fun a z => mem_take z) r
  | own k =>
    obtain ⟨a, h1, h2⟩ := r
    exact ⟨a, by rw [List.getElem?_take_of_lt (of_decide_eq_true hb)]; exact h1, h2⟩
  | ty n => exact r
theorem rbs_take {S : Addr → Prop} {m : Nat} : ∀ {vs : List V} {bs : List B}, bs.all (lowB m) = true → RBs S as H vs bs → RBs S (as.take m) H vs bs
  | _, _, _, .nil => .nil
  | _, _, h, .cons r t => by
    rw [List.all_cons, Bool.and_eq_true] at h
    exact .cons (rb_take h.1 r) (rbs_take h.2 t)
theorem cells_take {S : Addr → Prop} {m : Nat} (C : Cells S as H M) (h : lowM m (M.take m) = true) : Cells S (as.take m) H (M.take m) := by
  refine ⟨by rw [List.length_take, List.length_take, C.len], fun k c e => ?_, fun i j a e1 e2 => ?_, fun a z => C.dj a (mem_take z), fun a z => C.al a (mem_take z), C.dS⟩
  · have hk : k < m := by
      have := (List.getElem?_eq_some_iff.mp e).1
      rw [List.length_take] at this
      omega
    rw [List.getElem?_take_of_lt hk] at e
    obtain ⟨a, h1, h2⟩ := C.cell k c e
    have hc : lowC m c = true := by
      unfold lowM at h
      rw [List.all_eq_true] at h
      exact h (some c) (List.mem_of_getElem? (by rw [List.getElem?_take_of_lt hk]; exact e))
    refine ⟨a, by rw [List.getElem?_take_of_lt hk]; exact h1, ?_⟩
    have q := HC.map (g := id) (fun v b hb r => rb_take hb r) (fun a o e n => ⟨e, fun z => n (z.imp id mem_take)⟩) rfl hc h2
    rw [mapC_id] at q
    exact q
  · have hi : i < m := by
      have := (List.getElem?_eq_some_iff.mp e1).1
      rw [List.length_take] at this
      omega
    have hj : j < m := by
      have := (List.getElem?_eq_some_iff.mp e2).1
      rw [List.length_take] at this
      omega
    rw [List.getElem?_take_of_lt hi] at e1
    rw [List.getElem?_take_of_lt hj] at e2
    exact C.nd i j a e1 e2
/-- slots that own nothing high -/
theorem Rep.gc {m : Nat} {ρ' : Rho} {M' : Mem} (R : Rep G as H ρ M σ) (hg : ∀ p ∈ G.tmp, lowB m p.2 = true) (hm : G.ow.length ≤ m) (h : gc m ρ M = some (ρ', M')) : Rep G (as.take m) H ρ' M' σ := by
  unfold Ab.gc at h
  split at h
  · rename_i hl
    cases h
    refine ⟨cells_take R.cs hl, by unfold gcR; rw [List.length_map]; exact R.len, fun i b e => ?_, fun p hp => rb_take (hg p hp) (R.tp p hp), fun q hq => ⟨(R.kp q hq).1, fun z => (R.kp q hq).2 (mem_take z)⟩, R.fr, fun a z => R.nw a (mem_take z), by rw [List.take_take, Nat.min_eq_left hm]; exact R.ot⟩
    unfold gcR at e
    rw [List.getElem?_map] at e
    cases q : ρ[i]? with
    | none => rw [q] at e; cases e
    | some o =>
      rw [q] at e
      cases o with
      | none => cases e
      | some b' =>
        have e' : (if lowB m b' = true then some b' else none) = some b := Option.some.inj e
        split at e'
        · rename_i hb
          cases e'
          obtain ⟨v, h1, h2⟩ := R.sl i _ q
          exact ⟨v, h1, rb_take hb h2⟩
        · cases e'
  · cases h
theorem isD_low {m : Nat} {b : B} (h : isD b = true) : lowB m b = true := by cases b <;> first | rfl | cases h
end
/-! ### for -/
def forL (g : Tg) (s : Es) : List B → Es
  | [], ρ, M => .ok (.nx ρ) M
  | b :: bs, ρ, M => match g b ρ with
    | none => .stuck
    | some ρ1 => (s ρ1 M).bind fun o M1 => match o with
      | .nx ρ2 => forL g s bs ρ2 M1
      | .ct ρ2 => forL g s bs ρ2 M1
      | .brk ρ2 => .ok (.nx ρ2) M1
      | .ret b => .ok (.ret b) M1
/-- the items of data that is walked -/
def items : B → Option (List B)
  | .dat (.lst ds) => some (ds.map .dat)
  | .dat (.tup ds) => some (ds.map .dat)
  | .vw (.lst ds) => some (ds.map lo)
  | .vw (.tup ds) => some (ds.map lo)
  | _ => none
def sFor (g : Tg) (e : Ev) (s : Es) : Es := fun ρ M => (e ρ M).bind fun x M1 => match items x with
  | some bs => forL g s bs ρ M1
  | none => .stuck
def rng (lo hi : Int) : List B := (List.range (hi - lo).toNat).map fun (i : Nat) => B.dat (.int (lo + (i : Int)))
/-- a bound that nothing is unfolded for -/
def bnd (i : Int) : Bool := match i with
  | .ofNat n => Nat.ble n 4611686018427387903
  | .negSucc n => Nat.ble n 4611686018427387903
theorem bnd_eq (i : Int) : bnd i = (decide (-(2 ^ 62) ≤ i) && decide (i < 2 ^ 62)) := by
  rw [Bool.eq_iff_iff, Bool.and_eq_true, decide_eq_true_eq, decide_eq_true_eq]
  cases i with
  | ofNat n =>
    show Nat.ble n 4611686018427387903 = true ↔ -(2 ^ 62) ≤ (n : Int) ∧ (n : Int) < 2 ^ 62
    rw [Nat.ble_eq]
    omega
  | negSucc n =>
    show Nat.ble n 4611686018427387903 = true ↔ _
    rw [Nat.ble_eq, Int.negSucc_eq]
    omega
def rngOf1 : List B → Option (List B)
  | [.dat (.int j)] => if bnd j = true then some (rng 0 j) else none
  | _ => none
def rngOf2 : List B → Option (List B)
  | [.dat (.int i), .dat (.int j)] => if bnd i = true ∧ bnd j = true then some (rng i j) else none
  | _ => none
def sForR1 (g : Tg) (a : Ea) (s : Es) : Es := fun ρ M => (a ρ M).bind fun xs M1 => match rngOf1 xs with
  | some bs => forL g s bs ρ M1
  | none => .stuck
def sForR2 (g : Tg) (a : Ea) (s : Es) : Es := fun ρ M => (a ρ M).bind fun xs M1 => match rngOf2 xs with
  | some bs => forL g s bs ρ M1
  | none => .stuck
/-- where the items stand -/
def SqI (K : PySem.W.Frag) (H : Hp) (a : Addr) (xs : List V) : Prop := H a = some (.lst xs) ∨ H a = some (.tup xs) ∨ ∃ o, H a = some (.frz o (.lst xs))
theorem items_ok {S : Addr → Prop} {as : As} {H : Hp} {x : B} {v : V} {bs : List B} (K : PySem.W.Frag) (e : items x = some bs) (r : RB S as H v x) : ∃ a xs o, v = .ref a ∧ H a = some o ∧ ¬ some a ∈ as ∧ (o = .lst xs ∨ o = .tup xs ∨ ∃ ob, o = .frz ob (.lst xs)) ∧ RBs S as H xs bs ∧ ∀ b ∈ bs, isD b = true := by
  have il : ∀ ds : List D, ∀ b ∈ ds.map lo, isD b = true := fun ds b hb => by
    obtain ⟨d, _, rfl⟩ := List.mem_map.mp hb
    unfold lo
    split <;> rfl
  have id' : ∀ ds : List D, ∀ b ∈ ds.map B.dat, isD b = true := fun ds b hb => by
    obtain ⟨d, _, rfl⟩ := List.mem_map.mp hb
    rfl
  have ii : ∀ ns : List Int, ∀ b ∈ ns.map (fun n => B.dat (.int n)), isD b = true := fun ds b hb => by
    obtain ⟨d, _, rfl⟩ := List.mem_map.mp hb
    rfl
  have ri : ∀ ns : List Int, RBs S as H (ns.map V.int) (ns.map fun n => B.dat (.int n)) := fun ns => by
    induction ns with
    | nil => exact .nil
    | cons n ns ih => exact .cons (Den.int n) ih
  unfold items at e
  split at e
  · cases e
    cases r with
    | lst h1 n d => exact ⟨_, _, _, rfl, h1, fun z => n (.inr z), .inl rfl, rbs_dat d, id' _⟩
  · cases e
    cases r with
    | tup h1 n d => exact ⟨_, _, _, rfl, h1, fun z => n (.inr z), .inr (.inl rfl), rbs_dat d, id' _⟩
  · cases e
    cases r with
    | lst h1 n d => exact ⟨_, _, _, rfl, h1, n, .inl rfl, rbs_lo d, il _⟩
  · cases e
    cases r with
    | tup h1 n d => exact ⟨_, _, _, rfl, h1, n, .inr (.inl rfl), rbs_lo d, il _⟩
  · cases e
/-- what is walked, a list or a tuple -/
def iSeq (K : PySem.W.Frag) (tl : TE) : TI := fun σ H R => tl σ H fun x H1 => (∃ a, x = .ref a ∧ (∃ xs, SqL K H1 a xs) ∧ R (Itl K a) H1) ∨ (∃ a, x = .ref a ∧ (∃ xs, SqT K H1 a xs) ∧ R (Itt K a) H1)
theorem pi_seq {tg l : Expr} {tl : TE} (hl : PE X l tl) : PI X tg l (iSeq X.K tl) := by
  refine ⟨fun pins s σ H R I h => ?_⟩
  refine thn (hl.run pins s σ H _ I h) fun v s1 ⟨x, H1, I1, r1, q1⟩ => ?_
  rcases q1 with q1 | q1
  · obtain ⟨a, e, ⟨xs, hq⟩, q⟩ := q1
    subst e
    cases r1
    obtain ⟨its, rv, p, hz⟩ := I1.list hq
    refine wpAny_pyIter_list p.isList ?_
    refine ⟨s1.heap.objs.size, [s1.heap.objs.size], _, _, H1, rfl, I1.kept (t' := s1.toks) fun b o e => Heap.get?_push_of_some _ e, turn_list a _, ⟨_, Heap.get?_push_size _ rfl, rfl, rfl⟩, fun b hb => ?_, q⟩
    have e : b = s1.heap.objs.size := by simpa using hb
    subst e
    exact I1.fpOk (Nat.le_refl _) (I1.hok.fresh (Nat.le_refl _))
  · obtain ⟨a, e, ⟨xs, hq⟩, q⟩ := q1
    subst e
    cases r1
    obtain ⟨its, rv, p, hz⟩ := I1.tuple hq
    refine wpAny_pyIter_tuple (show s1.heap.IsTuple a its.toArray from p) ?_
    refine ⟨s1.heap.objs.size, [s1.heap.objs.size], _, _, H1, rfl, I1.kept (t' := s1.toks) fun b o e => Heap.get?_push_of_some _ e, turn_tuple a _, ⟨_, Heap.get?_push_size _ rfl, rfl, rfl⟩, fun b hb => ?_, q⟩
    have e : b = s1.heap.objs.size := by simpa using hb
    subst e
    exact I1.fpOk (Nat.le_refl _) (I1.hok.fresh (Nat.le_refl _))
/-- what a loop keeps in mind: the object that is walked, its items -/
def Gh.walk (G : Gh) (a : Addr) (o : HO) (l : List (V × B)) : Gh := { G with keep := (a, o) :: G.keep, tmp := l ++ G.tmp }
section
variable {G : Gh} {as : As} {H : Hp} {ρ : Rho} {M : Mem} {σ : St} {a : Addr} {o : HO} {l : List (V × B)}
theorem Rep.walk (R : Rep G as H ρ M σ) (ha : H a = some o) (n : ¬ some a ∈ as) (hl : ∀ p ∈ l, RB G.S as H p.1 p.2) : Rep (G.walk a o l) as H ρ M σ :=
  ⟨R.cs, R.len, R.sl, fun p hp => (List.mem_append.mp hp).elim (hl p) (R.tp p), fun q hq => by
    rcases List.mem_cons.mp hq with rfl | hq
    · exact ⟨ha, n⟩
    · exact R.kp q hq, R.fr, R.nw, R.ot⟩
theorem Rep.unwalk (R : Rep (G.walk a o l) as H ρ M σ) : Rep G as H ρ M σ := ⟨R.cs, R.len, R.sl, fun p hp => R.tp p (List.mem_append_right _ hp), fun q hq => R.kp q (List.mem_cons_of_mem _ hq), R.fr, R.nw, R.ot⟩
theorem Rep.at (R : Rep (G.walk a o l) as H ρ M σ) : H a = some o := (R.kp (a, o) List.mem_cons_self).1
end
theorem rbs_zip {S : Addr → Prop} {as : As} {H : Hp} : ∀ {xs : List V} {bs : List B}, RBs S as H xs bs → ∀ p ∈ xs.zip bs, RB S as H p.1 p.2
  | _, _, .nil, p, hp => by cases hp
  | _, _, .cons r t, p, hp => by
    rw [List.zip_cons_cons] at hp
    rcases List.mem_cons.mp hp with rfl | hp
    · exact r
    · exact rbs_zip t p hp
theorem zip_isD {xs : List V} {bs : List B} (h : ∀ b ∈ bs, isD b = true) : ∀ p ∈ xs.zip bs, isD p.2 = true := fun p hp => h p.2 (List.of_mem_zip hp).2
/-- one turn and the rest -/
theorem forL_turn {D : Ends} {G : Gh} {as : As} {H : Hp} {ρ : Rho} {M : Mem} {σ : St} {g : Tg} {s : Es} {b : B} {bs : List B} {v : V} {Nx : L2.St → Hp → Prop} (hg : G.ow.length = n ∧ ∀ p ∈ G.tmp, isD p.2 = true) (R : Rep G as H ρ M σ) (r : RB G.S as H v b)
    (h : PoS G W { D with bk := D.nx, ct := fun _ _ => False } (forL g s (b :: bs) ρ M)) (hN : ∀ as' ρ' M' σ' H', Rep G as' H' ρ' M' σ' → PoS G W { D with bk := D.nx, ct := fun _ _ => False } (forL g s bs ρ' M') → Nx σ' H') :
    cG g v σ H fun σ2 H2 => cS W n s { D with nx := Nx, ct := Nx, bk := D.nx } σ2 H2 := by
  unfold forL at h
  split at h
  · exact h.elim
  · rename_i ρ1 e
    refine ⟨G, as, ρ, M, b, ρ1, R, r, e, fun σ' R' => ⟨G, as, ρ1, M, hg, R', ?_⟩⟩
    cases q : s ρ1 M with
    | stuck => rw [q] at h; exact h
    | exc x => rw [q] at h; exact h
    | ok o M1 =>
      rw [q] at h
      cases o with
      | nx ρ2 => exact fun σ2 as2 H2 R2 => hN as2 ρ2 M1 σ2 H2 R2 h
      | ct ρ2 => exact fun σ2 as2 H2 R2 => hN as2 ρ2 M1 σ2 H2 R2 h
      | brk ρ2 => exact h
      | ret b => exact h
theorem pos_walk {D : Ends} {G : Gh} {a : Addr} {o : HO} {l : List (V × B)} : ∀ {r : Res Out}, PoS G W D r → PoS (G.walk a o l) W D r
  | .stuck, h => h
  | .exc x, h => h
  | .ok (.nx ρ) M, h => fun σ' as' H' R => h σ' as' H' R.unwalk
  | .ok (.ret b) M, h => fun v σ' ρ' as' H' R r => h v σ' ρ' as' H' R.unwalk r
  | .ok (.brk ρ) M, h => fun σ' as' H' R => h σ' as' H' R.unwalk
  | .ok (.ct ρ) M, h => fun σ' as' H' R => h σ' as' H' R.unwalk
theorem forL_ends {D : Ends} {G : Gh} {g : Tg} {s : Es} : ∀ {bs : List B} {ρ : Rho} {M : Mem}, PoS G W D (forL g s bs ρ M) → PoS G W { D with bk := D.nx, ct := fun _ _ => False } (forL g s bs ρ M)
  | [], _, _, h => h
  | b :: bs, ρ, M, h => by
    unfold forL at h ⊢
    split
    · rename_i e
      rw [e] at h
      exact h
    · rename_i ρ1 e
      rw [e] at h
      simp only at h
      cases q : s ρ1 M with
      | stuck => rw [q] at h; exact h
      | exc x => rw [q] at h; exact h
      | ok o M1 =>
        rw [q] at h
        cases o with
        | nx ρ2 => exact forL_ends h
        | ct ρ2 => exact forL_ends h
        | brk ρ2 => exact h
        | ret b => exact h
theorem es_for {tg l : Expr} {el : Ev} {g : Tg} {s : Es} {body : List Stmt} {pos : Pos} (hp : PassesOwn (model X.prog X.w) X.A X.env X.xe) (hc : X.calm = true) (hl : EV X W l el) (hg : EG X tg g) (hb : ESs X W n body s)
    (hs : ∀ x, foldedSetIterable l X.env x = pure x := by intro _; rfl) : ES X W n (.For tg l body [] pos) (sFor g el s) :=
  ps_imp (ps_for hp hc (pi_seq hl) hg hb hs) fun D σ H h => by
    obtain ⟨G, as, ρ, M, hg, R, h⟩ := h
    refine ⟨G, as, ρ, M, R, ?_⟩
    unfold sFor at h
    cases q : el ρ M with
    | stuck => rw [q] at h; exact h
    | exc x => rw [q] at h; exact h
    | ok x M1 =>
      rw [q] at h
      intro v as1 H1 R1 r1
      simp only [Res.bind_ok] at h
      split at h
      · rename_i bs e
        obtain ⟨a, xs, o, rfl, ha, na, ho, rs, hD⟩ := items_ok X.K e r1
        have hl := rs.length
        have R2 : Rep (G.walk a o (xs.zip bs)) as1 H1 ρ M1 σ := R1.walk ha na (rbs_zip rs)
        have hg2 : (G.walk a o (xs.zip bs)).ow.length = n ∧ ∀ p ∈ (G.walk a o (xs.zip bs)).tmp, isD p.2 = true := ⟨hg.1, fun p hp => (List.mem_append.mp hp).elim (zip_isD hD p) (hg.2 p)⟩
        have h2 := forL_ends (pos_walk (a := a) (o := o) (l := xs.zip bs) h)
        let Pv : Nat → L2.St → Hp → Prop := fun i σ H => ∃ as ρ M, Rep (G.walk a o (xs.zip bs)) as H ρ M σ ∧ PoS (G.walk a o (xs.zip bs)) W { D with bk := D.nx, ct := fun _ _ => False } (forL g s (bs.drop i) ρ M)
        have h0 : Pv 0 σ H1 := ⟨as1, ρ, M1, R2, by rw [List.drop_zero]; exact h2⟩
        have turn : ∀ i x σ H, xs[i]? = some x → Pv i σ H → cG g x σ H fun σ2 H2 => cS W n s { D with nx := Pv (i + 1), ct := Pv (i + 1), bk := D.nx } σ2 H2 := fun i x σ H e p => by
          obtain ⟨as, ρ, M, R, p⟩ := p
          have hi : i < bs.length := by rw [← hl]; exact (List.getElem?_eq_some_iff.mp e).1
          have eb : bs[i]? = some bs[i] := List.getElem?_eq_getElem hi
          have hm : (x, bs[i]) ∈ (G.walk a o (xs.zip bs)).tmp := List.mem_append_left _ (List.mem_of_getElem? (i := i) (by rw [List.getElem?_zip_eq_some]; exact ⟨e, eb⟩))
          rw [List.drop_eq_getElem_cons hi] at p
          exact forL_turn hg2 R (R.tp _ hm) p fun as' ρ' M' σ' H' R' p' => ⟨as', ρ', M', R', p'⟩
        have done : ∀ σ H, Pv xs.length σ H → D.nx σ H := fun σ H p => by
          obtain ⟨as, ρ, M, R, p⟩ := p
          rw [hl, List.drop_length] at p
          exact p σ as H R
        rcases ho with rfl | rfl | ⟨ob, rfl⟩
        · exact .inl ⟨a, rfl, ⟨xs, SqL.of ha⟩, for_list (xs := xs) Pv h0 (fun i σ H _ ⟨_, _, _, R, _⟩ => SqL.of R.at) turn done⟩
        · exact .inr ⟨a, rfl, ⟨xs, SqT.of ha⟩, for_tup (xs := xs) Pv h0 (fun i σ H _ ⟨_, _, _, R, _⟩ => SqT.of R.at) turn done⟩
        · exact .inl ⟨a, rfl, ⟨xs, .inl (.inr ⟨ob, ha⟩)⟩, for_list (xs := xs) Pv h0 (fun i σ H _ ⟨_, _, _, R, _⟩ => .inl (.inr ⟨ob, R.at⟩)) turn done⟩
      · exact h.elim
open Classical in
/-- the script's ints -/
noncomputable def scrI (K : PySem.W.Frag) : B → Option (List Int)
  | .dat (.scr K' ns) => if K' = K then some ns else none
  | _ => none
noncomputable def sForS (K : PySem.W.Frag) (g : Tg) (e : Ev) (s : Es) : Es := fun ρ M => (e ρ M).bind fun x M1 => match scrI K x with
  | some ns => forL g s (ns.map fun n => .dat (.int n)) ρ M1
  | none => .stuck
theorem scrI_ok {K : PySem.W.Frag} {x : B} {ns : List Int} (e : scrI K x = some ns) : x = .dat (.scr K ns) := by
  unfold scrI at e
  split at e
  · split at e
    · rename_i h
      subst h
      cases e
      rfl
    · cases e
  · cases e
theorem pos_push {D : Ends} {G : Gh} {v : V} {b : B} : ∀ {r : Res Out}, PoS G W D r → PoS (G.push v b) W D r
  | .stuck, h => h
  | .exc x, h => h
  | .ok (.nx ρ) M, h => fun σ' as' H' R => h σ' as' H' R.pop
  | .ok (.ret b) M, h => fun v σ' ρ' as' H' R r => h v σ' ρ' as' H' R.pop r
  | .ok (.brk ρ) M, h => fun σ' as' H' R => h σ' as' H' R.pop
  | .ok (.ct ρ) M, h => fun σ' as' H' R => h σ' as' H' R.pop
theorem es_forS {tg l : Expr} {el : Ev} {g : Tg} {s : Es} {body : List Stmt} {pos : Pos} (hp : PassesOwn (model X.prog X.w) X.A X.env X.xe) (hc : X.calm = true) (hl : EV X W l el) (hg : EG X tg g) (hb : ESs X W n body s)
    (hs : ∀ x, foldedSetIterable l X.env x = pure x := by intro _; rfl) : ES X W n (.For tg l body [] pos) (sForS X.K g el s) :=
  ps_imp (ps_for hp hc (pi_list hl) hg hb hs) fun D σ H h => by
    obtain ⟨G, as, ρ, M, hg, R, h⟩ := h
    refine ⟨G, as, ρ, M, R, ?_⟩
    unfold sForS at h
    cases q : el ρ M with
    | stuck => rw [q] at h; exact h
    | exc x => rw [q] at h; exact h
    | ok x M1 =>
      rw [q] at h
      intro v as1 H1 R1 r1
      simp only [Res.bind_ok] at h
      split at h
      · rename_i ns e
        have e' := scrI_ok e
        subst e'
        obtain ⟨a, rfl, hsq⟩ := Den.scr_sq r1
        have R2 : Rep (G.push (.ref a) (.dat (.scr X.K ns))) as1 H1 ρ M1 σ := R1.push r1
        have h2 := forL_ends (pos_push (v := .ref a) (b := .dat (.scr X.K ns)) h)
        let Pv : Nat → L2.St → Hp → Prop := fun i σ H => ∃ as ρ M, Rep (G.push (.ref a) (.dat (.scr X.K ns))) as H ρ M σ ∧ PoS (G.push (.ref a) (.dat (.scr X.K ns))) W { D with bk := D.nx, ct := fun _ _ => False } (forL g s ((ns.map fun n => B.dat (.int n)).drop i) ρ M)
        refine ⟨a, rfl, ⟨_, hsq⟩, for_list (xs := ns.map V.int) Pv ⟨as1, ρ, M1, R2, by rw [List.drop_zero]; exact h2⟩ (fun i σ H _ ⟨_, _, _, R, _⟩ => ?_) (fun i x σ H ex p => ?_) fun σ H p => ?_⟩
        · obtain ⟨a', e', h'⟩ := Den.scr_sq R.top
          cases e'
          exact h'
        · obtain ⟨as, ρ, M, R, p⟩ := p
          have hi : i < (ns.map fun n => B.dat (.int n)).length := by
            have := (List.getElem?_eq_some_iff.mp ex).1
            rw [List.length_map] at this ⊢
            exact this
          rw [List.getElem?_map] at ex
          cases q2 : ns[i]? with
          | none => rw [q2] at ex; cases ex
          | some m =>
            rw [q2] at ex
            cases ex
            have eb : (ns.map fun n => B.dat (.int n))[i] = .dat (.int m) := by
              have : (ns.map fun n => B.dat (.int n))[i]? = some (.dat (.int m)) := by rw [List.getElem?_map, q2]; rfl
              rw [List.getElem?_eq_getElem hi] at this
              exact Option.some.inj this
            rw [List.drop_eq_getElem_cons hi, eb] at p
            refine forL_turn (G := G.push (.ref a) (.dat (.scr X.K ns))) (b := .dat (.int m)) ⟨hg.1, fun q hq => ?_⟩ R (Den.int _) p fun as' ρ' M' σ' H' R' p' => ⟨as', ρ', M', R', p'⟩
            · rcases List.mem_cons.mp hq with rfl | hq
              · rfl
              · exact hg.2 q hq
        · obtain ⟨as, ρ, M, R, p⟩ := p
          rw [List.length_map, ← List.length_map (f := fun n => B.dat (.int n)), List.drop_length] at p
          exact p σ as H R
      · exact h.elim
theorem rng_get {lo hi : Int} {i : Nat} (h : i < (hi - lo).toNat) : (rng lo hi)[i]? = some (.dat (.int (lo + i))) := by
  unfold rng
  rw [List.getElem?_map, List.getElem?_range h]
  rfl
theorem rng_len (lo hi : Int) : (rng lo hi).length = (hi - lo).toNat := by unfold rng; rw [List.length_map, List.length_range]
theorem forR_core {D : Ends} {G : Gh} {as : As} {H : Hp} {ρ : Rho} {M : Mem} {σ : St} {g : Tg} {s : Es} {lo hi : Int} (hg : G.ow.length = n ∧ ∀ p ∈ G.tmp, isD p.2 = true) (R : Rep G as H ρ M σ) (h : PoS G W D (forL g s (rng lo hi) ρ M)) :
    ∃ Wv : Nat → Nat → L2.St → Hp → Prop, (∃ m, Wv 0 m σ H) ∧ ∀ i m σ H, Wv i m σ H →
      ((Itr lo (hi - lo).toNat).stop i H ∧ D.nx σ H) ∨ ((Itr lo (hi - lo).toNat).go i H ∧ ∃ N : L2.St → Hp → Prop, (∀ σ' H', N σ' H' → ∃ m', m' < m ∧ Wv (i + 1) m' σ' H') ∧ ∀ x H', (Itr lo (hi - lo).toNat).yld i H x H' → cG g x σ H' fun σ2 H2 => cS W n s { D with nx := N, ct := N, bk := D.nx } σ2 H2) := by
  have h2 := forL_ends h
  let Pv : Nat → L2.St → Hp → Prop := fun i σ H => ∃ as ρ M, Rep G as H ρ M σ ∧ PoS G W { D with bk := D.nx, ct := fun _ _ => False } (forL g s ((rng lo hi).drop i) ρ M)
  refine for_range Pv ⟨as, ρ, M, R, by rw [List.drop_zero]; exact h2⟩ (fun i σ H hi' p => ?_) fun σ H p => ?_
  · obtain ⟨as, ρ, M, R, p⟩ := p
    have hl : i < (rng lo hi).length := by rw [rng_len]; exact hi'
    have eb : (rng lo hi)[i] = .dat (.int (lo + i)) := by
      have := rng_get (lo := lo) (hi := hi) hi'
      rw [List.getElem?_eq_getElem hl] at this
      exact Option.some.inj this
    rw [List.drop_eq_getElem_cons hl, eb] at p
    exact forL_turn (b := .dat (.int (lo + (i : Int)))) hg R (Den.int _) p fun as' ρ' M' σ' H' R' p' => ⟨as', ρ', M', R', p'⟩
  · obtain ⟨as, ρ, M, R, p⟩ := p
    rw [← rng_len, List.drop_length] at p
    exact p σ as H R
theorem es_forR1 {tg a : Expr} {ea : Ea} {g : Tg} {s : Es} {body : List Stmt} {p pos pos' : Pos} (hp : PassesOwn (model X.prog X.w) X.A X.env X.xe) (hc : X.calm = true) (hr : Gl X "range") (hm : X.mg "range" = none) (ha : EA X W [a] ea) (hg : EG X tg g) (hb : ESs X W n body s)
    (hst : starEach [a] X.env = [(false, eval a X.env)] := by rfl) (hs : ∀ x, foldedSetIterable (.Call (.Name "range" p) [a] [] pos') X.env x = pure x := by intro _; rfl) : ES X W n (.For tg (.Call (.Name "range" p) [a] [] pos') body [] pos) (sForR1 g ea s) :=
  ps_imp (ps_for hp hc (pi_range1 hr hm ha hst) hg hb hs) fun D σ H h => by
    obtain ⟨G, as, ρ, M, hg, R, h⟩ := h
    refine ⟨G, as, ρ, M, R, ?_⟩
    unfold sForR1 at h
    cases q : ea ρ M with
    | stuck => rw [q] at h; exact h
    | exc x => rw [q] at h; exact h
    | ok x M1 =>
      rw [q] at h
      intro v as1 H1 R1 r1
      simp only [Res.bind_ok] at h
      split at h
      · rename_i bs e
        unfold rngOf1 at e
        split at e
        · split at e
          · rename_i j hj
            cases e
            rw [bnd_eq] at hj
            rw [Bool.and_eq_true, decide_eq_true_eq, decide_eq_true_eq] at hj
            cases r1 with
            | cons r t =>
              cases t
              cases r
              refine ⟨j, rfl, hj.1, hj.2, ?_⟩
              have q := forR_core (lo := 0) (hi := j) hg R1 h
              rw [Int.sub_zero] at q
              exact q
          · cases e
        · cases e
      · exact h.elim
theorem es_forR2 {tg a b : Expr} {ea : Ea} {g : Tg} {s : Es} {body : List Stmt} {p pos pos' : Pos} (hp : PassesOwn (model X.prog X.w) X.A X.env X.xe) (hc : X.calm = true) (hr : Gl X "range") (hm : X.mg "range" = none) (ha : EA X W [a, b] ea) (hg : EG X tg g) (hb : ESs X W n body s)
    (hst : starEach [a, b] X.env = [(false, eval a X.env), (false, eval b X.env)] := by rfl) (hs2 : starEach [b] X.env = [(false, eval b X.env)] := by rfl) (hs : ∀ x, foldedSetIterable (.Call (.Name "range" p) [a, b] [] pos') X.env x = pure x := by intro _; rfl) : ES X W n (.For tg (.Call (.Name "range" p) [a, b] [] pos') body [] pos) (sForR2 g ea s) :=
  ps_imp (ps_for hp hc (pi_range2 hr hm ha hst hs2) hg hb hs) fun D σ H h => by
    obtain ⟨G, as, ρ, M, hg, R, h⟩ := h
    refine ⟨G, as, ρ, M, R, ?_⟩
    unfold sForR2 at h
    cases q : ea ρ M with
    | stuck => rw [q] at h; exact h
    | exc x => rw [q] at h; exact h
    | ok x M1 =>
      rw [q] at h
      intro v as1 H1 R1 r1
      simp only [Res.bind_ok] at h
      split at h
      · rename_i bs e
        unfold rngOf2 at e
        split at e
        · split at e
          · rename_i i j hj
            cases e
            simp only [bnd_eq] at hj
            rw [Bool.and_eq_true, decide_eq_true_eq, decide_eq_true_eq, Bool.and_eq_true, decide_eq_true_eq, decide_eq_true_eq] at hj
            cases r1 with
            | cons r t =>
              cases t with
              | cons r' t =>
                cases t
                cases r
                cases r'
                exact ⟨i, j, rfl, ⟨hj.1.1, hj.1.2, hj.2.1, hj.2.2⟩, forR_core (lo := i) (hi := j) hg R1 h⟩
          · cases e
        · cases e
      · exact h.elim
/-! ### while -/
def whL (t : Et) (s : Es) : Nat → Es
  | 0, _, _ => .stuck
  | n + 1, ρ, M => (t ρ M).bind fun c M1 => if c = true then (s ρ M1).bind fun o M2 => match o with
      | .nx ρ2 => whL t s n ρ2 M2
      | .ct ρ2 => whL t s n ρ2 M2
      | .brk ρ2 => .ok (.nx ρ2) M2
      | .ret b => .ok (.ret b) M2
    else .ok (.nx ρ) M1
/-- the fuel is of one's own choice -/
def sWh (fuel : Rho → Mem → Nat) (t : Et) (s : Es) : Es := fun ρ M => whL t s (fuel ρ M) ρ M
theorem whL_ends {D : Ends} {G : Gh} {t : Et} {s : Es} : ∀ {n : Nat} {ρ : Rho} {M : Mem}, PoS G W D (whL t s n ρ M) → PoS G W { D with bk := D.nx, ct := fun _ _ => False } (whL t s n ρ M)
  | 0, _, _, h => h
  | n + 1, ρ, M, h => by
    unfold whL at h ⊢
    cases q : t ρ M with
    | stuck => rw [q] at h; exact h
    | exc x => rw [q] at h; exact h
    | ok c M1 =>
      rw [q] at h
      simp only [Res.bind_ok] at h ⊢
      cases c with
      | false => exact h
      | true =>
        simp only [if_true] at h ⊢
        cases q2 : s ρ M1 with
        | stuck => rw [q2] at h; exact h
        | exc x => rw [q2] at h; exact h
        | ok o M2 =>
          rw [q2] at h
          cases o with
          | nx ρ2 => exact whL_ends h
          | ct ρ2 => exact whL_ends h
          | brk ρ2 => exact h
          | ret b => exact h
theorem es_while {c : Expr} {t : Et} {s : Es} {body : List Stmt} {pos : Pos} (fuel : Rho → Mem → Nat) (hp : PassesOwn (model X.prog X.w) X.A X.env X.xe) (hc : ET X W c t) (hb : ESs X W n body s) : ES X W n (.While c body [] pos) (sWh fuel t s) :=
  ps_imp (ps_while hp hc hb) fun D σ H h => by
    obtain ⟨G, as, ρ, M, hg, R, h⟩ := h
    have h2 := whL_ends h
    refine ⟨fun n σ H => ∃ as ρ M, Rep G as H ρ M σ ∧ PoS G W { D with bk := D.nx, ct := fun _ _ => False } (whL t s n ρ M), ⟨fuel ρ M, as, ρ, M, R, h2⟩, ?_⟩
    rintro n σ H ⟨as, ρ, M, R, p⟩
    cases n with
    | zero => exact p.elim
    | succ n =>
      refine ⟨G, as, ρ, M, R, ?_⟩
      unfold whL at p
      cases q : t ρ M with
      | stuck => rw [q] at p; exact p
      | exc x => rw [q] at p; exact p
      | ok c M1 =>
        rw [q] at p
        intro as1 H1 R1
        simp only [Res.bind_ok] at p
        cases c with
        | false =>
          rw [if_neg Bool.false_ne_true]
          exact p σ as1 H1 R1
        | true =>
          rw [if_pos rfl]
          simp only [if_true] at p
          refine ⟨fun σ' H' => ∃ as ρ M, Rep G as H' ρ M σ' ∧ PoS G W { D with bk := D.nx, ct := fun _ _ => False } (whL t s n ρ M), fun σ' H' z => ⟨n, Nat.lt_succ_self n, z⟩, G, as1, ρ, M1, hg, R1, ?_⟩
          cases q2 : s ρ M1 with
          | stuck => rw [q2] at p; exact p
          | exc x => rw [q2] at p; exact p
          | ok o M2 =>
            rw [q2] at p
            cases o with
            | nx ρ2 => exact fun σ2 as2 H2 R2 => ⟨as2, ρ2, M2, R2, p⟩
            | ct ρ2 => exact fun σ2 as2 H2 R2 => ⟨as2, ρ2, M2, R2, p⟩
            | brk ρ2 => exact p
            | ret b => exact p
end
end Ab

namespace Ab
open PySem PySem.Spec L2

/-! ### promises -/
/-- how a refusal lies in the heap -/
abbrev AbsX := XB → Value → Option Addr → Hp → Prop
abbrev Fn := List B → Mem → Res B
def PoC (AX : AbsX) (S : Addr → Prop) (as : As) (H : Hp) (Q : VK) (E : XK) : Res B → Prop
  | .stuck => False
  | .exc x => ∀ cls d H', AX x cls d H' → (∀ a o, H a = some o → ¬ some a ∈ as → H' a = some o) → E cls d H'
  | .ok b M' => ∀ v as' H', Cells S as' H' M' → as'.take as.length = as → (∀ a, some a ∈ as' → some a ∈ as ∨ H a = none) → (∀ a o, H a = some o → ¬ some a ∈ as → H' a = some o) → RB S as' H' v b → Q v H'
/-- the def's promise: so many arguments, so many cells handed in, what it reckons -/
def spF (AX : AbsX) (ar n : Nat) (f : Fn) : Sp := fun vs H Q E => vs.length = ar ∧ ∃ S as bs M, as.length = n ∧ Cells S as H M ∧ RBs S as H vs bs ∧ PoC AX S as H Q E (f bs M)

/-! ### a def's body -/
def rho0 (N : Nat) (bs : List B) : Rho := bs.map some ++ List.replicate (N - bs.length) none
/-- what the body hands back -/
def outB : Res Out → Res B
  | .stuck => .stuck
  | .exc x => .exc x
  | .ok (.nx _) M => .ok (.dat .non) M
  | .ok (.ret b) M => .ok b M
  | .ok _ _ => .stuck
/-- a dict of lists is kept as data -/
def isLstB : B → Bool
  | .dat (.lst _) => true
  | _ => false
def keptN (kvs : List (NestedKey × B)) : Bool := kvs.all fun p => isLstB p.2
/-- data, cells of one's own looked through once -/
def resO (n : Nat) (M : Mem) (k : Nat) : Option B := if k < n then some (.own k) else match M[k]? with
    | some (some (.lst bs)) => (dats bs).map fun ds => .dat (.lst ds)
    | some (some (.ins C fs)) => (dats (fs.map (·.2))).map fun ds => .dat (.obj C ((fs.map (·.1)).zip ds))
    | some (some (.dct w kvs)) => if keptN kvs = true then (dats (kvs.map (·.2))).map fun ds => .dat (.nd w ((kvs.map (·.1)).zip ds)) else some (.dat .any)
    | some (some (.dk kvs)) => (dats (kvs.map (·.2))).map fun ds => .dat (.kd ((kvs.map (·.1)).zip ds))
    | _ => none
def resB (n : Nat) (M : Mem) : B → Option B
  | .own k => resO n M k
  | .dat d => some (.dat d)
  | _ => none
def resC (n : Nat) (M : Mem) : Option Cell → Option (Option Cell)
  | some c => if allC (fun b => (resB n M b).isSome) c = true then some (some (mapC (fun b => (resB n M b).getD b) c)) else none
  | none => some none
/-- the end of a def: data handed back -/
def finD (n : Nat) (r : Res B) : Res B := r.bind fun b M => match resB n M b, optAll ((M.take n).map (resC n M)) with
  | some b', some M' => .ok b' M'
  | _, _ => .stuck
/-- the end of a def: a new list handed back -/
def finO (n : Nat) (r : Res B) : Res B := r.bind fun b M => match b with
  | .own k => if n ≤ k ∧ lowM n (M.take n) = true then (match M[k]? with
    | some (some (.lst bs)) => (match dats bs with
      | some ds => .ok (.own n) (M.take n ++ [some (.lst (ds.map .dat))])
      | none => .stuck)
    | _ => .stuck) else .stuck
  | _ => .stuck
section
variable {S : Addr → Prop} {as : As} {H : Hp} {M : Mem} {n : Nat}
theorem optAll_get {α : Type} : ∀ {l : List (Option α)} {r : List α} {k : Nat} {a : α}, optAll l = some r → r[k]? = some a → l[k]? = some (some a)
  | [], _, _, _, e, h => by cases e; cases h
  | none :: l, _, _, _, e, _ => by cases e
  | some x :: l, r, k, a, e, h => by
    unfold optAll at e
    cases q : optAll l with
    | none => rw [q] at e; cases e
    | some r' =>
      rw [q] at e
      cases e
      cases k with
      | zero => exact congrArg some h
      | succ k => exact optAll_get (l := l) q h
theorem optAll_len {α : Type} : ∀ {l : List (Option α)} {r : List α}, optAll l = some r → r.length = l.length
  | [], _, e => by cases e; rfl
  | none :: l, _, e => by cases e
  | some x :: l, r, e => by
    unfold optAll at e
    cases q : optAll l with
    | none => rw [q] at e; cases e
    | some r' =>
      rw [q] at e
      cases e
      rw [List.length_cons, List.length_cons, optAll_len q]
theorem in_take_lt {m : Nat} {a : Addr} (h : some a ∈ as.take m) : ∃ k, k < m ∧ as[k]? = some (some a) := by
  obtain ⟨k, hk⟩ := List.mem_iff_getElem?.mp h
  have hlt : k < m := by
    have := (List.getElem?_eq_some_iff.mp hk).1
    rw [List.length_take] at this
    omega
  exact ⟨k, hlt, by rw [List.getElem?_take_of_lt hlt] at hk; exact hk⟩
theorem resB_ok (C : Cells S as H M) {b b' : B} {v : V} (e : resB n M b = some b') (r : RB S as H v b) : RB S (as.take n) H v b' := by
  cases b with
  | dat d =>
    cases e
    exact rb_take (b := .dat d) rfl r
  | vw d => cases e
  | ty m => cases e
  | own k =>
    have e : resO n M k = some b' := e
    unfold resO at e
    split at e
    · rename_i hk
      cases e
      exact rb_take (b := .own k) (decide_eq_true hk) r
    · rename_i hk
      have nin : ∀ a, as[k]? = some (some a) → ¬ (S a ∨ some a ∈ as.take n) := fun a h z => by
        rcases z with z | z
        · exact C.dj a (List.mem_of_getElem? h) z
        · obtain ⟨j, hj, e⟩ := in_take_lt z
          exact hk (by rw [C.nd k j a h e]; exact hj)
      split at e
      · rename_i bs q
        cases q2 : dats bs with
        | none => rw [q2] at e; cases e
        | some ds =>
          rw [q2] at e
          cases e
          obtain ⟨a, xs, rfl, h1, h2, h3⟩ := own_lst C q r
          exact Den.lst h2 (nin a h1) (dens_weak (fun a z => z.imp id mem_take) (dats_ok q2 h3))
      · rename_i C' fs q
        cases q2 : dats (fs.map (·.2)) with
        | none => rw [q2] at e; cases e
        | some ds =>
          rw [q2] at e
          cases e
          obtain ⟨a, h1, dx, xs, h2, h3⟩ := C.cell k _ q
          obtain ⟨a', h4, rfl⟩ := r
          rw [h1] at h4
          cases h4
          have hd := dats_ok q2 h3
          refine Den.obj h2 (nin a h1) ?_ (dens_weak (fun a z => z.imp id mem_take) hd)
          rw [List.length_map, ← hd.length, h3.length, List.length_map]
      · rename_i w kvs q
        split at e
        · cases q2 : dats (kvs.map (·.2)) with
          | none => rw [q2] at e; cases e
          | some ds =>
            rw [q2] at e
            cases e
            obtain ⟨a, h1, ads, xs, h2, h3, h4, h5, h6⟩ := C.cell k _ q
            obtain ⟨a', h7, rfl⟩ := r
            rw [h1] at h7
            cases h7
            have hd := dats_ok q2 h4
            have e3 : (kvs.map fun p => toD p.1) = (kvs.map (·.1)).map toD := by rw [List.map_map]; rfl
            rw [e3] at h3
            refine Den.nd h2 (nin a h1) ?_ (dens_weak (fun a z => z.imp id mem_take) h3) h5 h6 (dens_weak (fun a z => z.imp id mem_take) hd)
            rw [List.length_map, ← hd.length, h4.length, List.length_map]
        · cases e
          exact Den.any v
      · rename_i kvs q
        cases q2 : dats (kvs.map (·.2)) with
        | none => rw [q2] at e; cases e
        | some ds =>
          rw [q2] at e
          cases e
          obtain ⟨a, h1, xs, h2, h3⟩ := C.cell k _ q
          obtain ⟨a', h4, rfl⟩ := r
          rw [h1] at h4
          cases h4
          have hd := dats_ok q2 h3
          refine Den.kd h2 (nin a h1) ?_ (dens_weak (fun a z => z.imp id mem_take) hd)
          rw [List.length_map, ← hd.length, h3.length, List.length_map]
      · cases e
/-- fewer cells -/
theorem rb_sel {as2 : As} (sub : ∀ a, some a ∈ as2 → some a ∈ as) (hk : ∀ (k : Nat) (a : Addr), k < n → as[k]? = some (some a) → as2[k]? = some (some a)) {v : V} {b : B} (hb : lowB n b = true) (r : RB S as H v b) : RB S as2 H v b := by
  cases b with
  | dat d => exact den_weak (fun a z => z.imp id (sub a)) r
  | vw d => exact den_weak (fun a z => sub a z) r
  | own k =>
    obtain ⟨a, h1, h2⟩ := r
    exact ⟨a, hk k a (of_decide_eq_true hb) h1, h2⟩
  | ty n => exact r
theorem rbs_sel {as2 : As} (sub : ∀ a, some a ∈ as2 → some a ∈ as) (hk : ∀ (k : Nat) (a : Addr), k < n → as[k]? = some (some a) → as2[k]? = some (some a)) : ∀ {vs : List V} {bs : List B}, bs.all (lowB n) = true → RBs S as H vs bs → RBs S as2 H vs bs
  | _, _, _, .nil => .nil
  | _, _, h, .cons r t => by
    rw [List.all_cons, Bool.and_eq_true] at h
    exact .cons (rb_sel sub hk h.1 r) (rbs_sel sub hk h.2 t)
theorem hc_sel {as2 : As} (sub : ∀ a, some a ∈ as2 → some a ∈ as) (hk : ∀ (k : Nat) (a : Addr), k < n → as[k]? = some (some a) → as2[k]? = some (some a)) {a : Addr} {c : Cell} (hb : lowC n c = true) (r : HC S as H a c) : HC S as2 H a c := by
  have q := HC.map (g := id) (fun v b h r => rb_sel sub hk h r) (fun a o e n => ⟨e, fun z => n (z.imp id (sub a))⟩) rfl hb r
  rw [mapC_id] at q
  exact q
theorem lowM_at (h : lowM n (M.take n) = true) {k : Nat} {c : Cell} (hk : k < n) (e : M[k]? = some (some c)) : lowC n c = true := by
  unfold lowM at h
  rw [List.all_eq_true] at h
  exact h (some c) (List.mem_of_getElem? (by rw [List.getElem?_take_of_lt hk]; exact e))
theorem zip_fst {α β : Type} : ∀ (l : List α) (r : List β), l.length = r.length → (l.zip r).map (·.1) = l
  | [], [], _ => rfl
  | [], _ :: _, h => by cases h
  | _ :: _, [], h => by cases h
  | a :: l, b :: r, h => by rw [List.zip_cons_cons, List.map_cons, zip_fst l r (Nat.succ.inj h)]
theorem zip_snd {α β : Type} : ∀ (l : List α) (r : List β), l.length = r.length → (l.zip r).map (·.2) = r
  | [], [], _ => rfl
  | [], _ :: _, h => by cases h
  | _ :: _, [], h => by cases h
  | a :: l, b :: r, h => by rw [List.zip_cons_cons, List.map_cons, zip_snd l r (Nat.succ.inj h)]
theorem cells_res (C : Cells S as H M) {M' : Mem} (e : optAll ((M.take n).map (resC n M)) = some M') : Cells S (as.take n) H M' := by
  refine ⟨by rw [optAll_len e, List.length_map, List.length_take, List.length_take, C.len], fun k c h => ?_, fun i j a e1 e2 => ?_, fun a z => C.dj a (mem_take z), fun a z => C.al a (mem_take z), C.dS⟩
  · have q := optAll_get e h
    rw [List.getElem?_map] at q
    cases q2 : (M.take n)[k]? with
    | none => rw [q2] at q; cases q
    | some o =>
      rw [q2] at q
      have q3 : resC n M o = some (some c) := Option.some.inj q
      have hk : k < n := by
        have := (List.getElem?_eq_some_iff.mp q2).1
        rw [List.length_take] at this
        omega
      rw [List.getElem?_take_of_lt hk] at q2
      cases o with
      | none => cases q3
      | some c0 =>
        obtain ⟨a, h1, h2⟩ := C.cell k c0 q2
        refine ⟨a, by rw [List.getElem?_take_of_lt hk]; exact h1, ?_⟩
        have q3 : (if allC (fun b => (resB n M b).isSome) c0 = true then some (some (mapC (fun b => (resB n M b).getD b) c0)) else none) = some (some c) := q3
        split at q3
        · rename_i hp
          cases q3
          exact HC.map (fun v b hb r => by
            cases q : resB n M b with
            | none => rw [q] at hb; cases hb
            | some b' => exact resB_ok C q r) (fun a o e n => ⟨e, fun z => n (z.imp id mem_take)⟩) rfl hp h2
        · cases q3
  · obtain ⟨_, hi⟩ := List.getElem?_eq_some_iff.mp e1
    have hi : i < n := by
      have := (List.getElem?_eq_some_iff.mp e1).1
      rw [List.length_take] at this
      omega
    have hj : j < n := by
      have := (List.getElem?_eq_some_iff.mp e2).1
      rw [List.length_take] at this
      omega
    rw [List.getElem?_take_of_lt hi] at e1
    rw [List.getElem?_take_of_lt hj] at e2
    exact C.nd i j a e1 e2
end
theorem start_rep {AX : AbsX} {S : Addr → Prop} {as : As} {H : Hp} {M : Mem} {bs : List B} {vs : List V} {N : List Str} (C : Cells S as H M) (r : RBs S as H vs bs) :
    Rep ⟨H, S, as, [], []⟩ as H (rho0 N.length bs) M (L2.start N vs) := by
  have hl := r.length
  refine ⟨C, ?_, fun i b e => ?_, fun p hp => (by cases hp), fun p hp => (by cases hp), fun a o h n => h, fun a h => .inl h, by simp⟩
  · unfold L2.start rho0
    simp [hl]
  · unfold rho0 at e
    unfold L2.start
    by_cases hi : i < bs.length
    · rw [List.getElem?_append_left (by simpa using hi), List.getElem?_map] at e
      rw [List.getElem?_append_left (by simpa [hl] using hi), List.getElem?_map]
      cases q : bs[i]? with
      | none => rw [q] at e; cases e
      | some b' =>
        rw [q] at e
        cases e
        obtain ⟨v, h1, h2⟩ := RB.get r q
        exact ⟨v, by rw [h1]; rfl, h2⟩
    · rw [List.getElem?_append_right (by simpa using Nat.le_of_not_lt hi)] at e
      rw [List.getElem?_replicate] at e
      split at e <;> cases e
/-- THE RULE for a def that hands back data -/
theorem body_D {X : Cx} {AX : AbsX} {ar : Nat} {body : Es} {N : List Str} {sts : List Stmt} {vs : List V} {H : Hp} {Q : VK} {E : XK} {n : Nat} {f : Fn} (hf : ∀ bs M, f bs M = finD n (outB (body (rho0 N.length bs) M)))
    (hb : ESs X (fun x H' => ∀ cls d, AX x cls d H' → E cls d H') n sts body) (h : spF AX ar n f vs H Q E) : ∃ t, PSs X sts t ∧ t { nx := fun _ H' => Q .non H', rt := Q } (L2.start N vs) H := by
  refine ⟨_, hb, ?_⟩
  obtain ⟨_, S, as, bs, M, hn, C, r, h⟩ := h
  have R := start_rep (AX := AX) (N := N) C r
  refine ⟨_, as, _, M, ⟨hn, fun p hp => (by cases hp)⟩, R, ?_⟩
  rw [hf] at h
  -- the end
  have fin : ∀ (b : B) (M1 : Mem) (v : V) σ' ρ' as' H', Rep ⟨H, S, as, [], []⟩ as' H' ρ' M1 σ' → RB S as' H' v b → PoC AX S as H Q E (finD n (.ok b M1)) → Q v H' := fun b M1 v σ' ρ' as' H' R' r' h' => by
    unfold finD at h'
    simp only [Res.bind_ok] at h'
    split at h'
    · rename_i b' M' e1 e2
      have ht : as'.take n = as := by rw [← hn]; exact R'.ot
      refine h' v as H' ?_ (by rw [List.take_of_length_le (Nat.le_refl _)]) (fun a z => .inl z) (fun a o e z => R'.fr a o e z) ?_
      · have := cells_res R'.cs e2
        rw [ht] at this
        exact this
      · have := resB_ok R'.cs e1 r'
        rw [ht] at this
        exact this
    · exact h'.elim
  cases q : body (rho0 N.length bs) M with
  | stuck => rw [q] at h; exact h
  | exc x => rw [q] at h; exact fun H' fr cls d a => h cls d H' a fr
  | ok o M1 =>
    rw [q] at h
    cases o with
    | nx ρ1 => exact fun σ' as' H' R' => fin (.dat .non) M1 .non σ' _ as' H' R' Den.non h
    | ret b => exact fun v σ' ρ' as' H' R' r' => fin b M1 v σ' ρ' as' H' R' r' h
    | brk ρ1 => exact False.elim h
    | ct ρ1 => exact False.elim h
/-- .. a new list -/
theorem body_O {X : Cx} {AX : AbsX} {ar : Nat} {body : Es} {N : List Str} {sts : List Stmt} {vs : List V} {H : Hp} {Q : VK} {E : XK} {n : Nat} {f : Fn} (hf : ∀ bs M, f bs M = finO n (outB (body (rho0 N.length bs) M)))
    (hb : ESs X (fun x H' => ∀ cls d, AX x cls d H' → E cls d H') n sts body) (h : spF AX ar n f vs H Q E) : ∃ t, PSs X sts t ∧ t { nx := fun _ H' => Q .non H', rt := Q } (L2.start N vs) H := by
  refine ⟨_, hb, ?_⟩
  obtain ⟨_, S, as, bs, M, hn, C, r, h⟩ := h
  have R := start_rep (AX := AX) (N := N) C r
  refine ⟨_, as, _, M, ⟨hn, fun p hp => (by cases hp)⟩, R, ?_⟩
  rw [hf] at h
  have fin : ∀ (b : B) (M1 : Mem) (v : V) σ' ρ' as' H', Rep ⟨H, S, as, [], []⟩ as' H' ρ' M1 σ' → RB S as' H' v b → PoC AX S as H Q E (finO n (.ok b M1)) → Q v H' := fun b M1 v σ' ρ' as' H' R' r' h' => by
    unfold finO at h'
    simp only [Res.bind_ok] at h'
    split at h'
    · rename_i k
      split at h'
      · rename_i hk
        split at h'
        · rename_i bs1 e1
          split at h'
          · rename_i ds e2
            have ht : as'.take n = as := by rw [← hn]; exact R'.ot
            obtain ⟨a, xs, rfl, h1, h2, h3⟩ := own_lst R'.cs e1 r'
            have hd := dats_ok e2 h3
            have nin : ¬ some a ∈ as := fun z => by
              rw [← ht] at z
              obtain ⟨j, hj, e⟩ := in_take_lt z
              have := R'.cs.nd k j a h1 e
              omega
            have sub : ∀ c, some c ∈ as ++ [some a] → some c ∈ as' := fun c z => by
              rcases List.mem_append.mp z with z | z
              · rw [← ht] at z; exact mem_take z
              · have e : c = a := by simpa using z
                rw [e]; exact List.mem_of_getElem? h1
            have hH : H a = none := (R'.nw a (List.mem_of_getElem? h1)).resolve_left nin
            have len : as'.length = M1.length := R'.cs.len
            have hkl : k < as'.length := (List.getElem?_eq_some_iff.mp h1).1
            have hnk : n ≤ k := hk.1
            have get : ∀ (j : Nat) (c : Addr), j < n → as'[j]? = some (some c) → (as ++ [some a])[j]? = some (some c) := fun j c hj e => by
              rw [List.getElem?_append_left (by rw [hn]; exact hj), ← ht, List.getElem?_take_of_lt hj]
              exact e
            have inv : ∀ (j : Nat) (c : Addr), (as ++ [some a])[j]? = some (some c) → (j < n ∧ as'[j]? = some (some c)) ∨ (j = n ∧ c = a) := fun j c e => by
              by_cases hj : j < n
              · rw [List.getElem?_append_left (by rw [hn]; exact hj), ← ht, List.getElem?_take_of_lt hj] at e
                exact .inl ⟨hj, e⟩
              · rw [List.getElem?_append_right (by rw [hn]; exact Nat.le_of_not_lt hj), hn] at e
                cases q : j - n with
                | zero =>
                  rw [q] at e
                  have e' : a = c := by simpa using e
                  exact .inr ⟨by omega, e'.symm⟩
                | succ m => rw [q] at e; simp at e
            refine h' (.ref a) (as ++ [some a]) H' ⟨?_, fun j c e => ?_, fun i j c e1 e2 => ?_, fun c z => R'.cs.dj c (sub c z), fun c z => R'.cs.al c (sub c z), R'.cs.dS⟩ (by rw [List.take_append_of_le_length (Nat.le_refl _), List.take_of_length_le (Nat.le_refl _)]) (fun c z => ?_) (fun a o e z => R'.fr a o e z) ⟨a, ?_, rfl⟩
            · rw [List.length_append, List.length_append, hn, List.length_take]
              simp only [List.length_cons, List.length_nil]
              omega
            · by_cases hj : j < n
              · have e' : M1[j]? = some (some c) := by
                  rw [List.getElem?_append_left (by rw [List.length_take]; omega), List.getElem?_take_of_lt hj] at e
                  exact e
                obtain ⟨d, g1, g2⟩ := R'.cs.cell j c e'
                exact ⟨d, get j d hj g1, hc_sel (n := n) sub get (lowM_at hk.2 hj e') g2⟩
              · have hl : (M1.take n).length = n := by rw [List.length_take]; omega
                rw [List.getElem?_append_right (by rw [hl]; exact Nat.le_of_not_lt hj), hl] at e
                cases q : j - n with
                | zero =>
                  rw [q] at e
                  have e' : Cell.lst (ds.map .dat) = c := by simpa using e
                  subst e'
                  have ej : j = n := by omega
                  refine ⟨a, ?_, xs, h2, rbs_dat (dens_weak (fun c z => z.imp id (sub c)) hd)⟩
                  rw [ej, ← hn]
                  simp
                | succ m => rw [q] at e; simp at e
            · rcases inv i c e1 with ⟨a1, b1⟩ | ⟨a1, b1⟩ <;> rcases inv j c e2 with ⟨a2, b2⟩ | ⟨a2, b2⟩
              · exact R'.cs.nd i j c b1 b2
              · rw [b2] at b1
                have := R'.cs.nd i k a b1 h1
                omega
              · rw [b1] at b2
                have := R'.cs.nd j k a b2 h1
                omega
              · omega
            · rcases List.mem_append.mp z with z | z
              · exact .inl z
              · have e : c = a := by simpa using z
                rw [e]; exact .inr hH
            · rw [← hn]; simp
          · exact h'.elim
        · exact h'.elim
      · exact h'.elim
    · exact h'.elim
  cases q : body (rho0 N.length bs) M with
  | stuck => rw [q] at h; exact h
  | exc x => rw [q] at h; exact fun H' fr cls d a => h cls d H' a fr
  | ok o M1 =>
    rw [q] at h
    cases o with
    | nx ρ1 => exact fun σ' as' H' R' => fin (.dat .non) M1 .non σ' _ as' H' R' Den.non h
    | ret b => exact fun v σ' ρ' as' H' R' r' => fin b M1 v σ' ρ' as' H' R' r' h
    | brk ρ1 => exact False.elim h
    | ct ρ1 => exact False.elim h
end Ab

namespace Ab
open PySem PySem.Spec L2
/-! ### a def is called -/
def shB (n m : Nat) : B → B
  | .own k => .own (if k < n then k else k - n + m)
  | b => b
def shC (n m : Nat) (o : Option Cell) : Option Cell := o.map (mapC (shB n m))
def nvB : B → Bool
  | .dat _ => true
  | .own _ => true
  | _ => false
def nvC : Option Cell → Bool
  | some c => allC nvB c
  | none => true
def cvO (n : Nat) (M : Mem) (k : Nat) : Option B := if k < n then some (.own k) else (viewN n M 4 (.own k)).map .vw
def cvB (n : Nat) (M : Mem) : B → Option B
  | .dat d => some (.dat d)
  | .vw d => some (.vw d)
  | .own k => cvO n M k
  | .ty _ => none
def doCall (n : Nat) (f : Fn) (bs : List B) (M : Mem) : Res B := match optAll (bs.map (cvB n M)) with
  | none => .stuck
  | some cs => if lowM n (M.take n) = true ∧ n ≤ M.length then (match f cs (M.take n) with
    | .stuck => .stuck
    | .exc x => .exc x
    | .ok b M' => if nvB b = true ∧ M'.all nvC = true ∧ n ≤ M'.length then .ok (shB n M.length b) ((M'.take n).map (shC n M.length) ++ M.drop n ++ (M'.drop n).map (shC n M.length)) else .stuck) else .stuck
section
variable {G : Gh} {as : As} {H : Hp} {ρ : Rho} {M : Mem} {σ : St} {n : Nat} {W : XB → Hp → Prop}
theorem rbs_cv {S : Addr → Prop} (C : Cells S as H M) : ∀ {bs cs : List B} {vs : List V}, optAll (bs.map (cvB n M)) = some cs → RBs S as H vs bs → RBs (fun a => S a ∨ some a ∈ as.drop n) (as.take n) H vs cs
  | [], _, _, e, .nil => by cases e; exact .nil
  | b :: bs, cs, _, e, .cons r t => by
    have one : ∀ {v : V} {c : B}, cvB n M b = some c → RB S as H v b → RB (fun a => S a ∨ some a ∈ as.drop n) (as.take n) H v c := fun {v c} e r => by
      cases b with
      | dat d =>
        cases e
        refine den_weak (fun a z => ?_) r
        rcases z with (z | z) | z
        · exact .inl z
        · exact .inr (List.mem_of_mem_drop z)
        · exact .inr (mem_take z)
      | vw d =>
        cases e
        exact den_weak (fun a z => mem_take z) r
      | ty m => cases e
      | own k =>
        have e : cvO n M k = some c := e
        unfold cvO at e
        split at e
        · rename_i hk
          cases e
          obtain ⟨a, h1, h2⟩ := r
          exact ⟨a, by rw [List.getElem?_take_of_lt hk]; exact h1, h2⟩
        · cases q : viewN n M 4 (.own k) with
          | none => rw [q] at e; cases e
          | some d =>
            rw [q] at e
            cases e
            exact viewN_ok C 4 _ d v q r
    rw [List.map_cons] at e
    cases q : cvB n M b with
    | none => rw [q] at e; cases e
    | some b' =>
      rw [q] at e
      unfold optAll at e
      cases q2 : optAll (bs.map (cvB n M)) with
      | none => rw [q2] at e; cases e
      | some l =>
        rw [q2] at e
        cases e
        exact .cons (one q r) (rbs_cv C q2 t)
theorem in_drop {m : Nat} {a : Addr} (h : some a ∈ as.drop m) : ∃ k, m ≤ k ∧ as[k]? = some (some a) := by
  obtain ⟨k, hk⟩ := List.mem_iff_getElem?.mp h
  rw [List.getElem?_drop] at hk
  exact ⟨m + k, by omega, hk⟩
theorem take_or_drop {m : Nat} {a : Addr} (h : some a ∈ as) : some a ∈ as.take m ∨ some a ∈ as.drop m := by
  rw [← List.take_append_drop m as] at h
  exact List.mem_append.mp h
theorem call_cells {S : Addr → Prop} (C : Cells S as H M) (hl : lowM n (M.take n) = true) : Cells (fun a => S a ∨ some a ∈ as.drop n) (as.take n) H (M.take n) := by
  have sub : ∀ {v : V} {b : B}, lowB n b = true → RB S as H v b → RB (fun a => S a ∨ some a ∈ as.drop n) (as.take n) H v b := fun {v b} hb r => by
    cases b with
    | dat d =>
      refine den_weak (fun a z => ?_) r
      rcases z with (z | z) | z
      · exact .inl z
      · exact .inr (List.mem_of_mem_drop z)
      · exact .inr (mem_take z)
    | vw d => exact den_weak (fun a z => mem_take z) r
    | own k =>
      obtain ⟨a, h1, h2⟩ := r
      exact ⟨a, by rw [List.getElem?_take_of_lt (of_decide_eq_true hb)]; exact h1, h2⟩
    | ty m => exact r
  refine ⟨by rw [List.length_take, List.length_take, C.len], fun k c e => ?_, (cells_take C hl).nd, fun a z => ?_, fun a z => C.al a (mem_take z), fun a z => z.elim (C.dS a) fun z => C.al a (List.mem_of_mem_drop z)⟩
  · have hk : k < n := by
      have := (List.getElem?_eq_some_iff.mp e).1
      rw [List.length_take] at this
      omega
    rw [List.getElem?_take_of_lt hk] at e
    obtain ⟨a, h1, h2⟩ := C.cell k c e
    have hc := lowM_at hl hk e
    refine ⟨a, by rw [List.getElem?_take_of_lt hk]; exact h1, ?_⟩
    have q := HC.map (g := id) (fun v b h r => sub h r) (fun a o e n => ⟨e, fun z => n (by
      rcases z with (z | z) | z
      · exact .inl z
      · exact .inr (List.mem_of_mem_drop z)
      · exact .inr (mem_take z))⟩) rfl hc h2
    rw [mapC_id] at q
    exact q
  · rintro (z' | z')
    · exact C.dj a (mem_take z) z'
    · obtain ⟨i, hi, e1⟩ := in_take_lt z
      obtain ⟨j, hj, e2⟩ := in_drop z'
      have := C.nd i j a e1 e2
      omega
theorem call_ok {AX : AbsX} {ar : Nat} {f : Fn} {bs : List B} {vs : List V} {Q : VK} {E : XK} (R : Rep G as H ρ M σ) (rs : RBs G.S as H vs bs) (h : PoE G ρ σ W Q (doCall n f bs M)) (hE : ∀ x H', W x H' → ∀ cls d, AX x cls d H' → E cls d H') (har : bs.length = ar) : spF AX ar n f vs H Q E := by
  unfold doCall at h
  split at h
  · exact h.elim
  · rename_i cs ec
    split at h
    · rename_i hl
      have hasn : (as.take n).length = n := by rw [List.length_take, R.cs.len]; omega
      refine ⟨by rw [rs.length]; exact har, _, as.take n, cs, M.take n, hasn, call_cells R.cs hl.1, rbs_cv R.cs ec rs, ?_⟩
      cases q : f cs (M.take n) with
      | stuck => rw [q] at h; exact h
      | exc x =>
        rw [q] at h
        refine fun cls d H' a fr => hE x H' (h H' fun b o e nb => fr b o (R.fr b o e nb) fun z => ?_) cls d a
        rcases R.nw b (mem_take z) with z' | z'
        · exact nb z'
        · rw [e] at z'; cases z'
      | ok b M' =>
        rw [q] at h
        simp only at h
        split at h
        · rename_i hv
          intro v as' H' C' ht hnew hfr r
          rw [hasn] at ht
          have hn' : n ≤ as'.length := by rw [C'.len]; exact hv.2.2
          have sub : ∀ a, some a ∈ as.take n → some a ∈ as' := fun a z => by rw [← ht] at z; exact mem_take z
          have get : ∀ (k : Nat) (a : Addr), k < n → as'[k]? = some (some a) → as[k]? = some (some a) := fun k a hk e => by
            have e1 : (as'.take n)[k]? = some (some a) := by rw [List.getElem?_take_of_lt hk]; exact e
            rw [ht, List.getElem?_take_of_lt hk] at e1
            exact e1
          have hlen : as.length = M.length := R.cs.len
          -- values
          have cv : ∀ {w : V} {c : B}, nvB c = true → RB (fun a => G.S a ∨ some a ∈ as.drop n) as' H' w c → RB G.S (as ++ as'.drop n) H' w (shB n M.length c) := fun {w c} hc r => by
            cases c with
            | dat d =>
              refine den_weak (fun a z => ?_) r
              rcases z with z | z
              · exact .inl (.inl z)
              · rcases List.mem_append.mp z with z | z
                · rcases take_or_drop (m := n) z with z | z
                  · exact .inr (sub a z)
                  · exact .inl (.inr z)
                · exact .inr (List.mem_of_mem_drop z)
            | vw d => cases hc
            | ty m => cases hc
            | own k =>
              obtain ⟨a, h1, h2⟩ := r
              refine ⟨a, ?_, h2⟩
              by_cases hk : k < n
              · rw [if_pos hk]
                have e := get k a hk h1
                rw [List.getElem?_append_left (List.getElem?_eq_some_iff.mp e).1]
                exact e
              · rw [if_neg hk, List.getElem?_append_right (by omega), List.getElem?_drop]
                have e : n + (k - n + M.length - as.length) = k := by omega
                rw [e]
                exact h1
          have cell' : ∀ (k : Nat) (c : Cell) (o : Option Cell), M'[k]? = some o → shC n M.length o = some c → ∃ a, as'[k]? = some (some a) ∧ HC G.S (as ++ as'.drop n) H' a c := fun k c o e es => by
            cases o with
            | none => cases es
            | some c0 =>
              have hc : nvC (some c0) = true := List.all_eq_true.mp hv.2.1 _ (List.mem_of_getElem? e)
              obtain ⟨a, h1, h2⟩ := C'.cell k c0 e
              refine ⟨a, h1, ?_⟩
              cases es
              refine HC.map (p := nvB) (fun v b h r => cv h r) (fun a o e nn => ⟨e, fun z => nn ?_⟩) rfl hc h2
              rcases z with z | z
              · exact .inl (.inl z)
              · rcases List.mem_append.mp z with z | z
                · rcases take_or_drop (m := n) z with z | z
                  · exact .inr (sub a z)
                  · exact .inl (.inr z)
                · exact .inr (List.mem_of_mem_drop z)
          have s : Stp G.S as H G.S (as ++ as'.drop n) H' := .same (fun a o e na => ⟨hfr a o e fun z => na (mem_take z), fun z => by
            rcases List.mem_append.mp z with z | z
            · exact na z
            · rcases hnew a (List.mem_of_mem_drop z) with z | z
              · exact na (mem_take z)
              · rw [e] at z; cases z⟩) fun k a e => by
            rw [List.getElem?_append_left (List.getElem?_eq_some_iff.mp e).1]
            exact e
          have keep : ∀ a, some a ∈ as.drop n → H' a = H a := fun a z => by
            obtain ⟨o, e⟩ := R.cs.al a (List.mem_of_mem_drop z)
            rw [e]
            refine hfr a o e fun z' => ?_
            obtain ⟨i, hi, e1⟩ := in_take_lt z'
            obtain ⟨j, hj, e2⟩ := in_drop z
            have := R.cs.nd i j a e1 e2
            omega
          refine h v (as ++ as'.drop n) H' (R.step s ⟨?_, fun k c e => ?_, fun i j a e1 e2 => ?_, fun a z => ?_, fun a z => ?_, fun a z => ?_⟩ (fun a z => ?_) (by rw [List.take_append_of_le_length R.ol]; exact R.ot)) (cv hv.1 r)
          · simp only [List.length_append, List.length_map, List.length_take, List.length_drop, C'.len, hlen]
            omega
          · by_cases hk : k < n
            · rw [List.append_assoc, List.getElem?_append_left (by rw [List.length_map, List.length_take]; omega), List.getElem?_map, List.getElem?_take_of_lt hk] at e
              cases q2 : M'[k]? with
              | none => rw [q2] at e; cases e
              | some o =>
                rw [q2] at e
                obtain ⟨a, h1, h2⟩ := cell' k c o q2 (Option.some.inj e)
                have e := get k a hk h1
                exact ⟨a, by rw [List.getElem?_append_left (List.getElem?_eq_some_iff.mp e).1]; exact e, h2⟩
            · by_cases hk2 : k < M.length
              · have hlt : ((M'.take n).map (shC n M.length)).length = n := by rw [List.length_map, List.length_take]; omega
                rw [List.append_assoc, List.getElem?_append_right (by rw [hlt]; omega), hlt, List.getElem?_append_left (by rw [List.length_drop]; omega), List.getElem?_drop] at e
                have e' : n + (k - n) = k := by omega
                rw [e'] at e
                obtain ⟨a, h1, h2⟩ := R.cs.cell k c e
                exact ⟨a, by rw [List.getElem?_append_left (List.getElem?_eq_some_iff.mp h1).1]; exact h1, HC.mono s (keep a (List.mem_of_getElem? (i := k - n) (by rw [List.getElem?_drop, e']; exact h1))) h2⟩
              · have hlt : ((M'.take n).map (shC n M.length) ++ M.drop n).length = M.length := by rw [List.length_append, List.length_map, List.length_take, List.length_drop]; omega
                rw [List.getElem?_append_right (by rw [hlt]; omega), hlt, List.getElem?_map, List.getElem?_drop] at e
                cases q2 : M'[n + (k - M.length)]? with
                | none => rw [q2] at e; cases e
                | some o =>
                  rw [q2] at e
                  obtain ⟨a, h1, h2⟩ := cell' _ c o q2 (Option.some.inj e)
                  refine ⟨a, ?_, h2⟩
                  rw [List.getElem?_append_right (by omega), List.getElem?_drop, hlen]
                  exact h1
          · have inv : ∀ (k : Nat) (a : Addr), (as ++ as'.drop n)[k]? = some (some a) → as[k]? = some (some a) ∨ (as.length ≤ k ∧ as'[n + (k - as.length)]? = some (some a)) := fun k a e => by
              by_cases hk : k < as.length
              · rw [List.getElem?_append_left hk] at e; exact .inl e
              · rw [List.getElem?_append_right (by omega), List.getElem?_drop] at e
                exact .inr ⟨by omega, e⟩
            have cross : ∀ (i k : Nat), as[i]? = some (some a) → n ≤ k → as'[k]? = some (some a) → False := fun i k e1 hk e2 => by
              rcases hnew a (List.mem_of_getElem? e2) with z | z
              · have z' : some a ∈ as'.take n := by rw [ht]; exact z
                obtain ⟨j, hj, e3⟩ := in_take_lt z'
                have := C'.nd j k a e3 e2
                omega
              · obtain ⟨o, e⟩ := R.cs.al a (List.mem_of_getElem? e1)
                rw [e] at z; cases z
            rcases inv i a e1 with f1 | ⟨g1, f1⟩ <;> rcases inv j a e2 with f2 | ⟨g2, f2⟩
            · exact R.cs.nd i j a f1 f2
            · exact (cross i _ f1 (by omega) f2).elim
            · exact (cross j _ f2 (by omega) f1).elim
            · have := C'.nd _ _ a f1 f2
              omega
          · rcases List.mem_append.mp z with z | z
            · exact R.cs.dj a z
            · exact fun z' => C'.dj a (List.mem_of_mem_drop z) (.inl z')
          · rcases List.mem_append.mp z with z | z
            · rcases take_or_drop (m := n) z with z' | z'
              · exact C'.al a (sub a z')
              · rw [keep a z']; exact R.cs.al a z
            · exact C'.al a (List.mem_of_mem_drop z)
          · obtain ⟨o, e⟩ := R.cs.dS a z
            exact ⟨o, hfr a o e fun z' => R.cs.dj a (mem_take z') z⟩
          · rcases List.mem_append.mp z with z | z
            · exact .inl z
            · rcases hnew a (List.mem_of_mem_drop z) with z | z
              · exact .inl (mem_take z)
              · exact .inr z
        · exact h.elim
    · exact h.elim
end
/-- f(e, ..) -/
def eCall (n : Nat) (f : Fn) (a : Ea) : Ev := eApp (doCall n f) a
end Ab

namespace Ab
open PySem PySem.Spec L2
section
variable {X : Cx} {W : XB → Hp → Prop}
/-- a call by values, the number of arguments told -/
def doCallA (ar n : Nat) (f : Fn) (bs : List B) (M : Mem) : Res B := if bs.length = ar then doCall n f bs M else .stuck
abbrev EX (AX : AbsX) (W : XB → Hp → Prop) : XK := fun cls d H' => ∃ x, W x H' ∧ AX x cls d H'
theorem call_okA {AX : AbsX} {G : Gh} {as : As} {H : Hp} {ρ : Rho} {M : Mem} {σ : L2.St} {n ar : Nat} {f : Fn} {bs : List B} {vs : List V} {Q : VK} (R : Rep G as H ρ M σ) (rs : RBs G.S as H vs bs) (h : PoE G ρ σ W Q (doCallA ar n f bs M)) : spF AX ar n f vs H Q (EX AX W) := by
  unfold doCallA at h
  split at h
  · rename_i ha
    exact call_ok R rs h (fun x H' w cls d a => ⟨x, w, a⟩) ha
  · exact h.elim
theorem passF {E : XK} : Passes CX0 X E := fun _ _ _ _ _ _ _ h => h.elim
theorem ev_call {AX : AbsX} {CX : CXT} {k ar n : Nat} {fs : Fn} {f : Addr} {fd : FuncData} {ps : List Str} {x : Str} {p pos : Pos} {e : Expr} {es : List Expr} {eas : Ea} (F : FnOk X.prog X.w X.K X.mg X.base CX k f fd ps (spF AX ar n fs)) (hr : Room k X.A) (hg : Gl X x) (hm : X.mg x = some (.ref f)) (hk : PySem.W.keepIn X.K (.ref f) = true) (hb : Binds X.K fd ps []) (hx : Passes CX X (EX AX W)) (ha : EA X W (e :: es) eas)
    (hdb : (x == ("__debug__" : Str)) = false := by decide) (he : starEach (e :: es) X.env = (false, eval e X.env) :: starEach es X.env := by rfl) (hpl : (backTo pos (starEach es X.env)).any (·.1) = false := by rfl) :
    EV X W (.Call (.Name x p) (e :: es) [] pos) (eApp (doCallA ar n fs) eas) :=
  pe_imp (pe_call F hr hg hm hk hb .nil hx ha hdb he hpl) fun σ H Q h => cE_app (r := fun vs H1 Q => spF AX ar n fs (vs ++ []) H1 Q (EX AX W)) (fun {G as H ρ M σ xs vs Q} R r h => by
    show spF AX ar n fs (vs ++ []) H Q (EX AX W)
    rw [List.append_nil]
    exact call_okA R r h) h
theorem ev_call0 {AX : AbsX} {CX : CXT} {k n : Nat} {fs : Fn} {f : Addr} {fd : FuncData} {ps : List Str} {x : Str} {p pos : Pos} (F : FnOk X.prog X.w X.K X.mg X.base CX k f fd ps (spF AX 0 n fs)) (hr : Room k X.A) (hg : Gl X x) (hm : X.mg x = some (.ref f)) (hk : PySem.W.keepIn X.K (.ref f) = true) (hb : Binds X.K fd ps []) (hx : Passes CX X (EX AX W))
    (hdb : (x == ("__debug__" : Str)) = false := by decide) : EV X W (.Call (.Name x p) [] [] pos) (eApp (doCallA 0 n fs) aNil) :=
  pe_imp (pe_call0 F hr hg hm hk hb .nil hx hdb) fun σ H Q h => by
    obtain ⟨G, as, ρ, M, R, h⟩ := h
    exact call_okA R .nil h

/-! ### objects -/
theorem lookup_zip {α β : Type} : ∀ {ns : List Str} {xs : List α} {ys : List β} {f : Str}, xs.length = ys.length → (∀ y, (ns.zip ys).lookup f = some y → ∃ i : Nat, ys[i]? = some y ∧ ∃ x : α, xs[i]? = some x ∧ (ns.zip xs).lookup f = some x) ∧ ((ns.zip ys).lookup f = none → (ns.zip xs).lookup f = none)
  | [], _, _, _, _ => ⟨fun y h => (by simp at h), fun _ => by simp⟩
  | n :: ns, [], [], _, _ => ⟨fun y h => (by simp at h), fun _ => by simp⟩
  | n :: ns, [], _ :: _, _, h => by cases h
  | n :: ns, _ :: _, [], _, h => by cases h
  | n :: ns, x :: xs, y :: ys, f, h => by
    have ih := lookup_zip (ns := ns) (xs := xs) (ys := ys) (f := f) (Nat.succ.inj h)
    rw [List.zip_cons_cons, List.zip_cons_cons, List.lookup_cons, List.lookup_cons]
    cases q : f == n with
    | true =>
      refine ⟨fun y' e => ?_, fun e => by cases e⟩
      have e' : some y = some y' := e
      cases e'
      exact ⟨0, rfl, x, rfl, rfl⟩
    | false =>
      refine ⟨fun y' e => ?_, fun e => ih.2 e⟩
      obtain ⟨i, h1, x', h2, h3⟩ := ih.1 y' e
      exact ⟨i + 1, h1, x', h2, h3⟩
theorem zip_self {α β : Type} : ∀ l : List (α × β), (l.map (·.1)).zip (l.map (·.2)) = l
  | [] => rfl
  | a :: l => by rw [List.map_cons, List.map_cons, List.zip_cons_cons, zip_self l]
/-- a field of an object of the class at C -/
def fldB (C : Addr) (f : Str) (x : B) (M : Mem) : Option B := match x with
  | .dat (.obj C' fs) => if C' = C then (fs.lookup f).map .dat else none
  | .vw (.obj C' fs) => if C' = C then (fs.lookup f).map lo else none
  | .own k => (match M[k]? with
    | some (some (.ins C' fs)) => if C' = C then fs.lookup f else none
    | _ => none)
  | _ => none
theorem fldB_ok {S : Addr → Prop} {as : As} {H : Hp} {M : Mem} (Cs : Cells S as H M) {C : Addr} {f : Str} {x b : B} {v : V} (e : fldB C f x M = some b) (r : RB S as H v x) : ∃ a dx fs w, v = .ref a ∧ H a = some (.ins C dx fs) ∧ fs.lookup f = some w ∧ RB S as H w b := by
  unfold fldB at e
  split at e
  · split at e
    · rename_i C' fs hC
      subst hC
      cases r with
      | obj h1 n hl d =>
        rename_i a dx ns xs ds
        cases q : (ns.zip ds).lookup f with
        | none => rw [q] at e; cases e
        | some y =>
          rw [q] at e
          cases e
          obtain ⟨i, e1, w, e2, e3⟩ := (lookup_zip (ns := ns) (xs := xs) (ys := ds) (f := f) d.length).1 y q
          obtain ⟨w', e4, e5⟩ := d.get e1
          rw [e2] at e4
          cases e4
          exact ⟨a, dx, _, w, rfl, h1, e3, e5⟩
    · cases e
  · split at e
    · rename_i C' fs hC
      subst hC
      cases r with
      | obj h1 n hl d =>
        rename_i a dx ns xs ds
        cases q : (ns.zip ds).lookup f with
        | none => rw [q] at e; cases e
        | some y =>
          rw [q] at e
          cases e
          obtain ⟨i, e1, w, e2, e3⟩ := (lookup_zip (ns := ns) (xs := xs) (ys := ds) (f := f) d.length).1 y q
          obtain ⟨w', e4, e5⟩ := d.get e1
          rw [e2] at e4
          cases e4
          exact ⟨a, dx, _, w, rfl, h1, e3, rb_lo e5⟩
    · cases e
  · split at e
    · rename_i k _ C' fs q
      split at e
      · rename_i hC
        subst hC
        obtain ⟨a, h1, dx, xs, h2, h3⟩ := Cs.cell k _ q
        obtain ⟨a', h4, rfl⟩ := r
        rw [h1] at h4
        cases h4
        have e' : ((fs.map (·.1)).zip (fs.map (·.2))).lookup f = some b := by rw [zip_self]; exact e
        obtain ⟨i, e1, w, e2, e3⟩ := (lookup_zip (ns := fs.map (·.1)) (xs := xs) (ys := fs.map (·.2)) (f := f) h3.length).1 b e'
        obtain ⟨w', e4, e5⟩ := RB.get h3 e1
        rw [e2] at e4
        cases e4
        exact ⟨a, dx, _, w, rfl, h2, e3, e5⟩
      · cases e
    · cases e
  · cases e
def eFld (C : Addr) (f : Str) (a : Ev) : Ev := fun ρ M => (a ρ M).bind fun x M1 => match fldB C f x M1 with
  | some b => .ok b M1
  | none => .stuck
theorem ev_fld {o : Expr} {eo : Ev} {f : Str} {C : Addr} {pos : Pos} (cl : Cls X.K C) (na : NoAttr X.K C f) (ho : EV X W o eo) (hb : attributeBase o f X.env (eval o X.env) = eval o X.env := by rfl) : EV X W (.Attribute o f pos) (eFld C f eo) :=
  pe_imp (pe_fld ho hb) fun σ H Q h => by
    obtain ⟨G, as, ρ, M, R, h⟩ := h
    refine ⟨G, as, ρ, M, R, ?_⟩
    unfold eFld at h
    cases q : eo ρ M with
    | stuck => rw [q] at h; exact h
    | exc x => rw [q] at h; exact h
    | ok x M1 =>
      rw [q] at h
      intro v as1 H1 R1 r1
      simp only [Res.bind_ok] at h
      split at h
      · rename_i b e
        obtain ⟨a, dx, fs, w, rfl, h1, h2, h3⟩ := fldB_ok R1.cs e r1
        exact ⟨a, C, dx, fs, w, rfl, h1, cl, na, h2, h w as1 H1 R1 h3⟩
      · exact h.elim
/-- a field is set -/
def putB {α : Type} (f : Str) (b : α) : List (Str × α) → List (Str × α)
  | [] => [(f, b)]
  | (g, c) :: r => if g = f then (g, b) :: r else (g, c) :: putB f b r
theorem putF_zip {S : Addr → Prop} {as : As} {H : Hp} {f : Str} {y : V} {b : B} (r : RB S as H y b) : ∀ {fs : List (Str × B)} {xs : List V}, RBs S as H xs (fs.map (·.2)) → ∃ zs, putF f y ((fs.map (·.1)).zip xs) = ((putB f b fs).map (·.1)).zip zs ∧ RBs S as H zs ((putB f b fs).map (·.2))
  | [], _, .nil => ⟨[y], rfl, .cons r .nil⟩
  | (g, c) :: fs, _, .cons r1 t => by
    rename_i x xs
    obtain ⟨zs, e1, e2⟩ := putF_zip (f := f) r t
    by_cases hg : g = f
    · subst hg
      refine ⟨y :: xs, ?_, ?_⟩
      · show putF g y ((g, x) :: _) = _
        unfold putF putB
        rw [if_pos rfl, if_pos rfl]
        rfl
      · unfold putB
        rw [if_pos rfl]
        exact .cons r t
    · refine ⟨x :: zs, ?_, ?_⟩
      · show putF f y ((g, x) :: _) = _
        unfold putF putB
        rw [if_neg hg, if_neg hg]
        show (g, x) :: putF f y ((fs.map (·.1)).zip xs) = _
        rw [e1]
        rfl
      · unfold putB
        rw [if_neg hg]
        exact .cons r1 e2
def sFld (C : Addr) (f : Str) (o e : Ev) : Es := fun ρ M => (e ρ M).bind fun b M1 => (o ρ M1).bind fun x M2 => match x with
  | .own k => (match M2[k]? with
    | some (some (.ins C' fs)) => if C' = C ∧ fs.length < 1000 then .ok (.nx ρ) (M2.set k (some (.ins C (putB f b fs)))) else .stuck
    | _ => .stuck)
  | _ => .stuck
theorem es_fld {n : Nat} {o e : Expr} {eo ee : Ev} {f : Str} {C : Addr} {pos pos' : Pos} (cl : Cls X.K C) (na : NoAttr X.K C f) (ho : EV X W o eo) (he : EV X W e ee) (hs : swapsWith e (some (.Attribute o f pos')) pos.line X.env = pure false := by rfl) : ES X W n (.Assign [.Attribute o f pos'] e pos) (sFld C f eo ee) :=
  ps_imp (ps_fld ho he hs) fun D σ H h => by
    obtain ⟨G, as, ρ, M, hg, R, h⟩ := h
    refine ⟨G, as, ρ, M, R, ?_⟩
    unfold sFld at h
    cases q : ee ρ M with
    | stuck => rw [q] at h; exact h
    | exc x => rw [q] at h; exact h
    | ok b M1 =>
      rw [q] at h
      intro v as1 H1 R1 r1
      refine ⟨G.push v b, as1, ρ, M1, R1.push r1, ?_⟩
      simp only [Res.bind_ok] at h
      cases q2 : eo ρ M1 with
      | stuck => rw [q2] at h; exact h
      | exc x => rw [q2] at h; exact h
      | ok x M2 =>
        rw [q2] at h
        intro u as2 H2 R2 r2
        have t1 := R2.top
        have R3 := R2.pop
        simp only [Res.bind_ok] at h
        split at h
        · rename_i k
          split at h
          · rename_i C' fs e2
            split at h
            · rename_i hC
              obtain ⟨rfl, hl⟩ := hC
              obtain ⟨a, h1, dx, xs, h2, h3⟩ := R3.cs.cell k _ e2
              obtain ⟨a', h4, rfl⟩ := r2
              rw [h1] at h4
              cases h4
              obtain ⟨zs, e3, e4⟩ := putF_zip (f := f) t1 h3
              refine ⟨a, C', dx, _, rfl, h2, cl, na, ?_, ?_⟩
              · rw [List.length_zip, List.length_map]
                omega
              · rw [e3]
                have s := stp_own (G := G) (H := H2) (o := .ins C' dx (((putB f b fs).map (·.1)).zip zs)) (List.mem_of_getElem? h1)
                exact h σ as2 _ (R3.store h1 ⟨dx, zs, upd_same, e4.mono s⟩)
            · exact h.elim
          · exact h.elim
        · exact h.elim
/-- an object of the class at C without a field m -/
def objB (C : Addr) (m : Str) (x : B) (M : Mem) : Bool := match x with
  | .dat (.obj C' fs) => decide (C' = C) && (fs.lookup m).isNone
  | .vw (.obj C' fs) => decide (C' = C) && (fs.lookup m).isNone
  | .own k => (match M[k]? with
    | some (some (.ins C' fs)) => decide (C' = C) && (fs.lookup m).isNone
    | _ => false)
  | _ => false
theorem objB_ok {S : Addr → Prop} {as : As} {H : Hp} {M : Mem} (Cs : Cells S as H M) {C : Addr} {m : Str} {x : B} {v : V} (e : objB C m x M = true) (r : RB S as H v x) : ∃ a dx fs, v = .ref a ∧ H a = some (.ins C dx fs) ∧ fs.lookup m = none := by
  unfold objB at e
  split at e
  · rw [Bool.and_eq_true, decide_eq_true_eq] at e
    obtain ⟨rfl, e⟩ := e
    cases r with
    | obj h1 n hl d =>
      rename_i a dx ns xs ds
      exact ⟨a, dx, _, rfl, h1, (lookup_zip (ns := ns) (xs := xs) (ys := ds) (f := m) d.length).2 (by simpa using e)⟩
  · rw [Bool.and_eq_true, decide_eq_true_eq] at e
    obtain ⟨rfl, e⟩ := e
    cases r with
    | obj h1 n hl d =>
      rename_i a dx ns xs ds
      exact ⟨a, dx, _, rfl, h1, (lookup_zip (ns := ns) (xs := xs) (ys := ds) (f := m) d.length).2 (by simpa using e)⟩
  · split at e
    · rename_i k _ C' fs q
      rw [Bool.and_eq_true, decide_eq_true_eq] at e
      obtain ⟨rfl, e⟩ := e
      obtain ⟨a, h1, dx, xs, h2, h3⟩ := Cs.cell k _ q
      obtain ⟨a', h4, rfl⟩ := r
      rw [h1] at h4
      cases h4
      exact ⟨a, dx, _, rfl, h2, (lookup_zip (ns := fs.map (·.1)) (xs := xs) (ys := fs.map (·.2)) (f := m) h3.length).2 (by rw [zip_self]; simpa using e)⟩
    · cases e
  · cases e
def eMeth (C : Addr) (m : Str) (ar n : Nat) (f : Fn) (o : Ev) (a : Ea) : Ev := fun ρ M => (o ρ M).bind fun x M1 => if objB C m x M1 = true then (a ρ M1).bind fun bs M2 => doCallA ar n f (x :: bs) M2 else .stuck
theorem meth_imp {AX : AbsX} {ar n : Nat} {fs : Fn} {C : Addr} {m : Str} {eo : Ev} {eas : Ea} {σ : L2.St} {H : Hp} {Q : VK} (h : cE W (eMeth C m ar n fs eo eas) σ H Q) : tMeth C m (spF AX ar n fs) [] (EX AX W) (cE W eo) (cA W eas) σ H Q := by
  obtain ⟨G, as, ρ, M, R, h⟩ := h
  refine ⟨G, as, ρ, M, R, ?_⟩
  unfold eMeth at h
  cases q : eo ρ M with
  | stuck => rw [q] at h; exact h
  | exc x => rw [q] at h; exact h
  | ok x M1 =>
    rw [q] at h
    intro v as1 H1 R1 r1
    simp only [Res.bind_ok] at h
    split at h
    · rename_i ho
      obtain ⟨a, dx, fl, rfl, h1, h2⟩ := objB_ok R1.cs ho r1
      refine ⟨a, dx, fl, rfl, h1, h2, G.push (.ref a) x, as1, ρ, M1, R1.push r1, ?_⟩
      cases q2 : eas ρ M1 with
      | stuck => rw [q2] at h; exact h
      | exc x => rw [q2] at h; exact h
      | ok bs M2 =>
        rw [q2] at h
        intro us as2 H2 R2 r2
        show spF AX ar n fs (V.ref a :: (us ++ [])) H2 Q (EX AX W)
        rw [List.append_nil]
        exact call_okA R2.pop (.cons R2.top r2) h
    · exact h.elim
theorem ev_meth {AX : AbsX} {CX : CXT} {k ar n : Nat} {fs : Fn} {f C : Addr} {fd : FuncData} {ps : List Str} {m : Str} {apos pos : Pos} {o e : Expr} {es : List Expr} {eo : Ev} {eas : Ea} {pl : Sem Bool} (ho : EV X W o eo) (c : Cls X.K C) (hm : Meth X.K C m f) (F : FnOk X.prog X.w X.K X.mg X.base CX k f fd ps (spF AX ar n fs)) (hr : Room k X.A) (hb : Binds X.K fd ps []) (hx : Passes CX X (EX AX W)) (ha : EA X W (e :: es) eas)
    (hst : starEach (e :: es) X.env = (false, eval e X.env) :: starEach es X.env := by rfl) (hpl : (backTo pos (starEach es X.env)).any (·.1) = false := by rfl)
    (ht : eval (.Call (.Attribute o m apos) (e :: es) [] pos) X.env = (do
      let ov ← eval o X.env
      standAt apos.atName
      let (f, first) ← holding [ov] (getMethod ov m pl)
      callWith pos f first (backTo pos (starEach (e :: es) X.env)) (backToKw pos (keywordEach [] X.env))) := by rfl) : EV X W (.Call (.Attribute o m apos) (e :: es) [] pos) (eMeth C m ar n fs eo eas) :=
  pe_imp (pe_meth ho c hm F hr hb .nil hx ha hst hpl ht) fun σ H Q h => meth_imp h
theorem ev_meth0 {AX : AbsX} {CX : CXT} {k ar n : Nat} {fs : Fn} {f C : Addr} {fd : FuncData} {ps : List Str} {m : Str} {apos pos : Pos} {o : Expr} {eo : Ev} {pl : Sem Bool} (ho : EV X W o eo) (c : Cls X.K C) (hm : Meth X.K C m f) (F : FnOk X.prog X.w X.K X.mg X.base CX k f fd ps (spF AX ar n fs)) (hr : Room k X.A) (hb : Binds X.K fd ps []) (hx : Passes CX X (EX AX W))
    (ht : eval (.Call (.Attribute o m apos) [] [] pos) X.env = (do
      let ov ← eval o X.env
      standAt apos.atName
      let (f, first) ← holding [ov] (getMethod ov m pl)
      callWith pos f first (backTo pos (starEach [] X.env)) (backToKw pos (keywordEach [] X.env))) := by rfl) : EV X W (.Call (.Attribute o m apos) [] [] pos) (eMeth C m ar n fs eo aNil) :=
  pe_imp (pe_meth0 ho c hm F hr hb .nil hx ht) fun σ H Q h => by
    have q := meth_imp (AX := AX) h
    obtain ⟨G, as, ρ, M, R, q⟩ := q
    refine ⟨G, as, ρ, M, R, ?_⟩
    cases e : eo ρ M with
    | stuck => rw [e] at q; exact q
    | exc x => rw [e] at q; exact q
    | ok x M1 =>
      rw [e] at q
      intro v as1 H1 R1 r1
      obtain ⟨a, dx, fl, h1, h2, h3, G', as', ρ', M', R', q'⟩ := q v as1 H1 R1 r1
      exact ⟨a, dx, fl, h1, h2, h3, q' [] as' H1 R' .nil⟩
end
end Ab

namespace Ab
open PySem PySem.Spec L2
/-! ### comprehensions -/
def wipeR (ρ : Rho) : List Nat → Rho
  | [] => ρ
  | v :: vs => (wipeR ρ vs).set v none
theorem wipe_get (σ : L2.St) : ∀ (vs : List Nat) (j : Nat), (wipe σ vs)[j]? = if j ∈ vs ∧ j < σ.length then some none else σ[j]?
  | [], j => by simp [wipe]
  | v :: vs, j => by
    have ih := wipe_get σ vs j
    unfold wipe
    by_cases hj : j = v
    · subst hj
      by_cases hl : j < σ.length
      · rw [List.getElem?_set_self (by rw [wipe_length]; exact hl), if_pos ⟨List.mem_cons_self, hl⟩]
      · rw [List.getElem?_eq_none_iff.mpr (by rw [List.length_set, wipe_length]; exact Nat.le_of_not_lt hl), if_neg (fun z => hl z.2)]
        exact (List.getElem?_eq_none_iff.mpr (Nat.le_of_not_lt hl)).symm
    · rw [List.getElem?_set_ne (Ne.symm hj), ih]
      simp [hj]
theorem wipeR_get (ρ : Rho) : ∀ (vs : List Nat) (j : Nat) (b : B), (wipeR ρ vs)[j]? = some (some b) → ρ[j]? = some (some b) ∧ j ∉ vs
  | [], j, b, h => ⟨h, by simp⟩
  | v :: vs, j, b, h => by
    unfold wipeR at h
    by_cases hj : j = v
    · subst hj
      by_cases hl : j < (wipeR ρ vs).length
      · rw [List.getElem?_set_self hl] at h; cases h
      · rw [List.getElem?_eq_none_iff.mpr (by rw [List.length_set]; exact Nat.le_of_not_lt hl)] at h; cases h
    · rw [List.getElem?_set_ne (Ne.symm hj)] at h
      obtain ⟨h1, h2⟩ := wipeR_get ρ vs j b h
      exact ⟨h1, by simp [hj, h2]⟩
theorem wipeR_len (ρ : Rho) : ∀ vs : List Nat, (wipeR ρ vs).length = ρ.length
  | [] => rfl
  | v :: vs => by unfold wipeR; rw [List.length_set, wipeR_len ρ vs]
theorem wipe_set {σ : L2.St} {vs : List Nat} {i : Nat} {x : Option V} (hi : i ∈ vs) : wipe (σ.set i x) vs = wipe σ vs := by
  apply List.ext_getElem?
  intro j
  rw [wipe_get, wipe_get, List.length_set]
  by_cases hj : j ∈ vs ∧ j < σ.length
  · rw [if_pos hj, if_pos hj]
  · rw [if_neg hj, if_neg hj]
    by_cases e : i = j
    · subst e
      have hl : ¬ i < σ.length := fun z => hj ⟨hi, z⟩
      rw [List.getElem?_eq_none_iff.mpr (by rw [List.length_set]; exact Nat.le_of_not_lt hl), List.getElem?_eq_none_iff.mpr (Nat.le_of_not_lt hl)]
    · rw [List.getElem?_set_ne e]
section
variable {X : Cx} {W : XB → Hp → Prop}
section
variable {G : Gh} {as : As} {H : Hp} {ρ ρ' : Rho} {M : Mem} {σ σ' : L2.St}
theorem Rep.slots (R : Rep G as H ρ M σ) (hl : σ'.length = ρ'.length) (hs : ∀ (i : Nat) (b : B), ρ'[i]? = some (some b) → ∃ v, σ'[i]? = some (some v) ∧ RB G.S as H v b) : Rep G as H ρ' M σ' := ⟨R.cs, hl, hs, R.tp, R.kp, R.fr, R.nw, R.ot⟩
theorem Rep.wiped (R : Rep G as H ρ M σ) (vs : List Nat) : Rep G as H (wipeR ρ vs) M (wipe σ vs) := by
  refine R.slots (by rw [wipe_length, wipeR_len]; exact R.len) fun i b e => ?_
  obtain ⟨h1, h2⟩ := wipeR_get ρ vs i b e
  obtain ⟨v, h3, h4⟩ := R.sl i b h1
  exact ⟨v, by rw [wipe_get, if_neg (fun z => h2 z.1)]; exact h3, h4⟩
/-- the slots, to be kept in mind -/
def slotsL (σ : L2.St) (ρ : Rho) : List (V × B) := (σ.zip ρ).filterMap fun p => match p with
  | (some v, some b) => some (v, b)
  | _ => none
theorem slotsL_mem {i : Nat} {v : V} {b : B} (h1 : σ[i]? = some (some v)) (h2 : ρ[i]? = some (some b)) : (v, b) ∈ slotsL σ ρ :=
  List.mem_filterMap.mpr ⟨(some v, some b), List.mem_of_getElem? (i := i) (by rw [List.getElem?_zip_eq_some]; exact ⟨h1, h2⟩), rfl⟩
theorem slotsL_ok (R : Rep G as H ρ M σ) : ∀ p ∈ slotsL σ ρ, RB G.S as H p.1 p.2 := fun p hp => by
  obtain ⟨q, h1, h2⟩ := List.mem_filterMap.mp hp
  obtain ⟨i, hi⟩ := List.mem_iff_getElem?.mp h1
  obtain ⟨a, b⟩ := q
  rw [List.getElem?_zip_eq_some] at hi
  split at h2
  · rename_i v b' e
    cases h2
    cases e
    obtain ⟨v', h3, h4⟩ := R.sl i _ hi.2
    rw [hi.1] at h3
    cases h3
    exact h4
  · cases h2
theorem Rep.pushs {l : List (V × B)} (R : Rep G as H ρ M σ) (h : ∀ p ∈ l, RB G.S as H p.1 p.2) : Rep (G.pushs l) as H ρ M σ :=
  ⟨R.cs, R.len, R.sl, fun p hp => (List.mem_append.mp hp).elim (h p) (R.tp p), R.kp, R.fr, R.nw, R.ot⟩
theorem Rep.pops {l : List (V × B)} (R : Rep (G.pushs l) as H ρ M σ) : Rep G as H ρ M σ := ⟨R.cs, R.len, R.sl, fun p hp => R.tp p (List.mem_append_right _ hp), R.kp, R.fr, R.nw, R.ot⟩
end
/-- a target of a comprehension -/
def cGc (vs : List Nat) (g : Tg) : TG := fun v σ H Q => ∃ G as ρ M b ρ', Rep G as H ρ M σ ∧ RB G.S as H v b ∧ g b ρ = some ρ' ∧ ∀ σ', Rep G as H ρ' M σ' → wipe σ' vs = wipe σ vs → Q σ' H
abbrev EGc (X : Cx) (vs : List Nat) (e : Expr) (g : Tg) : Prop := PG X e (cGc vs g)
theorem egc_name {vs : List Nat} {i : Nat} {x : Str} {pos : Pos} (hN : X.N.Nodup) (hv : i ∈ vs := by decide) (hi : X.N[i]? = some x := by rfl) (hx : Loc X.env.scope x := by first | exact Or.inl rfl | exact Or.inr rfl) (hf : X.fn x = true ∨ X.env.scope.names.lookup x = some .local := by first | exact .inl rfl | exact .inr rfl | assumption) : EGc X vs (.Name x pos) (gN i) :=
  pg_imp (pg_name hN hi hx hf) fun v σ H Q h => by
    obtain ⟨G, as, ρ, M, b, ρ', R, r, e, k⟩ := h
    cases e
    exact k _ (R.setSlot r) (wipe_set hv)
def cGcs (vs is : List Nat) : TGs := fun ws σ H Q => ∃ G as ρ M bs ρ', Rep G as H ρ M σ ∧ RBs G.S as H ws bs ∧ gsSet is bs ρ = some ρ' ∧ ∀ σ', Rep G as H ρ' M σ' → wipe σ' vs = wipe σ vs → Q σ' H
abbrev EGcs (X : Cx) (vs : List Nat) (es : List Expr) (is : List Nat) : Prop := PGs X es (cGcs vs is)
theorem egcs_nil {vs : List Nat} : EGcs X vs [] [] := pgs_imp pgs_nil fun ws σ H Q h => by
  obtain ⟨G, as, ρ, M, bs, ρ', R, r, e, k⟩ := h
  cases r with
  | nil =>
    unfold gsSet at e
    cases e
    exact ⟨rfl, k σ R rfl⟩
  | cons _ _ =>
    unfold gsSet at e
    cases e
theorem egcs_cons {vs : List Nat} {i : Nat} {is : List Nat} {x : Str} {pos : Pos} {es : List Expr} (hr : EGcs X vs es is) (hN : X.N.Nodup) (hv : i ∈ vs := by decide) (hi : X.N[i]? = some x := by rfl) (hx : Loc X.env.scope x := by first | exact Or.inl rfl | exact Or.inr rfl) (hf : X.fn x = true ∨ X.env.scope.names.lookup x = some .local := by first | exact .inl rfl | exact .inr rfl | assumption)
    (hs : (assignEach (.Name x pos :: es) X.env).map (·.2) = assign (.Name x pos) X.env :: (assignEach es X.env).map (·.2) := by rfl) : EGcs X vs (.Name x pos :: es) (i :: is) :=
  pgs_imp (pgs_cons (pg_name hN hi hx hf) hr hs) fun ws σ H Q h => by
    obtain ⟨G, as, ρ, M, bs, ρ', R, r, e, k⟩ := h
    cases r with
    | nil =>
      unfold gsSet at e
      cases e
    | cons r1 t =>
      exact ⟨_, _, rfl, G, as, _, M, _, ρ', R.setSlot r1, t, e, fun σ' R' w => k σ' R' (w.trans (wipe_set hv))⟩
theorem gsSet_len {ρ' : Rho} : ∀ (is : List Nat) (bs : List B) (ρ : Rho), gsSet is bs ρ = some ρ' → is.length = bs.length
  | [], [], _, _ => rfl
  | [], _ :: _, _, h => by unfold gsSet at h; cases h
  | _ :: _, [], _, h => by unfold gsSet at h; cases h
  | i :: is, b :: bs, ρ, h => by rw [List.length_cons, List.length_cons, gsSet_len is bs _ h]
theorem egc_tup {vs : List Nat} {es : List Expr} {is : List Nat} {k : _} {pos : Pos} {n : Nat} (hc : X.calm = true) (h : EGcs X vs es is) (hl : is.length = n := by rfl)
    (hn : (assignEach es X.env).length = n := by rfl) (hst : (assignEach es X.env).findIdx? (·.1) = none := by rfl) : EGc X vs (.Tuple es k pos) (gT is) :=
  pg_imp (pg_tup hc h hn hst) fun v σ H Q h => by
    obtain ⟨G, as, ρ, M, b, ρ', R, r, e, k⟩ := h
    unfold gT at e
    split at e
    · rename_i bs eb
      have hlen := gsSet_len is bs ρ e
      unfold tupB at eb
      split at eb
      · cases eb
        cases r with
        | tup h1 n1 d1 => exact ⟨_, _, rfl, SqT.of h1, by rw [d1.length, ← hl, hlen, List.length_map], G, as, ρ, M, _, ρ', R, rbs_dat d1, e, k⟩
      · cases eb
        cases r with
        | tup h1 n1 d1 => exact ⟨_, _, rfl, SqT.of h1, by rw [d1.length, ← hl, hlen, List.length_map], G, as, ρ, M, _, ρ', R, rbs_lo d1, e, k⟩
      · cases eb
    · cases e
abbrev W0 : XB → Hp → Prop := fun _ _ => False
def tY : Et := fun _ M => .ok true M
abbrev ETs (X : Cx) (ifs : List Expr) (t : Et) : Prop := PTs X ifs (cT W0 t)
theorem ets_nil : ETs X [] tY := ⟨fun pins s σ H Q I h => pts_nil.run pins s σ H Q I (by
  obtain ⟨G, as, ρ, M, R, h⟩ := h
  exact h as H R)⟩
theorem ets_one {c : Expr} {t : Et} (h : ET X W0 c t) : ETs X [c] t := pts_one h
def lcL (k : Nat) (g : Tg) (t : Et) (e : Ev) (ρ : Rho) : List B → Mem → Res Unit
  | [], M => .ok () M
  | b :: bs, M => match g b ρ with
    | none => .stuck
    | some ρ1 => (t ρ1 M).bind fun c M1 => if c = true then (e ρ1 M1).bind fun y M2 => match M2[k]? with
        | some (some (.lst acc)) => if acc.length < SZ then lcL k g t e ρ bs (M2.set k (some (.lst (acc ++ [y])))) else .stuck
        | _ => .stuck
      else lcL k g t e ρ bs M1
def noX {α : Type} : Res α → Res α
  | .exc _ => .stuck
  | r => r
def lcAll (vs : List Nat) (g : Tg) (t : Et) (e : Ev) (bs : List B) : Ev := fun ρ M => (noX (lcL M.length g t e (wipeR ρ vs) bs (M ++ [some (.lst [])]))).bind fun _ M2 => .ok (.own M.length) M2
def eLC (vs : List Nat) (g : Tg) (l : Ev) (t : Et) (e : Ev) : Ev := fun ρ M => (l ρ M).bind fun x M1 => match items x with
  | some bs => lcAll vs g t e bs ρ M1
  | none => .stuck
def eLCR1 (vs : List Nat) (g : Tg) (l : Ea) (t : Et) (e : Ev) : Ev := fun ρ M => (l ρ M).bind fun x M1 => match rngOf1 x with
  | some bs => lcAll vs g t e bs ρ M1
  | none => .stuck
def eLCR2 (vs : List Nat) (g : Tg) (l : Ea) (t : Et) (e : Ev) : Ev := fun ρ M => (l ρ M).bind fun x M1 => match rngOf2 x with
  | some bs => lcAll vs g t e bs ρ M1
  | none => .stuck
/-- what is kept in mind in a comprehension -/
abbrev Gc (G : Gh) (σ : L2.St) (ρ : Rho) (D : Addr) (k : Nat) : Gh := (G.pushs (slotsL σ ρ)).push (.ref D) (.own k)
section
variable {G : Gh} {σ : L2.St} {ρ : Rho} {D : Addr} {k : Nat} {g : Tg} {t : Et} {e : Ev} {vs : List Nat} {Qd : Hp → Prop}
/-- what must hold ahead of the items that are left -/
def PoU (G : Gh) (σ : L2.St) (ρ : Rho) (D : Addr) (k : Nat) (Qd : Hp → Prop) : Res Unit → Prop
  | .ok _ M => ∀ as H, Rep G as H ρ M σ → as[k]? = some (some D) → Qd H
  | _ => False
def PvC (G : Gh) (σ : L2.St) (ρ : Rho) (D : Addr) (k : Nat) (g : Tg) (t : Et) (e : Ev) (vs : List Nat) (Qd : Hp → Prop) (bs : List B) (H : Hp) : Prop :=
  ∃ as M σx ρx, Rep (Gc G σ ρ D k) as H ρx M σx ∧ PoU G σ ρ D k Qd (lcL k g t e (wipeR ρ vs) bs M)
theorem gc_back {as : As} {H : Hp} {M : Mem} {σx : L2.St} {ρx : Rho} (hl : σ.length = ρ.length) (hs : ∀ (i : Nat) (b : B), ρ[i]? = some (some b) → ∃ v, σ[i]? = some (some v)) (R : Rep (Gc G σ ρ D k) as H ρx M σx) : Rep (Gc G σ ρ D k) as H ρ M σ := by
  refine R.slots hl fun i b e => ?_
  obtain ⟨v, h⟩ := hs i b e
  exact ⟨v, h, R.tp (v, b) (List.mem_cons_of_mem _ (List.mem_append_left _ (slotsL_mem h e)))⟩
theorem gc_own {as : As} {H : Hp} {M : Mem} {σx : L2.St} {ρx : Rho} (R : Rep (Gc G σ ρ D k) as H ρx M σx) : as[k]? = some (some D) := by
  obtain ⟨a, h1, h2⟩ := R.top
  cases h2
  exact h1
theorem pvC_turn {H : Hp} {b : B} {bs : List B} {v : V} (hl : σ.length = ρ.length) (hs : ∀ (i : Nat) (b : B), ρ[i]? = some (some b) → ∃ v, σ[i]? = some (some v)) (hb : ∀ as H, (∀ p ∈ G.tmp, RB G.S as H p.1 p.2) → RB G.S as H v b) (p : PvC G σ ρ D k g t e vs Qd (b :: bs) H) :
    cGc vs g v (wipe σ vs) H fun σ2 H2 => wipe σ2 vs = wipe σ vs ∧ cT W0 t σ2 H2 fun c H3 => if c = true then cE W0 e σ2 H3 fun y H4 => ∃ acc, H4 D = some (.lst acc) ∧ acc.length < sizeLine ∧ PvC G σ ρ D k g t e vs Qd bs (upd H4 D (.lst (acc ++ [y]))) else PvC G σ ρ D k g t e vs Qd bs H3 := by
  obtain ⟨as, M, σx, ρx, R, p⟩ := p
  have R1 := (gc_back hl hs R).wiped vs
  unfold lcL at p
  split at p
  · exact p.elim
  · rename_i ρ1 eg
    have r : RB (Gc G σ ρ D k).S as H v b := hb as H fun q hq => R.tp q (List.mem_cons_of_mem _ (List.mem_append_right _ hq))
    refine ⟨_, as, _, M, b, ρ1, R1, r, eg, fun σ2 R2 hw => ⟨?_, Gc G σ ρ D k, as, ρ1, M, R2, ?_⟩⟩
    · rw [hw]
      apply List.ext_getElem?
      intro j
      rw [wipe_get, wipe_get, wipe_length]
      by_cases hj : j ∈ vs ∧ j < σ.length
      · rw [if_pos hj, if_pos hj]
      · rw [if_neg hj, if_neg hj]
    · cases q : t ρ1 M with
      | stuck => rw [q] at p; exact p
      | exc x => rw [q] at p; exact False.elim p
      | ok c M1 =>
        rw [q] at p
        intro as1 H1 R3
        simp only [Res.bind_ok] at p
        cases c with
        | false => exact ⟨as1, M1, σ2, ρ1, R3, p⟩
        | true =>
          rw [if_pos rfl]
          simp only [if_true] at p
          refine ⟨Gc G σ ρ D k, as1, ρ1, M1, R3, ?_⟩
          cases q2 : e ρ1 M1 with
          | stuck => rw [q2] at p; exact p
          | exc x => rw [q2] at p; exact False.elim p
          | ok y M2 =>
            rw [q2] at p
            intro w as2 H2 R4 r4
            simp only [Res.bind_ok] at p
            split at p
            · rename_i acc ea
              split at p
              · rename_i hz
                obtain ⟨a, zs, e1, h1, h2, h3⟩ := own_lst R4.cs ea R4.top
                cases e1
                have s := stp_own (G := Gc G σ ρ D k) (H := H2) (o := .lst (zs ++ [w])) (List.mem_of_getElem? h1)
                exact ⟨zs, h2, by rw [h3.length, SZ_eq]; exact hz, as2, _, σ2, ρ1, R4.store (c := .lst (acc ++ [y])) h1 ⟨_, upd_same, (h3.append (.cons r4 .nil)).mono s⟩, p⟩
              · exact p.elim
            · exact p.elim
theorem pvC_end {H : Hp} (hl : σ.length = ρ.length) (hs : ∀ (i : Nat) (b : B), ρ[i]? = some (some b) → ∃ v, σ[i]? = some (some v)) (p : PvC G σ ρ D k g t e vs Qd [] H) : Qd H := by
  obtain ⟨as, M, σx, ρx, R, p⟩ := p
  exact p as H (gc_back hl hs R).pop.pops (gc_own R)
/-- the start -/
theorem pvC_start {as : As} {H : Hp} {M : Mem} {bs : List B} {Q : VK} (R : Rep G as H ρ M σ) (hD : H D = none) (h : PoE G ρ σ W Q (lcAll vs g t e bs ρ M)) : PvC G σ ρ D M.length g t e vs (fun H => Q (.ref D) H) bs (upd H D (.lst [])) := by
  have R1 := R.own (c := .lst []) hD ⟨[], upd_same, .nil⟩
  have hk : (as ++ [some D])[M.length]? = some (some D) := by rw [← R.cs.len]; simp
  refine ⟨_, _, σ, ρ, (R1.pushs (slotsL_ok R1)).push ⟨D, hk, rfl⟩, ?_⟩
  unfold lcAll at h
  cases q : lcL M.length g t e (wipeR ρ vs) bs (M ++ [some (.lst [])]) with
  | stuck => rw [q] at h; exact h
  | exc x => rw [q] at h; exact h
  | ok u M2 =>
    rw [q] at h
    intro as' H' R' hk'
    exact h (.ref D) as' H' R' ⟨D, hk', rfl⟩
end
theorem rb_walk {G : Gh} {a : Addr} {o : HO} {xs : List V} {bs : List B} {i : Nat} {v : V} {b : B} {as : As} {H : Hp} (h1 : xs[i]? = some v) (h2 : bs[i]? = some b) (h : ∀ p ∈ (G.walk a o (xs.zip bs)).tmp, RB (G.walk a o (xs.zip bs)).S as H p.1 p.2) : RB G.S as H v b :=
  h (v, b) (List.mem_append_left _ (List.mem_of_getElem? (i := i) (by rw [List.getElem?_zip_eq_some]; exact ⟨h1, h2⟩)))
theorem poE_walk {G : Gh} {ρ : Rho} {σ : L2.St} {Q : VK} {a : Addr} {o : HO} {l : List (V × B)} : ∀ {r : Res B}, PoE G ρ σ W Q r → PoE (G.walk a o l) ρ σ W Q r
  | .stuck, h => h
  | .exc _, h => h
  | .ok _ _, h => fun v as' H' R r => h v as' H' R.unwalk r
theorem lc_imp {l : Ev} {g : Tg} {t : Et} {e : Ev} {vs : List Nat} {σ : L2.St} {H : Hp} {Q : VK} (h : cE W (eLC vs g l t e) σ H Q) : tLc (iSeq X.K (cE W l)) (cGc vs g) (cT W0 t) (cE W0 e) vs σ H Q := by
  obtain ⟨G, as, ρ, M, R, h⟩ := h
  refine ⟨G, as, ρ, M, R, ?_⟩
  unfold eLC at h
  cases q : l ρ M with
  | stuck => rw [q] at h; exact h
  | exc x => rw [q] at h; exact h
  | ok x M1 =>
    rw [q] at h
    intro v as1 H1 R1 r1
    simp only [Res.bind_ok] at h
    split at h
    · rename_i bs eb
      obtain ⟨a, xs, o, rfl, ha, na, ho, rs, hD⟩ := items_ok X.K eb r1
      have hl := rs.length
      have R2 : Rep (G.walk a o (xs.zip bs)) as1 H1 ρ M1 σ := R1.walk ha na (rbs_zip rs)
      have h2 : PoE (G.walk a o (xs.zip bs)) ρ σ W Q (lcAll vs g t e bs ρ M1) := poE_walk h
      have sl : ∀ (i : Nat) (b : B), ρ[i]? = some (some b) → ∃ v, σ[i]? = some (some v) := fun i b e => let ⟨v, h, _⟩ := R2.sl i b e; ⟨v, h⟩
      have turn : ∀ (D : Addr) (i : Nat) (x : V) (H : Hp), xs[i]? = some x → PvC (G.walk a o (xs.zip bs)) σ ρ D M1.length g t e vs (fun H => Q (.ref D) H) (bs.drop i) H → cGc vs g x (wipe σ vs) H fun σ2 H2 => wipe σ2 vs = wipe σ vs ∧ cT W0 t σ2 H2 fun c H3 => if c = true then cE W0 e σ2 H3 fun y H4 => ∃ acc, H4 D = some (.lst acc) ∧ acc.length < sizeLine ∧ PvC (G.walk a o (xs.zip bs)) σ ρ D M1.length g t e vs (fun H => Q (.ref D) H) (bs.drop (i + 1)) (upd H4 D (.lst (acc ++ [y]))) else PvC (G.walk a o (xs.zip bs)) σ ρ D M1.length g t e vs (fun H => Q (.ref D) H) (bs.drop (i + 1)) H3 := fun D i x H ex p => by
        have hi : i < bs.length := by rw [← hl]; exact (List.getElem?_eq_some_iff.mp ex).1
        have eb : bs[i]? = some bs[i] := List.getElem?_eq_getElem hi
        rw [List.drop_eq_getElem_cons hi] at p
        exact pvC_turn R2.len sl (fun as H hp => rb_walk (G := G) (a := a) (o := o) ex eb hp) p
      have keepO : ∀ (D : Addr) (bs' : List B) (H : Hp), PvC (G.walk a o (xs.zip bs)) σ ρ D M1.length g t e vs (fun H => Q (.ref D) H) bs' H → H a = some o := fun D bs' H p => by
        obtain ⟨as, M, σx, ρx, R, _⟩ := p
        exact (R.kp (a, o) List.mem_cons_self).1
      have done : ∀ (D : Addr) (H : Hp), PvC (G.walk a o (xs.zip bs)) σ ρ D M1.length g t e vs (fun H => Q (.ref D) H) (bs.drop xs.length) H → Q (.ref D) H := fun D H p => by
        rw [hl, List.drop_length] at p
        exact pvC_end (Qd := fun H => Q (.ref D) H) R2.len sl p
      rcases ho with rfl | rfl | ⟨ob, rfl⟩
      · refine .inl ⟨a, rfl, ⟨xs, SqL.of ha⟩, fun D hD0 => lc_list (xs := xs) (fun i H => PvC (G.walk a _ (xs.zip bs)) σ ρ D M1.length g t e vs (fun H => Q (.ref D) H) (bs.drop i) H) ?_ (fun i H _ p => SqL.of (keepO D _ H p)) (turn D) (done D)⟩
        rw [List.drop_zero]
        exact pvC_start R2 hD0 h2
      · refine .inr ⟨a, rfl, ⟨xs, SqT.of ha⟩, fun D hD0 => lc_tup (xs := xs) (fun i H => PvC (G.walk a _ (xs.zip bs)) σ ρ D M1.length g t e vs (fun H => Q (.ref D) H) (bs.drop i) H) ?_ (fun i H _ p => SqT.of (keepO D _ H p)) (turn D) (done D)⟩
        rw [List.drop_zero]
        exact pvC_start R2 hD0 h2
      · refine .inl ⟨a, rfl, ⟨xs, .inl (.inr ⟨ob, ha⟩)⟩, fun D hD0 => lc_list (xs := xs) (fun i H => PvC (G.walk a _ (xs.zip bs)) σ ρ D M1.length g t e vs (fun H => Q (.ref D) H) (bs.drop i) H) ?_ (fun i H _ p => .inl (.inr ⟨ob, keepO D _ H p⟩)) (turn D) (done D)⟩
        rw [List.drop_zero]
        exact pvC_start R2 hD0 h2
    · exact h.elim
theorem ev_lc {elt tg iter : Expr} {ifs : List Expr} {scope : Scope} {own : List (Str × Nat)} {pos : Pos} {l : Ev} {g : Tg} {t : Et} {e : Ev} (hc : X.calm = true) (hN : X.N.Nodup) (hi : EV X W iter l) (ok : BlkOk X.N X.env.scope scope own)
    (hg : ∀ (s : Shared) (H : Hp) (C : Addr) (cl : List (Str × Addr)) (fp : List Addr), EGc (X.blk s H scope (compEnvC scope cl C X.env) fp) (own.map (·.2)) tg g) (ht : ∀ (s : Shared) (H : Hp) (C : Addr) (cl : List (Str × Addr)) (fp : List Addr), ETs (X.blk s H scope (compEnvC scope cl C X.env) fp) ifs t)
    (he : ∀ (s : Shared) (H : Hp) (C : Addr) (cl : List (Str × Addr)) (fp : List Addr), EV (X.blk s H scope (compEnvC scope cl C X.env) fp) W0 elt e) (hs : ∀ x, foldedSetIterable iter X.env x = pure x := by intro _; rfl) :
    EV X W (.ListComp elt [⟨tg, iter, ifs, 0⟩] scope pos) (eLC (own.map (·.2)) g l t e) :=
  pe_imp (pe_lc hc hN (pi_seq hi) ok hg ht he hs) fun σ H Q h => lc_imp h
noncomputable def eLCS (K : PySem.W.Frag) (vs : List Nat) (g : Tg) (l : Ev) (t : Et) (e : Ev) : Ev := fun ρ M => (l ρ M).bind fun x M1 => match scrI K x with
  | some ns => lcAll vs g t e (ns.map fun n => .dat (.int n)) ρ M1
  | none => .stuck
theorem poE_push {G : Gh} {ρ : Rho} {σ : L2.St} {Q : VK} {v : V} {b : B} : ∀ {r : Res B}, PoE G ρ σ W Q r → PoE (G.push v b) ρ σ W Q r
  | .stuck, h => h
  | .exc _, h => h
  | .ok _ _, h => fun v as' H' R r => h v as' H' R.pop r
theorem lcS_imp {l : Ev} {g : Tg} {t : Et} {e : Ev} {vs : List Nat} {σ : L2.St} {H : Hp} {Q : VK} (h : cE W (eLCS X.K vs g l t e) σ H Q) : tLc (iSeq X.K (cE W l)) (cGc vs g) (cT W0 t) (cE W0 e) vs σ H Q := by
  obtain ⟨G, as, ρ, M, R, h⟩ := h
  refine ⟨G, as, ρ, M, R, ?_⟩
  unfold eLCS at h
  cases q : l ρ M with
  | stuck => rw [q] at h; exact h
  | exc x => rw [q] at h; exact h
  | ok x M1 =>
    rw [q] at h
    intro v as1 H1 R1 r1
    simp only [Res.bind_ok] at h
    split at h
    · rename_i ns es
      have es' := scrI_ok es
      subst es'
      obtain ⟨a, rfl, hsq⟩ := Den.scr_sq r1
      have R2 : Rep (G.push (.ref a) (.dat (.scr X.K ns))) as1 H1 ρ M1 σ := R1.push r1
      have h2 : PoE (G.push (.ref a) (.dat (.scr X.K ns))) ρ σ W Q (lcAll vs g t e (ns.map fun n => .dat (.int n)) ρ M1) := poE_push h
      have sl : ∀ (i : Nat) (b : B), ρ[i]? = some (some b) → ∃ v, σ[i]? = some (some v) := fun i b e => let ⟨v, h, _⟩ := R2.sl i b e; ⟨v, h⟩
      refine .inl ⟨a, rfl, ⟨_, hsq⟩, fun D hD0 => lc_list (xs := ns.map V.int) (fun i H => PvC (G.push (.ref a) (.dat (.scr X.K ns))) σ ρ D M1.length g t e vs (fun H => Q (.ref D) H) ((ns.map fun n => B.dat (.int n)).drop i) H) ?_ (fun i H _ p => ?_) (fun i x H ex p => ?_) (fun H p => ?_)⟩
      · rw [List.drop_zero]
        exact pvC_start R2 hD0 h2
      · obtain ⟨as, M, σx, ρx, R, _⟩ := p
        have rt := R.tp (.ref a, .dat (.scr X.K ns)) (List.mem_cons_of_mem _ (List.mem_append_right _ List.mem_cons_self))
        obtain ⟨a', e', h'⟩ := Den.scr_sq rt
        cases e'
        exact h'
      · have hi : i < (ns.map fun n => B.dat (.int n)).length := by
          have := (List.getElem?_eq_some_iff.mp ex).1
          rw [List.length_map] at this ⊢
          exact this
        rw [List.getElem?_map] at ex
        cases q2 : ns[i]? with
        | none => rw [q2] at ex; cases ex
        | some m =>
          rw [q2] at ex
          cases ex
          have eb : (ns.map fun n => B.dat (.int n))[i] = .dat (.int m) := by
            have : (ns.map fun n => B.dat (.int n))[i]? = some (.dat (.int m)) := by rw [List.getElem?_map, q2]; rfl
            rw [List.getElem?_eq_getElem hi] at this
            exact Option.some.inj this
          rw [List.drop_eq_getElem_cons hi, eb] at p
          exact pvC_turn (b := .dat (.int m)) R2.len sl (fun as H _ => Den.int _) p
      · rw [List.length_map, ← List.length_map (f := fun n => B.dat (.int n)), List.drop_length] at p
        exact pvC_end (Qd := fun H => Q (.ref D) H) R2.len sl p
    · exact h.elim
theorem blkOk_of {N N' : List Str} {sc sc' scope : Scope} {own : List (Str × Nat)} (eN : N = N') (es : sc = sc') (h : BlkOk N' sc' scope own) : BlkOk N sc scope own := by
  subst eN es
  exact h
theorem ev_lcS {elt tg iter : Expr} {ifs : List Expr} {scope : Scope} {own : List (Str × Nat)} {pos : Pos} {l : Ev} {g : Tg} {t : Et} {e : Ev} (hc : X.calm = true) (hN : X.N.Nodup) (hi : EV X W iter l) (ok : BlkOk X.N X.env.scope scope own)
    (hg : ∀ (s : Shared) (H : Hp) (C : Addr) (cl : List (Str × Addr)) (fp : List Addr), EGc (X.blk s H scope (compEnvC scope cl C X.env) fp) (own.map (·.2)) tg g) (ht : ∀ (s : Shared) (H : Hp) (C : Addr) (cl : List (Str × Addr)) (fp : List Addr), ETs (X.blk s H scope (compEnvC scope cl C X.env) fp) ifs t)
    (he : ∀ (s : Shared) (H : Hp) (C : Addr) (cl : List (Str × Addr)) (fp : List Addr), EV (X.blk s H scope (compEnvC scope cl C X.env) fp) W0 elt e) (hs : ∀ x, foldedSetIterable iter X.env x = pure x := by intro _; rfl) :
    EV X W (.ListComp elt [⟨tg, iter, ifs, 0⟩] scope pos) (eLCS X.K (own.map (·.2)) g l t e) :=
  pe_imp (pe_lc hc hN (pi_seq hi) ok hg ht he hs) fun σ H Q h => lcS_imp h
theorem lcR_core {G : Gh} {as : As} {H : Hp} {ρ : Rho} {M : Mem} {σ : L2.St} {g : Tg} {t : Et} {e : Ev} {vs : List Nat} {lo hi : Int} {Q : VK} (R : Rep G as H ρ M σ) (h : PoE G ρ σ W Q (lcAll vs g t e (rng lo hi) ρ M)) (D : Addr) (hD : H D = none) :
    ∃ Wv : Nat → Nat → Hp → Prop, (∃ m, Wv 0 m (upd H D (.lst []))) ∧ ∀ i m H, Wv i m H →
      ((Itr lo (hi - lo).toNat).stop i H ∧ Q (.ref D) H) ∨ ((Itr lo (hi - lo).toNat).go i H ∧ ∃ Nx : Hp → Prop, (∀ H', Nx H' → ∃ m', m' < m ∧ Wv (i + 1) m' H') ∧ ∀ x H', (Itr lo (hi - lo).toNat).yld i H x H' → cGc vs g x (wipe σ vs) H' fun σ2 H2 => wipe σ2 vs = wipe σ vs ∧ cT W0 t σ2 H2 fun b H3 =>
        if b = true then cE W0 e σ2 H3 fun y H4 => ∃ acc, H4 D = some (.lst acc) ∧ acc.length < sizeLine ∧ Nx (upd H4 D (.lst (acc ++ [y]))) else Nx H3) := by
  have sl : ∀ (i : Nat) (b : B), ρ[i]? = some (some b) → ∃ v, σ[i]? = some (some v) := fun i b e => let ⟨v, h, _⟩ := R.sl i b e; ⟨v, h⟩
  refine lc_range (fun i H => PvC G σ ρ D M.length g t e vs (fun H => Q (.ref D) H) ((rng lo hi).drop i) H) ?_ (fun i H hi' p => ?_) fun H p => ?_
  · rw [List.drop_zero]
    exact pvC_start R hD h
  · have hl : i < (rng lo hi).length := by rw [rng_len]; exact hi'
    have eb : (rng lo hi)[i] = .dat (.int (lo + i)) := by
      have := rng_get (lo := lo) (hi := hi) hi'
      rw [List.getElem?_eq_getElem hl] at this
      exact Option.some.inj this
    rw [List.drop_eq_getElem_cons hl, eb] at p
    exact pvC_turn (b := .dat (.int (lo + (i : Int)))) R.len sl (fun as H _ => Den.int _) p
  · rw [← rng_len, List.drop_length] at p
    exact pvC_end (Qd := fun H => Q (.ref D) H) R.len sl p
theorem lcR1_imp {l : Ea} {g : Tg} {t : Et} {e : Ev} {vs : List Nat} {σ : L2.St} {H : Hp} {Q : VK} (h : cE W (eLCR1 vs g l t e) σ H Q) : tLc (iRng1 (cA W l)) (cGc vs g) (cT W0 t) (cE W0 e) vs σ H Q := by
  obtain ⟨G, as, ρ, M, R, h⟩ := h
  refine ⟨G, as, ρ, M, R, ?_⟩
  unfold eLCR1 at h
  cases q : l ρ M with
  | stuck => rw [q] at h; exact h
  | exc x => rw [q] at h; exact h
  | ok x M1 =>
    rw [q] at h
    intro v as1 H1 R1 r1
    simp only [Res.bind_ok] at h
    split at h
    · rename_i bs e
      unfold rngOf1 at e
      split at e
      · split at e
        · rename_i j hj
          cases e
          simp only [bnd_eq] at hj
          rw [Bool.and_eq_true, decide_eq_true_eq, decide_eq_true_eq] at hj
          cases r1 with
          | cons r t =>
            cases t
            cases r
            refine ⟨j, rfl, hj.1, hj.2, fun D hD => ?_⟩
            have q := lcR_core (lo := 0) (hi := j) R1 h D hD
            rw [Int.sub_zero] at q
            exact q
        · cases e
      · cases e
    · exact h.elim
theorem ev_lcR1 {elt tg a : Expr} {ifs : List Expr} {scope : Scope} {own : List (Str × Nat)} {p pos pos' : Pos} {l : Ea} {g : Tg} {t : Et} {e : Ev} (hc : X.calm = true) (hN : X.N.Nodup) (hr : Gl X "range") (hm : X.mg "range" = none) (hi : EA X W [a] l) (ok : BlkOk X.N X.env.scope scope own)
    (hg : ∀ (s : Shared) (H : Hp) (C : Addr) (cl : List (Str × Addr)) (fp : List Addr), EGc (X.blk s H scope (compEnvC scope cl C X.env) fp) (own.map (·.2)) tg g) (ht : ∀ (s : Shared) (H : Hp) (C : Addr) (cl : List (Str × Addr)) (fp : List Addr), ETs (X.blk s H scope (compEnvC scope cl C X.env) fp) ifs t)
    (he : ∀ (s : Shared) (H : Hp) (C : Addr) (cl : List (Str × Addr)) (fp : List Addr), EV (X.blk s H scope (compEnvC scope cl C X.env) fp) W0 elt e) (hst : starEach [a] X.env = [(false, eval a X.env)] := by rfl) (hs : ∀ x, foldedSetIterable (.Call (.Name "range" p) [a] [] pos') X.env x = pure x := by intro _; rfl) :
    EV X W (.ListComp elt [⟨tg, .Call (.Name "range" p) [a] [] pos', ifs, 0⟩] scope pos) (eLCR1 (own.map (·.2)) g l t e) :=
  pe_imp (pe_lc hc hN (pi_range1 hr hm hi hst) ok hg ht he hs) fun σ H Q h => lcR1_imp h
theorem lcR2_imp {l : Ea} {g : Tg} {t : Et} {e : Ev} {vs : List Nat} {σ : L2.St} {H : Hp} {Q : VK} (h : cE W (eLCR2 vs g l t e) σ H Q) : tLc (iRng2 (cA W l)) (cGc vs g) (cT W0 t) (cE W0 e) vs σ H Q := by
  obtain ⟨G, as, ρ, M, R, h⟩ := h
  refine ⟨G, as, ρ, M, R, ?_⟩
  unfold eLCR2 at h
  cases q : l ρ M with
  | stuck => rw [q] at h; exact h
  | exc x => rw [q] at h; exact h
  | ok x M1 =>
    rw [q] at h
    intro v as1 H1 R1 r1
    simp only [Res.bind_ok] at h
    split at h
    · rename_i bs e
      unfold rngOf2 at e
      split at e
      · split at e
        · rename_i i j hj
          cases e
          simp only [bnd_eq] at hj
          rw [Bool.and_eq_true, decide_eq_true_eq, decide_eq_true_eq, Bool.and_eq_true, decide_eq_true_eq, decide_eq_true_eq] at hj
          cases r1 with
          | cons r t =>
            cases t with
            | cons r' t =>
              cases t
              cases r
              cases r'
              exact ⟨i, j, rfl, ⟨hj.1.1, hj.1.2, hj.2.1, hj.2.2⟩, fun D hD => lcR_core (lo := i) (hi := j) R1 h D hD⟩
        · cases e
      · cases e
    · exact h.elim
theorem ev_lcR2 {elt tg a b : Expr} {ifs : List Expr} {scope : Scope} {own : List (Str × Nat)} {p pos pos' : Pos} {l : Ea} {g : Tg} {t : Et} {e : Ev} (hc : X.calm = true) (hN : X.N.Nodup) (hr : Gl X "range") (hm : X.mg "range" = none) (hi : EA X W [a, b] l) (ok : BlkOk X.N X.env.scope scope own)
    (hg : ∀ (s : Shared) (H : Hp) (C : Addr) (cl : List (Str × Addr)) (fp : List Addr), EGc (X.blk s H scope (compEnvC scope cl C X.env) fp) (own.map (·.2)) tg g) (ht : ∀ (s : Shared) (H : Hp) (C : Addr) (cl : List (Str × Addr)) (fp : List Addr), ETs (X.blk s H scope (compEnvC scope cl C X.env) fp) ifs t)
    (he : ∀ (s : Shared) (H : Hp) (C : Addr) (cl : List (Str × Addr)) (fp : List Addr), EV (X.blk s H scope (compEnvC scope cl C X.env) fp) W0 elt e) (hst : starEach [a, b] X.env = [(false, eval a X.env), (false, eval b X.env)] := by rfl) (hs2 : starEach [b] X.env = [(false, eval b X.env)] := by rfl) (hs : ∀ x, foldedSetIterable (.Call (.Name "range" p) [a, b] [] pos') X.env x = pure x := by intro _; rfl) :
    EV X W (.ListComp elt [⟨tg, .Call (.Name "range" p) [a, b] [] pos', ifs, 0⟩] scope pos) (eLCR2 (own.map (·.2)) g l t e) :=
  pe_imp (pe_lc hc hN (pi_range2 hr hm hi hst hs2) ok hg ht he hs) fun σ H Q h => lcR2_imp h
end
end Ab

namespace Ab
open PySem PySem.Spec L2
/-! ### what is made in an expression is kept as data -/
/-- the data of a value, new cells (from m on) looked through -/
def fzN (m : Nat) (M : Mem) : Nat → B → Option D
  | _, .dat d => some d
  | n + 1, .own k => if m ≤ k then (match M[k]? with
    | some (some (.lst bs)) => (optAll (bs.map (fzN m M n))).map .lst
    | some (some (.ins C fs)) => (optAll ((fs.map (·.2)).map (fzN m M n))).map fun ds => .obj C ((fs.map (·.1)).zip ds)
    | some (some (.tp bs)) => (optAll (bs.map (fzN m M n))).map .tup
    | _ => none) else none
  | _, _ => none
def eFz (e : Ev) : Ev := fun ρ M => (e ρ M).bind fun b M' => match fzN M.length M' 4 b with
  | some d => if lowM M.length (M'.take M.length) = true then .ok (.dat d) (M'.take M.length) else .stuck
  | none => .stuck
section
variable {S : Addr → Prop} {as : As} {H : Hp} {M : Mem}
theorem fzN_ok {m : Nat} (C : Cells S as H M) : ∀ (n : Nat) (b : B) (d : D) (v : V), fzN m M n b = some d → RB S as H v b → Den H (fun a => S a ∨ some a ∈ as.take m) v d
  | 0, .dat d, d', v, h, r => by
    cases h
    exact den_weak (fun _ z => z.imp id mem_take) r
  | _ + 1, .dat d, d', v, h, r => by
    cases h
    exact den_weak (fun _ z => z.imp id mem_take) r
  | 0, .vw _, _, _, h, _ => by cases h
  | _ + 1, .vw _, _, _, h, _ => by cases h
  | 0, .ty _, _, _, h, _ => by cases h
  | _ + 1, .ty _, _, _, h, _ => by cases h
  | 0, .own k, d', v, h, r => by cases h
  | n + 1, .own k, d', v, h, r => by
    unfold fzN at h
    split at h
    · rename_i hk
      have nin : ∀ a, as[k]? = some (some a) → ¬ (S a ∨ some a ∈ as.take m) := fun a h1 z => by
        rcases z with z | z
        · exact C.dj a (List.mem_of_getElem? h1) z
        · obtain ⟨j, hj, e⟩ := in_take_lt z
          have := C.nd k j a h1 e
          omega
      split at h
      · rename_i bs e
        obtain ⟨a, h1, h2⟩ := C.cell k _ e
        obtain ⟨xs, h3, h4⟩ := h2
        obtain ⟨a', h5, rfl⟩ := r
        rw [h1] at h5
        cases h5
        cases q : optAll (bs.map (fzN m M n)) with
        | none => rw [q] at h; cases h
        | some ds =>
          rw [q] at h
          cases h
          exact .lst h3 (nin a h1) (optAll_dens (fun b d v e r => fzN_ok C n b d v e r) q h4)
      · rename_i C' fs e
        obtain ⟨a, h1, dx, xs, h3, h4⟩ := C.cell k _ e
        obtain ⟨a', h5, rfl⟩ := r
        rw [h1] at h5
        cases h5
        cases q : optAll ((fs.map (·.2)).map (fzN m M n)) with
        | none => rw [q] at h; cases h
        | some ds =>
          rw [q] at h
          cases h
          have hd := optAll_dens (fun b d v e r => fzN_ok C n b d v e r) q h4
          exact .obj h3 (nin a h1) (by rw [List.length_map, ← hd.length, h4.length, List.length_map]) hd
      · rename_i bs e
        obtain ⟨a, h1, h2⟩ := C.cell k _ e
        obtain ⟨xs, h3, h4⟩ := h2
        obtain ⟨a', h5, rfl⟩ := r
        rw [h1] at h5
        cases h5
        cases q : optAll (bs.map (fzN m M n)) with
        | none => rw [q] at h; cases h
        | some ds =>
          rw [q] at h
          cases h
          exact .tup h3 (nin a h1) (optAll_dens (fun b d v e r => fzN_ok C n b d v e r) q h4)
      · cases h
    · cases h
end
/-- no value of a state that stands owns a cell that is made later -/
theorem rb_low {S : Addr → Prop} {as : As} {H : Hp} {M : Mem} (C : Cells S as H M) {v : V} {b : B} (r : RB S as H v b) : lowB M.length b = true := by
  cases b with
  | own k =>
    obtain ⟨a, h1, _⟩ := r
    have := (List.getElem?_eq_some_iff.mp h1).1
    rw [C.len] at this
    exact decide_eq_true this
  | _ => rfl
theorem Rep.cut {G : Gh} {as as' : As} {H H' : Hp} {ρ ρ' : Rho} {M M' : Mem} {σ σ' : L2.St} (R : Rep G as H ρ M σ) (R' : Rep G as' H' ρ' M' σ') (hρ : ∀ (i : Nat) (b : B), ρ'[i]? = some (some b) → lowB M.length b = true) (hl : lowM M.length (M'.take M.length) = true) : Rep G (as'.take M.length) H' ρ' (M'.take M.length) σ' := by
  refine ⟨cells_take R'.cs hl, R'.len, fun i b e => ?_, fun p hp => rb_take (rb_low R.cs (R.tp p hp)) (R'.tp p hp), fun q hq => ⟨(R'.kp q hq).1, fun z => (R'.kp q hq).2 (mem_take z)⟩, R'.fr, fun a z => R'.nw a (mem_take z), ?_⟩
  · obtain ⟨v, h1, h2⟩ := R'.sl i b e
    exact ⟨v, h1, rb_take (hρ i b e) h2⟩
  · have := R.ol
    rw [List.take_take, Nat.min_eq_left (by rw [← R.cs.len]; exact this)]
    exact R'.ot
theorem Rep.slow {G : Gh} {as : As} {H : Hp} {ρ : Rho} {M : Mem} {σ : L2.St} (R : Rep G as H ρ M σ) (i : Nat) (b : B) (e : ρ[i]? = some (some b)) : lowB M.length b = true := by
  obtain ⟨v, _, h⟩ := R.sl i b e
  exact rb_low R.cs h
section
variable {X : Cx} {W : XB → Hp → Prop}
theorem fz_imp {ee : Ev} {σ : L2.St} {H : Hp} {Q : VK} (h : cE W (eFz ee) σ H Q) : cE W ee σ H Q := by
  obtain ⟨G, as, ρ, M, R, h⟩ := h
  refine ⟨G, as, ρ, M, R, ?_⟩
  unfold eFz at h
  cases q : ee ρ M with
  | stuck => rw [q] at h; exact h
  | exc x => rw [q] at h; exact h
  | ok b M' =>
    rw [q] at h
    intro v as' H' R' r'
    simp only [Res.bind_ok] at h
    split at h
    · rename_i d ed
      split at h
      · rename_i hl
        refine h v (as'.take M.length) H' (R.cut R' (R.slow) hl) ?_
        exact fzN_ok R'.cs 4 b d v ed r'
      · exact h.elim
    · exact h.elim
theorem ev_fz {e : Expr} {ee : Ev} (h : EV X W e ee) : EV X W e (eFz ee) := pe_imp h fun σ H Q h => fz_imp h
/-! ### a list of one's own becomes data -/
def sbB (k : Nat) (d : D) : B → B
  | .own j => if j = k then .dat d else .own j
  | b => b
def sbC (k : Nat) (d : D) (o : Option Cell) : Option Cell := o.map (mapC (sbB k d))
def sFz (n i : Nat) (s : Es) : Es := fun ρ M => match ρ[i]? with
  | some (some (.own k)) => if n ≤ k then (match M[k]? with
    | some (some (.lst bs)) => (match dats bs with
      | some ds => s (ρ.map fun o => o.map (sbB k (.lst ds))) ((M.map (sbC k (.lst ds))).set k none)
      | none => .stuck)
    | _ => .stuck) else .stuck
  | _ => .stuck
theorem sFz_rep {G : Gh} {as : As} {H : Hp} {ρ : Rho} {M : Mem} {σ : L2.St} {k : Nat} {bs : List B} {ds : List D} (R : Rep G as H ρ M σ) (hg : ∀ p ∈ G.tmp, isD p.2 = true) (hk : G.ow.length ≤ k) (e : M[k]? = some (some (.lst bs))) (hd : dats bs = some ds) :
    Rep G (as.set k none) H (ρ.map fun o => o.map (sbB k (.lst ds))) ((M.map (sbC k (.lst ds))).set k none) σ := by
  obtain ⟨a, ha, xs, h2, h3⟩ := R.cs.cell k _ e
  have dd := dats_ok hd h3
  have hkl : k < as.length := (List.getElem?_eq_some_iff.mp ha).1
  have get : ∀ (j : Nat) (c : Addr), (as.set k none)[j]? = some (some c) → j ≠ k ∧ as[j]? = some (some c) := fun j c ej => by
    by_cases hj : j = k
    · subst hj
      rw [List.getElem?_set_self hkl] at ej; cases ej
    · rw [List.getElem?_set_ne (Ne.symm hj)] at ej
      exact ⟨hj, ej⟩
  have sub : ∀ c, some c ∈ as.set k none → some c ∈ as := fun c z => by
    obtain ⟨j, hj⟩ := List.mem_iff_getElem?.mp z
    exact List.mem_of_getElem? (get j c hj).2
  have nin : ¬ (G.S a ∨ some a ∈ as.set k none) := fun z => by
    rcases z with z | z
    · exact R.cs.dj a (List.mem_of_getElem? ha) z
    · obtain ⟨j, hj⟩ := List.mem_iff_getElem?.mp z
      obtain ⟨h4, h5⟩ := get j a hj
      exact h4 (R.cs.nd j k a h5 ha)
  have rb : ∀ {v : V} {b : B}, RB G.S as H v b → RB G.S (as.set k none) H v (sbB k (.lst ds) b) := fun {v b} r => by
    cases b with
    | dat d => exact den_weak (fun c z => z.imp id (sub c)) r
    | vw d => exact den_weak (fun c z => sub c z) r
    | ty m => exact r
    | own j =>
      obtain ⟨c, h4, rfl⟩ := r
      by_cases hj : j = k
      · subst hj
        rw [ha] at h4
        cases h4
        show RB _ _ _ _ (if j = j then .dat (.lst ds) else .own j)
        rw [if_pos rfl]
        exact Den.lst h2 nin (dens_weak (fun c z => z.imp id (sub c)) dd)
      · show RB _ _ _ _ (if j = k then .dat (.lst ds) else .own j)
        rw [if_neg hj]
        exact ⟨c, by rw [List.getElem?_set_ne (Ne.symm hj)]; exact h4, rfl⟩
  refine ⟨⟨by rw [List.length_set, List.length_set, List.length_map]; exact R.cs.len, fun j c ej => ?_, fun i j c e1 e2 => R.cs.nd i j c (get i c e1).2 (get j c e2).2, fun c z => R.cs.dj c (sub c z), fun c z => R.cs.al c (sub c z), R.cs.dS⟩, by rw [List.length_map]; exact R.len, fun i b ei => ?_, fun p hp => ?_, fun q hq => ⟨(R.kp q hq).1, fun z => (R.kp q hq).2 (sub _ z)⟩, R.fr, fun c z => R.nw c (sub c z), ?_⟩
  · by_cases hj : j = k
    · subst hj
      rw [List.getElem?_set_self (by rw [List.length_map, ← R.cs.len]; exact hkl)] at ej
      cases ej
    · rw [List.getElem?_set_ne (Ne.symm hj), List.getElem?_map] at ej
      cases q : M[j]? with
      | none => rw [q] at ej; cases ej
      | some o =>
        rw [q] at ej
        have ej' : sbC k (.lst ds) o = some c := Option.some.inj ej
        cases o with
        | none => cases ej'
        | some c0 =>
          obtain ⟨c1, h4, h5⟩ := R.cs.cell j c0 q
          refine ⟨c1, by rw [List.getElem?_set_ne (Ne.symm hj)]; exact h4, ?_⟩
          cases ej'
          exact HC.map (p := fun _ => true) (fun v b _ r => rb r) (fun a o e n => ⟨e, fun z => n (z.imp id (sub a))⟩) rfl (allC_true c0) h5
  · rw [List.getElem?_map] at ei
    cases q : ρ[i]? with
    | none => rw [q] at ei; cases ei
    | some o =>
      rw [q] at ei
      cases o with
      | none => cases ei
      | some b0 =>
        have ei' : sbB k (.lst ds) b0 = b := Option.some.inj (Option.some.inj ei)
        subst ei'
        obtain ⟨v, h4, h5⟩ := R.sl i b0 q
        exact ⟨v, h4, rb h5⟩
  · have h4 := rb (R.tp p hp)
    have h5 := hg p hp
    revert h4
    cases hb : p.2 with
    | own j => rw [hb] at h5; cases h5
    | _ => exact fun h4 => h4
  · rw [List.take_set_of_le hk]
    exact R.ot
theorem es_fz {n i : Nat} {s : Es} {st : Stmt} (h : ES X W n st s) : ES X W n st (sFz n i s) := ps_imp h fun D σ H h => by
  obtain ⟨G, as, ρ, M, hg, R, h⟩ := h
  unfold sFz at h
  split at h
  · split at h
    · rename_i hk
      split at h
      · rename_i bs e
        split at h
        · rename_i ds hd
          exact ⟨G, _, _, _, hg, sFz_rep R hg.2 (by rw [hg.1]; exact hk) e hd, h⟩
        · exact h.elim
      · exact h.elim
    · exact h.elim
  · exact h.elim
theorem ess_fz {n i : Nat} {s : Es} {st : List Stmt} (h : ESs X W n st s) : ESs X W n st (sFz n i s) := pss_imp h fun D σ H h => by
  obtain ⟨G, as, ρ, M, hg, R, h⟩ := h
  unfold sFz at h
  split at h
  · split at h
    · rename_i hk
      split at h
      · rename_i bs e
        split at h
        · rename_i ds hd
          exact ⟨G, _, _, _, hg, sFz_rep R hg.2 (by rw [hg.1]; exact hk) e hd, h⟩
        · exact h.elim
      · exact h.elim
    · exact h.elim
  · exact h.elim
/-- the cells from m on are let go ahead of a statement -/
def sGc (m : Rho → Mem → Nat) (n : Nat) (s : Es) : Es := fun ρ M => if n ≤ m ρ M then (match gc (m ρ M) ρ M with
  | some (ρ', M') => s ρ' M'
  | none => .stuck) else .stuck
theorem ess_gc {m : Rho → Mem → Nat} {n : Nat} {s : Es} {st : List Stmt} (h : ESs X W n st s) : ESs X W n st (sGc m n s) := pss_imp h fun D σ H h => by
  obtain ⟨G, as, ρ, M, hg, R, h⟩ := h
  unfold sGc at h
  split at h
  · rename_i hm
    split at h
    · rename_i ρ' M' e
      exact ⟨G, _, ρ', M', hg, R.gc (fun p hp => isD_low (hg.2 p hp)) (by rw [hg.1]; exact hm) e, h⟩
    · exact h.elim
  · exact h.elim
/-! ### a new object -/
def cv0 (M : Mem) (b : B) : Option B := match b with
  | .dat d => some (.dat d)
  | .vw d => some (.vw d)
  | .own k => (viewN 0 M 4 (.own k)).map .vw
  | .ty _ => none
def doMake (C : Addr) (ar : Nat) (f : Fn) (bs : List B) (M : Mem) : Res B := if bs.length + 1 = ar then (match optAll (bs.map (cv0 M)) with
  | none => .stuck
  | some cs => (match f (.own 0 :: cs) [some (.ins C [])] with
    | .stuck => .stuck
    | .exc x => .exc x
    | .ok b M' => (match b, M' with
      | .dat .non, [some (.ins C' fs)] => (match dats (fs.map (·.2)) with
        | some ds => .ok (.dat (.obj C' ((fs.map (·.1)).zip ds))) M
        | none => .stuck)
      | _, _ => .stuck))) else .stuck
theorem cv0_ok {S : Addr → Prop} {as : As} {H H' : Hp} {M : Mem} {p : Addr} (C : Cells S as H M) (hk : ∀ a o, H a = some o → H' a = some o) (hp : H p = none) : ∀ {bs cs : List B} {vs : List V}, optAll (bs.map (cv0 M)) = some cs → RBs S as H vs bs → RBs (fun a => S a ∨ some a ∈ as) [some p] H' vs cs
  | [], _, _, e, .nil => by cases e; exact .nil
  | b :: bs, cs, _, e, .cons r t => by
    have ne : ∀ a o, H a = some o → ¬ some a ∈ [some p] := fun a o h z => by
      have : a = p := by simpa using z
      rw [this, hp] at h; cases h
    have one : ∀ {v : V} {c : B}, cv0 M b = some c → RB S as H v b → RB (fun a => S a ∨ some a ∈ as) [some p] H' v c := fun {v c} e r => by
      cases b with
      | dat d =>
        cases e
        exact Den.mono (fun a o h n => ⟨hk a o h, fun z => z.elim n (ne a o h)⟩) r
      | vw d =>
        cases e
        exact Den.mono (fun a o h n => ⟨hk a o h, ne a o h⟩) r
      | ty m => cases e
      | own k =>
        have e : (viewN 0 M 4 (.own k)).map B.vw = some c := e
        cases q : viewN 0 M 4 (.own k) with
        | none => rw [q] at e; cases e
        | some d =>
          rw [q] at e
          cases e
          exact Den.mono (fun a o h n => ⟨hk a o h, ne a o h⟩) (view_ok C 4 _ d v q r)
    rw [List.map_cons] at e
    cases q : cv0 M b with
    | none => rw [q] at e; cases e
    | some b' =>
      rw [q] at e
      unfold optAll at e
      cases q2 : optAll (bs.map (cv0 M)) with
      | none => rw [q2] at e; cases e
      | some l =>
        rw [q2] at e
        cases e
        exact .cons (one q r) (cv0_ok C hk hp q2 t)
theorem make_ok {AX : AbsX} {C : Addr} {ar : Nat} {f : Fn} {G : Gh} {as : As} {H : Hp} {ρ : Rho} {M : Mem} {σ : L2.St} {bs : List B} {vs : List V} {Q : VK} (R : Rep G as H ρ M σ) (rs : RBs G.S as H vs bs) (h : PoE G ρ σ W Q (doMake C ar f bs M)) :
    ∀ x dx, H x = none → H dx = none → dx ≠ x → spF AX ar 1 f (.ref x :: (vs ++ [])) (upd (upd H dx (.own x)) x (.ins C dx [])) (fun v H2 => v = .non ∧ Q (.ref x) H2) (EX AX W) := by
  intro x dx hx hdx hne
  rw [List.append_nil]
  unfold doMake at h
  split at h
  · rename_i har
    split at h
    · exact h.elim
    · rename_i cs ec
      have hk : ∀ a o, H a = some o → (upd (upd H dx (.own x)) x (.ins C dx [])) a = some o := fun a o e => by
        rw [upd_ne (ne_of_none e hx), upd_ne (ne_of_none e hdx)]; exact e
      have old : ∀ a, (G.S a ∨ some a ∈ as) → ∃ o, H a = some o := fun a z => z.elim (R.cs.dS a) (R.cs.al a)
      have nx : ¬ (G.S x ∨ some x ∈ as) := R.fresh hx
      refine ⟨by rw [List.length_cons, rs.length]; exact har, fun a => G.S a ∨ some a ∈ as, [some x], .own 0 :: cs, [some (.ins C [])], rfl, ⟨rfl, fun k c e => ?_, fun i j a e1 e2 => ?_, fun a z => ?_, fun a z => ?_, fun a z => ?_⟩, .cons ⟨x, rfl, rfl⟩ (cv0_ok R.cs hk hx ec rs), ?_⟩
      · cases k with
        | zero =>
          have e' : Cell.ins C [] = c := Option.some.inj (Option.some.inj e)
          subst e'
          exact ⟨x, rfl, dx, [], upd_same, .nil⟩
        | succ k => simp at e
      · cases i with
        | zero => cases j with
          | zero => rfl
          | succ j => simp at e2
        | succ i => simp at e1
      · have e : a = x := by simpa using z
        rw [e]; exact nx
      · have e : a = x := by simpa using z
        rw [e]; exact ⟨_, upd_same⟩
      · obtain ⟨o, e⟩ := old a z
        exact ⟨o, hk a o e⟩
      · cases q : f (.own 0 :: cs) [some (.ins C [])] with
        | stuck => rw [q] at h; exact h
        | exc y =>
          rw [q] at h
          refine fun cls d H' a fr => ⟨y, h H' fun c o e nc => fr c o (hk c o (R.fr c o e nc)) fun z => ?_, a⟩
          have e2 : c = x := by simpa using z
          have e3 := R.fr c o e nc
          rw [e2, hx] at e3
          cases e3
        | ok b M' =>
          rw [q] at h
          simp only at h
          split at h
          · rename_i C' fs
            split at h
            · rename_i ds ed
              intro v as' H' C1 ht hnew hfr r
              cases r
              refine ⟨rfl, ?_⟩
              have hl : as' = [some x] := by
                have e := C1.len
                have e2 : as'.length = 1 := e
                rw [List.take_of_length_le (by rw [e2]; exact Nat.le_refl _)] at ht
                exact ht
              subst hl
              obtain ⟨a, h1, dx', xs, h3, h4⟩ := C1.cell 0 _ rfl
              have ea : x = a := Option.some.inj (Option.some.inj h1)
              subst ea
              have hd := dats_ok ed h4
              have keep : ∀ a o, H a = some o → H' a = some o := fun a o e => hfr a o (hk a o e) fun z => by
                have e2 : a = x := by simpa using z
                rw [e2, hx] at e; cases e
              have s : Stp G.S as H G.S as H' := .same (fun a o e n => ⟨keep a o e, n⟩) fun _ _ e => e
              have same : ∀ a, (G.S a ∨ some a ∈ as) → H' a = H a := fun a z => by
                obtain ⟨o, e⟩ := old a z
                rw [e]; exact keep a o e
              refine h (.ref x) as H' (R.step s (R.cs.mono s (fun a z => same a (.inr z)) fun a z => same a (.inl z)) (fun _ z => .inl z) R.ot) ?_
              exact Den.obj h3 nx (by rw [List.length_map, ← hd.length, h4.length, List.length_map]) (dens_weak (fun a z => .inl z) hd)
            · exact h.elim
          · exact h.elim
  · exact h.elim
theorem ev_make {AX : AbsX} {CX : CXT} {k ar : Nat} {fs : Fn} {f C : Addr} {fd : FuncData} {ps : List Str} {x : Str} {p pos : Pos} {e : Expr} {es : List Expr} {eas : Ea} (M : Mk X.K C f) (F : FnOk X.prog X.w X.K X.mg X.base CX k f fd ps (spF AX ar 1 fs)) (hr : Room (k + 1) X.A) (hg : Gl X x) (hm : X.mg x = some (.ref C)) (hb : Binds X.K fd ps []) (hx : Passes CX X (EX AX W)) (ha : EA X W (e :: es) eas)
    (hdb : (x == ("__debug__" : Str)) = false := by decide) (he : starEach (e :: es) X.env = (false, eval e X.env) :: starEach es X.env := by rfl) (hpl : (backTo pos (starEach es X.env)).any (·.1) = false := by rfl) :
    EV X W (.Call (.Name x p) (e :: es) [] pos) (eApp (doMake C ar fs) eas) :=
  pe_imp (pe_make M F hr hg hm hb .nil hx ha hdb he hpl) fun σ H Q h => cE_app (r := fun vs H1 Q => ∀ x dx, H1 x = none → H1 dx = none → dx ≠ x → spF AX ar 1 fs (.ref x :: (vs ++ [])) (upd (upd H1 dx (.own x)) x (.ins C dx [])) (fun v H2 => v = .non ∧ Q (.ref x) H2) (EX AX W)) (fun {G as H ρ M σ xs vs Q} R r h => make_ok R r h) h
/-! ### chains -/
def eCh (f g : B → B → Mem → Res B) (a b c : Ev) : Ev := fun ρ M => (a ρ M).bind fun x M1 => (b ρ M1).bind fun y M2 => (f x y M2).bind fun z M3 => match z with
  | .dat (.bl true) => (c ρ M3).bind fun w M4 => g y w M4
  | .dat (.bl false) => .ok (.dat (.bl false)) M3
  | _ => .stuck
theorem chain_imp {r r' : R2} {f g : B → B → Mem → Res B} {ea eb ec : Ev} (hf : V2 W r f) (hg : V2 W r' g) {σ : L2.St} {H : Hp} {Q : VK} (h : cE W (eCh f g ea eb ec) σ H Q) : tChain r r' (cE W ea) (cE W eb) (cE W ec) σ H Q := by
    obtain ⟨G, as, ρ, M, R, h⟩ := h
    refine ⟨G, as, ρ, M, R, ?_⟩
    unfold eCh at h
    cases q : ea ρ M with
    | stuck => rw [q] at h; exact h
    | exc x => rw [q] at h; exact h
    | ok x M1 =>
      rw [q] at h
      intro v as1 H1 R1 r1
      refine ⟨G.push v x, as1, ρ, M1, R1.push r1, ?_⟩
      simp only [Res.bind_ok] at h
      cases q2 : eb ρ M1 with
      | stuck => rw [q2] at h; exact h
      | exc x => rw [q2] at h; exact h
      | ok y M2 =>
        rw [q2] at h
        intro u as2 H2 R2 r2
        have t1 := R2.top
        have R3 := R2.pop.push r2
        simp only [Res.bind_ok] at h
        refine hf (G := G.push u y) R3 t1 r2 ?_
        cases q3 : f x y M2 with
        | stuck => rw [q3] at h; exact h
        | exc x => rw [q3] at h; exact h
        | ok z M3 =>
          rw [q3] at h
          intro w as3 H3 R4 r4
          simp only [Res.bind_ok] at h
          split at h
          · cases r4
            refine ⟨true, rfl, ?_⟩
            rw [if_pos rfl]
            refine ⟨G.push u y, as3, ρ, M3, R4, ?_⟩
            cases q4 : ec ρ M3 with
            | stuck => rw [q4] at h; exact h
            | exc x => rw [q4] at h; exact h
            | ok w' M4 =>
              rw [q4] at h
              intro w2 as4 H4 R5 r5
              exact hg R5.pop R5.top r5 h
          · cases r4
            refine ⟨false, rfl, ?_⟩
            rw [if_neg Bool.false_ne_true]
            exact h _ as3 H3 R4.pop (Den.bl false)
          · exact h.elim
theorem ev_chain {op op' : CmpOp} {r r' : R2} {f g : B → B → Mem → Res B} {a b c : Expr} {ea eb ec : Ev} {pos : Pos} (ho : OpR X (compareOp op) r) (hf : V2 W r f) (ho' : OpR X (compareOp op') r') (hg : V2 W r' g) (ha : EV X W a ea) (hb : EV X W b eb) (hc : EV X W c ec)
    (hm : lastMarks [op, op'] [b, c] = false := by with_unfolding_all rfl) : EV X W (.Compare a [op, op'] [b, c] pos) (eCh f g ea eb ec) :=
  pe_imp (pe_chain ho ho' ha hb hc hm) fun _ _ _ h => chain_imp hf hg h
theorem et_chain {op op' : CmpOp} {r r' : R2} {f g : B → B → Mem → Res B} {a b c : Expr} {ea eb ec : Ev} {pos : Pos} (ho : OpR X (compareOp op) r) (hf : V2 W r f) (ho' : OpR X (compareOp op') r') (hg : V2 W r' g) (ha : EV X W a ea) (hb : EV X W b eb) (hc : EV X W c ec)
    (hm : lastMarks [op, op'] [b, c] = false := by with_unfolding_all rfl) : ET X W (.Compare a [op, op'] [b, c] pos) (tV (eCh f g ea eb ec)) :=
  et_of (pt_chain ho ho' ha hb hc hm) fun _ _ _ h => chain_imp hf hg h
end
end Ab

/-! ### a < b < c < d -/
namespace L2
open PySem PySem.Spec PyProof.Rows
section
variable {X : Cx} {a b c d : Expr} {ta tb tc td : TE} {pos : Pos}
def tChain3 (r r' r'' : R2) (ta tb tc td : TE) : TE := fun σ H Q => ta σ H fun x H1 => tb σ H1 fun y H2 => r x y H2 fun z H3 => ∃ k, z = .bl k ∧
  (if k = true then tc σ H3 fun w' H4 => r' y w' H4 fun z' H5 => ∃ k', z' = .bl k' ∧ (if k' = true then td σ H5 fun w'' H6 => r'' w' w'' H6 Q else Q (.bl false) H5) else Q (.bl false) H3)
theorem pe_chain3 {op op' op'' : CmpOp} {r r' r'' : R2} (ho : OpR X (compareOp op) r) (ho' : OpR X (compareOp op') r') (ho'' : OpR X (compareOp op'') r'') (ha : PE X a ta) (hb : PE X b tb) (hc : PE X c tc) (hd : PE X d td)
    (hm : lastMarks [op, op', op''] [b, c, d] = false := by with_unfolding_all rfl) : PE X (.Compare a [op, op', op''] [b, c, d] pos) (tChain3 r r' r'' ta tb tc td) := by
  refine ⟨fun pins s σ H Q I h => ?_⟩
  refine Compare_chain (thn (ha.run pins s σ H _ I h) fun v s1 ⟨x, H1, I1, r1, q1⟩ => chain_link (thn (hb.run pins s1 σ H1 _ I1 q1) fun u s2 ⟨y, H2, I2, r2, q2⟩ =>
    thn (ho pins s2 σ H2 x y v u _ I2 r1 r2 q2) fun e s3 ⟨z, H3, I3, r3, k, ek, q3⟩ => ?_)) hm
  subst ek
  cases r3
  refine wpAny_truthy_bool ?_
  cases k with
  | false => exact ite_ff ⟨.bl false, H3, I3, rfl, q3⟩
  | true =>
    refine ite_tt (chain_link (thn (hc.run pins s3 σ H3 _ I3 q3) fun w' s4 ⟨z', H4, I4, r4, q4⟩ => thn (ho' pins s4 σ H4 y z' u w' _ I4 r2 r4 q4) fun e' s5 ⟨z2, H5, I5, r5, k', ek, q5⟩ => ?_))
    subst ek
    cases r5
    refine wpAny_truthy_bool ?_
    cases k' with
    | false => exact ite_ff ⟨.bl false, H5, I5, rfl, q5⟩
    | true => exact ite_tt (chain_last (thn (hd.run pins s5 σ H5 _ I5 q5) fun w'' s6 ⟨z3, H6, I6, r6, q6⟩ => ho'' pins s6 σ H6 z' z3 w' w'' Q I6 r4 r6 q6))
/-! ### set(a tuple of ints) -/
def rSetT (K : PySem.W.Frag) (w : World) : List V → Hp → VK → Prop := fun xs H Q => ∃ (a : Addr) (ns : List Int), xs = [.ref a] ∧ SqT K H a (ns.map V.int) ∧ ns.length < 60 ∧ ∀ p c, H p = none → c ≤ ns.length → Q (.ref p) (upd H p (SetO w p (fun j => decide (j ∈ ns)) c))
theorem cr_setT (hc : X.calm = true) : CallR X (.type "set") (rSetT X.K X.w) := by
  intro pins s σ H xs us Q I r h
  obtain ⟨a, ns, rfl, hT, hl, q⟩ := h
  rw [Vals.ref1 r]
  obtain ⟨its, rv, ht, hz⟩ := I.tuple hT
  have hi : IntsAre its.toArray.toList ns := by simpa using rv.ints
  refine call_set_tupI (P := X.prog) ns (I.ok.hd hc) (show s.heap.IsTuple a its.toArray from ht) hi (by unfold scanBound; omega) fun h' tk c hS hcl hk => ?_
  have hn : H s.heap.objs.size = none := I.hok.fresh (Nat.le_refl _)
  exact ⟨.ref s.heap.objs.size, _, I.laid (t' := tk) hk (Nat.le_refl _) (setO_new hS), rfl, q _ c hn hcl⟩
end
end L2
namespace Ab
open PySem PySem.Spec L2
section
variable {X : Cx} {W : XB → Hp → Prop}
def eCh3 (f g k : B → B → Mem → Res B) (a b c d : Ev) : Ev := fun ρ M => (a ρ M).bind fun x M1 => (b ρ M1).bind fun y M2 => (f x y M2).bind fun z M3 => match z with
  | .dat (.bl true) => (c ρ M3).bind fun w M4 => (g y w M4).bind fun z M5 => (match z with
    | .dat (.bl true) => (d ρ M5).bind fun v M6 => k w v M6
    | .dat (.bl false) => .ok (.dat (.bl false)) M5
    | _ => .stuck)
  | .dat (.bl false) => .ok (.dat (.bl false)) M3
  | _ => .stuck
theorem ev_chain3 {op op' op'' : CmpOp} {r r' r'' : R2} {f g k : B → B → Mem → Res B} {a b c d : Expr} {ea eb ec ed : Ev} {pos : Pos} (ho : OpR X (compareOp op) r) (hf : V2 W r f) (ho' : OpR X (compareOp op') r') (hg : V2 W r' g) (ho'' : OpR X (compareOp op'') r'') (hk : V2 W r'' k) (ha : EV X W a ea) (hb : EV X W b eb) (hc : EV X W c ec) (hd : EV X W d ed)
    (hm : lastMarks [op, op', op''] [b, c, d] = false := by with_unfolding_all rfl) : EV X W (.Compare a [op, op', op''] [b, c, d] pos) (eCh3 f g k ea eb ec ed) :=
  pe_imp (pe_chain3 ho ho' ho'' ha hb hc hd hm) fun σ H Q h => by
    obtain ⟨G, as, ρ, M, R, h⟩ := h
    refine ⟨G, as, ρ, M, R, ?_⟩
    unfold eCh3 at h
    cases q : ea ρ M with
    | stuck => rw [q] at h; exact h
    | exc x => rw [q] at h; exact h
    | ok x M1 =>
      rw [q] at h
      intro v as1 H1 R1 r1
      refine ⟨G.push v x, as1, ρ, M1, R1.push r1, ?_⟩
      simp only [Res.bind_ok] at h
      cases q2 : eb ρ M1 with
      | stuck => rw [q2] at h; exact h
      | exc x => rw [q2] at h; exact h
      | ok y M2 =>
        rw [q2] at h
        intro u as2 H2 R2 r2
        have t1 := R2.top
        have R3 := R2.pop.push r2
        simp only [Res.bind_ok] at h
        refine hf (G := G.push u y) R3 t1 r2 ?_
        cases q3 : f x y M2 with
        | stuck => rw [q3] at h; exact h
        | exc x => rw [q3] at h; exact h
        | ok z M3 =>
          rw [q3] at h
          intro w as3 H3 R4 r4
          simp only [Res.bind_ok] at h
          split at h
          · cases r4
            refine ⟨true, rfl, ?_⟩
            rw [if_pos rfl]
            refine ⟨G.push u y, as3, ρ, M3, R4, ?_⟩
            cases q4 : ec ρ M3 with
            | stuck => rw [q4] at h; exact h
            | exc x => rw [q4] at h; exact h
            | ok w' M4 =>
              rw [q4] at h
              intro w2 as4 H4 R5 r5
              have t2 := R5.top
              have R6 := R5.pop.push r5
              simp only [Res.bind_ok] at h
              refine hg (G := G.push w2 w') R6 t2 r5 ?_
              cases q5 : g y w' M4 with
              | stuck => rw [q5] at h; exact h
              | exc x => rw [q5] at h; exact h
              | ok z2 M5 =>
                rw [q5] at h
                intro w3 as5 H5 R7 r7
                simp only [Res.bind_ok] at h
                split at h
                · cases r7
                  refine ⟨true, rfl, ?_⟩
                  rw [if_pos rfl]
                  refine ⟨G.push w2 w', as5, ρ, M5, R7, ?_⟩
                  cases q6 : ed ρ M5 with
                  | stuck => rw [q6] at h; exact h
                  | exc x => rw [q6] at h; exact h
                  | ok w4 M6 =>
                    rw [q6] at h
                    intro w5 as6 H6 R8 r8
                    exact hk R8.pop R8.top r8 h
                · cases r7
                  refine ⟨false, rfl, ?_⟩
                  rw [if_neg Bool.false_ne_true]
                  exact h _ as5 H5 R7.pop (Den.bl false)
                · exact h.elim
          · cases r4
            refine ⟨false, rfl, ?_⟩
            rw [if_neg Bool.false_ne_true]
            exact h _ as3 H3 R4.pop (Den.bl false)
          · exact h.elim
/-! ### sorted(set(t)), t a tuple of ints -/
/-- an int put in its place, once -/
def ins1 (i : Int) : List Int → List Int
  | [] => [i]
  | j :: r => if i < j then i :: j :: r else if i = j then j :: r else j :: ins1 i r
def sset : List Int → List Int
  | [] => []
  | i :: r => ins1 i (sset r)
theorem mem_ins1 (i k : Int) : ∀ l, k ∈ ins1 i l ↔ k = i ∨ k ∈ l
  | [] => by simp [ins1]
  | j :: r => by
    unfold ins1
    split
    · simp
    · split
      · rename_i h; subst h; simp
      · simp only [List.mem_cons, mem_ins1 i k r]
        constructor
        · rintro (h | h | h) <;> simp [h]
        · rintro (h | h | h) <;> simp [h]
theorem ins1_lt (i : Int) : ∀ l, l.Pairwise (· < ·) → (ins1 i l).Pairwise (· < ·)
  | [], _ => by simp [ins1]
  | j :: r, h => by
    rw [List.pairwise_cons] at h
    unfold ins1
    split
    · rename_i hij
      rw [List.pairwise_cons]
      refine ⟨fun k hk => ?_, List.pairwise_cons.mpr h⟩
      rcases List.mem_cons.mp hk with rfl | hk
      · exact hij
      · exact Int.lt_trans hij (h.1 k hk)
    · split
      · exact List.pairwise_cons.mpr h
      · rw [List.pairwise_cons]
        refine ⟨fun k hk => ?_, ins1_lt i r h.2⟩
        rcases (mem_ins1 i k r).mp hk with rfl | hk
        · omega
        · exact h.1 k hk
theorem mem_sset (k : Int) : ∀ l, k ∈ sset l ↔ k ∈ l
  | [] => by simp [sset]
  | i :: r => by unfold sset; rw [mem_ins1, mem_sset k r, List.mem_cons]
theorem sset_lt : ∀ l, (sset l).Pairwise (· < ·)
  | [] => .nil
  | i :: r => ins1_lt i _ (sset_lt r)
theorem lt_unique : ∀ (l r : List Int), l.Pairwise (· < ·) → r.Pairwise (· < ·) → (∀ k, k ∈ l ↔ k ∈ r) → l = r
  | [], [], _, _, _ => rfl
  | [], j :: r, _, _, h => absurd ((h j).mpr List.mem_cons_self) (by simp)
  | i :: l, [], _, _, h => absurd ((h i).mp List.mem_cons_self) (by simp)
  | i :: l, j :: r, h1, h2, h => by
    rw [List.pairwise_cons] at h1 h2
    have e : i = j := by
      rcases List.mem_cons.mp ((h i).mp List.mem_cons_self) with e | e
      · exact e
      · rcases List.mem_cons.mp ((h j).mpr List.mem_cons_self) with e' | e'
        · exact e'.symm
        · have a := h1.1 j e'
          have b := h2.1 i e
          omega
    subst e
    have q : ∀ k, k ∈ l ↔ k ∈ r := fun k => by
      constructor
      · intro hk
        rcases List.mem_cons.mp ((h k).mp (List.mem_cons_of_mem _ hk)) with e | e
        · have := h1.1 k hk; omega
        · exact e
      · intro hk
        rcases List.mem_cons.mp ((h k).mpr (List.mem_cons_of_mem _ hk)) with e | e
        · have := h2.1 k hk; omega
        · exact e
    rw [lt_unique l r h1.2 h2.2 q]
theorem sset_self {l : List Int} (h : l.Pairwise (· < ·)) : sset l = l := lt_unique _ _ (sset_lt l) h fun k => mem_sset k l
def vSset (xs : List B) (M : Mem) : Res B := match xs with
  | [.dat (.tup ds)] => (match asInts ds with
    | some ns => if ns.length < 60 then .ok (.dat (.lst ((sset ns).map .int))) M else .stuck
    | none => .stuck)
  | [.vw (.tup ds)] => (match asInts ds with
    | some ns => if ns.length < 60 then .ok (.dat (.lst ((sset ns).map .int))) M else .stuck
    | none => .stuck)
  | _ => .stuck
theorem ev_sset {e : Expr} {ee : Ea} {p p2 pos pos2 : Pos} (hc : X.calm = true) (g1 : Gl X "sorted") (m1 : X.mg "sorted" = none) (g2 : Gl X "set") (m2 : X.mg "set" = none) (he : EA X W [e] ee)
    (he1 : starEach [e] X.env = (false, eval e X.env) :: starEach [] X.env := by rfl) (hpl1 : (backTo pos2 (starEach [] X.env)).any (·.1) = false := by rfl)
    (he2 : starEach [.Call (.Name "set" p2) [e] [] pos2] X.env = (false, eval (.Call (.Name "set" p2) [e] [] pos2) X.env) :: starEach [] X.env := by rfl) (hpl2 : (backTo pos (starEach [] X.env)).any (·.1) = false := by rfl) :
    EV X W (.Call (.Name "sorted" p) [.Call (.Name "set" p2) [e] [] pos2] [] pos) (eApp vSset ee) :=
  pe_imp (pe_callB (cr_sortedSet hc) g1 m1 (by decide +kernel) (pa_cons (pe_callTy (cr_setT hc) g2 m2 (by decide +kernel) he (by decide) (by decide) he1 hpl1) pa_nil he2) (by decide) (by decide) he2 hpl2) fun σ H Q h => by
    obtain ⟨G, as, ρ, M, R, h⟩ := h
    refine ⟨G, as, ρ, M, R, ?_⟩
    unfold eApp at h
    cases q : ee ρ M with
    | stuck => rw [q] at h; exact h
    | exc x => rw [q] at h; exact h
    | ok xs M1 =>
      rw [q] at h
      intro vs as1 H1 R1 r1
      have fin : ∀ (a : Addr) (ns : List Int), SqT X.K H1 a (ns.map V.int) → vs = [V.ref a] → PoE G ρ σ W Q (if ns.length < 60 then .ok (.dat (.lst ((sset ns).map .int))) M1 else .stuck) → rSetT X.K X.w vs H1 fun v H' => tNil σ H' fun xs H'' => rSortedSet X.w (v :: xs) H'' Q := fun a ns hT ev h => by
        split at h
        · rename_i hl
          refine ⟨a, ns, ev, hT, hl, fun p c hp hcl => ?_⟩
          have R2 := R1.laid (o := SetO X.w p (fun j => decide (j ∈ ns)) c) hp
          refine ⟨p, _, c, rfl, upd_same, by omega, fun ms p' h1 h2 h3 hp' => ?_⟩
          have e : ms = sset ns := lt_unique _ _ h1 (sset_lt ns) fun k => by rw [h2, mem_sset]; simp
          subst e
          exact h _ as1 _ (R2.laid hp') (Den.lst upd_same (R2.fresh hp') (Dens.of_ints _))
        · exact h.elim
      simp only [Res.bind_ok] at h
      unfold vSset at h
      split at h
      · split at h
        · rename_i ds ns e
          cases r1 with
          | cons r t =>
            cases t
            cases r with
            | tup h1 n1 d1 =>
              have ex := asInts_ok e d1
              subst ex
              exact fin _ ns (SqT.of h1) rfl h
        · exact h.elim
      · split at h
        · rename_i ds ns e
          cases r1 with
          | cons r t =>
            cases t
            cases r with
            | tup h1 n1 d1 =>
              have ex := asInts_ok e d1
              subst ex
              exact fin _ ns (SqT.of h1) rfl h
        · exact h.elim
      · exact h.elim
/-! ### tuple(range(..)), list(range(..)) -/
def rgD (a b : Int) : List D := (List.range (b - a).toNat).map fun (i : Nat) => D.int (a + (i : Int))
theorem dens_rg {H : Hp} {T : Addr → Prop} (a b : Int) : Dens H T (rgV a b) (rgD a b) := by
  unfold rgV rgD
  generalize List.range (b - a).toNat = l
  induction l with
  | nil => exact .nil
  | cons i l ih => exact .cons (Den.int _) ih
def okRg (a b : Int) : Bool := bnd a && bnd b && decide ((b - a).toNat ≤ 2 ^ 24)
theorem okRg_ok {a b : Int} (h : okRg a b = true) : RgOk a b := by
  unfold okRg at h
  simp only [bnd_eq, Bool.and_eq_true, decide_eq_true_eq] at h
  exact ⟨h.1.1.1, h.1.1.2, h.1.2.1, h.1.2.2, h.2⟩
def eRgT (e : Ev) : Ev := fun ρ M => (e ρ M).bind fun x M1 => match x with
  | .dat (.int n) => if okRg 0 n = true then .ok (.dat (.tup (rgD 0 n))) M1 else .stuck
  | _ => .stuck
theorem ev_rgT {e : Expr} {ee : Ev} {p p2 pos pos2 : Pos} (hc : X.calm = true) (g1 : Gl X "tuple") (m1 : X.mg "tuple" = none) (g2 : Gl X "range") (m2 : X.mg "range" = none) (he : EV X W e ee) (na : starEach [e] X.env = (false, eval e X.env) :: starEach [] X.env := by rfl)
    (na2 : starEach [.Call (.Name "range" p2) [e] [] pos2] X.env = (false, eval (.Call (.Name "range" p2) [e] [] pos2) X.env) :: starEach [] X.env := by rfl) : EV X W (.Call (.Name "tuple" p) [.Call (.Name "range" p2) [e] [] pos2] [] pos) (eRgT ee) :=
  pe_imp (pe_tupRg hc g1 m1 (prg_1 g2 m2 he na) na2) fun σ H Q h => by
    obtain ⟨G, as, ρ, M, R, h⟩ := h
    refine ⟨G, as, ρ, M, R, ?_⟩
    unfold eRgT at h
    cases q : ee ρ M with
    | stuck => rw [q] at h; exact h
    | exc x => rw [q] at h; exact h
    | ok x M1 =>
      rw [q] at h
      intro v as1 H1 R1 r1
      simp only [Res.bind_ok] at h
      split at h
      · split at h
        · rename_i n hr
          cases r1
          exact ⟨n, rfl, okRg_ok hr, fun p hp => h _ as1 _ (R1.laid hp) (Den.tup upd_same (R1.fresh hp) (dens_rg 0 n))⟩
        · exact h.elim
      · exact h.elim
/-! ### name = [..] -/
theorem es_setLc {n i : Nat} {y : Str} {py : Pos} {elt tg iter : Expr} {ifs : List Expr} {scope : Scope} {own : List (Str × Nat)} {pos spos : Pos} {ee : Ev} {wi : TI} {g : TG} {tt : TT} {te : TE} (hc : X.calm = true) (hN : X.N.Nodup) (hy : X.N[i]? = some y) (hyl : X.env.scope.names.lookup y = some .local)
    (hsw : swapsWith (.ListComp elt [⟨tg, iter, ifs, 0⟩] scope pos) (some (.Name y py)) spos.line X.env = pure true) (hi : PI X tg iter wi) (ok : BlkOk X.N X.env.scope scope own)
    (hg : ∀ (s : Shared) (H : Hp) (C : Addr) (cl : List (Str × Addr)) (fp : List Addr), PG (X.blk s H scope (compEnvC scope cl C X.env) fp) tg g) (ht : ∀ (s : Shared) (H : Hp) (C : Addr) (cl : List (Str × Addr)) (fp : List Addr), PTs (X.blk s H scope (compEnvC scope cl C X.env) fp) ifs tt)
    (he : ∀ (s : Shared) (H : Hp) (C : Addr) (cl : List (Str × Addr)) (fp : List Addr), PE (X.blk s H scope (compEnvC scope cl C X.env) fp) elt te) (imp : ∀ σ H Q, cE W ee σ H Q → tLc wi g tt te (own.map (·.2)) σ H Q) (hs : ∀ x, foldedSetIterable iter X.env x = pure x := by intro _; rfl) :
    ES X W n (.Assign [.Name y py] (.ListComp elt [⟨tg, iter, ifs, 0⟩] scope pos) spos) (sSet i ee) :=
  ps_imp (ps_setLc hc hN hy hyl hsw hi ok hg ht he hs) fun D σ H h => by
    obtain ⟨G, as, ρ, M, hg, R, h⟩ := h
    refine imp σ H _ ⟨G, as, ρ, M, R, ?_⟩
    unfold sSet at h
    cases q : ee ρ M with
    | stuck => rw [q] at h; exact h
    | exc x => rw [q] at h; exact h
    | ok x M1 =>
      rw [q] at h
      intro v as1 H1 R1 r1
      exact h _ as1 H1 (R1.setSlot r1)
end
end Ab

/-! dicts whose keys are tuples, over the layer -/
namespace Ab
open PySem PySem.Spec L2
open PyProof.Rows hiding St
/-! ### keys -/
mutual
def ofD : D → Option NestedKey
  | .non => some .none
  | .int i => some (.num i)
  | .str x => some (.text x)
  | .tup ds => (ofDs ds).map .tup
  | _ => none
def ofDs : List D → Option (List NestedKey)
  | [] => some []
  | d :: ds => match ofD d, ofDs ds with
    | some k, some ks => some (k :: ks)
    | _, _ => none
end
mutual
theorem toD_ofD : ∀ (d : D) (k : NestedKey), ofD d = some k → toD k = d
  | .non, k, h => by unfold ofD at h; cases h; simp [toD]
  | .int i, k, h => by unfold ofD at h; cases h; simp [toD]
  | .str x, k, h => by unfold ofD at h; cases h; simp [toD]
  | .tup ds, k, h => by
    unfold ofD at h
    cases q : ofDs ds with
    | none => rw [q] at h; cases h
    | some ks =>
      rw [q] at h
      cases h
      unfold toD
      rw [toDs_ofDs ds ks q]
  | .bl _, k, h => by unfold ofD at h; cases h
  | .lst _, k, h => by unfold ofD at h; cases h
  | .scr _ _, k, h => by unfold ofD at h; cases h
  | .obj _ _, k, h => by unfold ofD at h; cases h
  | .xc _ _ _, k, h => by unfold ofD at h; cases h
  | .any, k, h => by unfold ofD at h; cases h
  | .ref _, k, h => by unfold ofD at h; cases h
  | .kd _, k, h => by unfold ofD at h; cases h
  | .nd _ _, k, h => by unfold ofD at h; cases h
theorem toDs_ofDs : ∀ (ds : List D) (ks : List NestedKey), ofDs ds = some ks → toD.toDs ks = ds
  | [], ks, h => by unfold ofDs at h; cases h; simp [toD.toDs]
  | d :: ds, ks, h => by
    unfold ofDs at h
    cases q : ofD d with
    | none => rw [q] at h; cases h
    | some k =>
      cases q2 : ofDs ds with
      | none => rw [q, q2] at h; cases h
      | some ks' =>
        rw [q, q2] at h
        cases h
        unfold toD.toDs
        rw [toD_ofD d k q, toDs_ofDs ds ks' q2]
end
section
variable {X : Cx} {pins : List (Addr × Obj)} {σ : L2.St} {H : Hp} {s : Shared} {T : Addr → Prop}
mutual
theorem den_key (I : Inv X pins σ H s) : ∀ (k : NestedKey) (v : V) (u : Value), Den H T v (toD k) → RelV v u → NestedIs s.heap k u
  | .none, v, u, h, r => by
    unfold toD at h
    cases h
    cases r
    exact .none
  | .num i, v, u, h, r => by
    unfold toD at h
    cases h
    obtain ⟨t, rfl⟩ := r
    exact .int i t
  | .text x, v, u, h, r => by
    unfold toD at h
    cases h
    obtain ⟨t, rfl⟩ := r
    exact .text x t
  | .tup ks, v, u, h, r => by
    unfold toD at h
    cases h with
    | tup h1 n d =>
      cases r
      obtain ⟨its, rv, ⟨o, ho, hc, m, hd⟩, _⟩ := I.tuple (SqT.of h1)
      exact .tup ho hc hd (den_keys I ks _ _ d rv)
theorem den_keys (I : Inv X pins σ H s) : ∀ (ks : List NestedKey) (vs : List V) (us : List Value), Dens H T vs (toD.toDs ks) → Vals vs us → NestedAll s.heap ks us
  | [], vs, us, h, r => by
    unfold toD.toDs at h
    cases h
    cases r
    exact .nil
  | k :: ks, vs, us, h, r => by
    unfold toD.toDs at h
    cases h with
    | cons h1 h2 =>
      cases r with
      | cons r1 r2 => exact .cons (den_key I k _ _ h1 r1) (den_keys I ks _ _ h2 r2)
end
end
/-- v is a tuple that stands for the key k -/
def KeyIs (H : Hp) (v : V) (k : NestedKey) : Prop := ∃ (T : Addr → Prop) (a : Addr), v = .ref a ∧ Den H T v (toD k) ∧ k.depth ≤ 8
def KeysOk (H : Hp) (ks : List (NestedKey × Addr × V)) : Prop := (∀ p ∈ ks, KeyIs H (.ref p.2.1) p.1) ∧ (ks.map (·.1)).Nodup
def lookK {α : Type} (ks : List (NestedKey × α)) (k : NestedKey) : Option α := (ks.find? fun x => decide (x.1 = k)).map (·.2)
def stoK (ks : List (NestedKey × Addr × V)) (k : NestedKey) (a : Addr) (v : V) : List (NestedKey × Addr × V) :=
  if (lookK ks k).isSome = true then ks.map (fun x => if x.1 = k then (x.1, x.2.1, v) else x) else ks ++ [(k, a, v)]
abbrev Rk : NestedKey × Addr × V → NestedKey × Addr × Value → Prop := fun p q => p.1 = q.1 ∧ p.2.1 = q.2.1 ∧ RelV p.2.2 q.2.2
theorem look_rel : ∀ {ks : List (NestedKey × Addr × V)} {xs : List (NestedKey × Addr × Value)} (k : NestedKey), Paired Rk ks xs → (lookK ks k).isSome = (atKey xs k).isSome ∧ ∀ a v, lookK ks k = some (a, v) → ∃ u, atKey xs k = some (a, u) ∧ RelV v u
  | _, _, k, .nil => ⟨rfl, fun a v h => by cases h⟩
  | p :: ks, q :: xs, k, .cons r t => by
    obtain ⟨h1, h2⟩ := look_rel k t
    obtain ⟨k1, a1, v1⟩ := p
    obtain ⟨k2, a2, u2⟩ := q
    obtain ⟨e1, e2, e3⟩ := r
    simp only at e1 e2 e3
    subst e1 e2
    unfold lookK atKey at *
    rw [List.find?_cons, List.find?_cons]
    by_cases hk : k1 = k
    · simp only [hk, decide_true, Option.map_some]
      exact ⟨rfl, fun a v h => by cases h; exact ⟨u2, rfl, e3⟩⟩
    · simp only [hk, decide_false]
      exact ⟨h1, h2⟩
theorem put_rel {k : NestedKey} {v : V} {u : Value} (rv : RelV v u) : ∀ {ks : List (NestedKey × Addr × V)} {xs : List (NestedKey × Addr × Value)}, Paired Rk ks xs → Paired Rk (ks.map (fun x => if x.1 = k then (x.1, x.2.1, v) else x)) (xs.map (putAt k u))
  | _, _, .nil => .nil
  | p :: ks, q :: xs, .cons h t => by
    refine .cons ?_ (put_rel rv t)
    obtain ⟨e1, e2, e3⟩ := h
    unfold putAt
    show Rk (if p.1 = k then (p.1, p.2.1, v) else p) (if q.1 = k then (q.1, q.2.1, u) else q)
    by_cases hk : p.1 = k
    · rw [if_pos hk, if_pos (by rw [← e1]; exact hk)]
      exact ⟨e1, e2, rv⟩
    · rw [if_neg hk, if_neg (by rw [← e1]; exact hk)]
      exact ⟨e1, e2, e3⟩
theorem app_rel {k : NestedKey} {a : Addr} {v : V} {u : Value} (rv : RelV v u) : ∀ {ks : List (NestedKey × Addr × V)} {xs : List (NestedKey × Addr × Value)}, Paired Rk ks xs → Paired Rk (ks ++ [(k, a, v)]) (xs ++ [(k, a, u)])
  | _, _, .nil => .cons ⟨rfl, rfl, rv⟩ .nil
  | _, _, .cons h t => .cons h (app_rel rv t)
theorem sto_rel {ks : List (NestedKey × Addr × V)} {xs : List (NestedKey × Addr × Value)} {k : NestedKey} {a : Addr} {v : V} {u : Value} (r : Paired Rk ks xs) (rv : RelV v u) : Paired Rk (stoK ks k a v) (storedH xs k a u) := by
  unfold stoK storedH
  rw [(look_rel k r).1]
  split
  · exact put_rel rv r
  · exact app_rel rv r
section
variable {X : Cx} {pins : List (Addr × Obj)} {σ : L2.St} {H : Hp} {s : Shared} {a : Addr} {ks : List (NestedKey × Addr × V)}
theorem paired_fst : ∀ {ks : List (NestedKey × Addr × V)} {xs : List (NestedKey × Addr × Value)}, Paired Rk ks xs → xs.map (·.1) = ks.map (·.1)
  | _, _, .nil => rfl
  | _, _, .cons h t => by rw [List.map_cons, List.map_cons, paired_fst t, h.1]
theorem paired_mem : ∀ {ks : List (NestedKey × Addr × V)} {xs : List (NestedKey × Addr × Value)}, Paired Rk ks xs → ∀ q ∈ xs, ∃ p ∈ ks, Rk p q
  | _, _, .nil, q, h => by cases h
  | _, _, .cons r t, q, h => by
    rcases List.mem_cons.mp h with rfl | h
    · exact ⟨_, List.mem_cons_self, r⟩
    · obtain ⟨p, h1, h2⟩ := paired_mem t q h
      exact ⟨p, List.mem_cons_of_mem _ h1, h2⟩
theorem key_is (I : Inv X pins σ H s) {v : V} {u : Value} {k : NestedKey} (h : KeyIs H v k) (r : RelV v u) : ∃ b, u = .ref b ∧ v = .ref b ∧ (nestedKind X.prog X.w).is s.heap k b := by
  obtain ⟨T, b, rfl, d, hd⟩ := h
  cases r
  exact ⟨b, rfl, rfl, den_key I k _ _ d rfl, hd⟩
/-- the dict as the library has it -/
theorem nd_getR (I : Inv X pins σ H s) (h : Rd H a (NdO X.w a ks)) (ok : KeysOk H ks) : (a == sysModules) = false ∧ ∃ xs, Paired Rk ks xs ∧ s.heap.DictOfH (nestedKind X.prog X.w) a xs := by
  have hx : ObjOk X.prog X.w H s.heap a (NdO X.w a ks) := by
    rcases h with h | ⟨o, h⟩
    · exact I.hok a _ h
    · exact (show ObjOk X.prog X.w H s.heap a (.frz o (NdO X.w a ks)) from I.hok a _ h).2
  obtain ⟨⟨hs, xs, r, o, es, ep, h1, h2, h3, h4⟩, _⟩ := hx
  refine ⟨hs, xs, r, o, es, ep, h1, h2, h3, ?_, fun q hq => ?_, by rw [paired_fst r]; exact ok.2⟩
  · rw [h4]; rfl
  · obtain ⟨p, hp, e1, e2, e3⟩ := paired_mem r q hq
    obtain ⟨b, e4, e5, e6⟩ := key_is I (ok.1 p hp) rfl
    cases e4
    rw [← e1, ← e2]
    exact e6
theorem nd_get (I : Inv X pins σ H s) (h : H a = some (NdO X.w a ks)) (ok : KeysOk H ks) : (a == sysModules) = false ∧ ∃ xs, Paired Rk ks xs ∧ s.heap.DictOfH (nestedKind X.prog X.w) a xs := nd_getR I (.inl h) ok
theorem nd_ok {P : Program} {w : World} {H : Hp} {h : Heap} {xs : List (NestedKey × Addr × Value)} (hs : (a == sysModules) = false) (r : Paired Rk ks xs) (d : h.DictOfH (nestedKind P w) a xs) : ObjOk P w H h a (NdO w a ks) := by
  obtain ⟨o, es, ep, h1, h2, h3, h4, _, _⟩ := d
  exact ⟨⟨hs, xs, r, o, es, ep, h1, h2, h3, h4⟩, ⟨o, h1⟩, fun g g' ⟨hs, xs, r, o, es, ep, h1, h2⟩ k => ⟨hs, xs, r, o, es, ep, k o h1, h2⟩⟩
end
/-! ### operations by values -/
def rInN (w : World) (neg : Bool) : R2 := fun x y H Q => ∃ (a : Addr) (ks : List (NestedKey × Addr × V)) (k : NestedKey), y = .ref a ∧ Rd H a (NdO w a ks) ∧ KeysOk H ks ∧ KeyIs H x k ∧ Q (.bl (if neg then !(lookK ks k).isSome else (lookK ks k).isSome)) H
def rIxN (w : World) : R2 := fun x y H Q => ∃ (a : Addr) (ks : List (NestedKey × Addr × V)) (k : NestedKey) (b : Addr) (v : V), x = .ref a ∧ H a = some (NdO w a ks) ∧ KeysOk H ks ∧ KeyIs H y k ∧ lookK ks k = some (b, v) ∧ Q v H
def rSetN (w : World) : V → V → V → Hp → (Hp → Prop) → Prop := fun o i v H Q => ∃ (a : Addr) (ks : List (NestedKey × Addr × V)) (k : NestedKey) (b : Addr), o = .ref a ∧ i = .ref b ∧ H a = some (NdO w a ks) ∧ KeysOk H ks ∧ KeyIs H i k ∧ ks.length < SZ ∧ Q (upd H a (NdO w a (stoK ks k b v)))
section
variable {X : Cx}
theorem op_inN (hu : X.A.units + 64 < cLine) : OpR X (compareOp .In) (rInN X.w false) := by
  intro pins s σ H x y v u Q I rx ry h
  obtain ⟨a, ks, k, rfl, ha, ok, hk, q⟩ := h
  obtain ⟨b, rfl, rfl, kb⟩ := key_is I hk rx
  cases ry
  obtain ⟨hs, xs, r, d⟩ := nd_getR I ha ok
  refine wpAny_in_heap (knd := nestedKind X.prog X.w) (by show X.A.in1.units + 8 < cLine; show X.A.units + 1 + 8 < cLine; omega) kb hs d ?_
  rw [← (look_rel k r).1]
  exact ⟨.bl _, H, I.tok _, rfl, q⟩
theorem op_notInN (hu : X.A.units + 64 < cLine) : OpR X (compareOp .NotIn) (rInN X.w true) := by
  intro pins s σ H x y v u Q I rx ry h
  obtain ⟨a, ks, k, rfl, ha, ok, hk, q⟩ := h
  obtain ⟨b, rfl, rfl, kb⟩ := key_is I hk rx
  cases ry
  obtain ⟨hs, xs, r, d⟩ := nd_getR I ha ok
  refine notIn_keyed (knd := nestedKind X.prog X.w) (kvs := pairsH xs) (by show X.A.in1.units + 8 < cLine; show X.A.units + 1 + 8 < cLine; omega) kb hs ⟨xs, d, rfl⟩ ?_
  rw [valueAt_pairsH, Option.isSome_map, ← (look_rel k r).1]
  exact ⟨.bl _, H, I.tok _, rfl, q⟩
theorem ix_N (hu : X.A.units + 64 < cLine) : IxR X (rIxN X.w) := by
  intro value slice pins s σ H x y v u Q I rx ry h hs'
  obtain ⟨a, ks, k, b', z, rfl, ha, ok, hk, hl, q⟩ := h
  obtain ⟨b, rfl, rfl, kb⟩ := key_is I hk ry
  cases rx
  obtain ⟨hs, xs, r, d⟩ := nd_get I ha ok
  obtain ⟨w', e1, e2⟩ := (look_rel k r).2 _ _ hl
  have fin : EP X pins σ Q w' { s with toks := s.toks + (nestedKind X.prog X.w).draws k } := ⟨z, H, I.tok _, e2, q⟩
  exact subscriptTail_builtinR (x := w') d.typeIs PySem.F.slot_dict_getitem.lookup
    (wpAny_getItem_heap (knd := nestedKind X.prog X.w) (Q := fun r s' => r = w' ∧ EP X pins σ Q r s') (by show X.A.in1.units + 8 < cLine; show X.A.units + 1 + 8 < cLine; omega) kb d e1 ⟨rfl, fin⟩) hs'
theorem set_N (hu : X.A.units + 64 < cLine) : PSet X (rSetN X.w) := by
  intro pins s σ H o i v ov iv u Q I ro ri rv h
  obtain ⟨a, ks, k, b0, rfl, rfl, ha, ok, hk, hz, q⟩ := h
  obtain ⟨b, rfl, e0, kb⟩ := key_is I hk ri
  cases e0
  cases ro
  obtain ⟨hs, xs, r, d⟩ := nd_get I ha ok
  have hlen : xs.length = ks.length := (Paired.length r).symm
  refine wpAny_setItem_heap (knd := nestedKind X.prog X.w) (by show X.A.in1.units + 8 < cLine; show X.A.units + 1 + 8 < cLine; omega) kb d (fun h' d' sb => ?_) (by rw [hlen, SZ_eq]; omega)
  have he : ∃ o, h'.get? a = some o := by
    obtain ⟨o, _, _, h1, _⟩ := d'
    exact ⟨o, h1⟩
  exact ⟨_, I.write (e := a) (t' := s.toks + (nestedKind X.prog X.w).draws k) (by rw [ha]; trivial) (.inl rfl) (fun c o hc e => (sb.2 c hc).trans e) he (nd_ok hs (sto_rel r rv) d'), q⟩
/-- {} with tuples for keys to come -/
theorem pe_dnewN {pos : Pos} : PE X (.Dict [] [] pos) (fun _ H Q => ∀ p, H p = none → Q (.ref p) (upd H p (NdO X.w p []))) := ⟨fun pins s σ H Q I h =>
  wpAny_Dict_empty ⟨.ref s.heap.objs.size, _, I.laid (a := s.heap.objs.size) (o := NdO X.w s.heap.objs.size []) (t' := s.toks) (fun _ _ q => Heap.get?_push_of_some _ q) (Nat.le_refl _) (nd_ok (xs := []) (by have := dk_empty (P := X.prog) (w := X.w) (H := H) s.heap I.big; exact this.2.1) .nil (Heap.DictOfH.new s.heap)), rfl, h _ (I.hok.fresh (Nat.le_refl _))⟩⟩
def tDisp1 (w : World) (tk tv : TE) : TE := fun σ H Q => ∀ p, H p = none → tk σ (upd H p (NdO w p [])) fun x H1 => tv σ H1 fun y H2 => ∃ (k : NestedKey) (b : Addr), H2 p = some (NdO w p []) ∧ x = .ref b ∧ KeyIs H2 x k ∧ Q (.ref p) (upd H2 p (NdO w p [(k, b, y)]))
theorem pe_disp1 {k v : Expr} {tk tv : TE} {pos : Pos} (hu : X.A.units + 64 < cLine) (hk : PE X k tk) (hv : PE X v tv)
    (hshape : (evalEachOpt [some k] X.env).zip ((evalEach [v] X.env).map fun v => do let x ← v; standAt pos; pure x) = [((eval k X.env), (do let x ← eval v X.env; standAt pos; pure x))].map fun p => (some p.1, p.2) := by rfl) : PE X (.Dict [some k] [v] pos) (tDisp1 X.w tk tv) := by
  refine ⟨fun pins s σ H Q I h => ?_⟩
  have hn := I.hok.fresh (Nat.le_refl s.heap.objs.size)
  have hsm : (s.heap.objs.size == sysModules) = false := (dk_empty (P := X.prog) (w := X.w) (H := H) s.heap I.big).2.1
  have I1 := I.laid (a := s.heap.objs.size) (o := NdO X.w s.heap.objs.size []) (h' := s.heap.push { cls := .type "dict", data := .dict #[] }) (t' := s.toks) (fun _ _ q => Heap.get?_push_of_some _ q) (Nat.le_refl _) (nd_ok (xs := []) hsm .nil (Heap.DictOfH.new s.heap))
  rw [arm_eval_Dict, hshape, dictDisplay_pairs [((eval k X.env), (do let x ← eval v X.env; standAt pos; pure x))] (by simp) (by simp)]
  refine wpAny_bind (wpAny_standAt (wpAny_bind (wpAny_subDictH (knd := nestedKind X.prog X.w) (Q := fun d s' => wpAny (model X.prog X.w) X.A (pure (Value.ref d)) (EP X pins σ Q) X.xe s') (by show X.A.units + 8 < cLine; omega) (by simp) ?_)))
  show wpAny _ _ (eval k X.env >>= fun kv => holding [kv] (do let x ← eval v X.env; standAt pos; pure x) >>= fun vv => _) _ _ _
  refine wpAny_bind (thn (hk.run pins _ σ _ _ I1 (h _ hn)) fun u1 s1 ⟨x, H1, J1, r1, q1⟩ => ?_)
  refine wpAny_bind (wpAny_holding (wpAny_bind (thn (hv.run pins s1 σ H1 _ J1 q1) fun u2 s2 ⟨y, H2, J2, r2, q2⟩ => wpAny_bind (wpAny_standAt (wpAny_pure ?_)))))
  obtain ⟨kk, b0, ha, rfl, hk', q⟩ := q2
  refine wpAny_bind (wpAny_holding (wpAny_pure (wpAny_pure ?_)))
  obtain ⟨b, e1, e2, kb⟩ := key_is J2 hk' (show RelV (.ref b0) u1 from r1)
  cases e2
  subst e1
  obtain ⟨hs, xs, r, d⟩ := nd_get J2 ha ⟨fun p hp => (by cases hp), .nil⟩
  cases r
  refine ⟨[(kk, b0, u2)], ⟨rfl, rfl, kb, trivial⟩, d, fun h' tk d' sb => ?_⟩
  have he : ∃ o, h'.get? s.heap.objs.size = some o := by
    obtain ⟨o, _, _, h1, _⟩ := d'
    exact ⟨o, h1⟩
  exact wpAny_pure ⟨.ref s.heap.objs.size, _, J2.write (e := s.heap.objs.size) (t' := tk) (by rw [ha]; trivial) (.inl rfl) (fun c o hc e => (sb.2 c hc).trans e) he (nd_ok hs (.cons ⟨rfl, rfl, r2⟩ .nil) d'), rfl, q⟩
end
end Ab

namespace Ab
open PySem PySem.Spec L2
/-- the key that a value is -/
def keyD (ds : List D) : Option NestedKey := match ofDs ds with
  | some ks => if (NestedKey.tup ks).depth ≤ 8 then some (.tup ks) else none
  | none => none
def keyB : B → Option NestedKey
  | .dat (.tup ds) => keyD ds
  | .vw (.tup ds) => keyD ds
  | _ => none
theorem keyD_ok {ds : List D} {k : NestedKey} (h : keyD ds = some k) : toD k = .tup ds ∧ k.depth ≤ 8 := by
  unfold keyD at h
  split at h
  · rename_i ks e
    split at h
    · rename_i hd
      cases h
      refine ⟨?_, hd⟩
      unfold toD
      rw [toDs_ofDs ds ks e]
    · cases h
  · cases h
theorem keyB_ok {S : Addr → Prop} {as : As} {H : Hp} {x : B} {v : V} {k : NestedKey} (h : keyB x = some k) (r : RB S as H v x) : KeyIs H v k := by
  unfold keyB at h
  split at h
  · obtain ⟨e1, e2⟩ := keyD_ok h
    have r' : Den H (fun a => S a ∨ some a ∈ as) v (toD k) := by rw [e1]; exact r
    cases r with
    | tup h1 n d => exact ⟨_, _, rfl, r', e2⟩
  · obtain ⟨e1, e2⟩ := keyD_ok h
    have r' : Den H (fun a => some a ∈ as) v (toD k) := by rw [e1]; exact r
    cases r with
    | tup h1 n d => exact ⟨_, _, rfl, r', e2⟩
  · cases h
def stoB (kvs : List (NestedKey × B)) (k : NestedKey) (b : B) : List (NestedKey × B) := if (lookK kvs k).isSome = true then kvs.map (fun p => if p.1 = k then (p.1, b) else p) else kvs ++ [(k, b)]
abbrev zp (kvs : List (NestedKey × B)) (ads : List Addr) (vs : List V) : List (NestedKey × Addr × V) := (kvs.map (·.1)).zip (ads.zip vs)
theorem zp_cons (p : NestedKey × B) (kvs : List (NestedKey × B)) (a : Addr) (ads : List Addr) (v : V) (vs : List V) : zp (p :: kvs) (a :: ads) (v :: vs) = (p.1, a, v) :: zp kvs ads vs := rfl
section
variable {S : Addr → Prop} {as : As} {H : Hp}
theorem look_zp (k : NestedKey) : ∀ {kvs : List (NestedKey × B)} {ads : List Addr} {vs : List V}, ads.length = kvs.length → RBs S as H vs (kvs.map (·.2)) → (lookK (zp kvs ads vs) k).isSome = (lookK kvs k).isSome ∧ ∀ b, lookK kvs k = some b → ∃ a v, lookK (zp kvs ads vs) k = some (a, v) ∧ RB S as H v b
  | [], ads, vs, hl, r => ⟨(by cases r; rfl), fun b h => by cases h⟩
  | p :: kvs, [], _, hl, _ => by cases hl
  | p :: kvs, a :: ads, _, hl, .cons (a := v) r t => by
    obtain ⟨h1, h2⟩ := look_zp k (kvs := kvs) (ads := ads) (Nat.succ.inj hl) t
    rw [zp_cons]
    unfold lookK at *
    rw [List.find?_cons, List.find?_cons]
    by_cases hk : p.1 = k
    · simp only [hk, decide_true, Option.map_some]
      exact ⟨rfl, fun b h => by cases h; exact ⟨a, v, rfl, r⟩⟩
    · simp only [hk, decide_false]
      exact ⟨h1, h2⟩
theorem put_zp {k : NestedKey} {v : V} {b : B} (rv : RB S as H v b) : ∀ {kvs : List (NestedKey × B)} {ads : List Addr} {vs : List V}, ads.length = kvs.length → RBs S as H vs (kvs.map (·.2)) →
    ∃ ws, (zp kvs ads vs).map (fun x => if x.1 = k then (x.1, x.2.1, v) else x) = zp (kvs.map (fun p => if p.1 = k then (p.1, b) else p)) ads ws ∧ RBs S as H ws ((kvs.map (fun p => if p.1 = k then (p.1, b) else p)).map (·.2))
  | [], ads, vs, hl, r => by
    cases r
    exact ⟨[], rfl, .nil⟩
  | p :: kvs, [], _, hl, _ => by cases hl
  | p :: kvs, a :: ads, _, hl, .cons (a := u) r t => by
    obtain ⟨ws, e1, e2⟩ := put_zp (k := k) rv (kvs := kvs) (ads := ads) (Nat.succ.inj hl) t
    rw [zp_cons, List.map_cons, e1]
    by_cases hk : p.1 = k
    · refine ⟨v :: ws, ?_, ?_⟩
      · rw [List.map_cons, if_pos hk, if_pos hk]
        rfl
      · rw [List.map_cons, if_pos hk]
        exact .cons rv e2
    · refine ⟨u :: ws, ?_, ?_⟩
      · rw [List.map_cons, if_neg hk, if_neg hk]
        rfl
      · rw [List.map_cons, if_neg hk]
        exact .cons r e2
theorem app_zp {k : NestedKey} {a : Addr} {v : V} {b : B} (rv : RB S as H v b) : ∀ {kvs : List (NestedKey × B)} {ads : List Addr} {vs : List V}, ads.length = kvs.length → RBs S as H vs (kvs.map (·.2)) →
    zp kvs ads vs ++ [(k, a, v)] = zp (kvs ++ [(k, b)]) (ads ++ [a]) (vs ++ [v])
  | [], ads, vs, hl, r => by
    cases r
    cases ads with
    | nil => rfl
    | cons _ _ => cases hl
  | p :: kvs, [], _, hl, _ => by cases hl
  | p :: kvs, c :: ads, _, hl, .cons r t => by
    have e := app_zp (k := k) (a := a) rv (kvs := kvs) (ads := ads) (Nat.succ.inj hl) t
    rw [zp_cons, List.cons_append, e]
    rfl
theorem map_fst_put (k : NestedKey) (b : B) (kvs : List (NestedKey × B)) : (kvs.map (fun p => if p.1 = k then (p.1, b) else p)).map (·.1) = kvs.map (·.1) := by
  rw [List.map_map]
  apply List.map_congr_left
  intro p _
  show (if p.1 = k then (p.1, b) else p).1 = p.1
  split <;> rfl
theorem lookK_none {α : Type} {kvs : List (NestedKey × α)} {k : NestedKey} (h : (lookK kvs k).isSome = false) : k ∉ kvs.map (·.1) := by
  intro hm
  obtain ⟨p, hp, e⟩ := List.mem_map.mp hm
  unfold lookK at h
  rw [Option.isSome_map] at h
  have : (kvs.find? fun x => decide (x.1 = k)).isSome = true := List.find?_isSome.mpr ⟨p, hp, by simp [e]⟩
  rw [this] at h
  cases h
/-- what a dict cell says -/
theorem dct_at {a : Addr} {o : Option HO} {w : World} {kvs : List (NestedKey × B)} (h : HCo S as H a o (.dct w kvs)) : ∃ (ads : List Addr) (vs : List V), o = some (NdO w a (zp kvs ads vs)) ∧ KeysOk H (zp kvs ads vs) ∧ ads.length = kvs.length ∧ RBs S as H vs (kvs.map (·.2)) ∧ Dens H (fun c => S c ∨ some c ∈ as) (ads.map V.ref) (kvs.map fun p => toD p.1) ∧ (kvs.map (·.1)).Nodup ∧ ∀ k ∈ kvs.map (·.1), k.depth ≤ 8 := by
  obtain ⟨ads, vs, h2, d, rs, nd, dp⟩ := h
  have hl : ads.length = kvs.length := by
    have := d.length
    rw [List.length_map, List.length_map] at this
    exact this
  have hv : vs.length = kvs.length := by
    have := rs.length
    rw [List.length_map] at this
    exact this
  refine ⟨ads, vs, h2, ⟨?_, ?_⟩, hl, rs, d, nd, dp⟩
  · have go : ∀ (kvs : List (NestedKey × B)) (ads : List Addr) (vs : List V), Dens H (fun c => S c ∨ some c ∈ as) (ads.map V.ref) (kvs.map fun p => toD p.1) → (∀ k ∈ kvs.map (·.1), k.depth ≤ 8) → ∀ p ∈ zp kvs ads vs, KeyIs H (.ref p.2.1) p.1 := by
      intro kvs
      induction kvs with
      | nil => intro ads vs _ _ p hp; cases hp
      | cons q kvs ih =>
        intro ads vs d dp p hp
        cases ads with
        | nil => cases hp
        | cons c ads =>
          cases vs with
          | nil => cases hp
          | cons u vs =>
            cases d with
            | cons d1 d2 =>
              rw [zp_cons] at hp
              rcases List.mem_cons.mp hp with rfl | hp
              · exact ⟨_, c, rfl, d1, dp q.1 (by simp)⟩
              · exact ih ads vs d2 (fun k hk => dp k (by rw [List.map_cons]; exact List.mem_cons_of_mem _ hk)) p hp
    exact go kvs ads vs d dp
  · rw [zip_fst _ _ (by rw [List.length_map, List.length_zip, hl, hv, Nat.min_self])]
    exact nd
/-- a dict cell -/
theorem own_dct {M : Mem} (C : Cells S as H M) {k : Nat} {v : V} {w : World} {kvs : List (NestedKey × B)} (e : M[k]? = some (some (.dct w kvs))) (r : RB S as H v (.own k)) : ∃ (a : Addr) (ads : List Addr) (vs : List V), v = .ref a ∧ as[k]? = some (some a) ∧ H a = some (NdO w a (zp kvs ads vs)) ∧ KeysOk H (zp kvs ads vs) ∧ ads.length = kvs.length ∧ RBs S as H vs (kvs.map (·.2)) ∧ Dens H (fun c => S c ∨ some c ∈ as) (ads.map V.ref) (kvs.map fun p => toD p.1) ∧ (kvs.map (·.1)).Nodup ∧ ∀ k ∈ kvs.map (·.1), k.depth ≤ 8 := by
  obtain ⟨a, h1, hc⟩ := C.cell k _ e
  obtain ⟨a', h4, e4⟩ := r
  rw [h1] at h4
  cases h4
  obtain ⟨ads, vs, h2, rest⟩ := dct_at hc
  exact ⟨a, ads, vs, e4, h1, h2, rest⟩
/-- one that a loop walks -/
theorem own_lkd {M : Mem} (C : Cells S as H M) {k : Nat} {v : V} {w : World} {kvs : List (NestedKey × B)} {ad : Addr} {od : Obj} {u : HO} (e : M[k]? = some (some (.lk ad od u (.dct w kvs)))) (r : RB S as H v (.own k)) : ∃ (a : Addr) (ads : List Addr) (vs : List V), v = .ref a ∧ Rd H a (NdO w a (zp kvs ads vs)) ∧ KeysOk H (zp kvs ads vs) ∧ ads.length = kvs.length ∧ RBs S as H vs (kvs.map (·.2)) := by
  obtain ⟨a, h1, h5, h6, hc⟩ := C.cell k _ e
  obtain ⟨a', h4, e4⟩ := r
  rw [h1] at h4
  cases h4
  obtain ⟨ads, vs, h2, h7, h8, h9, _⟩ := dct_at hc
  cases h2
  exact ⟨a, ads, vs, e4, .inr ⟨_, h6⟩, h7, h8, h9⟩
end
section
variable {X : Cx} {W : XB → Hp → Prop}
open Classical in
noncomputable def vInD (w : World) (neg : Bool) (x y : B) (M : Mem) : Res B := match y with
  | .own k => (match M[k]? with
    | some (some (.dct w' kvs)) => if w' = w then (match keyB x with
      | some key => .ok (.dat (.bl (if neg then !(lookK kvs key).isSome else (lookK kvs key).isSome))) M
      | none => .stuck) else .stuck
    | some (some (.lk _ _ _ (.dct w' kvs))) => if w' = w then (match keyB x with
      | some key => .ok (.dat (.bl (if neg then !(lookK kvs key).isSome else (lookK kvs key).isSome))) M
      | none => .stuck) else .stuck
    | _ => .stuck)
  | _ => .stuck
theorem v2_inD {w : World} {neg : Bool} : V2 W (rInN w neg) (vInD w neg) := by
  intro G as H ρ M σ x y v u Q R r1 r2 h
  unfold vInD at h
  split at h
  · split at h
    · rename_i k _ w' kvs e
      split at h
      · rename_i hw
        subst hw
        split at h
        · rename_i key ek
          obtain ⟨a, ads, vs, rfl, h1, h2, ok, hl, rs, _⟩ := own_dct R.cs e r2
          refine ⟨a, _, key, rfl, .inl h2, ok, keyB_ok ek r1, ?_⟩
          rw [(look_zp key hl rs).1]
          exact h _ as H R (Den.bl _)
        · exact h.elim
      · exact h.elim
    · rename_i k _ ad od uu w' kvs e
      split at h
      · rename_i hw
        subst hw
        split at h
        · rename_i key ek
          obtain ⟨a, ads, vs, rfl, h2, ok, hl, rs⟩ := own_lkd R.cs e r2
          refine ⟨a, _, key, rfl, h2, ok, keyB_ok ek r1, ?_⟩
          rw [(look_zp key hl rs).1]
          exact h _ as H R (Den.bl _)
        · exact h.elim
      · exact h.elim
    · exact h.elim
  · exact h.elim
open Classical in
noncomputable def vIxD (w : World) (x y : B) (M : Mem) : Res B := match x with
  | .own k => (match M[k]? with
    | some (some (.dct w' kvs)) => if w' = w then (match keyB y with
      | some key => (match lookK kvs key with
        | some b => .ok b M
        | none => .stuck)
      | none => .stuck) else .stuck
    | _ => .stuck)
  | _ => .stuck
theorem v2_ixD {w : World} : V2 W (rIxN w) (vIxD w) := by
  intro G as H ρ M σ x y v u Q R r1 r2 h
  unfold vIxD at h
  split at h
  · split at h
    · rename_i k _ w' kvs e
      split at h
      · rename_i hw
        subst hw
        split at h
        · rename_i key ek
          split at h
          · rename_i b eb
            obtain ⟨a, ads, vs, rfl, h1, h2, ok, hl, rs, _⟩ := own_dct R.cs e r1
            obtain ⟨c, z, e3, rz⟩ := (look_zp key hl rs).2 b eb
            exact ⟨a, _, key, c, z, rfl, h2, ok, keyB_ok ek r2, e3, h z as H R rz⟩
          · exact h.elim
        · exact h.elim
      · exact h.elim
    · exact h.elim
  · exact h.elim
open Classical in
/-- a value is stored under a key -/
noncomputable def stoM (w : World) (x y b : B) (M : Mem) : Option Mem := match x, y with
  | .own k, .dat (.tup ds) => (match M[k]? with
    | some (some (.dct w' kvs)) => if w' = w ∧ kvs.length < SZ then (match keyD ds with
      | some key => some (M.set k (some (.dct w (stoB kvs key b))))
      | none => none) else none
    | _ => none)
  | _, _ => none
theorem stoM_ok {G : Gh} {as : As} {H : Hp} {ρ : Rho} {M M' : Mem} {σ : L2.St} {w : World} {x y b : B} {o i v : V} (R : Rep G as H ρ M σ) (e : stoM w x y b M = some M') (ro : RB G.S as H o x) (ri : RB G.S as H i y) (rv : RB G.S as H v b) :
    ∃ (a : Addr) (ks : List (NestedKey × Addr × V)) (k : NestedKey) (c : Addr), o = .ref a ∧ i = .ref c ∧ H a = some (NdO w a ks) ∧ KeysOk H ks ∧ KeyIs H i k ∧ ks.length < SZ ∧ Rep G as (upd H a (NdO w a (stoK ks k c v))) ρ M' σ ∧ (∀ (j : Nat) (w' : World), x = .own j → M[j]? = some (some (.dct w' [])) → ks = []) := by
  unfold stoM at e
  split at e
  · rename_i k ds
    split at e
    · rename_i w' kvs ec
      split at e
      · rename_i hw
        obtain ⟨rfl, hz⟩ := hw
        split at e
        · rename_i key ek
          cases e
          obtain ⟨a, ads, vs, rfl, h1, h2, ok, hl, rs, dd, nd, dp⟩ := own_dct R.cs ec ro
          have hv : vs.length = kvs.length := by
            have := rs.length
            rw [List.length_map] at this
            exact this
          have hki := keyB_ok (x := .dat (.tup ds)) ek ri
          obtain ⟨ek1, ek2⟩ := keyD_ok ek
          obtain ⟨T, c, hc, _, _⟩ := id hki
          have hin : some a ∈ as := List.mem_of_getElem? h1
          refine ⟨a, _, key, c, rfl, hc, h2, ok, hki, ?_, R.store h1 ?_, fun j w'' ej em => by
            cases ej
            rw [ec] at em
            cases em
            rfl⟩
          · rw [List.length_zip, List.length_map, List.length_zip, hl, hv, Nat.min_self, Nat.min_self]
            exact hz
          · have s := stp_own (G := G) (H := H) (o := NdO w' a (stoK (zp kvs ads vs) key c v)) hin
            have hlook := (look_zp key hl rs).1
            unfold stoB
            by_cases hs : (lookK kvs key).isSome = true
            · rw [if_pos hs]
              obtain ⟨ws, e1, e2⟩ := put_zp (k := key) rv hl rs
              refine ⟨ads, ws, ?_, ?_, e2.mono s, ?_, ?_⟩
              · rw [upd_same]
                unfold stoK
                rw [hlook, if_pos hs, e1]
              · have e3 : (kvs.map (fun p => if p.1 = key then (p.1, b) else p)).map (fun p => toD p.1) = kvs.map fun p => toD p.1 := by
                  have e4 : ∀ l : List (NestedKey × B), l.map (fun p => toD p.1) = (l.map (·.1)).map toD := fun l => by rw [List.map_map]; rfl
                  rw [e4, map_fst_put, ← e4]
                rw [e3]
                exact dd.mono s.hk
              · rw [map_fst_put]; exact nd
              · rw [map_fst_put]; exact dp
            · rw [if_neg hs]
              have hs' : (lookK kvs key).isSome = false := by simpa using hs
              have hnot := lookK_none hs'
              subst hc
              have dk : Den H (fun c => G.S c ∨ some c ∈ as) (.ref c) (toD key) := by rw [ek1]; exact ri
              refine ⟨ads ++ [c], vs ++ [v], ?_, ?_, ?_, ?_, ?_⟩
              · rw [upd_same]
                unfold stoK
                rw [hlook, if_neg hs, app_zp (a := c) rv hl rs]
              · rw [List.map_append, List.map_append]
                exact (dd.append (.cons dk .nil)).mono s.hk
              · rw [List.map_append]
                exact (rs.append (.cons rv .nil)).mono s
              · rw [List.map_append]
                exact List.nodup_append.mpr ⟨nd, by simp, fun x hx y hy => by
                  have e : y = key := by simpa using hy
                  rw [e]
                  exact fun z => hnot (z ▸ hx)⟩
              · intro x hx
                rw [List.map_append] at hx
                rcases List.mem_append.mp hx with hx | hx
                · exact dp x hx
                · have e : x = key := by simpa using hx
                  rw [e]
                  exact ek2
        · cases e
      · cases e
    · cases e
  · cases e
noncomputable def sSubD (w : World) (o i e : Ev) : Es := fun ρ M => (e ρ M).bind fun b M1 => (o ρ M1).bind fun x M2 => (i ρ M2).bind fun y M3 => match stoM w x y b M3 with
  | some M4 => .ok (.nx ρ) M4
  | none => .stuck
theorem es_subD {n : Nat} {o i e : Expr} {eo ei ee : Ev} {pos pos' : Pos} (hu : X.A.units + 64 < cLine) (he : EV X W e ee) (ho : EV X W o eo) (hi : EV X W i ei)
    (ha : ∀ v, assign (.Subscript o i pos') X.env v = (do
      let ov ← holding [v] (eval o X.env)
      let iv ← holding [v, ov] (eval i X.env)
      standAt pos'
      holding [v, ov, iv] (setItem ov iv v)
      release [v, ov, iv] []) := by intro _; rfl)
    (hs : swapsWithSole [.Subscript o i pos'] e pos.line X.env = pure false := by rfl) (hw : swappedStores [.Subscript o i pos'] e X.env = pure none := by rfl) (h1 : (assignEach [.Subscript o i pos'] X.env).map (·.2) = [assign (.Subscript o i pos') X.env] := by rfl) : ES X W n (.Assign [.Subscript o i pos'] e pos) (sSubD X.w eo ei ee) :=
  ps_imp (ps_asg he (pg_sub ho hi (set_N hu) ha) hs hw h1) fun D σ H h => by
    obtain ⟨G, as, ρ, M, hg, R, h⟩ := h
    refine ⟨G, as, ρ, M, R, ?_⟩
    unfold sSubD at h
    cases q : ee ρ M with
    | stuck => rw [q] at h; exact h
    | exc x => rw [q] at h; exact h
    | ok b M1 =>
      rw [q] at h
      intro v as1 H1 R1 r1
      refine ⟨G.push v b, as1, ρ, M1, R1.push r1, ?_⟩
      simp only [Res.bind_ok] at h
      cases q2 : eo ρ M1 with
      | stuck => rw [q2] at h; exact h
      | exc x => rw [q2] at h; exact h
      | ok x M2 =>
        rw [q2] at h
        intro u as2 H2 R2 r2
        refine ⟨(G.push v b).push u x, as2, ρ, M2, R2.push r2, ?_⟩
        simp only [Res.bind_ok] at h
        cases q3 : ei ρ M2 with
        | stuck => rw [q3] at h; exact h
        | exc x => rw [q3] at h; exact h
        | ok y M3 =>
          rw [q3] at h
          intro w as3 H3 R3 r3
          have t1 := R3.top
          have R4 := R3.pop
          have t2 := R4.top
          have R5 := R4.pop
          simp only [Res.bind_ok] at h
          split at h
          · rename_i M4 e4
            obtain ⟨a, ks, k, c, e1, e2, h1, h2, h3, h4, R6, _⟩ := stoM_ok R5 e4 t1 r3 t2
            exact ⟨a, ks, k, c, e1, e2, h1, h2, h3, h4, h σ as3 _ R6⟩
          · exact h.elim
/-! ### displays -/
def eD0 (w : World) : Ev := fun _ M => .ok (.own M.length) (M ++ [some (.dct w [])])
theorem ev_d0 {pos : Pos} : EV X W (.Dict [] [] pos) (eD0 X.w) := pe_imp pe_dnewN fun σ H Q h => by
  obtain ⟨G, as, ρ, M, R, h⟩ := h
  intro p hp
  refine h (.ref p) (as ++ [some p]) _ (R.own hp ⟨[], [], upd_same, .nil, .nil, .nil, fun k hk => by cases hk⟩) ⟨p, ?_, rfl⟩
  rw [← R.cs.len]
  simp
noncomputable def eD1 (w : World) (k v : Ev) : Ev := fun ρ M => (k ρ (M ++ [some (.dct w [])])).bind fun x M1 => (v ρ M1).bind fun y M2 => match M2[M.length]? with
  | some (some (.dct w' [])) => (match stoM w (.own M.length) x y M2 with
    | some M3 => .ok (.own M.length) M3
    | none => .stuck)
  | _ => .stuck
theorem ev_d1 {k v : Expr} {ek ev : Ev} {pos : Pos} (hu : X.A.units + 64 < cLine) (hk : EV X W k ek) (hv : EV X W v ev)
    (hshape : (evalEachOpt [some k] X.env).zip ((evalEach [v] X.env).map fun v => do let x ← v; standAt pos; pure x) = [((eval k X.env), (do let x ← eval v X.env; standAt pos; pure x))].map fun p => (some p.1, p.2) := by rfl) : EV X W (.Dict [some k] [v] pos) (eD1 X.w ek ev) :=
  pe_imp (pe_disp1 hu hk hv hshape) fun σ H Q h => by
    obtain ⟨G, as, ρ, M, R, h⟩ := h
    intro p hp
    have R0 : Rep G (as ++ [some p]) (upd H p (NdO X.w p [])) ρ (M ++ [some (.dct X.w [])]) σ := R.own hp ⟨[], [], upd_same, .nil, .nil, .nil, fun k hk => by cases hk⟩
    have hkk : (as ++ [some p])[M.length]? = some (some p) := by rw [← R.cs.len]; simp
    refine ⟨G.push (.ref p) (.own M.length), _, ρ, _, R0.push ⟨p, hkk, rfl⟩, ?_⟩
    unfold eD1 at h
    cases q : ek ρ (M ++ [some (.dct X.w [])]) with
    | stuck => rw [q] at h; exact h
    | exc x => rw [q] at h; exact h
    | ok x M1 =>
      rw [q] at h
      intro u as1 H1 R1 r1
      refine ⟨(G.push (.ref p) (.own M.length)).push u x, as1, ρ, M1, R1.push r1, ?_⟩
      simp only [Res.bind_ok] at h
      cases q2 : ev ρ M1 with
      | stuck => rw [q2] at h; exact h
      | exc x => rw [q2] at h; exact h
      | ok y M2 =>
        rw [q2] at h
        intro z as2 H2 R2 r2
        have t1 := R2.top
        have R3 := R2.pop
        have t2 := R3.top
        have R4 := R3.pop
        simp only [Res.bind_ok] at h
        split at h
        · rename_i w' e0
          split at h
          · rename_i M3 e3
            obtain ⟨a, ks, key, c, e4, e5, h1, h2, h3, h4, R5, hks⟩ := stoM_ok R4 e3 t2 t1 r2
            cases e4
            have hks := hks _ _ rfl e0
            subst hks
            refine ⟨key, c, h1, e5, h3, ?_⟩
            refine h (.ref p) as2 _ R5 ?_
            exact t2
          · exact h.elim
        · exact h.elim
end
end Ab

/-! d.get(k, x) of a dict of one's own with nested keys. -/
namespace Ab
open PySem PySem.Spec L2
open PyProof.Rows hiding St
def tGetN (w : World) (td ty tx : TE) : TE := fun σ H Q => td σ H fun x H1 => ∃ a, x = .ref a ∧ (∃ ks, H1 a = some (NdO w a ks) ∧ KeysOk H1 ks) ∧ ty σ H1 fun y H2 => tx σ H2 fun z H3 => ∃ ks k, H3 a = some (NdO w a ks) ∧ KeysOk H3 ks ∧ KeyIs H3 y k ∧ Q (((lookK ks k).map (·.2)).getD z) H3
section
variable {X : Cx} {o e f : Expr} {apos cpos : Pos} {td ty tx : TE}
theorem pe_getN (hu : X.A.units + 64 < cLine) (ho : PE X o td) (he : PE X e ty) (hf : PE X f tx) (m : M2 X o "get" apos e f cpos) : PE X (.Call (.Attribute o "get" apos) [e, f] [] cpos) (tGetN X.w td ty tx) := by
  refine ⟨fun pins s σ H Q I h => ?_⟩
  refine wpAny_Call_method m.base m.few m.line PySem.F.plainAttrs_dict PySem.F.slot_dict_get PySem.F.type_dict_get (thn (ho.run pins s σ H _ I h) fun u s1 ⟨x, H1, I1, rx, a, ex, ⟨ks0, d0, ok0⟩, q1⟩ => ?_)
  subst ex
  obtain rfl : u = Value.ref a := rx
  obtain ⟨hs0, xs0, r0, dd0⟩ := nd_get I1 d0 ok0
  refine ⟨dd0.typeIs, fun b q => ?_, ?_⟩
  · cases q
    obtain ⟨ob, _, _, h1, h2, _⟩ := dd0
    exact ⟨ob, h1, h2.2.1⟩
  rw [m.trees]
  refine Calls.callWith_builtin rfl (Calls.evalArgs_plain (Calls.spliced_cons (thn (he.run pins s1 σ H1 _ I1 q1) fun iv s2 ⟨y, H2, I2, ry, q2⟩ =>
    Calls.spliced_cons (thn (hf.run pins s2 σ H2 _ I2 q2) fun fv s3 ⟨z, H3, I3, rz, ks, k, ha, ok, hk, q3⟩ => Calls.spliced_nil ?_))))
  obtain ⟨b, rfl, rfl, kb⟩ := key_is I3 hk ry
  obtain ⟨hs, xs, r, dd⟩ := nd_get I3 ha ok
  refine call_meetsIn PySem.F.slot_dict_get dd.typeIs PySem.F.entry_dict_get (PySem.F.args_dict_get_3 _ _ _) (meetsH_dict_get_default (nestedKind X.prog X.w) a b hs fv) ⟨by show X.A.in1.units + 8 < cLine; show X.A.units + 1 + 8 < cLine; omega, k, xs, kb, dd, _, H3, I3.tok _, ?_, q3⟩
  have lr := look_rel k r
  cases hl : lookK ks k with
  | some p =>
    obtain ⟨w', e1, e2⟩ := lr.2 p.1 p.2 (by rw [hl])
    rw [e1]
    exact e2
  | none =>
    have : (atKey xs k).isSome = false := by rw [← lr.1, hl]; rfl
    have e : atKey xs k = none := by
      cases q : atKey xs k with
      | none => rfl
      | some _ => rw [q] at this; cases this
    rw [e]
    exact rz
end
/-- a dict with nested keys: its address, what it holds -/
def asN (x : B) (M : Mem) : Option (World × List (NestedKey × B)) := match x with
  | .dat (.nd w kvs) => some (w, kvs.map fun p => (p.1, .dat p.2))
  | .own k => (match M[k]? with
    | some (some (.dct w kvs)) => some (w, kvs)
    | _ => none)
  | _ => none
theorem keysOk_zp {H : Hp} {T : Addr → Prop} : ∀ (kvs : List (NestedKey × B)) (ads : List Addr) (vs : List V), Dens H T (ads.map V.ref) (kvs.map fun p => toD p.1) → (∀ k ∈ kvs.map (·.1), k.depth ≤ 8) → ∀ p ∈ zp kvs ads vs, KeyIs H (.ref p.2.1) p.1 := by
  intro kvs
  induction kvs with
  | nil => intro ads vs _ _ p hp; cases hp
  | cons q kvs ih =>
    intro ads vs d dp p hp
    cases ads with
    | nil => cases hp
    | cons c ads =>
      cases vs with
      | nil => cases hp
      | cons u vs =>
        cases d with
        | cons d1 d2 =>
          rw [zp_cons] at hp
          rcases List.mem_cons.mp hp with rfl | hp
          · exact ⟨_, c, rfl, d1, dp q.1 (by simp)⟩
          · exact ih ads vs d2 (fun k hk => dp k (by rw [List.map_cons]; exact List.mem_cons_of_mem _ hk)) p hp
theorem asN_ok {S : Addr → Prop} {as : As} {H : Hp} {M : Mem} (C : Cells S as H M) {x : B} {v : V} {w : World} {kvs : List (NestedKey × B)} (e : asN x M = some (w, kvs)) (r : RB S as H v x) : ∃ a ads vs, v = .ref a ∧ H a = some (NdO w a (zp kvs ads vs)) ∧ KeysOk H (zp kvs ads vs) ∧ ads.length = kvs.length ∧ RBs S as H vs (kvs.map (·.2)) := by
  unfold asN at e
  split at e
  · cases e
    cases r with
    | nd h1 n hl hk hn hd d =>
      rename_i a ks ads xs ds
      have e1 : (ks.zip ds).map ((fun p : NestedKey × B => p.1) ∘ fun p => (p.1, B.dat p.2)) = ks := (List.map_congr_left fun p _ => rfl).trans (zip_fst ks ds hl)
      have e2 : (ks.zip ds).map ((fun p : NestedKey × B => p.2) ∘ fun p => (p.1, B.dat p.2)) = ds.map .dat := by
        rw [← zip_snd ks ds hl, List.map_map, zip_snd ks ds hl]
        rfl
      have e3 : ((ks.zip ds).map fun p => (p.1, B.dat p.2)).map (fun p => toD p.1) = ks.map toD := by
        rw [List.map_map]
        have e : (ks.zip ds).map ((fun p : NestedKey × B => toD p.1) ∘ fun p => (p.1, B.dat p.2)) = ((ks.zip ds).map (·.1)).map toD := by rw [List.map_map]; rfl
        rw [e, zip_fst ks ds hl]
      have la : ads.length = ks.length := by
        have := hk.length
        rw [List.length_map, List.length_map] at this
        exact this
      have z : zp ((ks.zip ds).map fun p => (p.1, B.dat p.2)) ads xs = ks.zip (ads.zip xs) := by
        unfold zp
        rw [List.map_map, e1]
      refine ⟨a, ads, xs, rfl, ?_, ⟨?_, ?_⟩, ?_, ?_⟩
      · rw [z]
        exact h1
      · exact keysOk_zp _ _ _ (by rw [e3]; exact hk) (by rw [List.map_map, e1]; exact hd)
      · rw [z, zip_fst]
        · exact hn
        · rw [List.length_zip, la, d.length, ← hl, Nat.min_self]
      · rw [List.length_map, List.length_zip, ← hl, Nat.min_self, la]
      · rw [List.map_map, e2]
        exact rbs_dat d
  · rename_i k
    split at e
    · rename_i q
      cases e
      obtain ⟨a, ads, vs, h1, _, h2, h3, h4, h5, _⟩ := own_dct C q r
      exact ⟨a, ads, vs, h1, h2, h3, h4, h5⟩
    · cases e
  · cases e
section
variable {X : Cx} {W : XB → Hp → Prop}
open Classical in
noncomputable def eGetN (w : World) (o e d : Ev) : Ev := fun ρ M => (o ρ M).bind fun x M1 => match asN x M1 with
  | some (w', _) => if w' = w then (e ρ M1).bind fun y M2 => (d ρ M2).bind fun z M3 => (match asN x M3 with
    | some (w'', kvs) => if w'' = w then (match keyB y with
      | some key => .ok ((lookK kvs key).getD z) M3
      | none => .stuck) else .stuck
    | none => .stuck) else .stuck
  | none => .stuck
theorem ev_getN {o e f : Expr} {eo ee ef : Ev} {apos cpos : Pos} (hu : X.A.units + 64 < cLine) (ho : EV X W o eo) (he : EV X W e ee) (hf : EV X W f ef) (m : M2 X o "get" apos e f cpos := by exact ⟨rfl, rfl, rfl, rfl⟩) : EV X W (.Call (.Attribute o "get" apos) [e, f] [] cpos) (eGetN X.w eo ee ef) :=
  pe_imp (pe_getN hu ho he hf m) fun σ H Q h => by
    obtain ⟨G, as, ρ, M, R, h⟩ := h
    refine ⟨G, as, ρ, M, R, ?_⟩
    unfold eGetN at h
    cases q : eo ρ M with
    | stuck => rw [q] at h; exact h
    | exc x => rw [q] at h; exact h
    | ok x M1 =>
      rw [q] at h
      intro v as1 H1 R1 r1
      simp only [Res.bind_ok] at h
      split at h
      · rename_i w' kvs0 e0
        split at h
        · rename_i hw
          subst hw
          obtain ⟨a, ads, vs, rfl, h2, ok, hl, rs⟩ := asN_ok R1.cs e0 r1
          refine ⟨a, rfl, ⟨_, h2, ok⟩, G.push (.ref a) x, as1, ρ, M1, R1.push r1, ?_⟩
          cases q2 : ee ρ M1 with
          | stuck => rw [q2] at h; exact h
          | exc x => rw [q2] at h; exact h
          | ok y M2 =>
            rw [q2] at h
            intro u as2 H2 R2 r2
            refine ⟨(G.push (.ref a) x).push u y, as2, ρ, M2, R2.push r2, ?_⟩
            simp only [Res.bind_ok] at h
            cases q3 : ef ρ M2 with
            | stuck => rw [q3] at h; exact h
            | exc x => rw [q3] at h; exact h
            | ok z M3 =>
              rw [q3] at h
              intro t as3 H3 R3 r3
              have t1 := R3.top
              have R4 := R3.pop
              have t2 := R4.top
              have R5 := R4.pop
              simp only [Res.bind_ok] at h
              split at h
              · rename_i w'' kvs ec
                split at h
                · rename_i hw
                  subst hw
                  split at h
                  · rename_i key ek
                    obtain ⟨a', ads', vs', ea, h2', ok', hl', rs'⟩ := asN_ok R5.cs ec t2
                    cases ea
                    refine ⟨_, key, h2', ok', keyB_ok ek t1, h _ as3 H3 R5 ?_⟩
                    have lz := look_zp key hl' rs'
                    cases e5 : lookK kvs key with
                    | some b =>
                      obtain ⟨c, z', e6, rz⟩ := lz.2 b e5
                      rw [e6]
                      exact rz
                    | none =>
                      have : (lookK (zp kvs ads' vs') key).isSome = false := by rw [lz.1, e5]; rfl
                      have e7 : lookK (zp kvs ads' vs') key = none := by
                        cases q : lookK (zp kvs ads' vs') key with
                        | none => rfl
                        | some _ => rw [q] at this; cases this
                      rw [e7]
                      exact r3
                  · exact h.elim
                · exact h.elim
              · exact h.elim
        · exact h.elim
      · exact h.elim
end
end Ab

/-! ### list(reversed(a list)) -/
namespace RT
open PySem PySem.Spec PyProof.Rows L2
section
variable {prog : Program} {w : World} {A : Around} {E : Value → Shared → Prop} {s : Shared}
theorem extend_rev {it l S : Addr} {items : Array Value} {c₀ : Nat} {R : Result → Shared → Prop} (hh : A.handled = none) (hit : s.heap.IsRevIter it l ((items.size : Int) - 1)) (hl : s.heap.IsList l items) (hne : l ≠ it) (hn : items.size ≤ sizeLine)
    (hSi : S ≠ it) (hSl : S ≠ l) (hS : s.heap.get? S = some { cls := .type "list", data := .seq #[] c₀ })
    (hR : ∀ h' tk acc' c', (∀ b o, b ≠ S → b ≠ it → s.heap.get? b = some o → h'.get? b = some o) → h'.get? S = some { cls := .type "list", dict := none, data := .seq acc' c', slots := #[] } → ItemsOf (fun i v => items[items.size - 1 - i]? = some v) acc' items.size → R (.ok (.ret .none)) { s with heap := h', toks := tk }) :
    wpAny (model prog w) A.in1 (Builtin.List.listExtendWith (.ref S) (.ref it) .none)
      (fun fin s' => match fin with | .done f => R (.ok f) s' | .again c' => c'.quiet = true ∧ codeAny (model prog w) A c' R s') (fun e s' => R (.error e) s') s := by
  have W := (Walks.listRev (prog := prog) (w := w) (A := A.in1) hh it l hne items).toS
  have hSf : S ∉ [it, l] := by simp only [List.mem_cons, List.not_mem_nil, or_false, not_or]; exact ⟨hSi, hSl⟩
  have hT : s.TypeIs (.ref it) "list_reverseiterator" := hit.typeIs
  have h1 : Builtin.List.listSameRef (.ref S) (.ref it) = false := by simp [Builtin.List.listSameRef, hSi]
  unfold Builtin.List.listExtendWith
  refine wpAny_bind (wpAny_typeOf hT ?_)
  rw [if_neg (by rw [h1]; decide)]
  refine wpAny_bind (wpAny_pyIter_revIter hit ?_)
  refine wpAny_bind (wpAny_holding ?_)
  unfold Builtin.List.listLengthHint
  refine wpAny_bind (wpAny_specialOf hT nolen_lri ?_)
  show wpAny _ A.in1 (specialOf (Value.ref it) (Str.ofString "__length_hint__") >>= _) _ _ _
  refine wpAny_bind (wpAny_specialOf hT hint_lri ?_)
  generalize hid : ("list_reverseiterator.__length_hint__" : String) = id0
  wp_delta
  rw [show splitId id0 = some ("list_reverseiterator", "__length_hint__") from by subst hid; decide +kernel]
  subst hid
  refine wpAny_bind (wpAny_isInstance (b := true) hT (by rw [isSubtype_type]; kernel_rfl) ?_)
  refine wpAny_pure ?_
  rw [if_neg (by decide)]
  have e0 : ((items.size : Nat) : Int) - 1 - ((0 : Nat) : Int) = (items.size : Int) - 1 := by omega
  refine wpAny_pure ⟨plainId_quiet F.plain_extend_loop _, codeAny_extend_loopS W hn S hSf .none items.size 0 _ #[] c₀ rfl (Nat.zero_le _) ⟨Nat.zero_le _, by rw [e0]; exact hit, hl⟩ hS (ItemsOf.nil _) fun s' acc' c' hm hS' hacc => ?_⟩
  rw [Moved.eq_with hm]
  refine hR s'.heap s'.toks acc' c' (fun b o hb hb2 e => hm.heap b o (fun hmem => ?_) e) hS' hacc
  rcases List.mem_cons.mp hmem with e' | hmem
  · exact hb e'
  · exact hb2 (List.mem_singleton.mp hmem)
theorem call_list_rev {it l : Addr} {items : Array Value} {Q : Value → Shared → Prop} (hh : A.handled = none) (hit : s.heap.IsRevIter it l ((items.size : Int) - 1)) (hl : s.heap.IsList l items) (hne : l ≠ it) (hn : items.size ≤ sizeLine)
    (hQ : ∀ h' tk acc' c', (∀ b o, b ≠ it → s.heap.get? b = some o → h'.get? b = some o) → h'.get? s.heap.objs.size = some { cls := .type "list", dict := none, data := .seq acc' c', slots := #[] } → ItemsOf (fun i v => items[items.size - 1 - i]? = some v) acc' items.size → Q (.ref s.heap.objs.size) { s with heap := h', toks := tk }) :
    wpAny (model prog w) A (call (.type "list") [.ref it]) Q E s := by
  refine callType_codes (Q₁ := fun obj s₁ => obj = .ref s.heap.objs.size ∧ s₁ = { s with heap := s.heap.push { cls := .type "list", data := .seq #[] } }) PySem.F.called_list (PySem.F.typeCall_list_1 _) PySem.F.entry_list_init
    (code_list_new _ ⟨rfl, rfl⟩) fun obj s₁ h₁ => ?_
  obtain ⟨rfl, rfl⟩ := h₁
  have hS : (s.heap.push { cls := .type "list", data := .seq #[] }).get? s.heap.objs.size = some { cls := .type "list", data := .seq #[] } := Heap.get?_push_size _ rfl
  obtain ⟨oi, hoi, _⟩ := id hit
  obtain ⟨ol, hol, _⟩ := id hl
  have hSi : s.heap.objs.size ≠ it := Nat.ne_of_gt (Heap.lt_size hoi)
  have hSl : s.heap.objs.size ≠ l := Nat.ne_of_gt (Heap.lt_size hol)
  refine ⟨⟨_, hS, rfl⟩, PySem.F.args_list_init_2 _ _, ?_⟩
  show wpAny _ _ (do let old ← Builtin.List.listItems (.ref s.heap.objs.size); Builtin.List.listUpdate (.ref s.heap.objs.size) (fun _ => #[]); letGo old.toList.reverse; Builtin.List.listExtendWith (.ref s.heap.objs.size) (.ref it) .none) _ _ _
  refine wpAny_bind ?_
  unfold Builtin.List.listItems
  refine wpAny_bind (wpAny_seqItems hS rfl (wpAny_pure ?_))
  show wpAny _ _ (updateSeq s.heap.objs.size (fun _ => #[]) >>= fun _ => letGo (#[] : Array Value).toList.reverse >>= fun _ => Builtin.List.listExtendWith (.ref s.heap.objs.size) (.ref it) .none) _ _ _
  refine wpAny_bind (wpAny_updateSeq hS rfl ?_)
  have hS₂ := Heap.get?_update_self (Obj.mapSeq (fun _ => (#[] : Array Value))) hS rfl
  have oth : ∀ b o, b ≠ s.heap.objs.size → s.heap.get? b = some o → ((s.heap.push { cls := .type "list", data := .seq #[] }).update s.heap.objs.size (Obj.mapSeq (fun _ => (#[] : Array Value)))).get? b = some o :=
    fun b o hb e => (Heap.get?_update_other _ _ (Ne.symm hb)).trans (Heap.get?_push_of_some _ e)
  refine wpAny_bind (wpAny_letGo ?_)
  refine extend_rev (A := A.in1) hh (hit.at fun o e => oth it o hSi.symm e) ?_ hne hn hSi hSl hS₂ fun h' tk acc' c' hk hS' hacc => ?_
  · obtain ⟨o, ho, r⟩ := id hl
    exact ⟨o, oth l o hSl.symm ho, r⟩
  · exact ⟨rfl, hQ h' tk acc' c' (fun b o hb e => hk b o (Nat.ne_of_lt (Heap.lt_size e)) hb (oth b o (Nat.ne_of_lt (Heap.lt_size e)) e)) hS' hacc⟩
end
/-- list(reversed(x)), x a list: a new list -/
def tLstRev (K : PySem.W.Frag) (te : TE) : TE := fun σ H Q => te σ H fun v H1 => ∃ (a : Addr) (xs : List V), v = .ref a ∧ SqL K H1 a xs ∧ ∀ q, H1 q = none → Q (.ref q) (upd H1 q (.lst xs.reverse))
section
variable {X : Cx}
theorem pe_lstRev {e : Expr} {te : TE} {p p2 pos pos2 : Pos} (hc : X.calm = true) (hg : Gl X "list") (hm : X.mg "list" = none) (hg2 : Gl X "reversed") (hm2 : X.mg "reversed" = none) (he : PE X e te)
    (hs : starEach [e] X.env = (false, eval e X.env) :: starEach [] X.env := by rfl)
    (hs2 : starEach [.Call (.Name "reversed" p2) [e] [] pos2] X.env = (false, eval (.Call (.Name "reversed" p2) [e] [] pos2) X.env) :: starEach [] X.env := by rfl) :
    PE X (.Call (.Name "list" p) [.Call (.Name "reversed" p2) [e] [] pos2] [] pos) (tLstRev X.K te) := by
  refine ⟨fun pins s σ H Q I h => ?_⟩
  refine Call_ (ld_blt I hg hm boot_list (PyProof.Rows.callWith_type1 (args_cons (Call_ (ld_blt I hg2 hm2 PyProof.Rows.boot_reversed (PyProof.Rows.callWith_type1 (args_cons (thn (he.run pins s σ H _ I h) fun u s1 ⟨v, H1, I1, r1, q1⟩ => args_nil ?_) hs) hs rfl))) hs2) hs2 rfl))
  obtain ⟨a, xs, ev, hq, q⟩ := q1
  subst ev
  obtain rfl : u = Value.ref a := r1
  obtain ⟨its, rv, p', hz⟩ := I1.list hq
  refine call_reversed_list p'.isList (args_nil ?_)
  have hl := p'.isList
  obtain ⟨ol, hol, _⟩ := id hl
  have hne : a ≠ s1.heap.objs.size := Nat.ne_of_lt (Heap.lt_size hol)
  have hn : its.toArray.size ≤ sizeLine := by rw [List.size_toArray, ← rv.length]; exact hz
  refine call_list_rev (s := { s1 with heap := s1.heap.push (revObj a ((its.toArray.size : Int) - 1)) }) (I1.ok.hd hc) ⟨_, Heap.get?_push_size _ rfl, rfl, rfl⟩ (hl.push _) hne hn fun h' tk acc c hk hS hi => ?_
  have k0 : ∀ b o, s1.heap.get? b = some o → h'.get? b = some o := fun b o e => hk b o (Nat.ne_of_lt (Heap.lt_size e)) (Heap.get?_push_of_some _ e)
  have hsz : s1.heap.objs.size ≤ (s1.heap.push (revObj a ((its.toArray.size : Int) - 1))).objs.size := by
    have := Heap.lt_size (show (s1.heap.push (revObj a ((its.toArray.size : Int) - 1))).get? s1.heap.objs.size = some _ from Heap.get?_push_size _ rfl)
    exact Nat.le_of_lt this
  refine ⟨.ref _, _, I1.laid (t' := tk) (o := .lst xs.reverse) k0 hsz (show ObjOk X.prog X.w _ _ _ (.lst xs.reverse) from ⟨by rw [List.length_reverse]; exact hz, acc.toList, c, vals_rev rv hi, ?_⟩), rfl, q _ (I1.hok.fresh hsz)⟩
  rw [Array.toArray_toList]
  exact hS
end
end RT
namespace Ab
open PySem PySem.Spec L2
section
variable {X : Cx} {W : XB → Hp → Prop}
def eLRev (e : Ev) : Ev := fun ρ M => (e ρ M).bind fun x M1 => match x with
  | .own k => (match M1[k]? with
    | some (some (.lst bs)) => .ok (.own M1.length) (M1 ++ [some (.lst bs.reverse)])
    | _ => .stuck)
  | _ => .stuck
theorem RBs.rev {S : Addr → Prop} {as : As} {H : Hp} {vs : List V} {bs : List B} (r : RBs S as H vs bs) : RBs S as H vs.reverse bs.reverse := by
  induction r with
  | nil => exact .nil
  | cons h t ih => rw [List.reverse_cons, List.reverse_cons]; exact ih.append (.cons h .nil)
theorem ev_lrev {e : Expr} {ee : Ev} {p p2 pos pos2 : Pos} (hc : X.calm = true) (hg : Gl X "list") (hm : X.mg "list" = none) (hg2 : Gl X "reversed") (hm2 : X.mg "reversed" = none) (he : EV X W e ee)
    (hs : starEach [e] X.env = (false, eval e X.env) :: starEach [] X.env := by rfl)
    (hs2 : starEach [.Call (.Name "reversed" p2) [e] [] pos2] X.env = (false, eval (.Call (.Name "reversed" p2) [e] [] pos2) X.env) :: starEach [] X.env := by rfl) :
    EV X W (.Call (.Name "list" p) [.Call (.Name "reversed" p2) [e] [] pos2] [] pos) (eLRev ee) :=
  pe_imp (RT.pe_lstRev hc hg hm hg2 hm2 he hs hs2) fun σ H Q h => by
    obtain ⟨G, as, ρ, M, R, h⟩ := h
    refine ⟨G, as, ρ, M, R, ?_⟩
    unfold eLRev at h
    cases q : ee ρ M with
    | stuck => rw [q] at h; exact h
    | exc x => rw [q] at h; exact h
    | ok x M1 =>
      rw [q] at h
      intro v as1 H1 R1 r1
      simp only [Res.bind_ok] at h
      split at h
      · split at h
        · rename_i k bs ek
          obtain ⟨a, zs, e1, h1, h2, h3⟩ := own_lst R1.cs ek r1
          subst e1
          refine ⟨a, zs, rfl, SqL.of h2, fun p hp => ?_⟩
          have R2 := R1.own (c := .lst bs.reverse) hp ⟨zs.reverse, upd_same, (h3.rev).mono (stp_new (G := G) hp)⟩
          have hk : (as1 ++ [some p])[M1.length]? = some (some p) := by rw [← R1.cs.len]; simp
          exact h _ _ _ R2 ⟨p, hk, rfl⟩
        · exact h.elim
      · exact h.elim
end
end Ab

namespace Ab
open PySem PySem.Spec PyProof.Rows L2
/-! ### functions by name -/
abbrev AX0 : AbsX := fun _ _ _ _ => False
section
variable (P : Program) (w : World) (K : PySem.W.Frag) (mg : Str → Option Value) (base : Heap)
structure Has (x : Str) (k : Nat) (ps : List Str) (n : Nat) (fs : Fn) : Prop where
  ex : ∃ f fd, FnOk P w K mg base CX0 k f fd ps (spF AX0 ps.length n fs) ∧ mg x = some (.ref f) ∧ PySem.W.keepIn K (.ref f) = true ∧ Binds K fd ps []
structure HasM (C : Addr) (m : Str) (k : Nat) (ps : List Str) (n : Nat) (fs : Fn) : Prop where
  ex : ∃ f fd, FnOk P w K mg base CX0 k f fd ps (spF AX0 ps.length n fs) ∧ Meth K C m f ∧ Cls K C ∧ Binds K fd ps []
structure HasK (x : Str) (C : Addr) (k : Nat) (ps : List Str) (fs : Fn) : Prop where
  ex : ∃ f fd, FnOk P w K mg base CX0 k f fd ps (spF AX0 ps.length 1 fs) ∧ mg x = some (.ref C) ∧ Mk K C f ∧ Binds K fd ps []
end
theorem spF_imp {AX : AbsX} {ar n : Nat} {f g : Fn} (h : ∀ bs M, g bs M = .stuck ∨ f bs M = g bs M) {vs : List V} {H : Hp} {Q : VK} {E : XK} (q : spF AX ar n g vs H Q E) : spF AX ar n f vs H Q E := by
  obtain ⟨h1, S, as, bs, M, h2, h3, h4, h5⟩ := q
  refine ⟨h1, S, as, bs, M, h2, h3, h4, ?_⟩
  rcases h bs M with e | e
  · rw [e] at h5; exact h5.elim
  · rw [e]; exact h5
section
variable {X : Cx} {W : XB → Hp → Prop}
theorem ev_callH {ar k n : Nat} {fs : Fn} {ps : List Str} {x : Str} {p pos : Pos} {e : Expr} {es : List Expr} {eas : Ea} (h : Has X.prog X.w X.K X.mg X.base x k ps n fs) (hr : Room k X.A) (hg : Gl X x) (ha : EA X W (e :: es) eas)
    (hdb : (x == ("__debug__" : Str)) = false := by decide) (he : starEach (e :: es) X.env = (false, eval e X.env) :: starEach es X.env := by rfl) (hpl : (backTo pos (starEach es X.env)).any (·.1) = false := by rfl) (har : ps.length = ar := by rfl) :
    EV X W (.Call (.Name x p) (e :: es) [] pos) (eApp (doCallA ar n fs) eas) := by
  subst har
  obtain ⟨f, fd, F, hm, hk, hb⟩ := h.ex
  exact ev_call F hr hg hm hk hb passF ha hdb he hpl
theorem ev_methH {ar k n : Nat} {fs : Fn} {C : Addr} {ps : List Str} {m : Str} {apos pos : Pos} {o e : Expr} {es : List Expr} {eo : Ev} {eas : Ea} {pl : Sem Bool} (h : HasM X.prog X.w X.K X.mg X.base C m k ps n fs) (hr : Room k X.A) (ho : EV X W o eo) (ha : EA X W (e :: es) eas)
    (hst : starEach (e :: es) X.env = (false, eval e X.env) :: starEach es X.env := by rfl) (hpl : (backTo pos (starEach es X.env)).any (·.1) = false := by rfl)
    (ht : eval (.Call (.Attribute o m apos) (e :: es) [] pos) X.env = (do
      let ov ← eval o X.env
      standAt apos.atName
      let (f, first) ← holding [ov] (getMethod ov m pl)
      callWith pos f first (backTo pos (starEach (e :: es) X.env)) (backToKw pos (keywordEach [] X.env))) := by rfl) (har : ps.length = ar := by rfl) : EV X W (.Call (.Attribute o m apos) (e :: es) [] pos) (eMeth C m ar n fs eo eas) := by
  subst har
  obtain ⟨f, fd, F, hm, hc, hb⟩ := h.ex
  exact ev_meth ho hc hm F hr hb passF ha hst hpl ht
theorem ev_methH0 {ar k n : Nat} {fs : Fn} {C : Addr} {ps : List Str} {m : Str} {apos pos : Pos} {o : Expr} {eo : Ev} {pl : Sem Bool} (h : HasM X.prog X.w X.K X.mg X.base C m k ps n fs) (hr : Room k X.A) (ho : EV X W o eo)
    (ht : eval (.Call (.Attribute o m apos) [] [] pos) X.env = (do
      let ov ← eval o X.env
      standAt apos.atName
      let (f, first) ← holding [ov] (getMethod ov m pl)
      callWith pos f first (backTo pos (starEach [] X.env)) (backToKw pos (keywordEach [] X.env))) := by rfl) (har : ps.length = ar := by rfl) : EV X W (.Call (.Attribute o m apos) [] [] pos) (eMeth C m ar n fs eo aNil) := by
  subst har
  obtain ⟨f, fd, F, hm, hc, hb⟩ := h.ex
  exact ev_meth0 ho hc hm F hr hb passF ht
theorem ev_makeH {ar k : Nat} {fs : Fn} {C : Addr} {ps : List Str} {x : Str} {p pos : Pos} {e : Expr} {es : List Expr} {eas : Ea} (h : HasK X.prog X.w X.K X.mg X.base x C k ps fs) (hr : Room (k + 1) X.A) (hg : Gl X x) (ha : EA X W (e :: es) eas)
    (hdb : (x == ("__debug__" : Str)) = false := by decide) (he : starEach (e :: es) X.env = (false, eval e X.env) :: starEach es X.env := by rfl) (hpl : (backTo pos (starEach es X.env)).any (·.1) = false := by rfl) (har : ps.length = ar := by rfl) :
    EV X W (.Call (.Name x p) (e :: es) [] pos) (eApp (doMake C ar fs) eas) := by
  subst har
  obtain ⟨f, fd, F, hm, hk, hb⟩ := h.ex
  exact ev_make hk F hr hg hm hb passF ha hdb he hpl
end
def vNeg (x : B) (M : Mem) : Res B := match x with
  | .dat (.int i) => .ok (.dat (.int (-i))) M
  | _ => .stuck
theorem v1_neg {W : XB → Hp → Prop} : V1 W (rU fun i => .int (-i)) vNeg := by
  intro G as H ρ M σ x v Q R r h
  unfold vNeg at h
  split at h
  · cases r
    exact ⟨_, rfl, h _ as H R (Den.int _)⟩
  · exact h.elim
def lcSc : Expr → Scope
  | .ListComp _ _ sc _ => sc
  | _ => ⟨.function, [], false, false, []⟩
def asgV : Stmt → Expr
  | .Assign _ v _ => v
  | .Return (some v) _ => v
  | _ => .Constant .none 0 ⟨0, 0, 0, 0⟩
/-- THE RULE: a def's promise from its text -/
theorem def_D {P : Program} {w : World} {K : PySem.W.Frag} {mg : Str → Option Value} {base : Heap} {x qual : Str} {params : Arguments} {body : List Stmt} {scope : Scope} {f : Addr} {fd : FuncData} {N ps : List Str} {k n : Nat} {t : Es} {fs : Fn}
    (F : FunD K x qual params body scope [] [] f fd) (S : FnScope N ps scope) (hf : ∀ bs M, fs bs M = .stuck ∨ finD n (outB (t (rho0 N.length bs) M)) = fs bs M)
    (hbody : ∀ (cdv : Value) (A : Around) (outer : List Env) (s : Shared) (H : Hp) (E : XK) (W : XB → Hp → Prop), Room k (A.deeper (envOfC qual scope s.heap.objs.size f cdv)) → ESs (cxOf CX0 P w K mg base N qual scope f cdv A outer s H E).nox W n body t) :
    FnOk P w K mg base CX0 (k + 1) f fd ps (spF AX0 ps.length n fs) :=
  F.ok S (fun vs H Q E h => h.1) fun cdv A outer s H vs Q E hr h => body_D (f := fun bs M => finD n (outB (t (rho0 N.length bs) M))) (fun _ _ => rfl) (PSs.nox (hbody cdv A outer s H E _ hr)) (spF_imp hf h)
theorem def_O {P : Program} {w : World} {K : PySem.W.Frag} {mg : Str → Option Value} {base : Heap} {x qual : Str} {params : Arguments} {body : List Stmt} {scope : Scope} {f : Addr} {fd : FuncData} {N ps : List Str} {k n : Nat} {t : Es} {fs : Fn}
    (F : FunD K x qual params body scope [] [] f fd) (S : FnScope N ps scope) (hf : ∀ bs M, fs bs M = .stuck ∨ finO n (outB (t (rho0 N.length bs) M)) = fs bs M)
    (hbody : ∀ (cdv : Value) (A : Around) (outer : List Env) (s : Shared) (H : Hp) (E : XK) (W : XB → Hp → Prop), Room k (A.deeper (envOfC qual scope s.heap.objs.size f cdv)) → ESs (cxOf CX0 P w K mg base N qual scope f cdv A outer s H E).nox W n body t) :
    FnOk P w K mg base CX0 (k + 1) f fd ps (spF AX0 ps.length n fs) :=
  F.ok S (fun vs H Q E h => h.1) fun cdv A outer s H vs Q E hr h => body_O (f := fun bs M => finO n (outB (t (rho0 N.length bs) M))) (fun _ _ => rfl) (PSs.nox (hbody cdv A outer s H E _ hr)) (spF_imp hf h)
end Ab

/-! Dicts whose keys are numbers or texts. -/
namespace Ab
open PySem PySem.Spec L2
open PyProof.Rows hiding St
/-! ### keys -/
def keyK : B → Option Key
  | .dat (.int i) => some (.inl i)
  | .dat (.str x) => some (.inr x)
  | _ => none
theorem keyK_ok {S : Addr → Prop} {as : As} {H : Hp} {b : B} {k : Key} {v : V} (e : keyK b = some k) (r : RB S as H v b) : v = kV k := by
  unfold keyK at e
  split at e
  · cases e; cases r; rfl
  · cases e; cases r; rfl
  · cases e
def lkK {α : Type} (kvs : List (Key × α)) (k : Key) : Option α := (kvs.find? fun p => decide (p.1 = k)).map (·.2)
def ptK {α : Type} (kvs : List (Key × α)) (k : Key) (v : α) : List (Key × α) := if (lkK kvs k).isSome = true then kvs.map (fun p => if p.1 = k then (p.1, v) else p) else kvs ++ [(k, v)]
theorem lkK_zip {α : Type} {R : V → α → Prop} (k : Key) : ∀ {ks : List Key} {vs : List V} {xs : List α}, ks.length = xs.length → Paired R vs xs → (valV (ks.zip vs) k).isSome = (lkK (ks.zip xs) k).isSome ∧ ∀ x, lkK (ks.zip xs) k = some x → ∃ v, valV (ks.zip vs) k = some v ∧ R v x
  | [], _, _, _, _ => ⟨by simp [valV, lkK], fun x h => by simp [lkK] at h⟩
  | c :: ks, [], [], hl, _ => by cases hl
  | c :: ks, v :: vs, x :: xs, hl, .cons r t => by
    obtain ⟨h1, h2⟩ := lkK_zip k (ks := ks) (Nat.succ.inj hl) t
    rw [List.zip_cons_cons, List.zip_cons_cons]
    by_cases hk : c = k
    · refine ⟨by simp [valV, lkK, List.find?_cons, hk], fun y h => ⟨v, by simp [valV, List.find?_cons, hk], ?_⟩⟩
      have : y = x := by simpa [lkK, List.find?_cons, hk] using h.symm
      rw [this]
      exact r
    · have e1 : valV ((c, v) :: ks.zip vs) k = valV (ks.zip vs) k := by simp only [valV, List.find?_cons, hk, decide_false]
      have e2 : lkK ((c, x) :: ks.zip xs) k = lkK (ks.zip xs) k := by simp only [lkK, List.find?_cons, hk, decide_false]
      rw [e1, e2]
      exact ⟨h1, h2⟩
theorem zipK_self {α : Type} (l : List (Key × α)) : (l.map (·.1)).zip (l.map (·.2)) = l := zip_self l
/-- a dict: its address, what it holds -/
def asK (x : B) (M : Mem) : Option (List (Key × B)) := match x with
  | .dat (.kd kvs) => some (kvs.map fun p => (p.1, .dat p.2))
  | .own k => (match M[k]? with
    | some (some (.dk kvs)) => some kvs
    | _ => none)
  | _ => none
theorem asK_ok {S : Addr → Prop} {as : As} {H : Hp} {M : Mem} (C : Cells S as H M) {x : B} {v : V} {kvs : List (Key × B)} (e : asK x M = some kvs) (r : RB S as H v x) : ∃ a vs, v = .ref a ∧ H a = some (.dK ((kvs.map (·.1)).zip vs)) ∧ RBs S as H vs (kvs.map (·.2)) := by
  unfold asK at e
  split at e
  · cases e
    cases r with
    | kd h1 n hl d =>
      rename_i a ks xs ds
      refine ⟨a, xs, rfl, ?_, ?_⟩
      · rw [List.map_map]
        have e1 : (ks.zip ds).map ((fun p : Key × B => p.1) ∘ fun p => (p.1, B.dat p.2)) = ks := (List.map_congr_left fun p _ => rfl).trans (zip_fst ks ds hl)
        rw [e1]
        exact h1
      · rw [List.map_map]
        have e2 : (ks.zip ds).map ((fun p : Key × B => p.2) ∘ fun p => (p.1, B.dat p.2)) = ds.map .dat := by
          rw [← zip_snd ks ds hl, List.map_map, zip_snd ks ds hl]
          rfl
        rw [e2]
        exact rbs_dat d
  · rename_i k
    split at e
    · rename_i kvs' q
      cases e
      obtain ⟨a, h1, vs, h2, h3⟩ := C.cell k _ q
      obtain ⟨a', h4, rfl⟩ := r
      rw [h1] at h4
      cases h4
      exact ⟨a, vs, rfl, h2, h3⟩
    · cases e
  · cases e
section
variable {X : Cx} {W : XB → Hp → Prop}
/-! ### in, [] -/
def rInK (neg : Bool) : R2 := fun y x H Q => ∃ a o, x = .ref a ∧ DGet H a y o ∧ Q (.bl (if neg then !o.isSome else o.isSome)) H
theorem op_inK (hu : X.A.units + 64 < cLine) : OpR X (compareOp .In) (rInK false) := by
  intro pins s σ H x y v u Q I rx ry h
  obtain ⟨a, o, rfl, g, q⟩ := h
  cases ry
  exact d_in (by omega) I g rx fun s' I' => ⟨.bl _, H, I', rfl, q⟩
theorem op_notInK (hu : X.A.units + 64 < cLine) : OpR X (compareOp .NotIn) (rInK true) := by
  intro pins s σ H x y v u Q I rx ry h
  obtain ⟨a, o, rfl, g, q⟩ := h
  cases ry
  exact d_notIn (by omega) I g rx fun s' I' => ⟨.bl _, H, I', rfl, q⟩
def vInK (neg : Bool) (x y : B) (M : Mem) : Res B := match keyK x, asK y M with
  | some k, some kvs => .ok (.dat (.bl (if neg then !(lkK kvs k).isSome else (lkK kvs k).isSome))) M
  | _, _ => .stuck
theorem v2_inK {neg : Bool} : V2 W (rInK neg) (vInK neg) := by
  intro G as H ρ M σ x y v u Q R r1 r2 h
  unfold vInK at h
  split at h
  · rename_i k kvs ek ea
    obtain ⟨a, vs, rfl, h1, h2⟩ := asK_ok R.cs ea r2
    have hv := keyK_ok ek r1
    subst hv
    refine ⟨a, _, rfl, DGet.k h1, ?_⟩
    obtain ⟨e1, _⟩ := lkK_zip k (R := RB G.S as H) (ks := kvs.map (·.1)) (xs := kvs.map (·.2)) (by rw [List.length_map, List.length_map]) h2
    rw [zipK_self] at e1
    rw [e1]
    exact h _ as H R (Den.bl _)
  · exact h.elim
def rIxK : R2 := fun x y H Q => ∃ a kvs k v, x = .ref a ∧ H a = some (.dK kvs) ∧ y = kV k ∧ valV kvs k = some v ∧ Q v H
theorem ix_K (hu : X.A.units + 64 < cLine) : IxR X rIxK := by
  intro value slice pins s σ H x y v u Q I rx ry h hs'
  obtain ⟨a, kvs, k, z, rfl, e, rfl, l, q⟩ := h
  cases rx
  have g : DGet H a (kV k) (valV kvs k) := DGet.k e
  obtain ⟨_, hd, vs, rel, dd⟩ := dk_rd I.hok (.inl e)
  obtain ⟨w', hw, rw'⟩ := RelO.some_of (v := z) (o := valueAt vs k) (by rw [← l]; exact rel.val k)
  exact subscriptTail_builtinR (x := w') (dict_typeIs I g) PySem.F.slot_dict_getitem.lookup (wpAny_getItem_of (kV_is ry) dd.mapOf hw ⟨rfl, z, H, I.tok _, rw', q⟩) hs'
def vIxK (x y : B) (M : Mem) : Res B := match asK x M, keyK y with
  | some kvs, some k => (match lkK kvs k with
    | some b => .ok b M
    | none => .stuck)
  | _, _ => .stuck
theorem v2_ixK : V2 W rIxK vIxK := by
  intro G as H ρ M σ x y v u Q R r1 r2 h
  unfold vIxK at h
  split at h
  · rename_i kvs k ea ek
    split at h
    · rename_i b eb
      obtain ⟨a, vs, rfl, h1, h2⟩ := asK_ok R.cs ea r1
      have hv := keyK_ok ek r2
      subst hv
      obtain ⟨_, e2⟩ := lkK_zip k (R := RB G.S as H) (ks := kvs.map (·.1)) (xs := kvs.map (·.2)) (by rw [List.length_map, List.length_map]) h2
      rw [zipK_self] at e2
      obtain ⟨z, ez, rz⟩ := e2 b eb
      exact ⟨a, _, k, z, rfl, h1, rfl, ez, h z as H R rz⟩
    · exact h.elim
  · exact h.elim
/-! ### a new one; a value is stored -/
def eK0 : Ev := fun _ M => .ok (.own M.length) (M ++ [some (.dk [])])
theorem ev_k0 {pos : Pos} : EV X W (.Dict [] [] pos) eK0 := pe_imp pe_dnewK fun σ H Q h => by
  obtain ⟨G, as, ρ, M, R, h⟩ := h
  intro p hp
  refine h (.ref p) (as ++ [some p]) _ (R.own hp ⟨[], upd_same, .nil⟩) ⟨p, ?_, rfl⟩
  rw [← R.cs.len]
  simp
theorem putK_zip {S : Addr → Prop} {as : As} {H : Hp} {k : Key} {v : V} {b : B} (rv : RB S as H v b) {kvs : List (Key × B)} {vs : List V} (r : RBs S as H vs (kvs.map (·.2))) : ∃ ws, putK ((kvs.map (·.1)).zip vs) k v = ((ptK kvs k b).map (·.1)).zip ws ∧ RBs S as H ws ((ptK kvs k b).map (·.2)) := by
  obtain ⟨e1, e3⟩ := lkK_zip k (R := RB S as H) (ks := kvs.map (·.1)) (xs := kvs.map (·.2)) (by rw [List.length_map, List.length_map]) r
  rw [zipK_self] at e1
  have ea : (((kvs.map (·.1)).zip vs).any fun kv => decide (kv.1 = k)) = (lkK kvs k).isSome := by rw [valV_any, e1]
  unfold putK ptK
  rw [ea]
  by_cases hs : (lkK kvs k).isSome = true
  · rw [if_pos hs, if_pos hs]
    clear ea e1 e3 hs
    induction kvs generalizing vs with
    | nil =>
      cases r
      exact ⟨[], rfl, .nil⟩
    | cons p kvs ih =>
      cases r with
      | cons r t =>
        rename_i u us
        obtain ⟨ws, q1, q2⟩ := ih t
        rw [List.map_cons, List.zip_cons_cons, List.map_cons, List.map_cons, q1]
        by_cases hk : p.1 = k
        · rw [if_pos hk, if_pos hk]
          exact ⟨v :: ws, rfl, .cons rv q2⟩
        · rw [if_neg hk, if_neg hk]
          exact ⟨u :: ws, rfl, .cons r q2⟩
  · rw [if_neg hs, if_neg hs]
    refine ⟨vs ++ [v], ?_, ?_⟩
    · rw [List.map_append, List.map_cons, List.map_nil, List.zip_append (by rw [List.length_map]; have := r.length; rw [List.length_map] at this; exact this.symm)]
      rfl
    · rw [List.map_append]
      exact r.append (.cons rv .nil)
def sSubK (o i e : Ev) : Es := fun ρ M => (e ρ M).bind fun b M1 => (o ρ M1).bind fun x M2 => (i ρ M2).bind fun y M3 => match x with
  | .own k => (match M3[k]?, keyK y with
    | some (some (.dk kvs)), some key => if kvs.length < SZ then .ok (.nx ρ) (M3.set k (some (.dk (ptK kvs key b)))) else .stuck
    | _, _ => .stuck)
  | _ => .stuck
theorem es_subK {n : Nat} {o i e : Expr} {eo ei ee : Ev} {pos pos' : Pos} (hu : X.A.units + 64 < cLine) (he : EV X W e ee) (ho : EV X W o eo) (hi : EV X W i ei) (hs : swapsWith e (some (.Subscript o i pos')) pos.line X.env = pure false := by rfl) : ES X W n (.Assign [.Subscript o i pos'] e pos) (sSubK eo ei ee) :=
  ps_imp (ps_dput (by omega) ho hi he hs) fun D σ H h => by
    obtain ⟨G, as, ρ, M, hg, R, h⟩ := h
    refine ⟨G, as, ρ, M, R, ?_⟩
    unfold sSubK at h
    cases q : ee ρ M with
    | stuck => rw [q] at h; exact h
    | exc x => rw [q] at h; exact h
    | ok b M1 =>
      rw [q] at h
      intro v as1 H1 R1 r1
      refine ⟨G.push v b, as1, ρ, M1, R1.push r1, ?_⟩
      simp only [Res.bind_ok] at h
      cases q2 : eo ρ M1 with
      | stuck => rw [q2] at h; exact h
      | exc x => rw [q2] at h; exact h
      | ok x M2 =>
        rw [q2] at h
        intro u as2 H2 R2 r2
        refine ⟨(G.push v b).push u x, as2, ρ, M2, R2.push r2, ?_⟩
        simp only [Res.bind_ok] at h
        cases q3 : ei ρ M2 with
        | stuck => rw [q3] at h; exact h
        | exc x => rw [q3] at h; exact h
        | ok y M3 =>
          rw [q3] at h
          intro w as3 H3 R3 r3
          have t1 := R3.top
          have R4 := R3.pop
          have t2 := R4.top
          have R5 := R4.pop
          simp only [Res.bind_ok] at h
          split at h
          · rename_i k
            split at h
            · rename_i kvs key ec ek
              split at h
              · rename_i hz
                obtain ⟨a, h1, vs, h2, h3⟩ := R5.cs.cell k _ ec
                obtain ⟨a', h4, rfl⟩ := t1
                rw [h1] at h4
                cases h4
                have hv := keyK_ok ek r3
                subst hv
                obtain ⟨ws, e1, e2⟩ := putK_zip (k := key) t2 h3
                refine ⟨a, _, rfl, DPut.k h2 ?_, ?_⟩
                · rw [List.length_zip, List.length_map, h3.length, List.length_map, Nat.min_self, SZ_eq]
                  exact hz
                · rw [e1]
                  have s := stp_own (G := G) (H := H3) (o := .dK (((ptK kvs key b).map (·.1)).zip ws)) (List.mem_of_getElem? h1)
                  exact h σ as3 _ (R5.store h1 ⟨ws, upd_same, e2.mono s⟩)
              · exact h.elim
            · exact h.elim
          · exact h.elim
/-! ### list.extend -/
def lsB (x : B) (M : Mem) : Option (List B) := match x with
  | .dat (.lst ds) => some (ds.map .dat)
  | .own k => (match M[k]? with
    | some (some (.lst bs)) => some bs
    | _ => none)
  | _ => none
theorem lsB_ok {S : Addr → Prop} {as : As} {H : Hp} {M : Mem} (C : Cells S as H M) {x : B} {v : V} {bs : List B} (e : lsB x M = some bs) (r : RB S as H v x) : ∃ a xs, v = .ref a ∧ H a = some (.lst xs) ∧ RBs S as H xs bs := by
  unfold lsB at e
  split at e
  · cases e
    cases r with
    | lst h1 n d => exact ⟨_, _, rfl, h1, rbs_dat d⟩
  · split at e
    · rename_i k _ bs' q
      cases e
      obtain ⟨a, xs, rfl, h1, h2, h3⟩ := own_lst C q r
      exact ⟨a, xs, rfl, h2, h3⟩
    · cases e
  · cases e
def vExt (x : B) (ys : List B) (M : Mem) : Res B := match x, ys with
  | .own k, [y] => (match M[k]?, lsB y M with
    | some (some (.lst bs)), some cs => if bs.length + cs.length ≤ SZ then .ok (.dat .non) (M.set k (some (.lst (bs ++ cs)))) else .stuck
    | _, _ => .stuck)
  | _, _ => .stuck
theorem vm_ext : VM W rExtend vExt := by
  intro G as H ρ M σ x v xs vs Q R r rs h
  unfold vExt at h
  split at h
  · rename_i k y
    split at h
    · rename_i bs cs e ec
      split at h
      · rename_i hz
        obtain ⟨a, zs, rfl, h1, h2, h3⟩ := own_lst R.cs e r
        cases rs with
        | cons r1 t =>
          cases t
          obtain ⟨b, us, rfl, h4, h5⟩ := lsB_ok R.cs ec r1
          refine ⟨a, b, zs, us, rfl, rfl, h2, h4, by rw [h3.length, h5.length, SZ_eq]; exact hz, ?_⟩
          have s := stp_own (G := G) (H := H) (o := .lst (zs ++ us)) (List.mem_of_getElem? h1)
          exact h _ as _ (R.store h1 ⟨_, upd_same, (h3.append h5).mono s⟩) Den.non
      · exact h.elim
    · exact h.elim
  · exact h.elim
end
end Ab

/-! for over a dict of one's own, the dict locked meanwhile. -/
namespace Ab
open PySem PySem.Spec L2
open PyProof.Rows hiding St
/-- the keys of the locked dict at d: the keys' own objects -/
def Itn (w : World) (d : Addr) (o : Obj) (ks : List (NestedKey × Addr × V)) : It :=
  ⟨fun i H => H d = some (.frz o (NdO w d ks)) ∧ i < ks.length, fun i H x H' => H' = H ∧ ∃ k q v, ks[i]? = some (k, q, v) ∧ x = .ref q, fun i H => H d = some (.frz o (NdO w d ks)) ∧ ks.length ≤ i⟩
section
variable {X : Cx} {pins : List (Addr × Obj)} {σ : L2.St} {H : Hp} {s : Shared}
theorem frzN {w : World} {d : Addr} {o : Obj} {ks : List (NestedKey × Addr × V)} (I : Inv X pins σ H s) (h : H d = some (.frz o (NdO w d ks))) :
    (d == sysModules) = false ∧ s.heap.get? d = some o ∧ o.ExactDict ∧ ∃ (es : Array DictEntry) (ep : Nat), o.data = .dict es ep ∧ es.size = ks.length ∧
      ∀ (i : Nat) (k : NestedKey) (q : Addr) (v : V), ks[i]? = some (k, q, v) → ∃ en : DictEntry, es[i]? = some en ∧ en.key = .ref q := by
  obtain ⟨hd, ⟨hs, xs, pr, o', es, ep, ho, hx, hdt, he⟩, _⟩ := I.hok d _ h
  rw [hd] at ho
  cases ho
  have l1 : es.size = xs.length := by rw [← Array.length_toList, he, List.length_map]
  have l2 : ks.length = xs.length := Paired.length pr
  refine ⟨hs, hd, hx, es, ep, hdt, by omega, fun i k q v e => ?_⟩
  obtain ⟨b, hb, e1, e2, _⟩ := paired_get pr e
  have g : es.toList[i]? = some ⟨b.1.hash w, .ref b.2.1, b.2.2⟩ := by rw [he, List.getElem?_map, hb]; rfl
  rw [Array.getElem?_toList] at g
  exact ⟨_, g, by rw [← e2]⟩
end
section
variable {P : Program} {w w' : World} {K : PySem.W.Frag} {tg : Expr} {d : Addr} {o : Obj} {es : Array DictEntry} {ep : Nat}
theorem turn_keysN {ks : List (NestedKey × Addr × V)} (it : Addr) (hod : o.data = .dict es ep) : Turn P w K tg (Itn w' d o ks) [it] it (fun i h => h.IsKeyIter it d i ks.length ep) where
  mem := by simp
  obj := fun i h st b hb => by
    have e : b = it := by simpa using hb
    subst e
    obtain ⟨oi, e, c, dd⟩ := st
    exact ⟨oi, e, fun v z => by rw [dd] at z; cases z⟩
  keep := fun i h h' st k => st.at fun oi e => k it (by simp) oi e
  item := by
    intro X hP hw hK hc i pins s σ H E I hf st hg
    subst hP hw hK
    obtain ⟨hd, hi⟩ := hg
    obtain ⟨f0, f1, f2, f3, f4, f5⟩ := hf it (by simp)
    obtain ⟨hs, hgd, hx, es', ep', hdt, hsz, ent⟩ := frzN I hd
    obtain ⟨rfl, rfl⟩ := dict_ep hod hdt
    obtain ⟨⟨k, q, v⟩, hkv⟩ : ∃ p, ks[i]? = some p := ⟨ks[i], List.getElem?_eq_getElem hi⟩
    obtain ⟨en, hen, hkey⟩ := ent i k q v hkv
    refine next_key_item st hgd hdt hsz hen fun h' st' sb => ?_
    have I1 : Inv X pins σ H { s with heap := h' } := I.turned (t' := s.toks) (fun b ob hb e => (sb.2 b hb).trans e) f0 f1 f3 f4 f5
    obtain ⟨oi, e, c, dd⟩ := id st'
    exact ⟨en.key, rfl, go_of (s := { s with heap := h' }) e c dd (by decide) ⟨.ref q, H, I1, hkey, ⟨rfl, k, q, v, hkv, rfl⟩, st', fun b hb => (hf b hb).1⟩⟩
  done := by
    intro X hP hw hK hc i pins s σ H E I hf st hg
    subst hP hw hK
    obtain ⟨hd, hi⟩ := hg
    obtain ⟨f0, f1, f2, f3, f4, f5⟩ := hf it (by simp)
    obtain ⟨hs, hgd, hx, es', ep', hdt, hsz, ent⟩ := frzN I hd
    obtain ⟨rfl, rfl⟩ := dict_ep hod hdt
    exact next_key_end (I.ok.hd hc) st hgd hdt hsz hi fun h' eb => ⟨rfl, I.turned (t' := s.toks) (fun b ob hb e => eb b ob hb e) f0 f1 f3 f4 f5⟩
  self := fun A i s Q E st h => by
    refine wpAny_pyIter_slot st.typeIs F.slot_dict_keyiterator_iter (wpAny_call_entry F.slot_dict_keyiterator_iter st.typeIs F.entry_dict_keyiterator_iter ?_ (F.args_dict_keyiterator_iter_1 _))
    show wpAny _ _ (ret (.ref it)) _ _ s
    exact wpAny_pure ⟨_, rfl, "dict_keyiterator", _, st.typeIs, F.slot_dict_keyiterator_next.lookup, h⟩
end
def iKeysN (td : TE) : TI := fun σ H R => td σ H fun x H1 => ∃ d o, x = .ref d ∧ ((∃ kvs, H1 d = some (.frz o (.dK kvs)) ∧ R (Itk d o kvs) H1) ∨ ∃ w ks, H1 d = some (.frz o (NdO w d ks)) ∧ R (Itn w d o ks) H1)
section
variable {X : Cx} {tg e : Expr} {td : TE}
theorem pi_keysN (he : PE X e td) : PI X tg e (iKeysN td) := by
  refine ⟨fun pins s σ H R I h => ?_⟩
  refine thn (he.run pins s σ H _ I h) fun u s1 ⟨x, H1, I1, rx, d, o, ex, q⟩ => ?_
  subst ex
  obtain rfl : u = Value.ref d := rx
  rcases q with ⟨kvs, hd, q⟩ | ⟨w, ks, hd, q⟩
  · obtain ⟨hs, hgd, hx, es, ep, vs, hdt, hsz, kv, hm⟩ := I1.frzK hd
    refine iter_keys hs hgd hx hdt (pi_one (tk := s1.toks) I1 _ (turn_keys _ hdt) ⟨_, Heap.get?_push_size _ rfl, rfl, ?_⟩ q)
    rw [hsz] <;> rfl
  · obtain ⟨hs, hgd, hx, es, ep, hdt, hsz, ent⟩ := frzN I1 hd
    refine iter_keys hs hgd hx hdt (pi_one (tk := s1.toks) I1 _ (turn_keysN _ hdt) ⟨_, Heap.get?_push_size _ rfl, rfl, ?_⟩ q)
    rw [hsz] <;> rfl
end
theorem walk_keysN {w : World} {d : Addr} {o : Obj} {ks : List (NestedKey × Addr × V)} : Walk (Itn w d o ks) ks.length (fun H => H d = some (.frz o (NdO w d ks))) (fun i H x H' => H' = H ∧ ∃ k q v, ks[i]? = some (k, q, v) ∧ x = .ref q) :=
  ⟨fun _ _ hi q => ⟨q, hi⟩, fun _ q => ⟨q, Nat.le_refl _⟩, fun _ _ _ _ _ _ y => y⟩
/-! ### the reading -/
def keyDk : Key → D
  | .inl i => .int i
  | .inr x => .str x
/-- what a loop over a cell's dict is given -/
def keysC : Cell → Option (List D)
  | .dct _ kvs => some (kvs.map fun p => toD p.1)
  | .dk kvs => some (kvs.map fun p => keyDk p.1)
  | _ => none
open Classical in
noncomputable def lockR (k : Nat) (c : Cell) (f : Addr → Obj → HO → Res Out) : Res Out :=
  if h : ∃ p : Rho × Mem, k < p.2.length ∧ ∀ ad od u, f ad od u = .ok (.nx p.1) (p.2.set k (some (.lk ad od u c))) then .ok (.nx h.choose.1) (h.choose.2.set k (some c)) else .stuck
theorem lockR_ok {k : Nat} {c : Cell} {f : Addr → Obj → HO → Res Out} {ρ : Rho} {M : Mem} (hk : k < M.length) (h : ∀ ad od u, f ad od u = .ok (.nx ρ) (M.set k (some (.lk ad od u c)))) : lockR k c f = .ok (.nx ρ) (M.set k (some c)) := by
  have hx : ∃ p : Rho × Mem, k < p.2.length ∧ ∀ ad od u, f ad od u = .ok (.nx p.1) (p.2.set k (some (.lk ad od u c))) := ⟨(ρ, M), hk, h⟩
  unfold lockR
  rw [dif_pos hx]
  have hc := (hx.choose_spec.2 0 default (.tup [])).symm.trans (h 0 default (.tup []))
  injection hc with h1 h2
  injection h1 with h3
  have h4 := congrArg (fun N : Mem => N.set k (some c)) h2
  simp only [List.set_set] at h4
  rw [h3, h4]
open Classical in
/-- a loop that leaves a cell as it is -/
noncomputable def forLk (k : Nat) (c : Cell) (g : Tg) (s : Es) : List B → Es
  | [], ρ, M => .ok (.nx ρ) M
  | b :: bs, ρ, M => match g b ρ with
    | none => .stuck
    | some ρ1 => (s ρ1 M).bind fun o M1 => if M1[k]? = some (some c) then (match o with
      | .nx ρ2 => forLk k c g s bs ρ2 M1
      | .ct ρ2 => forLk k c g s bs ρ2 M1
      | _ => .stuck) else .stuck
theorem forLk_fold {α σ : Type} {k : Nat} {c : Cell} {g : Tg} {s : Es} (β : α → B) (R : Nat → σ → Rho → Mem → Prop) (F : σ → α → σ) (hk : ∀ i st ρ M, R i st ρ M → M[k]? = some (some c)) : ∀ (xs : List α) (i : Nat) (st : σ) (ρ : Rho) (M : Mem), R i st ρ M →
    (∀ x ∈ xs, ∀ j st ρ M, j < i + xs.length → R j st ρ M → ∃ ρ1 ρ2 M2, g (β x) ρ = some ρ1 ∧ s ρ1 M = .ok (.nx ρ2) M2 ∧ R (j + 1) (F st x) ρ2 M2) →
    ∃ ρ2 M2, forLk k c g s (xs.map β) ρ M = .ok (.nx ρ2) M2 ∧ R (i + xs.length) (xs.foldl F st) ρ2 M2
  | [], i, st, ρ, M, h0, _ => ⟨ρ, M, rfl, h0⟩
  | x :: xs, i, st, ρ, M, h0, h => by
    obtain ⟨ρ1, ρ2, M2, q1, q2, q3⟩ := h x List.mem_cons_self i st ρ M (by rw [List.length_cons]; omega) h0
    obtain ⟨ρ3, M3, q4, q5⟩ := forLk_fold β R F hk xs (i + 1) (F st x) ρ2 M2 q3 fun y hy j st ρ M hj => h y (List.mem_cons_of_mem _ hy) j st ρ M (by rw [List.length_cons]; omega)
    have e : i + 1 + xs.length = i + (x :: xs).length := by rw [List.length_cons]; omega
    rw [e] at q5
    refine ⟨ρ3, M3, ?_, q5⟩
    rw [List.map_cons]
    unfold forLk
    rw [q1]
    dsimp only
    rw [q2]
    simp only [Res.bind_ok]
    rw [if_pos (hk _ _ _ _ q3)]
    exact q4
noncomputable def sForD (i : Nat) (g : Tg) (s : Es) : Es := fun ρ M => match ρ[i]? with
  | some (some (.own k)) => (match M[k]? with
    | some (some c) => (match keysC c with
      | some ds => lockR k c fun ad od u => forLk k (.lk ad od u c) g s (ds.map .dat) ρ (M.set k (some (.lk ad od u c)))
      | none => .stuck)
    | _ => .stuck)
  | _ => .stuck
theorem keyDk_den {H : Hp} {T : Addr → Prop} : ∀ k : Key, Den H T (kV k) (keyDk k)
  | .inl i => .int i
  | .inr x => .str x
section
variable {X : Cx} {W : XB → Hp → Prop} {n : Nat}
theorem rep_in {G : Gh} {as : As} {H : Hp} {ρ : Rho} {M : Mem} {σ : L2.St} {k : Nat} {c : Cell} (R : Rep G as H ρ (M.set k (some c)) σ) (hk : k < M.length) : ∃ a, as[k]? = some (some a) ∧ HC G.S as H a c := R.cs.cell k c (List.getElem?_set_self hk)
/-- what a loop over a dict comes to -/
theorem lock_end {G : Gh} {as : As} {H : Hp} {ρ : Rho} {M : Mem} {σ : L2.St} {k : Nat} {c : Cell} {ad : Addr} {od : Obj} {u : HO} (R : Rep G as H ρ (M.set k (some (.lk ad od u c))) σ) (hk : k < M.length) : H ad = some (.frz od u) ∧ Rep G as (upd H ad u) ρ (M.set k (some c)) σ := by
  obtain ⟨a, h1, e, h2, h3⟩ := rep_in R hk
  subst e
  refine ⟨h2, ?_⟩
  have s := stp_own (G := G) (H := H) (o := u) (List.mem_of_getElem? h1)
  have q := HCo.map (a := a) (p := fun _ => true) (g := id) (fun v b _ r => RB.mono s r) s.hk (allC_true c) h3
  rw [mapC_id] at q
  have q2 : HC G.S as (upd H a u) a c := by
    unfold HC
    rw [upd_same]
    exact q
  have r := R.store h1 q2
  rw [List.set_set] at r
  exact r
theorem lock_start {G : Gh} {as : As} {H : Hp} {ρ : Rho} {M : Mem} {σ : L2.St} {k : Nat} {c : Cell} {a : Addr} {od : Obj} {u : HO} (R : Rep G as H ρ M σ) (ea : as[k]? = some (some a)) (hu : H a = some u) (hc : HC G.S as H a c) : Rep G as (upd H a (.frz od u)) ρ (M.set k (some (.lk a od u c))) σ := by
  have s := stp_own (G := G) (H := H) (o := .frz od u) (List.mem_of_getElem? ea)
  have q := HCo.map (a := a) (p := fun _ => true) (g := id) (fun v b _ r => RB.mono s r) s.hk (allC_true c) hc
  rw [mapC_id, hu] at q
  refine R.store ea ?_
  unfold HC
  rw [upd_same]
  exact ⟨rfl, rfl, q⟩
/-- the turns over the locked dict -/
theorem lock_turns {G : Gh} {as : As} {H : Hp} {ρ ρ2 : Rho} {M M2 : Mem} {σ : L2.St} {k : Nat} {c : Cell} {a : Addr} {od : Obj} {u : HO} {g : Tg} {s : Es} {D : Ends} {bs : List B} {vs : List V} {J : It} {Y : Nat → Hp → V → Hp → Prop}
    (hg : G.ow.length = n ∧ ∀ p ∈ G.tmp, isD p.2 = true) (R : Rep G as (upd H a (.frz od u)) ρ (M.set k (some (.lk a od u c))) σ) (hk : k < M.length) (hk2 : k < M2.length) (hD : ∀ b ∈ bs, isD b = true) (rs : RBs G.S as (upd H a (.frz od u)) vs bs)
    (hr : forLk k (.lk a od u c) g s bs ρ (M.set k (some (.lk a od u c))) = .ok (.nx ρ2) (M2.set k (some (.lk a od u c)))) (h : PoS G W D (.ok (.nx ρ2) (M2.set k (some c))))
    (w : Walk J vs.length (fun H => H a = some (.frz od u)) Y) (hY : ∀ i H x H', i < vs.length → Y i H x H' → H' = H ∧ vs[i]? = some x) (D' : Ends) (hD' : D' = ⟨fun σ' H' => H' a = some (.frz od u) ∧ D.nx σ' (upd H' a u), fun v H' => H' a = some (.frz od u) ∧ D.rt v (upd H' a u), fun σ' H' => H' a = some (.frz od u) ∧ D.bk σ' (upd H' a u), fun σ' H' => H' a = some (.frz od u) ∧ D.ct σ' (upd H' a u)⟩) :
    ∃ Wt : Nat → Nat → L2.St → Hp → Prop, (∃ m, Wt 0 m σ (upd H a (.frz od u))) ∧ ∀ i m σ H, Wt i m σ H →
      (J.stop i H ∧ D'.nx σ H) ∨ (J.go i H ∧ ∃ N : L2.St → Hp → Prop, (∀ σ' H', N σ' H' → ∃ m', m' < m ∧ Wt (i + 1) m' σ' H') ∧ ∀ x H', J.yld i H x H' → cG g x σ H' fun σ2 H2 => cS W n s { D' with nx := N, ct := N, bk := D'.nx } σ2 H2) := by
  let lc : Cell := .lk a od u c
  have hlen : vs.length = bs.length := rs.length
  let G2 := G.pushs (vs.zip bs)
  have R2 : Rep G2 as (upd H a (.frz od u)) ρ (M.set k (some lc)) σ := R.pushs (rbs_zip rs)
  have hg2 : G2.ow.length = n ∧ ∀ p ∈ G2.tmp, isD p.2 = true := ⟨hg.1, fun p hp => (List.mem_append.mp hp).elim (zip_isD hD p) (hg.2 p)⟩
  let Pv : Nat → L2.St → Hp → Prop := fun i σ H => ∃ as ρ M, Rep G2 as H ρ M σ ∧ M[k]? = some (some lc) ∧ forLk k lc g s (bs.drop i) ρ M = .ok (.nx ρ2) (M2.set k (some lc))
  refine for_it w Pv ⟨as, ρ, M.set k (some lc), R2, List.getElem?_set_self hk, by rw [List.drop_zero]; exact hr⟩ (fun i σ H hi p => ?_) (fun i x σ H H' hi p y => ?_) (fun σ H p => ?_)
  · obtain ⟨as, ρ, M, R, e, _⟩ := p
    obtain ⟨a', h1, e', h2, _⟩ := R.cs.cell k lc e
    subst e'
    exact h2
  · obtain ⟨rfl, ex⟩ := hY i H x H' hi y
    obtain ⟨as, ρ, M, R, e, r⟩ := p
    have hib : i < bs.length := by omega
    have eb : bs[i]? = some bs[i] := List.getElem?_eq_getElem hib
    have hm : (x, bs[i]) ∈ G2.tmp := List.mem_append_left _ (List.mem_of_getElem? (i := i) (by rw [List.getElem?_zip_eq_some]; exact ⟨ex, eb⟩))
    rw [List.drop_eq_getElem_cons hib] at r
    unfold forLk at r
    split at r
    · cases r
    · rename_i ρ1 eg
      refine ⟨G2, as, ρ, M, bs[i], ρ1, R, R.tp _ hm, eg, fun σ' R' => ⟨G2, as, ρ1, M, hg2, R', ?_⟩⟩
      cases q : s ρ1 M with
      | stuck => rw [q] at r; cases r
      | exc z => rw [q] at r; cases r
      | ok o M1 =>
        rw [q] at r
        simp only [Res.bind_ok] at r
        split at r
        · rename_i ek
          cases o with
          | nx ρ3 => exact fun σ2 as2 H2 R3 => ⟨as2, ρ3, M1, R3, ek, r⟩
          | ct ρ3 => exact fun σ2 as2 H2 R3 => ⟨as2, ρ3, M1, R3, ek, r⟩
          | brk ρ3 => cases r
          | ret b => cases r
        · cases r
  · obtain ⟨as, ρ, M, R, e, r⟩ := p
    rw [hlen, List.drop_length] at r
    unfold forLk at r
    cases r
    have q := lock_end R.pops hk2
    rw [hD']
    exact ⟨q.1, h σ as _ q.2⟩
theorem es_forD (i : Nat) {tg : Expr} {x : Str} {p0 : Pos} {g : Tg} {s : Es} {body : List Stmt} {pos : Pos} (hp : PassesOwn (model X.prog X.w) X.A X.env X.xe) (hc : X.calm = true) (hg : EG X tg g) (hb : ESs X W n body s)
    (hN : X.N[i]? = some x := by rfl) (hv : Vis X.env.scope x := by first | exact Or.inl rfl | exact Or.inr (Or.inl rfl) | exact Or.inr (Or.inr rfl)) (hd : (x == ("__debug__" : Str)) = false := by decide) (hcd : (x == ("__classdict__" : Str)) = false := by decide)
    (hs : ∀ y, foldedSetIterable (.Name x p0) X.env y = pure y := by intro _; rfl) : ES X W n (.For tg (.Name x p0) body [] pos) (sForD i g s) :=
  ps_imp (ps_lock (ps_for hp hc (pi_keysN (pe_var hN hv hd hcd)) hg hb hs)) fun D σ H h => by
    obtain ⟨G, as, ρ, M, hg, R, h⟩ := h
    unfold sForD at h
    split at h
    · rename_i k ei
      obtain ⟨v0, es0, a, ek, rfl⟩ := R.sl i _ ei
      split at h
      · rename_i c ec
        split at h
        · rename_i ds ed
          unfold lockR at h
          split at h
          · rename_i hx
            have hq := hx.choose_spec
            generalize hx.choose = p at h hq
            obtain ⟨ρ2, M2⟩ := p
            obtain ⟨hk2, hq⟩ := hq
            obtain ⟨a', ea, hcell⟩ := R.cs.cell k c ec
            rw [ek] at ea
            cases ea
            have hk : k < M.length := (List.getElem?_eq_some_iff.mp ec).1
            have hD : ∀ b ∈ ds.map B.dat, isD b = true := fun b hb => by
              obtain ⟨d, _, rfl⟩ := List.mem_map.mp hb
              rfl
            cases c with
            | lst bs => cases ed
            | ins C fs => cases ed
            | lk ad od u c => cases ed
            | tp bs => cases ed
            | dct w kvs =>
              cases ed
              obtain ⟨ads, vs, hu, dd, rr, nd⟩ := id hcell
              refine ⟨a, _, hu, trivial, fun od => ⟨_, es0, a, od, rfl, .inr ⟨_, _, upd_same, ?_⟩⟩⟩
              have R1 := lock_start (od := od) R ek hu hcell
              have st := stp_own (G := G) (H := H) (o := .frz od (NdO w a ((kvs.map (·.1)).zip (ads.zip vs)))) (List.mem_of_getElem? ek)
              have dl : ads.length = kvs.length := by have := dd.length; simpa using this
              have vl : vs.length = kvs.length := by have := rr.length; simpa using this
              have hzl : ((kvs.map (·.1)).zip (ads.zip vs)).length = (ads.map V.ref).length := by simp [dl, vl]
              refine lock_turns (vs := ads.map V.ref) hg R1 hk hk2 hD (RBs.mono st (rbs_dat dd)) (hq a od _) h (hzl ▸ walk_keysN) (fun i H x H' hi y => ⟨y.1, ?_⟩) _ rfl
              obtain ⟨k', q, v, e1, e2⟩ := y.2
              rw [List.getElem?_zip_eq_some] at e1
              obtain ⟨_, e1⟩ := e1
              rw [List.getElem?_zip_eq_some] at e1
              rw [List.getElem?_map, e1.1, e2]
              rfl
            | dk kvs =>
              cases ed
              obtain ⟨vs, hu, rr⟩ := id hcell
              refine ⟨a, _, hu, trivial, fun od => ⟨_, es0, a, od, rfl, .inl ⟨_, upd_same, ?_⟩⟩⟩
              have R1 := lock_start (od := od) R ek hu hcell
              have vl : vs.length = kvs.length := by have := rr.length; simpa using this
              have hzl : ((kvs.map (·.1)).zip vs).length = (kvs.map fun p => kV p.1).length := by simp [vl]
              have kd : ∀ (l : List (Key × B)) (as : As) (H : Hp), RBs G.S as H (l.map fun p => kV p.1) ((l.map fun p => keyDk p.1).map B.dat) := fun l as H => by
                induction l with
                | nil => exact .nil
                | cons p l ih => exact .cons (keyDk_den p.1) ih
              refine lock_turns (vs := kvs.map fun p => kV p.1) hg R1 hk hk2 hD (kd kvs _ _) (hq a od _) h (hzl ▸ walk_keys) (fun i H x H' hi y => ⟨y.1, ?_⟩) _ rfl
              obtain ⟨k', v, e1, e2⟩ := y.2
              rw [List.getElem?_zip_eq_some] at e1
              obtain ⟨e1, _⟩ := e1
              rw [List.getElem?_map] at e1 ⊢
              cases e3 : kvs[i]? with
              | none => rw [e3] at e1; cases e1
              | some p =>
                rw [e3] at e1
                cases e1
                rw [e2]
                rfl
          · exact h.elim
        · exact h.elim
      · exact h.elim
    · exact h.elim
/-- what it comes to -/
theorem forD_ok {i k : Nat} {g : Tg} {s : Es} {ρ ρ2 : Rho} {M M2 : Mem} {c : Cell} {ds : List D} (hi : ρ[i]? = some (some (.own k))) (hc : M[k]? = some (some c)) (hd : keysC c = some ds) (hk : k < M2.length)
    (h : ∀ lc : Cell, (∃ ad od u, lc = .lk ad od u c) → forLk k lc g s (ds.map .dat) ρ (M.set k (some lc)) = .ok (.nx ρ2) (M2.set k (some lc))) : sForD i g s ρ M = .ok (.nx ρ2) (M2.set k (some c)) := by
  unfold sForD
  rw [hi]
  dsimp only
  rw [hc]
  dsimp only
  rw [hd]
  exact lockR_ok hk fun ad od u => h _ ⟨ad, od, u, rfl⟩
end
end Ab

/-! sorted of a list of tuples, sorted of a dict whose keys are tuples: any length. -/
namespace Ab
open PySem PySem.Spec L2
open PyProof.Rows hiding St
theorem each_zip {K : PySem.W.Frag} {H : Hp} : ∀ {xs : List V} {ds : List PyData} {us : List Value}, Vals xs us → DpAll K H xs ds → PySem.W.EachIs (fun u (b : V × PyData) => RelV b.1 u ∧ Dp K H b.1 b.2) us (xs.zip ds)
  | _, _, _, .nil, .nil => .nil
  | _, _, _, .cons r t, .cons d e => .cons ⟨r, d⟩ (each_zip t e)
theorem vals_each {K : PySem.W.Frag} {H : Hp} : ∀ {us : List Value} {l : List (V × PyData)}, PySem.W.EachIs (fun u (b : V × PyData) => RelV b.1 u ∧ Dp K H b.1 b.2) us l → Vals (l.map (·.1)) us
  | _, _, .nil => .nil
  | _, _, .cons h t => .cons h.1 (vals_each t)
theorem dpAll_len {K : PySem.W.Frag} {H : Hp} : ∀ {xs : List V} {ds : List PyData}, DpAll K H xs ds → xs.length = ds.length
  | _, _, .nil => rfl
  | _, _, .cons _ t => by rw [List.length_cons, List.length_cons, dpAll_len t]
mutual
theorem reads_lt {h : Heap} : ∀ (d : PyData) (v : Value) (as : List Addr), Reads h v d as → ∀ a ∈ as, a < h.objs.size
  | .none, _, _, r, a, ha => by cases r; cases ha
  | .bool _, _, _, r, a, ha => by cases r; cases ha
  | .int _, _, _, r, a, ha => by cases r; cases ha
  | .str _, _, _, r, a, ha => by cases r; cases ha
  | .list xs, _, _, r, a, ha => by
    cases r with
    | list h1 h2 h3 h4 =>
      rcases List.mem_cons.mp ha with rfl | ha
      · exact Heap.lt_size h1
      · exact reads_ltL xs _ _ h4 a ha
  | .tuple xs, _, _, r, a, ha => by
    cases r with
    | tuple h1 h2 h3 h4 => exact reads_ltL xs _ _ h4 a ha
  | .dict kvs, _, _, r, a, ha => by
    cases r with
    | dict h1 h2 h3 h4 h5 =>
      rcases List.mem_append.mp ha with ha | ha
      · rcases List.mem_cons.mp ha with rfl | ha
        · exact Heap.lt_size h1
        · exact reads_ltK kvs _ _ h4 a ha
      · exact reads_ltV kvs _ _ h5 a ha
theorem reads_ltL {h : Heap} : ∀ (ds : List PyData) (vs : List Value) (as : List Addr), ReadsAll h vs ds as → ∀ a ∈ as, a < h.objs.size
  | [], _, _, r, a, ha => by cases r; cases ha
  | d :: ds, _, _, r, a, ha => by
    cases r with
    | cons h1 h2 =>
      rcases List.mem_append.mp ha with ha | ha
      · exact reads_lt d _ _ h1 a ha
      · exact reads_ltL ds _ _ h2 a ha
theorem reads_ltK {h : Heap} : ∀ (ds : List (PyData × PyData)) (vs : List Value) (as : List Addr), ReadsAll h vs (ds.map (·.1)) as → ∀ a ∈ as, a < h.objs.size
  | [], _, _, r, a, ha => by cases r; cases ha
  | d :: ds, _, _, r, a, ha => by
    cases r with
    | cons h1 h2 =>
      rcases List.mem_append.mp ha with ha | ha
      · exact reads_lt d.1 _ _ h1 a ha
      · exact reads_ltK ds _ _ h2 a ha
theorem reads_ltV {h : Heap} : ∀ (ds : List (PyData × PyData)) (vs : List Value) (as : List Addr), ReadsAll h vs (ds.map (·.2)) as → ∀ a ∈ as, a < h.objs.size
  | [], _, _, r, a, ha => by cases r; cases ha
  | d :: ds, _, _, r, a, ha => by
    cases r with
    | cons h1 h2 =>
      rcases List.mem_append.mp ha with ha | ha
      · exact reads_lt d.2 _ _ h1 a ha
      · exact reads_ltV ds _ _ h2 a ha
end
/-- sorted pairs of a value and what it reads as -/
def srtP (l : List (V × PyData)) : List (V × PyData) := l.mergeSort (PySem.W.dataLe false (·.2))
/-- data that a sort takes -/
structure SrtD (ds : List PyData) : Prop where
  al : PySem.W.AllAlike ds
  so : PySem.W.Sortable ds
  dp : ∀ d ∈ ds, d.depth ≤ 8
def rSortedDt (K : PySem.W.Frag) : List V → Hp → VK → Prop := fun vs H Q => ∃ (a : Addr) (xs : List V) (ds : List PyData), vs = [V.ref a] ∧ SqL K H a xs ∧ DpAll K H xs ds ∧ SrtD ds ∧ ∀ p, H p = none → Q (.ref p) (upd H p (.lst ((srtP (xs.zip ds)).map (·.1))))
section
variable {X : Cx}
theorem cr_sortedDt (hu : X.A.units + 64 < cLine) : CallR X (.builtin "sorted") (rSortedDt X.K) := by
  intro pins s σ H vs us Q I r h
  obtain ⟨a, xs, ds, rfl, hs, hd, hk, q⟩ := h
  obtain ⟨its, rv, hl, hz⟩ := I.list hs
  rw [Vals.ref1 r]
  have ez := each_zip rv hd
  have hlen := dpAll_len hd
  have es : (xs.zip ds).map (·.2) = ds := List.map_snd_zip (by omega)
  have lz : (xs.zip ds).length = xs.length := by rw [List.length_zip]; omega
  refine PySem.W.sorted_data (bs := xs.zip ds) (enc := fun b => b.2) hl.isList ez (ez.mono fun u b hb => Dp.reads I b.2 b.1 u hb.2 hb.1) (by rw [es]; exact hk.al) (by rw [es]; exact hk.so) (by rw [lz]; exact hz) (fun b hb => ?_) fun out h1 h2 => ?_
  · have := hk.dp b.2 (by rw [← es]; exact List.mem_map.mpr ⟨b, hb, rfl⟩)
    omega
  · obtain ⟨ep, he'⟩ := PyProof.Rows.sortedAll_at s.heap its out.toArray
    have l3 : ((srtP (xs.zip ds)).map (·.1)).length ≤ sizeLine := by
      rw [List.length_map, srtP, List.length_mergeSort, lz]
      exact hz
    exact ⟨.ref _, upd H (s.heap.objs.size + 1) (.lst ((srtP (xs.zip ds)).map (·.1))), I.laid (t' := s.toks) (fun _ _ => PyProof.Rows.sortedAll_old) (Nat.le_succ _) ⟨l3, out, ep, vals_each h2, he'⟩, rfl, q _ (I.hok.fresh (Nat.le_succ _))⟩
end
/-! ### a dict with nested keys, gathered -/
section
variable {prog : Program} {w : World} {d : Addr} {od : Obj} {es : Array DictEntry} {ep : Nat}
theorem nd_walks {A : Around} (hh : A.handled = none) (I : Addr) (hne : d ≠ I) (hdt : od.data = .dict es ep) : Walks prog w A I [I, d] [I] es.size (fun i v => ∃ en : DictEntry, es[i]? = some en ∧ v = en.key) (fun i h => h.IsKeyIter I d i es.size ep ∧ h.get? d = some od) where
  sub := fun b hb => by simp at hb; simp [hb]
  frame := fun _ _ _ st hk => ⟨st.1.at fun o e => hk I (by simp) o e, hk d (by simp) od st.2⟩
  item := fun i s Q E hi st hQ => by
    have hx : es[i]? = some es[i] := Array.getElem?_eq_getElem hi
    refine next_key_item st.1 st.2 hdt rfl hx fun h' hit' hs' => ?_
    exact hQ _ h' s.toks ⟨_, hx, rfl⟩ ⟨hit', hs'.extBut d od hne st.2⟩ fun b o hb e => hs'.extBut b o (fun h => hb (by simp [h])) e
  done := fun s Q E st hQ => next_key_end hh st.1 st.2 hdt rfl (Nat.le_refl _) fun h' he' => hQ h' s.toks fun b o hb e => he' b o (fun h => hb (by simp [h])) e
  self := fun _ _ _ _ st hQ => wpAny_pyIter_keyiter st.1 hQ
theorem nd_src (lo : (d == sysModules) = false) (hx : od.ExactDict) (hdt : od.data = .dict es ep) : PySem.W.KdlSrc prog w "dict" d d es.size (fun i v => ∃ en : DictEntry, es[i]? = some en ∧ v = en.key) (fun h => h.get? d = some od) where
  type := fun _ hm => ⟨od, hm, hx.1⟩
  there := fun _ hm => ⟨Heap.lt_size hm, Heap.lt_size hm⟩
  keep := fun _ _ hm hk => hk d (.inl rfl) od hm
  notList := by decide
  notTuple := by decide
  hint := fun _ _ _ _ hm hq => PySem.W.kdl_hint_dict ⟨od, hm, hx.1⟩ hq
  iter := fun _ s hh hm => ⟨_, _, (fun _ _ hq => iter_keys lo hm hx hdt hq), nd_walks hh _ (Nat.ne_of_lt (Heap.lt_size hm)) hdt, ⟨⟨_, Heap.get?_push_size _ rfl, rfl, rfl⟩, Heap.get?_push_of_some _ hm⟩⟩
end
abbrev keyRefs (ks : List (NestedKey × Addr × V)) : List V := ks.map fun p => V.ref p.2.1
def rSortedNd (K : PySem.W.Frag) (w : World) : List V → Hp → VK → Prop := fun vs H Q => ∃ (a : Addr) (ks : List (NestedKey × Addr × V)) (ds : List PyData), vs = [V.ref a] ∧ H a = some (NdO w a ks) ∧ DpAll K H (keyRefs ks) ds ∧ SrtD ds ∧ ks.length ≤ sizeLine ∧
  ∀ p, H p = none → Q (.ref p) (upd H p (.lst ((srtP ((keyRefs ks).zip ds)).map (·.1))))
theorem vals_refs : ∀ (l : List Addr), Vals (l.map V.ref) (l.map Value.ref)
  | [] => .nil
  | a :: l => .cons rfl (vals_refs l)
section
variable {X : Cx}
theorem cr_sortedNd (hcalm : X.calm = true) (hu : X.A.units + 64 < cLine) : CallR X (.builtin "sorted") (rSortedNd X.K X.w) := by
  intro pins s σ H xs us Q I r q
  obtain ⟨a, ks, ds, ex, hd, hdp, hk, hz, q⟩ := q
  subst ex
  obtain ⟨u, eu, rx⟩ := vals1 r
  subst eu
  cases rx
  obtain ⟨⟨lo, xs, pr, od, es, ep, hod, hx, hdt, hes⟩, _⟩ := I.hok a _ hd
  have le : es.size = ks.length := by
    have : es.size = xs.length := by rw [← Array.length_toList, hes, List.length_map]
    have l2 : ks.length = xs.length := Paired.length pr
    omega
  refine Calls.call_function_entry PyProof.Rows.kind_sorted PyProof.Rows.plain_sorted PyProof.Rows.entry_sorted (PyProof.Rows.args_sorted1 _) ?_
  unfold Builtin.«sorted»
  refine wpAny_bind (m := checkCount "sorted" 1 1 _) (wpAny_pure ?_)
  refine wpAny_bind (PySem.W.kdu_collect (A := X.A.in1) (nd_src lo hx hdt) (I.ok.hd hcalm) hod (by rw [le]; exact hz) fun h' tk acc hkp hacc => ?_)
  have hal : acc.toList.length = ks.length := by rw [Array.length_toList, hacc.1, le]
  have hS : acc.toList = (ks.map (·.2.1)).map Value.ref := by
    apply List.ext_getElem?
    intro j
    by_cases hj : j < ks.length
    · obtain ⟨⟨k, q, v⟩, hkv⟩ : ∃ p, ks[j]? = some p := ⟨ks[j], List.getElem?_eq_getElem hj⟩
      obtain ⟨b, hb, e1, e2, _⟩ := paired_get pr hkv
      have g : es.toList[j]? = some ⟨b.1.hash X.w, .ref b.2.1, b.2.2⟩ := by rw [hes, List.getElem?_map, hb]; rfl
      rw [Array.getElem?_toList] at g
      have hj2 : j < acc.toList.length := by omega
      obtain ⟨en, he, hv⟩ := hacc.2 j (acc.toList[j]) (by rw [← Array.getElem?_toList]; exact List.getElem?_eq_getElem hj2)
      rw [g] at he
      cases he
      rw [List.getElem?_eq_getElem hj2, hv, List.getElem?_map, List.getElem?_map, hkv]
      show some (Value.ref b.2.1) = some (Value.ref q)
      rw [← e2]
    · rw [List.getElem?_eq_none (by omega), List.getElem?_eq_none (by rw [List.length_map, List.length_map]; omega)]
  have I1 : Inv X pins σ H { s with heap := h', toks := tk } := I.kept hkp
  have er : keyRefs ks = (ks.map (·.2.1)).map V.ref := by rw [List.map_map]; rfl
  have rv : Vals (keyRefs ks) acc.toList := by rw [er, hS]; exact vals_refs _
  have ez := each_zip rv hdp
  have hlen := dpAll_len hdp
  have lk : (keyRefs ks).length = ks.length := List.length_map _
  have es2 : ((keyRefs ks).zip ds).map (·.2) = ds := List.map_snd_zip (by omega)
  have lz : ((keyRefs ks).zip ds).length = ks.length := by rw [List.length_zip]; omega
  refine wpAny_bind (wpAny_newList ?_ (by rw [hal]; exact hz))
  have hoL : (h'.push (seqObj "list" acc.toList.toArray 0)).get? h'.objs.size = some (seqObj "list" acc.toList.toArray 0) := Heap.get?_push_size _ rfl
  show wpAny _ _ _ _ _ { s with heap := h'.push (seqObj "list" acc.toList.toArray 0), toks := tk }
  have I2 : Inv X pins σ H { s with heap := h'.push (seqObj "list" acc.toList.toArray 0), toks := tk } := I.kept fun b o e => Heap.get?_push_of_some _ (hkp b o e)
  refine wpAny_bind (wpAny_holding (PySem.W.list_sort_data (s := { s with heap := h'.push (seqObj "list" acc.toList.toArray 0), toks := tk }) (bs := (keyRefs ks).zip ds) (enc := fun b => b.2) hoL ez (ez.mono fun u b hb => ?_) (by rw [es2]; exact hk.al) (by rw [es2]; exact hk.so) (by rw [lz]; exact hz) (fun b hb => ?_) fun out h1 h2 => ?_))
  · obtain ⟨as, ra⟩ := Dp.reads I1 b.2 b.1 u hb.2 hb.1
    exact ⟨as, PyProof.Rows.Reads.keeps (fun b o e => Heap.get?_push_of_some _ e) ra, fun hm => Nat.lt_irrefl _ (reads_lt b.2 u as ra _ hm)⟩
  · have := hk.dp b.2 (by rw [← es2]; exact List.mem_map.mpr ⟨b, hb, rfl⟩)
    show X.A.units + 1 + 1 + b.2.depth < cLine
    omega
  · obtain ⟨e', he'⟩ := PyProof.Rows.sortedHeap_at (vs := acc.toList) (out := out.toArray) hoL
    have l3 : ((srtP ((keyRefs ks).zip ds)).map (·.1)).length ≤ sizeLine := by
      rw [List.length_map, srtP, List.length_mergeSort, lz]
      exact hz
    refine wpAny_pure ⟨_, rfl, .ref h'.objs.size, upd H h'.objs.size (.lst ((srtP ((keyRefs ks).zip ds)).map (·.1))), I1.laid (t' := tk) (fun b u e => ?_) (Nat.le_refl _)
      ⟨l3, out, e', vals_each h2, he'⟩, rfl, q _ (I1.hok.fresh (Nat.le_refl _))⟩
    have hb : b < h'.objs.size := Heap.lt_size e
    rw [PyProof.Rows.sortedHeap_old (Nat.ne_of_lt hb) (by rw [size_push']; exact Nat.lt_succ_of_lt hb)]
    exact Heap.get?_push_of_some _ e
end
end Ab

/-! sorted of tuples of numbers: the reading. -/
namespace Ab
open PySem PySem.Spec L2
open PyProof.Rows hiding St
/-- a tuple of numbers, one at least -/
def isTI : D → Bool
  | .tup xs => !xs.isEmpty && (asInts xs).isSome
  | _ => false
def sortD (ds : List D) : List D := ds.mergeSort (PySem.W.dataLe false D.py)
theorem sort_perm (ds : List D) : (sortD ds).Perm ds := List.mergeSort_perm _ _
theorem pyL_map : ∀ ds : List D, pyL ds = ds.map D.py
  | [] => by unfold pyL; rfl
  | d :: ds => by unfold pyL; rw [pyL_map ds]; rfl
theorem asInts_eq : ∀ {xs : List D} {ns : List Int}, asInts xs = some ns → xs = ns.map .int
  | [], ns, h => by
    have : ns = [] := by
      unfold asInts optAll at h
      cases h
      rfl
    rw [this]
    rfl
  | x :: xs, ns, h => by
    unfold asInts at h
    rw [List.map_cons] at h
    unfold optAll at h
    cases hx : asInt x with
    | none => rw [hx] at h; cases h
    | some i =>
      rw [hx] at h
      dsimp only at h
      cases ht : optAll (xs.map asInt) with
      | none => rw [ht] at h; cases h
      | some l =>
        rw [ht] at h
        cases h
        have hi : x = .int i := by
          cases x <;> cases hx
          rfl
        rw [hi, asInts_eq (xs := xs) (ns := l) ht]
        rfl
theorem ti_py {d : D} (h : isTI d = true) : ∃ (i : Int) (ns : List Int), d = .tup ((i :: ns).map .int) ∧ d.py = .tuple ((i :: ns).map .int) := by
  unfold isTI at h
  split at h
  · rename_i xs
    rw [Bool.and_eq_true] at h
    obtain ⟨h1, h2⟩ := h
    obtain ⟨ns, e⟩ := Option.isSome_iff_exists.mp h2
    have e2 := asInts_eq e
    subst e2
    cases ns with
    | nil => cases h1
    | cons i ns =>
      refine ⟨i, ns, rfl, ?_⟩
      have : ∀ l : List Int, pyL (l.map D.int) = l.map PyData.int := fun l => by
        induction l with
        | nil => unfold pyL; rfl
        | cons a l ih => rw [List.map_cons, List.map_cons]; unfold pyL; rw [ih]; rfl
      unfold D.py
      rw [this]
  · cases h
theorem srtD_of {ds : List D} (h : ds.all isTI = true) : SrtD (pyL ds) := by
  have key : ∀ d ∈ pyL ds, ∃ (i : Int) (ns : List Int), d = .tuple ((i :: ns).map .int) := fun d hd => by
    rw [pyL_map] at hd
    obtain ⟨x, hx, rfl⟩ := List.mem_map.mp hd
    obtain ⟨i, ns, _, e⟩ := ti_py (List.all_eq_true.mp h x hx)
    exact ⟨i, ns, e⟩
  refine ⟨fun d hd d' hd' => ?_, .inl fun d hd => ?_, fun d hd => ?_⟩
  · obtain ⟨i, ns, rfl⟩ := key d hd
    obtain ⟨j, ms, rfl⟩ := key d' hd'
    unfold PySem.W.alike
    exact PySem.W.alike_ints _ _
  · obtain ⟨i, ns, rfl⟩ := key d hd
    exact ⟨_, _, rfl⟩
  · obtain ⟨i, ns, rfl⟩ := key d hd
    have e := PySem.W.depth_ints (i :: ns)
    unfold PyData.depth
    rw [e]
    decide
theorem dens_pairs {H : Hp} {T : Addr → Prop} : ∀ (p : List (V × D)), (∀ q ∈ p, Den H T q.1 q.2) → Dens H T (p.map (·.1)) (p.map (·.2))
  | [], _ => .nil
  | q :: p, h => .cons (h q List.mem_cons_self) (dens_pairs p fun r hr => h r (List.mem_cons_of_mem _ hr))
theorem dens_zip {H : Hp} {T : Addr → Prop} : ∀ {xs : List V} {ds : List D}, Dens H T xs ds → ∀ q ∈ xs.zip ds, Den H T q.1 q.2
  | _, _, .nil, q, hq => by cases hq
  | _, _, .cons a b, q, hq => by
    rcases List.mem_cons.mp (by rwa [List.zip_cons_cons] at hq) with rfl | hq
    · exact a
    · exact dens_zip b q hq
theorem sort_dens {H : Hp} {T : Addr → Prop} {xs : List V} {ds : List D} (h : Dens H T xs ds) : Dens H T ((srtP (xs.zip (pyL ds))).map (·.1)) (sortD ds) := by
  let p := (xs.zip ds).mergeSort (fun a b => PySem.W.dataLe false (fun q : V × D => q.2.py) a b)
  have hl := h.length
  have e1 : xs.zip (pyL ds) = (xs.zip ds).map fun q => (q.1, q.2.py) := by
    rw [pyL_map, List.zip_map_right]
    rfl
  have e2 : srtP (xs.zip (pyL ds)) = p.map fun q => (q.1, q.2.py) := by
    rw [e1]
    exact (PySem.W.sort_maps (fun q : V × D => (q.1, q.2.py)) fun a _ b _ => rfl).symm
  have e3 : sortD ds = p.map (·.2) := by
    have q := PySem.W.sort_maps (r := fun a b : V × D => PySem.W.dataLe false (fun q : V × D => q.2.py) a b) (s := PySem.W.dataLe false D.py) (fun q : V × D => q.2) (l := xs.zip ds) fun a _ b _ => rfl
    rw [List.map_snd_zip (by omega)] at q
    exact q.symm
  have e4 : (srtP (xs.zip (pyL ds))).map (·.1) = p.map (·.1) := by
    rw [e2, List.map_map]
    rfl
  rw [e3, e4]
  exact dens_pairs p fun q hq => dens_zip h q ((List.mergeSort_perm _ _).mem_iff.mp hq)
def vSrt (xs : List B) (M : Mem) : Res B := match xs with
  | [.dat (.lst ds)] => if okL ds 7 = true ∧ ds.all isTI = true then .ok (.dat (.lst (sortD ds))) M else .stuck
  | _ => .stuck
open Classical in
noncomputable def vSrtN (w : World) (xs : List B) (M : Mem) : Res B := match xs with
  | [.own k] => (match M[k]? with
    | some (some (.dct w' kvs)) => if w' = w ∧ okL (kvs.map fun p => toD p.1) 7 = true ∧ (kvs.map fun p => toD p.1).all isTI = true ∧ kvs.length ≤ 1000000 then .ok (.dat (.lst (sortD (kvs.map fun p => toD p.1)))) M else .stuck
    | _ => .stuck)
  | _ => .stuck
section
variable {X : Cx} {W : XB → Hp → Prop}
theorem vn_srt {K : PySem.W.Frag} : VN W (rSortedDt K) vSrt := by
  intro G as H ρ M σ xs vs Q R r h
  unfold vSrt at h
  split at h
  · split at h
    · rename_i ds hc
      cases r with
      | cons r1 t =>
        cases t
        cases r1 with
        | lst h1 n1 d1 =>
          refine ⟨_, _, pyL ds, rfl, SqL.of h1, den_dpL hc.1 d1, srtD_of hc.2, fun p hp => ?_⟩
          exact h _ as _ (R.laid hp) (Den.lst upd_same (R.fresh hp) (laid_den R hp (sort_dens d1)))
    · exact h.elim
  · exact h.elim
theorem zp_refs {kvs : List (NestedKey × B)} {ads : List Addr} {vs : List V} (h1 : ads.length = kvs.length) (h2 : vs.length = kvs.length) : keyRefs (zp kvs ads vs) = ads.map V.ref := by
  unfold keyRefs
  induction kvs generalizing ads vs with
  | nil =>
    cases ads with
    | nil => rfl
    | cons _ _ => cases h1
  | cons q kvs ih =>
    cases ads with
    | nil => cases h1
    | cons a ads =>
      cases vs with
      | nil => cases h2
      | cons v vs =>
        rw [zp_cons, List.map_cons, ih (Nat.succ.inj h1) (Nat.succ.inj h2)]
        rfl
theorem vn_srtN {K : PySem.W.Frag} {w : World} : VN W (rSortedNd K w) (vSrtN w) := by
  intro G as H ρ M σ xs vs Q R r h
  unfold vSrtN at h
  split at h
  · rename_i k
    split at h
    · rename_i w' kvs e
      split at h
      · rename_i hc
        obtain ⟨hw, c1, c2, c3⟩ := hc
        subst hw
        cases r with
        | cons r1 t =>
          cases t
          obtain ⟨a, ads, ws, rfl, _, h2, ok, hl, rs, kd, _⟩ := own_dct R.cs e r1
          have lw : ws.length = kvs.length := by
            have := rs.length
            rw [List.length_map] at this
            exact this
          have zr := zp_refs hl lw
          have zl : (zp kvs ads ws).length = kvs.length := by
            have := congrArg List.length zr
            unfold keyRefs at this
            rw [List.length_map, List.length_map] at this
            omega
          refine ⟨a, _, pyL (kvs.map fun p => toD p.1), rfl, h2, ?_, srtD_of c2, ?_, fun p hp => ?_⟩
          · rw [zr]
            exact den_dpL c1 kd
          · rw [zl, sizeLine_eq]
            omega
          · rw [zr]
            exact h _ as _ (R.laid hp) (Den.lst upd_same (R.fresh hp) (laid_den R hp (sort_dens kd)))
      · exact h.elim
    · exact h.elim
  · exact h.elim
end
end Ab

/-! set(a list of numbers): like the library's set of a tuple. -/
namespace L2
open PySem PySem.Spec PyProof.Rows
abbrev oS (w : World) : Obj := { cls := .type "set", dict := none, data := .set #[] 0 (.fresh 0 0 (!w.params.followText "set-order")) }
theorem call_set_lstI {P : Program} {w : World} {A : Around} {E : Value → Shared → Prop} {s : Shared} {l : Addr} {us : Array Value} (ns : List Int) {Q : Value → Shared → Prop} (hd : A.handled = none) (ll : s.heap.IsList l us) (li : IntsAre us.toList ns) (lb : ns.length + 1 < scanBound)
    (fin : ∀ (g : Heap) (tk c : Nat), SetR w g s.heap.objs.size (fun j => decide (j ∈ ns)) c → c ≤ ns.length → (∀ b o, s.heap.get? b = some o → g.get? b = some o) → Q (.ref s.heap.objs.size) { s with heap := g, toks := tk }) : wpAny (model P w) A (call (.type "set") [.ref l]) Q E s := by
  have sz : us.size = ns.length := by
    have q := li.length
    rwa [Array.length_toList] at q
  obtain ⟨c0, tl0, mro0⟩ := F.called_set.mro
  have made0 := F.called_set.made
  have sub0 := F.called_set.sub
  refine wpAny_call (codeAny_of_tree ?_)
  show wpAny _ _ (callAny (.type "set") ⟨[.ref l], []⟩) _ _ _
  refine wpAny_pure ⟨Code.quiet_builtin _ (by decide +kernel), codeAny_builtin F.entry_type_call ?_⟩; rw [Around.under_plain (weight_type_call_type "set" [.ref l] []) rfl]
  have nt0 := F.called_set.notType; have cc0 := F.called_set.canCreate
  have tc0 := F.typeCall_set_1 (.ref l)
  repeat (any_goals (first | assumption | wp_step))
  refine codeAny_mono (code_set_led1 (.ref l) (E := E) (Q₁ := fun ob t => ob = .ref s.heap.objs.size ∧ t = { s with heap := s.heap.push (oS w) }) ⟨rfl, rfl⟩) fun r t hr => ?_
  cases r with
  | error e => exact hr
  | ok fl =>
    cases fl with
    | ret ob =>
      obtain ⟨rfl, rfl⟩ := hr
      have gS : (s.heap.push (oS w)).get? s.heap.objs.size = some (oS w) := Heap.get?_push_size _ rfl
      have tS : Shared.TypeIs { s with heap := s.heap.push (oS w) } (.ref s.heap.objs.size) "set" := ⟨_, gS, rfl⟩
      have il0 := F.called_set.init.lookup; have ib0 := F.called_set.init.bind (.ref s.heap.objs.size)
      repeat (any_goals (first | assumption | wp_step))
      refine codeAny_mono (codeAny_call_builtin (R := wants (fun r t => r = .none ∧ ∃ g tk c, t = { s with heap := g, toks := tk } ∧ SetR w g s.heap.objs.size (fun j => decide (j ∈ ns)) c ∧ c ≤ ns.length ∧ (∀ b o, s.heap.get? b = some o → g.get? b = some o)) E) F.called_set.init.plain F.entry_set_init (check_set_init_1 tS ?_)) fun r2 t2 hr2 => ?_
      · obtain ⟨ol, gl, cl, nl, dl⟩ := ll
        obtain ⟨ocl, odi, oda, osl⟩ := ol
        simp only at cl dl
        subst cl
        subst dl
        have gl2 : (s.heap.push (oS w)).get? l = some { cls := .type "list", dict := odi, data := .seq us nl, slots := osl } := Heap.get?_push_of_some _ gl
        have q1 := F.sub_list_set; have q2 := F.sub_list_frozenset
        have q3 : (Value.type "list" == Value.type "dict") = false := by decide
        have ll1 : (s.heap.push (oS w)).IsList l us := ⟨_, gl2, rfl, nl, rfl⟩
        unfold Builtin.«set.__init__» noKeywords Builtin.Frozenset.updateFrom
        generalize hPI : pyIter = PI
        wp_walk
        subst hPI
        refine wpAny_pyIter_list ll1 (wpAny_bind (wpAny_runValue ?_))
        have lt0 : l < s.heap.objs.size := Heap.lt_size gl
        have hd3 : A.in1.in1.in1.handled = none := by simp [hd]
        have neI : l ≠ (s.heap.push (oS w)).objs.size := by
          rw [Heap.size_push]
          exact Nat.ne_of_lt (Nat.lt_succ_of_lt lt0)
        have nf : s.heap.objs.size ∉ [(s.heap.push (oS w)).objs.size, l] := by
          rw [Heap.size_push]
          simp only [List.mem_cons, List.mem_singleton, List.not_mem_nil, or_false, not_or]
          exact ⟨Nat.ne_of_lt (Nat.lt_succ_self _), Nat.ne_of_gt lt0⟩
        have vals : ∀ (i : Nat) (v : Value), us[i]? = some v → ∃ k t, ns[i]? = some k ∧ v = .int k t := fun i v hv => by
          have hi : i < ns.length := by rw [← sz]; exact (Array.getElem?_eq_some_iff.mp hv).1
          obtain ⟨t, e⟩ := li.int_at i v (by rw [Array.getElem?_toList]; exact hv)
          refine ⟨ns[i], t, List.getElem?_eq_getElem hi, ?_⟩
          rw [e, List.getD_eq_getElem?_getD, List.getElem?_eq_getElem hi]
          rfl
        refine set_update_ints ((Walks.list hd3 _ l neI us).toS) s.heap.objs.size nf ns sz lb vals (us.size - 0) 0 _ (by omega) (Nat.zero_le _) ⟨⟨_, Heap.get?_push_size _ rfl, rfl, rfl⟩, (ll1.push _)⟩ ?_ ?_
        · have gg : ((s.heap.push (oS w)).push { cls := .type "list_iterator", data := .fields #[.ref l, .int 0 0] }).get? s.heap.objs.size = some (oS w) := Heap.get?_push_of_some _ gS
          exact ⟨0, Nat.le_refl 0, setR_new_at gg⟩
        · intro t c' hm hc' hS'
          obtain ⟨g, g2, d', tk', os'⟩ := t
          have eg : g2 = s.gens := hm.gens
          have ed : d' = s.drawn := hm.drawn
          have eo : os' = s.os := hm.os
          subst eg ed eo
          show wpAny _ _ _ _ _ _
          refine wpAny_pure ?_
          show wpAny _ _ (ret Value.none) _ _ _
          rw [sz] at hc'
          refine wpAny_pure ⟨rfl, g, tk', c', rfl, hS', hc', fun b o e => ?_⟩
          have b0 : b < s.heap.objs.size := Heap.lt_size e
          refine hm.heap b o ?_ (Heap.get?_push_of_some _ (Heap.get?_push_of_some _ e))
          rw [Heap.size_push]
          simp only [List.mem_cons, List.mem_singleton, List.not_mem_nil, or_false, not_or]
          exact ⟨Nat.ne_of_lt b0, Nat.ne_of_lt (Nat.lt_succ_of_lt b0)⟩
      · cases r2 with
        | error e => exact hr2
        | ok fl2 =>
          cases fl2 with
          | ret r =>
            obtain ⟨rfl, g, tk, c', rfl, hS', hc', kk⟩ := hr2
            repeat (any_goals (first | assumption | wp_step))
            exact fin _ _ _ hS' hc' kk
          | _ => exact hr2.elim
    | _ => exact hr.elim
def rSetLi (K : PySem.W.Frag) (w : World) : List V → Hp → VK → Prop := fun xs H Q => ∃ (a : Addr) (ns : List Int), xs = [.ref a] ∧ SqL K H a (ns.map V.int) ∧ ns.length < 60 ∧ ∀ p c, H p = none → c ≤ ns.length → Q (.ref p) (upd H p (SetO w p (fun j => decide (j ∈ ns)) c))
section
variable {X : Cx}
theorem cr_setLi (hc : X.calm = true) : CallR X (.type "set") (rSetLi X.K X.w) := by
  intro pins s σ H xs us Q I r h
  obtain ⟨a, ns, rfl, hT, hl, q⟩ := h
  rw [Vals.ref1 r]
  obtain ⟨its, rv, ht, hz⟩ := I.list hT
  have hi : IntsAre its.toArray.toList ns := by simpa using rv.ints
  refine call_set_lstI (P := X.prog) ns (I.ok.hd hc) (show s.heap.IsList a its.toArray from ht.isList) hi (by unfold scanBound; omega) fun g tk c hS hcl hk => ?_
  exact ⟨.ref s.heap.objs.size, _, I.laid (t' := tk) hk (Nat.le_refl _) (setO_new hS), rfl, q _ c (I.hok.fresh (Nat.le_refl _)) hcl⟩
end
end L2
namespace Ab
open PySem PySem.Spec L2
open PyProof.Rows hiding St
theorem boot_sorted : bootBuiltins "sorted" = some (.builtin "sorted") := by decide +kernel
/-- a comprehension's scope, its free names told as cells of the def -/
def freeC (sc : Scope) : Scope := { sc with names := sc.names.map fun p => if p.2 == NameKind.free then (p.1, NameKind.cell) else p }
def vSsetL (xs : List B) (M : Mem) : Res B := match xs with
  | [.dat (.lst ds)] => (match asInts ds with
    | some ns => if ns.length < 60 then .ok (.dat (.lst ((sset ns).map .int))) M else .stuck
    | none => .stuck)
  | _ => .stuck
def eRevL (a : Ev) : Ev := fun ρ M => (a ρ M).bind fun x M1 => match x with
  | .dat (.lst ds) => .ok (.dat (.lst ds.reverse)) M1
  | _ => .stuck
section
variable {X : Cx} {W : XB → Hp → Prop}
theorem ev_ssetL {e : Expr} {ee : Ea} {p p2 pos pos2 : Pos} (hc : X.calm = true) (g1 : Gl X "sorted") (m1 : X.mg "sorted" = none) (g2 : Gl X "set") (m2 : X.mg "set" = none) (he : EA X W [e] ee)
    (he1 : starEach [e] X.env = (false, eval e X.env) :: starEach [] X.env := by rfl) (hpl1 : (backTo pos2 (starEach [] X.env)).any (·.1) = false := by rfl)
    (he2 : starEach [.Call (.Name "set" p2) [e] [] pos2] X.env = (false, eval (.Call (.Name "set" p2) [e] [] pos2) X.env) :: starEach [] X.env := by rfl) (hpl2 : (backTo pos (starEach [] X.env)).any (·.1) = false := by rfl) :
    EV X W (.Call (.Name "sorted" p) [.Call (.Name "set" p2) [e] [] pos2] [] pos) (eApp vSsetL ee) :=
  pe_imp (pe_callB (cr_sortedSet hc) g1 m1 (by decide +kernel) (pa_cons (pe_callTy (cr_setLi hc) g2 m2 (by decide +kernel) he (by decide) (by decide) he1 hpl1) pa_nil he2) (by decide) (by decide) he2 hpl2) fun σ H Q h => by
    obtain ⟨G, as, ρ, M, R, h⟩ := h
    refine ⟨G, as, ρ, M, R, ?_⟩
    unfold eApp at h
    cases q : ee ρ M with
    | stuck => rw [q] at h; exact h
    | exc x => rw [q] at h; exact h
    | ok xs M1 =>
      rw [q] at h
      intro vs as1 H1 R1 r1
      simp only [Res.bind_ok] at h
      unfold vSsetL at h
      split at h
      · split at h
        · rename_i ds ns e
          split at h
          · rename_i hl
            cases r1 with
            | cons r t =>
              cases t
              cases r with
              | lst h1 n1 d1 =>
                have ex := asInts_ok e d1
                subst ex
                refine ⟨_, ns, rfl, SqL.of h1, hl, fun p c hp hcl => ?_⟩
                have R2 := R1.laid (o := SetO X.w p (fun j => decide (j ∈ ns)) c) hp
                refine ⟨p, _, c, rfl, upd_same, by omega, fun ms p' h1 h2 h3 hp' => ?_⟩
                have e : ms = sset ns := lt_unique _ _ h1 (sset_lt ns) fun k => by rw [h2, mem_sset]; simp
                subst e
                exact h _ as1 _ (R2.laid hp') (Den.lst upd_same (R2.fresh hp') (Dens.of_ints _))
          · exact h.elim
        · exact h.elim
      · exact h.elim
theorem dens_rev {H : Hp} {T : Addr → Prop} {vs : List V} {ds : List D} (h : Dens H T vs ds) : Dens H T vs.reverse ds.reverse := h.rev
theorem ev_revL {e : Expr} {ee : Ev} {k : Nat} {p1 p2 p3 pos : Pos} (he : EV X W e ee) : EV X W (.Subscript e (.Slice none none (some (.UnaryOp .USub (.Constant (.int 1) k p1) p2)) p3) pos) (eRevL ee) :=
  pe_imp (pe_revL he) fun σ H Q h => by
    obtain ⟨G, as, ρ, M, R, h⟩ := h
    refine ⟨G, as, ρ, M, R, ?_⟩
    unfold eRevL at h
    cases q : ee ρ M with
    | stuck => rw [q] at h; exact h
    | exc x => rw [q] at h; exact h
    | ok x M1 =>
      rw [q] at h
      intro v as1 H1 R1 r1
      simp only [Res.bind_ok] at h
      split at h
      · cases r1 with
        | lst h1 n1 d1 =>
          exact ⟨_, _, rfl, SqL.of h1, fun p hp => h _ as1 _ (R1.laid hp) (Den.lst upd_same (R1.fresh hp) (laid_den R1 hp d1.rev))⟩
      · exact h.elim
end
end Ab

/-! Texts: str(n), int(text), join, split. -/
namespace Ab
open PySem PySem.Spec PyProof.Rows L2
section
variable {W : XB → Hp → Prop}
/-- str(n) -/
def vStrI (xs : List B) (M : Mem) : Res B := match xs with
  | [.dat (.int i)] => if i.natAbs < 1000000 then .ok (.dat (.str (Str.ofString (toString i)))) M else .stuck
  | _ => .stuck
theorem vn_strI : VN W (fun xs H Q => ∃ i, xs = [.int i] ∧ i.natAbs.log2 < 1920 ∧ Q (.str (Str.ofString (toString i))) H) vStrI := by
  intro G as H ρ M σ xs vs Q R r h
  unfold vStrI at h
  split at h
  · rename_i i
    split at h
    · rename_i hi
      cases r with
      | cons r1 t =>
        cases t
        cases r1
        refine ⟨i, rfl, ?_, h _ as H R (Den.str _)⟩
        by_cases h0 : i.natAbs = 0
        · rw [h0]
          decide
        · exact Nat.lt_of_lt_of_le ((Nat.log2_lt h0).mpr (Nat.lt_trans hi (by decide : 1000000 < 2 ^ 20))) (by decide)
    · exact h.elim
  · exact h.elim
/-- int(text) -/
def vIntS (xs : List B) (M : Mem) : Res B := match xs with
  | [.dat (.str a)] => if a.length ≤ 640 then (match PySem.intText? a with
    | some n => .ok (.dat (.int n)) M
    | none => .stuck) else .stuck
  | _ => .stuck
theorem vn_intS : VN W (fun xs H Q => ∃ a n, xs = [.str a] ∧ PySem.intText? a = some n ∧ a.length ≤ 640 ∧ Q (.int n) H) vIntS := by
  intro G as H ρ M σ xs vs Q R r h
  unfold vIntS at h
  split at h
  · rename_i a
    split at h
    · rename_i hi
      split at h
      · rename_i n en
        cases r with
        | cons r1 t =>
          cases t
          cases r1
          exact ⟨a, n, rfl, en, hi, h _ as H R (Den.int _)⟩
      · exact h.elim
    · exact h.elim
  · exact h.elim
/-- some texts -/
def asStr : B → Option Str
  | .dat (.str a) => some a
  | _ => none
def strsB (bs : List B) : Option (List Str) := optAll (bs.map asStr)
theorem strsB_ok {S : Addr → Prop} {as : As} {H : Hp} : ∀ {bs : List B} {ys : List Str} {vs : List V}, strsB bs = some ys → RBs S as H vs bs → vs = ys.map V.str
  | [], ys, _, h, .nil => by
    cases h
    rfl
  | b :: bs, ys, _, h, .cons r t => by
    unfold strsB at h
    rw [List.map_cons] at h
    cases hb : asStr b with
    | none => rw [hb] at h; cases h
    | some a =>
      rw [hb] at h
      unfold optAll at h
      cases ht : optAll (bs.map asStr) with
      | none => rw [ht] at h; cases h
      | some l =>
        rw [ht] at h
        cases h
        have hr := strsB_ok (bs := bs) (ys := l) ht t
        have e : b = .dat (.str a) := by
          unfold asStr at hb
          split at hb
          · cases hb; rfl
          · cases hb
        subst e
        cases r
        rw [hr]
        rfl
/-- sep.join(texts) -/
def vJoin (x : B) (xs : List B) (M : Mem) : Res B := match x, xs with
  | .dat (.str a), [y] => (match els y M with
    | some bs => (match strsB bs with
      | some ys => if (ys.map (·.length)).sum + ys.length * a.length ≤ 16777216 then .ok (.dat (.str (Txt.join a ys))) M else .stuck
      | none => .stuck)
    | none => .stuck)
  | _, _ => .stuck
theorem vm_join {K : PySem.W.Frag} : VM W (fun x xs H Q => ∃ a p, ∃ ys : List Str, x = .str a ∧ xs = [.ref p] ∧ (SqL K H p (ys.map V.str) ∨ SqT K H p (ys.map V.str)) ∧ (ys.map (·.length)).sum + ys.length * a.length ≤ 16777216 ∧ Q (.str (Txt.join a ys)) H) vJoin := by
  intro G as H ρ M σ x v xs vs Q R r rs h
  unfold vJoin at h
  split at h
  · rename_i a y
    split at h
    · rename_i bs eb
      split at h
      · rename_i ys ey
        split at h
        · rename_i hz
          cases r
          cases rs with
          | cons r1 t =>
            cases t
            obtain ⟨p, zs, rfl, q, rr⟩ := els_ok R.cs eb r1
            have e := strsB_ok ey rr
            subst e
            exact ⟨a, p, ys, rfl, rfl, q.imp SqL.of SqT.of, hz, h _ as H R (Den.str _)⟩
        · exact h.elim
      · exact h.elim
    · exact h.elim
  · exact h.elim
/-- text.split(sep) -/
def vSplit (x : B) (xs : List B) (M : Mem) : Res B := match x, xs with
  | .dat (.str a), [.dat (.str b)] => if (b.length == 0) = false ∧ a.length + 2 ≤ SZ then newL ((Txt.split a b).map fun s => .dat (.str s)) M else .stuck
  | _, _ => .stuck
theorem rbs_strs {S : Addr → Prop} {as : As} {H : Hp} : ∀ ys : List Str, RBs S as H (ys.map V.str) (ys.map fun s => .dat (.str s))
  | [] => .nil
  | y :: ys => .cons (Den.str y) (rbs_strs ys)
theorem vm_split : VM W (fun x xs H Q => ∃ a b, x = .str a ∧ xs = [.str b] ∧ (b.length == 0) = false ∧ a.length + 2 ≤ sizeLine ∧ rNewStrs (Txt.split a b) H Q) vSplit := by
  intro G as H ρ M σ x v xs vs Q R r rs h
  unfold vSplit at h
  split at h
  · rename_i a b
    split at h
    · rename_i hz
      cases r
      cases rs with
      | cons r1 t =>
        cases t
        cases r1
        refine ⟨a, b, rfl, rfl, hz.1, by rw [SZ_eq]; exact hz.2, fun p hp => newL_ok R h (rbs_strs _) hp⟩
    · exact h.elim
  · exact h.elim
end
def isStrB : B → Bool
  | .dat (.str _) => true
  | _ => false
def eMtS (f : B → List B → Mem → Res B) (a : Ev) (b : Ev) : Ev := fun ρ M => (a ρ M).bind fun x M1 => if isStrB x = true then (b ρ M1).bind fun y M2 => f x [y] M2 else .stuck
section
variable {X : Cx} {W : XB → Hp → Prop}
theorem ev_mtS {o e : Expr} {eo ee : Ev} {name : Str} {apos pos : Pos} {id : String} {r : V → List V → Hp → VK → Prop} {f : B → List B → Mem → Res B} (slot : Slot "str" name id) (hty : typeOf (.builtin id) = pure (.type "method_descriptor")) (hm : MtR X id r) (hf : VM W r f) (ho : EV X W o eo) (he : EV X W e ee)
    (hs : starEach [e] X.env = [(false, eval e X.env)] := by rfl) (hbase : attributeBase o name X.env (eval o X.env) = eval o X.env := by rfl) (hline : (apos.endLine == pos.line) = true := by rfl) :
    EV X W (.Call (.Attribute o name apos) [e] [] pos) (eMtS f eo ee) :=
  pe_imp (pe_m1 slot hty hm ho he hs hbase hline) fun σ H Q h => by
    obtain ⟨G, as, ρ, M, R, h⟩ := h
    refine ⟨G, as, ρ, M, R, ?_⟩
    unfold eMtS at h
    cases q : eo ρ M with
    | stuck => rw [q] at h; exact h
    | exc x => rw [q] at h; exact h
    | ok x M1 =>
      rw [q] at h
      intro v as1 H1 R1 r1
      simp only [Res.bind_ok] at h
      split at h
      · rename_i hx
        have ex : ∃ a, x = .dat (.str a) := by
          unfold isStrB at hx
          split at hx
          · exact ⟨_, rfl⟩
          · cases hx
        obtain ⟨a, rfl⟩ := ex
        cases r1
        refine ⟨⟨a, rfl⟩, G, as1, ρ, M1, R1, ?_⟩
        cases q2 : ee ρ M1 with
        | stuck => rw [q2] at h; exact h
        | exc x => rw [q2] at h; exact h
        | ok y M2 =>
          rw [q2] at h
          intro u as2 H2 R2 r2
          exact hf (x := .dat (.str a)) R2 (Den.str a) (.cons r2 .nil) h
      · exact h.elim
end
end Ab

/-! Texts: loops over the signs, in a text, constants; tuples of one's own; all cells become data. -/
namespace Ab
open PySem PySem.Spec L2
open PyProof.Rows hiding St
/-! ### for over a text -/
def chB (x : Str) : List B := x.cps.toList.map fun c => .dat (.str ⟨#[c]⟩)
theorem chB_len (x : Str) : (chB x).length = x.cps.size := by simp [chB]
def sForT (g : Tg) (e : Ev) (s : Es) : Es := fun ρ M => (e ρ M).bind fun x M1 => match x with
  | .dat (.str a) => forL g s (chB a) ρ M1
  | _ => .stuck
section
variable {X : Cx} {W : XB → Hp → Prop} {n : Nat}
theorem es_forT {tg l : Expr} {el : Ev} {g : Tg} {s : Es} {body : List Stmt} {pos : Pos} (hp : PassesOwn (model X.prog X.w) X.A X.env X.xe) (hc : X.calm = true) (hl : EV X W l el) (hg : EG X tg g) (hb : ESs X W n body s)
    (hs : ∀ x, foldedSetIterable l X.env x = pure x := by intro _; rfl) : ES X W n (.For tg l body [] pos) (sForT g el s) :=
  ps_imp (ps_for hp hc (pi_str hl) hg hb hs) fun D σ H h => by
    obtain ⟨G, as, ρ, M, hg, R, h⟩ := h
    refine ⟨G, as, ρ, M, R, ?_⟩
    unfold sForT at h
    cases q : el ρ M with
    | stuck => rw [q] at h; exact h
    | exc x => rw [q] at h; exact h
    | ok x M1 =>
      rw [q] at h
      intro v as1 H1 R1 r1
      simp only [Res.bind_ok] at h
      split at h
      · rename_i a
        cases r1
        have h2 := forL_ends h
        let Pv : Nat → L2.St → Hp → Prop := fun i σ H => ∃ as ρ M, Rep G as H ρ M σ ∧ PoS G W { D with bk := D.nx, ct := fun _ _ => False } (forL g s ((chB a).drop i) ρ M)
        have hl := chB_len a
        refine ⟨a, rfl, fun i m σ H => i ≤ a.cps.size ∧ m = a.cps.size - i ∧ Pv i σ H, ⟨_, Nat.zero_le _, rfl, as1, ρ, M1, R1, by rw [List.drop_zero]; exact h2⟩, fun i m σ H pw => ?_⟩
        obtain ⟨hi, rfl, as, ρ, M, R, p⟩ := pw
        by_cases e : i < a.cps.size
        · refine .inr ⟨e, Pv (i + 1), fun σ' H' z => ⟨a.cps.size - (i + 1), by omega, by omega, rfl, z⟩, fun y H' yl => ?_⟩
          obtain ⟨rfl, c, hc, rfl⟩ := yl
          have hle : i < (chB a).length := by rw [hl]; exact e
          have eb : (chB a)[i] = .dat (.str ⟨#[c]⟩) := by
            have : (chB a)[i]? = some (.dat (.str ⟨#[c]⟩)) := by
              unfold chB
              rw [List.getElem?_map, Array.getElem?_toList, hc]
              rfl
            rw [List.getElem?_eq_getElem hle] at this
            exact Option.some.inj this
          rw [List.drop_eq_getElem_cons hle, eb] at p
          exact forL_turn (b := .dat (.str ⟨#[c]⟩)) hg R (Den.str _) p fun as' ρ' M' σ' H' R' p' => ⟨as', ρ', M', R', p'⟩
        · refine .inl ⟨Nat.le_of_not_lt e, ?_⟩
          have e2 : i = (chB a).length := by omega
          rw [e2, List.drop_length] at p
          exact p σ as H R
      · exact h.elim
end
/-! ### a sign in a text -/
section
variable {X : Cx} {W : XB → Hp → Prop}
def vInT (neg : Bool) (x y : B) (M : Mem) : Res B := match x, y with
  | .dat (.str a), .dat (.str z) => (match a.cps.toList with
    | [c] => .ok (.dat (.bl (if neg then !decide (c ∈ z.cps.toList) else decide (c ∈ z.cps.toList)))) M
    | _ => .stuck)
  | _, _ => .stuck
def rInT (neg : Bool) : R2 := fun x y H Q => ∃ (c : Nat) (z : Str), x = .str ⟨#[c]⟩ ∧ y = .str z ∧ Q (.bl (if neg then !decide (c ∈ z.cps.toList) else decide (c ∈ z.cps.toList))) H
theorem op_inT : OpR X (compareOp .In) (rInT false) := op_in_sign
theorem op_notInT : OpR X (compareOp .NotIn) (rInT true) := op_notIn_sign
theorem v2_inT {neg : Bool} : V2 W (rInT neg) (vInT neg) := by
  intro G as H ρ M σ x y v u Q R r1 r2 h
  unfold vInT at h
  split at h
  · rename_i a z
    split at h
    · rename_i c e
      cases r1
      cases r2
      have ea : a = ⟨#[c]⟩ := TL.ext_tl e
      subst ea
      exact ⟨c, z, rfl, rfl, h _ as H R (Den.bl _)⟩
    · exact h.elim
  · exact h.elim
/-- a text of the module -/
theorem ev_globS {x z : Str} {u : Value} {pos : Pos} (hg : Gl X x) (hm : X.mg x = some u) (r : RelV (.str z) u) (hd : (x == ("__debug__" : Str)) = false := by decide) : EV X W (.Name x pos) (eC (.str z)) :=
  pe_imp (pe_glob hg hm r hd) fun _ _ _ h => cE_C (fun _ => .str z) h
/-! ### tuples of one's own -/
def newT (bs : List B) (M : Mem) : Res B := .ok (.own M.length) (M ++ [some (.tp bs)])
theorem newT_ok {G : Gh} {as : As} {H : Hp} {ρ : Rho} {M : Mem} {σ : L2.St} {Q : VK} {bs : List B} {xs : List V} {p : Addr} (R : Rep G as H ρ M σ) (h : PoE G ρ σ W Q (newT bs M)) (r : RBs G.S as H xs bs) (hp : H p = none) : Q (.ref p) (upd H p (.tup xs)) := by
  refine h (.ref p) (as ++ [some p]) _ (R.own hp ⟨xs, upd_same, r.mono (stp_new hp)⟩) ⟨p, ?_, rfl⟩
  rw [← R.cs.len]
  simp
def eTupO (a : Ea) : Ev := eApp (fun bs M => if bs.length ≤ SZ then newT bs M else .stuck) a
theorem ev_tupO {es : List Expr} {eas : Ea} {x1 : _} {pos : Pos} (h : EA X W es eas) : EV X W (.Tuple es x1 pos) (eTupO eas) :=
  pe_imp (pe_tup h) fun σ H Q h => cE_app (r := fun xs H1 Q => xs.length ≤ sizeLine ∧ ∀ p, H1 p = none → Q (.ref p) (upd H1 p (.tup xs))) (fun {G as H ρ M σ xs vs Q} R r h => by
    split at h
    · rename_i hz
      exact ⟨by rw [r.length, SZ_eq]; exact hz, fun p hp => newT_ok R h r hp⟩
    · exact h.elim) h
def vIxT (x y : B) (M : Mem) : Res B := match x, y with
  | .own k, .dat (.int i) => (match M[k]? with
    | some (some (.tp bs)) => (match atI bs i with
      | some b => .ok b M
      | none => .stuck)
    | _ => .stuck)
  | _, _ => .stuck
theorem v2_ixT {K : PySem.W.Frag} : V2 W (rIx K) vIxT := by
  intro G as H ρ M σ x y v u Q R r1 r2 h
  unfold vIxT at h
  split at h
  · rename_i k i
    split at h
    · rename_i bs e
      split at h
      · rename_i b e2
        cases r2
        obtain ⟨a, h1, xs, h3, h4⟩ := R.cs.cell k _ e
        obtain ⟨a', h5, rfl⟩ := r1
        rw [h1] at h5
        cases h5
        obtain ⟨w, e3, r3⟩ := rbs_at h4 e2
        exact .inr (.inl ⟨a, xs, _, w, rfl, rfl, SqT.of h3, e3, h _ as H R r3⟩)
      · exact h.elim
    · exact h.elim
  · exact h.elim
/-! ### all cells from n on become data -/
def fzR (n : Nat) (M : Mem) (ρ : Rho) : Rho := ρ.map fun o => o.bind fun b => if lowB n b = true then some b else (fzN n M 4 b).map .dat
def sFzA (n : Nat) (s : Es) : Es := fun ρ M => if lowM n (M.take n) = true then s (fzR n M ρ) (M.take n) else .stuck
theorem sFzA_rep {G : Gh} {as : As} {H : Hp} {ρ : Rho} {M : Mem} {σ : L2.St} {n : Nat} (R : Rep G as H ρ M σ) (hg : ∀ p ∈ G.tmp, lowB n p.2 = true) (hm : G.ow.length ≤ n) (hl : lowM n (M.take n) = true) : Rep G (as.take n) H (fzR n M ρ) (M.take n) σ := by
  refine ⟨cells_take R.cs hl, by unfold fzR; rw [List.length_map]; exact R.len, fun i b e => ?_, fun p hp => rb_take (hg p hp) (R.tp p hp), fun q hq => ⟨(R.kp q hq).1, fun z => (R.kp q hq).2 (mem_take z)⟩, R.fr, fun a z => R.nw a (mem_take z), by rw [List.take_take, Nat.min_eq_left hm]; exact R.ot⟩
  unfold fzR at e
  rw [List.getElem?_map] at e
  cases q : ρ[i]? with
  | none => rw [q] at e; cases e
  | some o =>
    rw [q] at e
    cases o with
    | none => cases e
    | some b' =>
      have e' : (if lowB n b' = true then some b' else (fzN n M 4 b').map B.dat) = some b := Option.some.inj e
      obtain ⟨v, h1, h2⟩ := R.sl i _ q
      split at e'
      · rename_i hb
        cases e'
        exact ⟨v, h1, rb_take hb h2⟩
      · cases ed : fzN n M 4 b' with
        | none => rw [ed] at e'; cases e'
        | some d =>
          rw [ed] at e'
          cases e'
          exact ⟨v, h1, fzN_ok R.cs 4 b' d v ed h2⟩
theorem es_fzA {n : Nat} {s : Es} {st : Stmt} (h : ES X W n st s) : ES X W n st (sFzA n s) := ps_imp h fun D σ H h => by
  obtain ⟨G, as, ρ, M, hg, R, h⟩ := h
  unfold sFzA at h
  split at h
  · rename_i hl
    exact ⟨G, _, _, _, hg, sFzA_rep R (fun p hp => isD_low (hg.2 p hp)) (by rw [hg.1]; exact Nat.le_refl _) hl, h⟩
  · exact h.elim
end
end Ab

/-! list.index of data; loops over enumerate. -/
namespace Ab
open PySem PySem.Spec PyProof.Rows L2
variable {X : Cx} {W : XB → Hp → Prop} {n : Nat}
def vIndex (x : B) (ys : List B) (M : Mem) : Res B := match x, ys with
  | .dat (.lst ds), [.dat d] => if okD (.lst ds) 8 = true ∧ okD d 8 = true then (match ds.findIdx? fun z => eqD z d with
    | some j => .ok (.dat (.int (j : Nat))) M
    | none => .stuck) else .stuck
  | _, _ => .stuck
theorem pyL_get : ∀ (ds : List D) (j : Nat), (pyL ds)[j]? = (ds[j]?).map D.py
  | [], j => by unfold pyL; simp
  | d :: ds, 0 => by unfold pyL; rfl
  | d :: ds, j + 1 => by
    unfold pyL
    rw [List.getElem?_cons_succ, List.getElem?_cons_succ, pyL_get ds j]
theorem vm_index {K : PySem.W.Frag} : VM W (rIndexD K) vIndex := by
  intro G as H ρ M σ x v xs vs Q R r rs h
  unfold vIndex at h
  split at h
  · rename_i ds d
    split at h
    · rename_i hc
      split at h
      · rename_i j hj
        cases rs with
        | cons r1 t =>
          cases t
          have dl := den_dp (K := K) hc.1 r
          have dd := den_dp (K := K) hc.2 r1
          have s1 := ok_shaped hc.1 (by decide)
          have s2 := ok_shaped hc.2 (by decide)
          cases r with
          | lst h1 nn rr =>
            rename_i a zs
            have e0 : (D.lst ds).py = .list (pyL ds) := by unfold D.py; rfl
            rw [e0] at dl s1
            obtain ⟨hlt, hp, hn⟩ := List.findIdx?_eq_some_iff_getElem.mp hj
            refine ⟨a, _, d.py, pyL ds, j, (ds[j]).py, rfl, rfl, dl, dd, s1, s2, ?_, hp, fun m z' hm hz => ?_, h _ as H R (Den.int _)⟩
            · rw [pyL_get, List.getElem?_eq_getElem hlt]
              rfl
            · rw [pyL_get, List.getElem?_eq_getElem (by omega)] at hz
              cases hz
              have q := hn m hm
              have q2 : eqD ds[m] d = false := by simpa using q
              exact q2
      · exact h.elim
    · exact h.elim
  · exact h.elim
/-- the pairs of enumerate -/
def enumD : Nat → List D → List B
  | _, [] => []
  | i, d :: ds => .dat (.tup [.int (i : Int), d]) :: enumD (i + 1) ds
theorem enumD_len : ∀ (ds : List D) (i : Nat), (enumD i ds).length = ds.length
  | [], _ => rfl
  | d :: ds, i => by unfold enumD; rw [List.length_cons, List.length_cons, enumD_len ds]
theorem enumD_get : ∀ (ds : List D) (i j : Nat) (h : j < ds.length), (enumD i ds)[j]? = some (.dat (.tup [.int ((i + j : Nat) : Int), ds[j]]))
  | d :: ds, i, 0, _ => rfl
  | d :: ds, i, j + 1, h => by
    have := enumD_get ds (i + 1) j (Nat.lt_of_succ_lt_succ h)
    have e : i + 1 + j = i + (j + 1) := by omega
    rw [e] at this
    exact this
def sForE (g : Tg) (e : Ea) (s : Es) : Es := fun ρ M => (e ρ M).bind fun xs M1 => match xs with
  | [.dat (.lst ds)] => forL g s (enumD 0 ds) ρ M1
  | _ => .stuck
theorem es_forE {elts : List Expr} {kk : Nat} {tpos : Pos} {l : Expr} {ea : Ea} {g : Tg} {s : Es} {body : List Stmt} {p pos pos' : Pos} (hp : PassesOwn (model X.prog X.w) X.A X.env X.xe) (hc : X.calm = true) (hr : Gl X "enumerate") (hm : X.mg "enumerate" = none) (ha : EA X W [l] ea) (hg : EG X (.Tuple elts kk tpos) g) (hb : ESs X W n body s)
    (hst : starEach [l] X.env = [(false, eval l X.env)] := by rfl) (hs : ∀ x, foldedSetIterable (.Call (.Name "enumerate" p) [l] [] pos') X.env x = pure x := by intro _; rfl) : ES X W n (.For (.Tuple elts kk tpos) (.Call (.Name "enumerate" p) [l] [] pos') body [] pos) (sForE g ea s) :=
  ps_imp (ps_for hp hc (pi_enum hr hm ha hst) hg hb hs) fun D' σ H h => by
    obtain ⟨G, as, ρ, M, hg, R, h⟩ := h
    refine ⟨G, as, ρ, M, R, ?_⟩
    unfold sForE at h
    cases q : ea ρ M with
    | stuck => rw [q] at h; exact h
    | exc x => rw [q] at h; exact h
    | ok x M1 =>
      rw [q] at h
      intro v as1 H1 R1 r1
      simp only [Res.bind_ok] at h
      split at h
      · rename_i ds
        cases r1 with
        | cons r t =>
          cases t
          cases r with
          | lst h1 na rr =>
            rename_i a xs
            have rs : RBs G.S as1 H1 xs (ds.map .dat) := rbs_dat rr
            have hl : xs.length = ds.length := by rw [rs.length, List.length_map]
            have R2 : Rep (G.walk a (.lst xs) (xs.zip (ds.map .dat))) as1 H1 ρ M1 σ := R1.walk h1 (fun z => na (.inr z)) (rbs_zip rs)
            have hg2 : (G.walk a (.lst xs) (xs.zip (ds.map .dat))).ow.length = n ∧ ∀ p ∈ (G.walk a (.lst xs) (xs.zip (ds.map .dat))).tmp, isD p.2 = true := ⟨hg.1, fun p hp => (List.mem_append.mp hp).elim (zip_isD (fun b hb => by
              obtain ⟨d, _, rfl⟩ := List.mem_map.mp hb
              rfl) p) (hg.2 p)⟩
            have h2 := forL_ends (pos_walk (a := a) (o := .lst xs) (l := xs.zip (ds.map .dat)) h)
            let Pv : Nat → L2.St → Hp → Prop := fun i σ H => ∃ as ρ M, Rep (G.walk a (.lst xs) (xs.zip (ds.map .dat))) as H ρ M σ ∧ PoS (G.walk a (.lst xs) (xs.zip (ds.map .dat))) W { D' with bk := D'.nx, ct := fun _ _ => False } (forL g s ((enumD 0 ds).drop i) ρ M)
            refine ⟨a, xs, rfl, SqL.of h1, fun i m σ H => i ≤ ds.length ∧ m = ds.length - i ∧ Pv i σ H, ⟨_, Nat.zero_le _, rfl, as1, ρ, M1, R2, by rw [List.drop_zero]; exact h2⟩, fun i m σ H pw => ?_⟩
            obtain ⟨hi, rfl, as, ρ, M, R, p⟩ := pw
            by_cases e : i < ds.length
            · refine .inr ⟨⟨xs, xs[i], SqL.of R.at, List.getElem?_eq_getElem _⟩, Pv (i + 1), fun σ' H' z => ⟨ds.length - (i + 1), by omega, by omega, rfl, z⟩, fun y H' yl => ?_⟩
              obtain ⟨T, x, rfl, hT, rfl, hx⟩ := yl
              have ex := hx xs (SqL.of R.at)
              have eb : (ds.map B.dat)[i]? = some (.dat ds[i]) := by rw [List.getElem?_map, List.getElem?_eq_getElem e]; rfl
              have hm : (x, B.dat ds[i]) ∈ (G.walk a (.lst xs) (xs.zip (ds.map .dat))).tmp := List.mem_append_left _ (List.mem_of_getElem? (i := i) (by rw [List.getElem?_zip_eq_some]; exact ⟨ex, eb⟩))
              have rx : Den H _ x ds[i] := R.tp _ hm
              have hle : i < (enumD 0 ds).length := by rw [enumD_len]; exact e
              have ee := enumD_get ds 0 i e
              rw [List.getElem?_eq_getElem hle, Nat.zero_add] at ee
              rw [List.drop_eq_getElem_cons hle, Option.some.inj ee] at p
              refine forL_turn (b := .dat (.tup [.int (i : Int), ds[i]])) hg2 (R.laid hT) (Den.tup upd_same (R.fresh hT) (laid_den R hT (.cons (.int _) (.cons rx .nil)))) p fun as' ρ' M' σ' H' R' p' => ⟨as', ρ', M', R', p'⟩
            · have e2 : i = ds.length := by omega
              subst e2
              refine .inl ⟨⟨xs, SqL.of R.at, by omega⟩, ?_⟩
              rw [← enumD_len ds 0, List.drop_length] at p
              exact p σ as H R
      · exact h.elim
end Ab

/-! A list comprehension where an exception is handled. -/
namespace Ab
open PySem PySem.Spec PyProof.Rows L2 L2H HotX
/-- a list's iterator at its end, while an exception is handled -/
theorem list_end_hot {prog : Program} {w : World} {A : Around} {E : Value → Shared → Prop} {s : Shared} {it l x1 : Addr} {i : Nat} {items : Array Value} {Q : Option Value → Shared → Prop} (hot : HotAt A x1 s.heap) (st : s.heap.IsListIter it l i) (hl : s.heap.IsList l items) (hx : items[i]? = none) (ne : x1 ≠ it)
    (hQ : ∀ h', (∀ b o, b ≠ it → s.heap.get? b = some o → h'.get? b = some o) → Q none { s with heap := h' }) : wpAny (model prog w) A (pyNext (.ref it)) Q E s := by
  obtain ⟨o, ho, hc, hd⟩ := id st
  obtain ⟨ol, hol, _, nl, hdl⟩ := hl
  obtain ⟨hh, o1, vs1, h1, d1, c1⟩ := hot
  have ex : some (Value.int i 0) = some (Value.int i 0) := rfl
  unfold pyNext
  refine wpAny_bind (wpAny_attempt (wpAny_callSpecial?_slot (name := Str.ofString "__next__") st.typeIs slot_listiter_next (wpAny_call_entry slot_listiter_next st.typeIs entry_listiter_next ?_ (args_listiter_next _))))
  show wpAny _ _ (field (.ref it) 0 >>= _) _ _ _
  refine wpAny_bind (wpAny_field ho hd (x := .ref l) rfl ?_)
  show wpAny _ _ (if _ then _ else _) _ _ _
  rw [if_neg (by intro z; cases z)]
  show wpAny _ _ (field (.ref it) 1 >>= _) _ _ _
  refine wpAny_bind (wpAny_field ho hd (x := .int i 0) rfl ?_)
  show wpAny _ _ (seqItems? (.ref l) >>= _) _ _ _
  refine wpAny_bind (wpAny_seqItems hol hdl ?_)
  simp only [Int.toNat_natCast, hx]
  refine wpAny_bind (wpAny_rule (wpAny_bind (wpAny_setField ho hd (by simp) ?_)))
  show wpAny _ _ (newExc (.type "StopIteration") [] >>= _) _ _ _
  refine wpAny_bind ?_
  simp only [newExc, newTuple]
  refine wpAny_bind (wpAny_newObj_type ?_ (by size_fits))
  refine wpAny_bind (m := firstArgMember _ _) (wpAny_of_eq (a := Value.none) (by first | rfl | (simp only [firstArgMember]; rfl)) ?_)
  refine wpAny_newObj_type ?_ (by size_fits)
  have g1 : ∀ b ob, b ≠ it → s.heap.get? b = some ob → (s.heap.update it (Obj.mapFields (·.setIfInBounds 0 .none))).get? b = some ob := fun b ob nb e => (Heap.get?_update_other _ _ (Ne.symm nb)).trans e
  have g2 := g1 x1 o1 ne h1
  refine raiseNew_hot ⟨hh, o1, vs1, Heap.get?_push_of_some _ (Heap.get?_push_of_some _ g2), d1, c1⟩ (Nat.ne_of_lt (Heap.lt_size (Heap.get?_push_of_some _ g2))) (Heap.get?_push_size _ rfl) rfl (by first | (simp; done) | (simp; omega) | (simp only [Array.size_append]; simp; omega)) ?_
  refine wpAny_bind (wpAny_isInstance (T := "StopIteration") (b := true) ⟨_, Heap.get?_update_self _ (Heap.get?_push_size _ rfl) rfl, rfl⟩ isSubtype_stop ?_)
  refine wpAny_pure (hQ _ fun b ob nb e => ?_)
  have e2 := g1 b ob nb e
  rw [Heap.get?_update_other _ _ (Nat.ne_of_gt (Heap.lt_size (Heap.get?_push_of_some _ e2)))]
  exact Heap.get?_push_of_some _ (Heap.get?_push_of_some _ e2)
def iLst (K : PySem.W.Frag) (tl : TE) : TI := fun σ H R => tl σ H fun x H1 => ∃ a, x = .ref a ∧ (∃ xs, SqL K H1 a xs) ∧ R (Itl K a) H1
theorem fpOk_blk {X : Cx} {s3 : Shared} {H3 : Hp} {scope : Scope} {ce : Env} {it : Addr} {p : Addr × Obj} {σ : L2.St} {H : Hp} {s : Shared} (I : Inv (X.blk s3 H3 scope ce [it]) [p] σ H s) (hn : H it = none) (ne : p.1 ≠ it) : FpOk (X.blk s3 H3 scope ce [it]) [p] H it := by
  have m : it ∈ (X.blk s3 H3 scope ce [it]).ex := List.mem_singleton.mpr rfl
  refine ⟨hn, (I.ok.exf it m).1, I.ok.exfs it m, .inl m, (I.ok.exf it m).2, fun q hq => ?_⟩
  have e : q = p := by
    have hq' : q ∈ ([] : List (Addr × Obj)) ++ [p] := hq
    simpa using hq'
  rw [e]
  exact ne
theorem pe_lcH {X : Cx} {elt tg l : Expr} {ifs : List Expr} {scope : Scope} {own : List (Str × Nat)} {pos : Pos} {tl : TE} {g : TG} {tt : TT} {te : TE} (hot : HotC X) (hN : X.N.Nodup) (hl : PE X l tl) (ok : BlkOk X.N X.env.scope scope own)
    (hg : ∀ (s : Shared) (H : Hp) (C : Addr) (cl : List (Str × Addr)) (fp : List Addr), PG (X.blk s H scope (compEnvC scope cl C X.env) fp) tg g)
    (ht : ∀ (s : Shared) (H : Hp) (C : Addr) (cl : List (Str × Addr)) (fp : List Addr), PTs (X.blk s H scope (compEnvC scope cl C X.env) fp) ifs tt)
    (he : ∀ (s : Shared) (H : Hp) (C : Addr) (cl : List (Str × Addr)) (fp : List Addr), PE (X.blk s H scope (compEnvC scope cl C X.env) fp) elt te)
    (hs : ∀ x, foldedSetIterable l X.env x = pure x := by intro _; rfl) : PE X (.ListComp elt [⟨tg, l, ifs, 0⟩] scope pos) (tLc (iLst X.K tl) g tt te (own.map (·.2))) := by
  refine ⟨fun pins s σ H Q I h => ?_⟩
  rw [eval_ListComp]
  have clo : ∀ y ∈ scope.names, y.2 = .free → ∃ c, X.env.cells.lookup y.1 = some c := fun y hy e => (ok.free y hy e).elim (fun k => I.ok.has _ (.inl k)) fun k => I.ok.has _ (.inr k)
  refine wpAny_comprehension_free (use := none) rfl hs (closure_ok clo) ok.kind (fun y hy e => by rw [ok.uniq y hy, e]) (thn (hl.run pins s σ H _ I h) fun v s1 hx => ?_)
  obtain ⟨x, H1, I1, rx, a, rfl, ⟨ys, hys⟩, q⟩ := hx
  cases rx
  obtain ⟨its, rv, pl, hz⟩ := I1.list hys
  refine wpAny_pyIter_list pl.isList ?_
  -- the iterator
  generalize ehit : s1.heap.objs.size = it
  generalize es2 : ({ s1 with heap := s1.heap.push _ } : Shared) = s2
  have I2 : Inv X pins σ H1 s2 := by
    rw [← es2]
    exact I1.kept (t' := s1.toks) fun b o e => Heap.get?_push_of_some _ e
  have st2 : s2.heap.IsListIter it a 0 := by
    rw [← es2, ← ehit]
    exact ⟨_, Heap.get?_push_size _ rfl, rfl, rfl⟩
  have fit : FpOk X pins H1 it := by
    rw [← ehit]
    exact I1.fpOk (Nat.le_refl _) (I1.hok.fresh (Nat.le_refl _))
  have ilt : it < s2.heap.objs.size := by
    obtain ⟨o, ho, _⟩ := id st2
    exact Heap.lt_size ho
  -- the new list, the block's frame
  refine wpAny_newObj_type (newEnv_comp ?_) (by show 0 ≤ sizeLine; decide)
  generalize eD : s2.heap.objs.size = D
  have fD : H1 D = none := I2.hok.fresh (Nat.le_of_eq eD)
  obtain ⟨Wf, ⟨m0, w0⟩, turn⟩ := q D fD
  have hD : D ≠ it := by rw [← eD]; exact Nat.ne_of_gt ilt
  generalize es3 : ({ s2 with heap := s2.heap.push { cls := .type "list", data := .seq ([] : List Value).toArray } } : Shared) = s3
  have e3 : s3.heap = s2.heap.push { cls := .type "list", data := .seq ([] : List Value).toArray } := by rw [← es3]
  have I3 : Inv X pins σ (upd H1 D (.lst [])) s3 := by
    rw [← es3]
    refine I2.laid (t' := s2.toks) (fun b o e => Heap.get?_push_of_some _ e) (Nat.le_of_eq eD) ⟨Nat.zero_le _, [], 0, .nil, ?_⟩
    rw [← eD]
    exact Heap.get?_push_size _ rfl
  have n3 : (upd H1 D (.lst [])) it = none := (upd_ne (Ne.symm hD)).trans fit.1
  have f3 : ∀ b ∈ [it], FpOk X pins (upd H1 D (.lst [])) b ∧ b < s3.heap.objs.size := fun b hb => by
    have e : b = it := List.mem_singleton.mp hb
    subst e
    exact ⟨⟨n3, fit.2⟩, by rw [e3, Heap.size_push]; exact Nat.lt_succ_of_lt ilt⟩
  have st3 : s3.heap.IsListIter it a 0 := st2.at fun o e => by rw [e3]; exact Heap.get?_push_of_some _ e
  have I4 := block_start I3 ok hN f3
  have pg := hg s3 (upd H1 D (.lst [])) s3.heap.objs.size (cellsFrom (s3.heap.objs.size + 1) scope.names (cloFrom X.env.cells scope.names [])) [it]
  have pt := ht s3 (upd H1 D (.lst [])) s3.heap.objs.size (cellsFrom (s3.heap.objs.size + 1) scope.names (cloFrom X.env.cells scope.names [])) [it]
  have pe := he s3 (upd H1 D (.lst [])) s3.heap.objs.size (cellsFrom (s3.heap.objs.size + 1) scope.names (cloFrom X.env.cells scope.names [])) [it]
  show codeAny _ _ (.compStart (.ListComp elt [⟨tg, l, ifs, 0⟩] scope pos) 0 (.ref it) (.ref D) (compEnvC scope (cellsFrom (s3.heap.objs.size + 1) scope.names (cloFrom X.env.cells scope.names [])) s3.heap.objs.size X.env)) _ _
  generalize ece : compEnvC scope (cellsFrom (s3.heap.objs.size + 1) scope.names (cloFrom X.env.cells scope.names [])) s3.heap.objs.size X.env = ce at I4 pg pt pe ⊢
  have cL : ce.locals = s3.heap.objs.size := by subst ece; rfl
  generalize eH3 : upd H1 D (.lst []) = H3 at I3 I4 pg pt pe w0 n3 f3
  have kp4 : ∀ b o, s3.heap.get? b = some o → (pushCells (s3.heap.push { cls := .type "dict", data := .dict #[] }) scope.names).get? b = some o := fun b o e => pushCells_keeps _ _ _ _ (Heap.get?_push_of_some _ e)
  have st4 : (pushCells (s3.heap.push { cls := .type "dict", data := .dict #[] }) scope.names).IsListIter it a 0 := st3.at fun o e => kp4 _ _ e
  -- the handled exception stays in sight
  obtain ⟨p, ⟨hh, pv, pd, pc⟩, hp⟩ := hot
  have P3 := I3.pin p (List.mem_append_left _ hp)
  have npi : p.1 ≠ it := fit.2.2.2.2.2 p (List.mem_append_left _ hp)
  have I4p : Inv (X.blk s3 H3 scope ce [it]) [p] (wipe σ (own.map (·.2))) H3 { s3 with heap := pushCells (s3.heap.push { cls := .type "dict", data := .dict #[] }) scope.names } := I4.pins_of fun r hr => by
    have e : r = p := List.mem_singleton.mp hr
    subst e
    refine ⟨kp4 _ _ P3.1, P3.2.1, by show r.1 ≠ ce.locals; rw [cL]; exact Nat.ne_of_lt (Heap.lt_size P3.1), fun hm => ?_, P3.2.2.2.2⟩
    have hm' : r.1 ∈ frs X.stack := hm
    rcases List.mem_cons.mp (I3.stkSub r.1 hm') with z | z
    · exact P3.2.2.1 z
    · exact P3.2.2.2.1 z
  generalize es4 : ({ s3 with heap := pushCells (s3.heap.push { cls := .type "dict", data := .dict #[] }) scope.names } : Shared) = s4 at I4p ⊢
  have st4' : s4.heap.IsListIter it a 0 := by rw [← es4]; exact st4
  have loop : codeAny (model X.prog X.w) X.A (.compLoop (.ListComp elt [⟨tg, l, ifs, 0⟩] scope pos) 0 (.ref it) (.ref D) ce) (compPost (model X.prog X.w) X.A X.xe none (EP X pins σ Q) (.ref D) s3.heap.objs.size) s4 := by
    refine compLoop_any (fun m s' => ∃ i H', Inv (X.blk s3 H3 scope ce [it]) [p] (wipe σ (own.map (·.2))) H' s' ∧ s'.heap.IsListIter it a i ∧ H' it = none ∧ Wf i m H') ?_ m0 ⟨0, H3, I4p, st4', n3, w0⟩
    rintro m s5 ⟨i, H5, I5, st5, n5, w5⟩
    have fp5 := fpOk_blk I5 n5 npi
    rcases turn i m H5 w5 with ⟨⟨zs, hzs, hle⟩, qq⟩ | ⟨⟨zs, z, hzs, hzi⟩, Nx, hNx, step⟩
    · -- the end
      obtain ⟨jts, rv5, pl5, _⟩ := I5.list hzs
      have hl5 := rv5.length
      have hot5 : HotAt X.A p.1 s5.heap := ⟨hh, p.2, pv, (I5.pin p (List.mem_append_right _ (List.mem_singleton.mpr rfl))).1, pd, pc⟩
      refine list_end_hot hot5 st5 pl5.isList (by simp; omega) npi fun h6 k6 => ?_
      have I6 : Inv (X.blk s3 H3 scope ce [it]) [p] (wipe σ (own.map (·.2))) H5 { s5 with heap := h6 } := I5.turned (t' := s5.toks) k6 fp5.1 fp5.2.1 fp5.2.2.2.1 fp5.2.2.2.2.1 fp5.2.2.2.2.2
      have I7 : Inv X pins σ H5 { s5 with heap := h6 } := I3.call' (ch := [it]) I6.os I6.base I6.hok I6.bare fun b hb => ⟨(f3 b hb).1.2.2.2.1, (f3 b hb).1.2.1, (f3 b hb).1.2.2.2.2.1, (f3 b hb).1.2.2.2.2.2⟩
      have nC : H5 s3.heap.objs.size = none := by
        have z : H5 ce.locals = none := I6.free
        rw [cL] at z
        exact z
      obtain ⟨mm, hn, _⟩ := I6.loc
      have hn' : h6.Ns ce.locals mm := hn
      rw [cL] at hn'
      refine ⟨mm, hn', fun h8 sb => ?_⟩
      obtain ⟨f0, f1, f2, f4, f5, f6⟩ := I3.fpOk (Nat.le_refl _) nC
      exact ⟨.ref D, H5, I7.turned (t' := s5.toks) (fun b o hb e => (sb.2 b hb).trans e) f0 f1 f4 f5 f6, rfl, qq⟩
    · -- one more item
      obtain ⟨jts, rv5, pl5, _⟩ := I5.list hzs
      obtain ⟨u, hu, ru⟩ := rv5.get hzi
      refine wpAny_pyNext_list_item st5 pl5.isList (x := u) (by simpa using hu) fun h6 st6 sb => ?_
      have I6 : Inv (X.blk s3 H3 scope ce [it]) [p] (wipe σ (own.map (·.2))) H5 { s5 with heap := h6 } := I5.turned (t' := s5.toks) (fun b o hb e => (sb.2 b hb).trans e) fp5.1 fp5.2.1 fp5.2.2.2.1 fp5.2.2.2.2.1 fp5.2.2.2.2.2
      obtain ⟨oi, hoi, hci, hdi⟩ := id st6
      refine go_of (s := { s5 with heap := h6 }) hoi hci hdi (by decide) ?_
      have pin6 : Inv (X.blk s3 H3 scope ce [it]) ([p] ++ [(it, oi)]) (wipe σ (own.map (·.2))) H5 { s5 with heap := h6 } := I6.pins_of fun r hr => by
        rcases List.mem_append.mp hr with hr | hr
        · exact I6.pin r (List.mem_append_right _ hr)
        · have e : r = (it, oi) := List.mem_singleton.mp hr
          subst e
          exact ⟨hoi, n5, fp5.2.1, fp5.2.2.1, fun v e => by rw [hdi] at e; cases e⟩
      refine thnF (pg.run _ _ _ H5 z u _ pin6 ru (step z H5 ⟨rfl, fun ws hw => by rw [I5.list_inj hw hzs]; exact hzi⟩)) fun _ s8 ⟨σ8, H8, I8, hw8, q8⟩ => ?_
      refine thnF (pt.run _ s8 σ8 H8 _ I8 q8) fun b s9 ⟨H9, I9, q9⟩ => ?_
      have back : ∀ {s' : Shared} {H' : Hp}, Inv (X.blk s3 H3 scope ce [it]) ([p] ++ [(it, oi)]) σ8 H' s' → Nx H' → ∃ k, k < m ∧ ∃ i H', Inv (X.blk s3 H3 scope ce [it]) [p] (wipe σ (own.map (·.2))) H' s' ∧ s'.heap.IsListIter it a i ∧ H' it = none ∧ Wf i k H' := fun {s' H'} J nx => by
        obtain ⟨k, hk, wk⟩ := hNx H' nx
        have pi := J.pin (it, oi) (List.mem_append_right _ (List.mem_append_right _ (List.mem_singleton.mpr rfl)))
        have hl8 : (wipe σ (own.map (·.2))).length = σ8.length := by rw [← hw8, wipe_length]
        refine ⟨k, hk, i + 1, H', (J.unpinned (pins := [p])).weak hl8 (fun j v e => ?_), ⟨oi, pi.1, hci, hdi⟩, pi.2.1, wk⟩
        rw [← hw8] at e
        exact (wipe_some e).1
      cases b with
      | false =>
        simp only [Bool.false_eq_true, if_false] at q9 ⊢
        exact back I9 q9
      | true =>
        simp only [if_true] at q9 ⊢
        refine thnF (pe.run _ s9 σ8 H9 _ I9 q9) fun y s10 ⟨yv, H10, I10, r10, acc, hD10, hz10, nx⟩ => ?_
        exact app_ok (X := X.blk s3 H3 scope ce [it]) I10 hD10 hz10 r10 fun s11 I11 => back I11 nx
  exact codeAny_compStart_list loop (wpAny_pyIter_listiter st4' loop)
end Ab

/-! Reckoning with readings: equations for simp. -/
namespace Ab
open PySem PySem.Spec PyProof.Rows L2
section
variable {ρ : Rho} {M : Mem}
@[simp] theorem x_var (i : Nat) : eVar i ρ M = match ρ[i]? with
  | some (some b) => .ok b M
  | _ => .stuck := rfl
@[simp] theorem x_c (d : D) : eC d ρ M = .ok (.dat d) M := rfl
@[simp] theorem x_ty (n : String) : eTy n ρ M = .ok (.ty n) M := rfl
@[simp] theorem x_bin (f : B → B → Mem → Res B) (a b : Ev) : eBin f a b ρ M = (a ρ M).bind fun x M1 => (b ρ M1).bind fun y M2 => f x y M2 := rfl
@[simp] theorem x_un (f : B → Mem → Res B) (a : Ev) : eUn f a ρ M = (a ρ M).bind f := rfl
@[simp] theorem x_app (f : List B → Mem → Res B) (a : Ea) : eApp f a ρ M = (a ρ M).bind f := rfl
@[simp] theorem x_mtL (f : B → List B → Mem → Res B) (a : Ev) (b : Ea) : eMtL f a b ρ M = (a ρ M).bind fun x M1 => if isL x M1 = true then (b ρ M1).bind fun y M2 => f x y M2 else .stuck := rfl
@[simp] theorem x_nil : aNil ρ M = .ok [] M := rfl
@[simp] theorem x_cons (a : Ev) (r : Ea) : aCons a r ρ M = (a ρ M).bind fun x M1 => (r ρ M1).bind fun xs M2 => .ok (x :: xs) M2 := rfl
@[simp] theorem x_tup (a : Ea) : eTup a ρ M = (a ρ M).bind fun bs M => match dats bs with
  | some ds => if ds.length ≤ SZ then .ok (.dat (.tup ds)) M else .stuck
  | none => .stuck := rfl
@[simp] theorem x_lst (a : Ea) : eLst a ρ M = (a ρ M).bind fun bs M => match dats bs with
  | some ds => if ds.length ≤ SZ then .ok (.dat (.lst ds)) M else .stuck
  | none => .stuck := rfl
@[simp] theorem x_lstO (a : Ea) : eLstO a ρ M = (a ρ M).bind fun bs M => if bs.length ≤ SZ then newL bs M else .stuck := rfl
@[simp] theorem x_fz (e : Ev) : eFz e ρ M = (e ρ M).bind fun b M' => match fzN M.length M' 4 b with
  | some d => if lowM M.length (M'.take M.length) = true then .ok (.dat d) (M'.take M.length) else .stuck
  | none => .stuck := rfl
@[simp] theorem x_and (a b : Ev) : eAnd a b ρ M = (a ρ M).bind fun x M1 => match x with
  | .dat (.bl true) => b ρ M1
  | .dat (.bl false) => .ok (.dat (.bl false)) M1
  | _ => .stuck := rfl
@[simp] theorem x_or (a b : Ev) : eOr a b ρ M = (a ρ M).bind fun x M1 => match x with
  | .dat (.bl true) => .ok (.dat (.bl true)) M1
  | .dat (.bl false) => b ρ M1
  | _ => .stuck := rfl
@[simp] theorem x_not (a : Ev) : eNot a ρ M = (a ρ M).bind fun x M1 => match x with
  | .dat (.bl c) => .ok (.dat (.bl (!c))) M1
  | _ => .stuck := rfl
@[simp] theorem x_if (c : Et) (a b : Ev) : eIf c a b ρ M = (c ρ M).bind fun k M1 => if k = true then a ρ M1 else b ρ M1 := rfl
@[simp] theorem x_isN (a : Ev) : eIsN a ρ M = (a ρ M).bind fun x M1 => match isNon x with
  | some c => .ok (.dat (.bl c)) M1
  | none => .stuck := rfl
@[simp] theorem x_notN (a : Ev) : eNotN a ρ M = (a ρ M).bind fun x M1 => match isNon x with
  | some c => .ok (.dat (.bl (!c))) M1
  | none => .stuck := rfl
@[simp] theorem x_fld (C : Addr) (f : Str) (a : Ev) : eFld C f a ρ M = (a ρ M).bind fun x M1 => match fldB C f x M1 with
  | some b => .ok b M1
  | none => .stuck := rfl
@[simp] theorem x_meth (C : Addr) (m : Str) (ar n : Nat) (f : Fn) (o : Ev) (a : Ea) : eMeth C m ar n f o a ρ M = (o ρ M).bind fun x M1 => if objB C m x M1 = true then (a ρ M1).bind fun bs M2 => doCallA ar n f (x :: bs) M2 else .stuck := rfl
@[simp] theorem x_ch (f g : B → B → Mem → Res B) (a b c : Ev) : eCh f g a b c ρ M = (a ρ M).bind fun x M1 => (b ρ M1).bind fun y M2 => (f x y M2).bind fun z M3 => match z with
  | .dat (.bl true) => (c ρ M3).bind fun w M4 => g y w M4
  | .dat (.bl false) => .ok (.dat (.bl false)) M3
  | _ => .stuck := rfl
@[simp] theorem x_ch3 (f g k : B → B → Mem → Res B) (a b c d : Ev) : eCh3 f g k a b c d ρ M = (a ρ M).bind fun x M1 => (b ρ M1).bind fun y M2 => (f x y M2).bind fun z M3 => match z with
  | .dat (.bl true) => (c ρ M3).bind fun w M4 => (g y w M4).bind fun z M5 => (match z with
    | .dat (.bl true) => (d ρ M5).bind fun v M6 => k w v M6
    | .dat (.bl false) => .ok (.dat (.bl false)) M5
    | _ => .stuck)
  | .dat (.bl false) => .ok (.dat (.bl false)) M3
  | _ => .stuck := rfl
@[simp] theorem x_sl (a : Ev) (l h : Eo) : eSl a l h ρ M = (a ρ M).bind fun x M1 => (l ρ M1).bind fun i M2 => (h ρ M2).bind fun j M3 => vSl x i j M3 := rfl
@[simp] theorem x_on : oNone ρ M = .ok none M := rfl
@[simp] theorem x_os (a : Ev) : oSome a ρ M = (a ρ M).bind fun x M1 => match x with
  | .dat (.int i) => .ok (some i) M1
  | _ => .stuck := rfl
@[simp] theorem x_tv (a : Ev) : tV a ρ M = (a ρ M).bind fun x M1 => match x with
  | .dat (.bl c) => .ok c M1
  | _ => .stuck := rfl
@[simp] theorem x_tn (a : Et) : tNt a ρ M = (a ρ M).bind fun c M1 => .ok (!c) M1 := rfl
@[simp] theorem x_ta (a b : Et) : tAn a b ρ M = (a ρ M).bind fun c M1 => if c = true then b ρ M1 else .ok false M1 := rfl
@[simp] theorem x_to (a b : Et) : tOrr a b ρ M = (a ρ M).bind fun c M1 => if c = true then .ok true M1 else b ρ M1 := rfl
@[simp] theorem x_ty1 : tY ρ M = .ok true M := rfl
@[simp] theorem x_snil : sNil ρ M = .ok (.nx ρ) M := rfl
@[simp] theorem x_seq (s r : Es) : sSeq s r ρ M = (s ρ M).bind fun o M1 => match o with
  | .nx ρ1 => r ρ1 M1
  | o => .ok o M1 := rfl
@[simp] theorem x_set (i : Nat) (e : Ev) : sSet i e ρ M = (e ρ M).bind fun b M1 => .ok (.nx (ρ.set i (some b))) M1 := rfl
@[simp] theorem x_ex (e : Ev) : sExpr e ρ M = (e ρ M).bind fun _ M1 => .ok (.nx ρ) M1 := rfl
@[simp] theorem x_ret (e : Ev) : sRet e ρ M = (e ρ M).bind fun b M1 => .ok (.ret b) M1 := rfl
@[simp] theorem x_retn : sRetN ρ M = .ok (.ret (.dat .non)) M := rfl
@[simp] theorem x_sif (t : Et) (a b : Es) : sIf t a b ρ M = (t ρ M).bind fun c M1 => if c = true then a ρ M1 else b ρ M1 := rfl
@[simp] theorem x_never : sNever ρ M = .stuck := rfl
@[simp] theorem x_asg (g : Tg) (e : Ev) : sAsg g e ρ M = (e ρ M).bind fun b M1 => match g b ρ with
  | some ρ1 => .ok (.nx ρ1) M1
  | none => .stuck := rfl
@[simp] theorem x_sub (o i e : Ev) : sSub o i e ρ M = (e ρ M).bind fun b M1 => (o ρ M1).bind fun x M2 => (i ρ M2).bind fun y M3 => match x, y with
  | .own k, .dat (.int n) => (match M3[k]? with
    | some (some (.lst bs)) => (match ixN bs.length n with
      | some j => .ok (.nx ρ) (M3.set k (some (.lst (bs.set j b))))
      | none => .stuck)
    | _ => .stuck)
  | _, _ => .stuck := rfl
@[simp] theorem x_gn (i : Nat) (b : B) : gN i b ρ = some (ρ.set i (some b)) := rfl
@[simp] theorem x_gt (is : List Nat) (b : B) : gT is b ρ = match tupB b with
  | some bs => gsSet is bs ρ
  | none => none := rfl
@[simp] theorem x_gs0 : gsSet [] [] ρ = some ρ := rfl
@[simp] theorem x_gs1 (i : Nat) (is : List Nat) (b : B) (bs : List B) : gsSet (i :: is) (b :: bs) ρ = gsSet is bs (ρ.set i (some b)) := rfl
@[simp] theorem x_tb (ds : List D) : tupB (.dat (.tup ds)) = some (ds.map .dat) := rfl
@[simp] theorem x_tb2 (ds : List D) : tupB (.vw (.tup ds)) = some (ds.map lo) := rfl
@[simp] theorem x_rho (n : Nat) (bs : List B) : rho0 n bs = bs.map some ++ List.replicate (n - bs.length) none := rfl
@[simp] theorem x_o1 : outB .stuck = .stuck := rfl
@[simp] theorem x_o2 (b : B) : outB (.ok (.ret b) M) = .ok b M := rfl
@[simp] theorem x_o3 (r : Rho) : outB (.ok (.nx r) M) = .ok (.dat .non) M := rfl
/-! ### operations at plain values -/
variable {i j : Int}
@[simp] theorem y_add : vAdd (.dat (.int i)) (.dat (.int j)) M = .ok (.dat (.int (i + j))) M := rfl
@[simp] theorem y_sub : vSub (.dat (.int i)) (.dat (.int j)) M = .ok (.dat (.int (i - j))) M := rfl
@[simp] theorem y_lt : vLt (.dat (.int i)) (.dat (.int j)) M = .ok (.dat (.bl (decide (i < j)))) M := rfl
@[simp] theorem y_le : vLe (.dat (.int i)) (.dat (.int j)) M = .ok (.dat (.bl (decide (i ≤ j)))) M := rfl
@[simp] theorem y_gt : vGt (.dat (.int i)) (.dat (.int j)) M = .ok (.dat (.bl (decide (j < i)))) M := rfl
@[simp] theorem y_ge : vGe (.dat (.int i)) (.dat (.int j)) M = .ok (.dat (.bl (decide (j ≤ i)))) M := rfl
@[simp] theorem y_neg : vNeg (.dat (.int i)) M = .ok (.dat (.int (-i))) M := rfl
theorem y_mod (h : 0 < j) : vMod (.dat (.int i)) (.dat (.int j)) M = .ok (.dat (.int (i % j))) M := by simp [vMod, vI, h]
theorem y_div (h : 0 < j) (h2 : j < 1073741824) : vDiv (.dat (.int i)) (.dat (.int j)) M = .ok (.dat (.int (i / j))) M := by simp [vDiv, vI, h, h2]
theorem y_mul (h : -(2 ^ 64) < j ∧ j < 2 ^ 64) : vMul (.dat (.int i)) (.dat (.int j)) M = .ok (.dat (.int (i * j))) M := by
  show (if _ then _ else _) = _
  rw [if_pos (.inr h)]
@[simp] theorem view_dat (n : Nat) (d : D) : view M n (.dat d) = some d := by cases n <;> rfl
@[simp] theorem view_vw (n : Nat) (d : D) : view M n (.vw d) = some d := by cases n <;> rfl
@[simp] theorem y_eqI : vEq (.dat (.int i)) (.dat (.int j)) M = .ok (.dat (.bl (i == j))) M := by simp [vEq, okD]
@[simp] theorem y_neI : vNe (.dat (.int i)) (.dat (.int j)) M = .ok (.dat (.bl (!(i == j)))) M := by simp [vNe, okD]
end
/-! ### items -/
theorem atI_map {α β : Type} (f : α → β) (l : List α) (i : Int) : atI (l.map f) i = (atI l i).map f := by
  unfold atI
  rw [List.length_map]
  cases ixN l.length i with
  | none => rfl
  | some j => simp
theorem atI_nat {α : Type} (l : List α) (n : Nat) : atI l (n : Int) = l[n]? := by
  unfold atI ixN
  by_cases h : n < l.length
  · rw [if_pos (by omega), if_pos (by omega)]; simp
  · rw [if_pos (by omega), if_neg (by omega), List.getElem?_eq_none (by omega)]; rfl
section
variable {α : Type} {x y z u v : α} {l : List α}
@[simp] theorem at0 : atI (x :: l) 0 = some x := atI_nat _ 0
@[simp] theorem at1 : atI (x :: y :: l) 1 = some y := atI_nat _ 1
@[simp] theorem at2 : atI (x :: y :: z :: l) 2 = some z := atI_nat _ 2
@[simp] theorem at3 : atI (x :: y :: z :: u :: l) 3 = some u := atI_nat _ 3
@[simp] theorem at4 : atI (x :: y :: z :: u :: v :: l) 4 = some v := atI_nat _ 4
end
theorem ixN_nat {n m : Nat} (h : m < n) : ixN n (m : Int) = some m := by
  unfold ixN
  rw [if_pos (by omega), if_pos (by omega)]
  simp
@[simp] theorem ix0 (n : Nat) : ixN (n + 1) 0 = some 0 := ixN_nat (m := 0) (by omega)
@[simp] theorem ix1 (n : Nat) : ixN (n + 1 + 1) 1 = some 1 := ixN_nat (m := 1) (by omega)
section
variable {M : Mem} {i : Int} {k : Nat} {bs : List B} {ds : List D}
theorem y_ixO (h : M[k]? = some (some (.lst bs))) : vIx (.own k) (.dat (.int i)) M = match atI bs i with
  | some b => .ok b M
  | none => .stuck := by
  simp only [vIx, els, h] <;> (cases atI bs i <;> rfl)
@[simp] theorem y_ixL : vIx (.dat (.lst ds)) (.dat (.int i)) M = match atI ds i with
  | some b => .ok (.dat b) M
  | none => .stuck := by
  simp only [vIx, els, atI_map]
  cases atI ds i <;> rfl
@[simp] theorem y_ixT : vIx (.dat (.tup ds)) (.dat (.int i)) M = match atI ds i with
  | some b => .ok (.dat b) M
  | none => .stuck := by
  simp only [vIx, els, atI_map]
  cases atI ds i <;> rfl
@[simp] theorem y_ixVL : vIx (.vw (.lst ds)) (.dat (.int i)) M = match atI ds i with
  | some b => .ok (lo b) M
  | none => .stuck := by
  simp only [vIx, els, atI_map]
  cases atI ds i <;> rfl
@[simp] theorem y_ixVT : vIx (.vw (.tup ds)) (.dat (.int i)) M = match atI ds i with
  | some b => .ok (lo b) M
  | none => .stuck := by
  simp only [vIx, els, atI_map]
  cases atI ds i <;> rfl
theorem y_lenO (h : M[k]? = some (some (.lst bs))) : vLen [.own k] M = .ok (.dat (.int bs.length)) M := by simp [vLen, els, h]
@[simp] theorem y_lenL : vLen [.dat (.lst ds)] M = .ok (.dat (.int ds.length)) M := by simp [vLen, els]
@[simp] theorem y_lenT : vLen [.dat (.tup ds)] M = .ok (.dat (.int ds.length)) M := by simp [vLen, els]
@[simp] theorem y_lenVL : vLen [.vw (.lst ds)] M = .ok (.dat (.int ds.length)) M := by simp [vLen, els]
@[simp] theorem y_lenVT : vLen [.vw (.tup ds)] M = .ok (.dat (.int ds.length)) M := by simp [vLen, els]
theorem y_isL (h : M[k]? = some (some (.lst bs))) : isL (.own k) M = true := by simp [isL, h]
theorem y_popAt (h : M[k]? = some (some (.lst bs))) {n : Nat} {y : B} (hy : bs[n]? = some y) (hn : n < 2 ^ 63) : vPopAt (.own k) [.dat (.int (n : Int))] M = .ok y (M.set k (some (.lst (bs.eraseIdx n)))) := by
  have : ((n : Int) < 9223372036854775808) := by omega
  simp [vPopAt, h, hy, this]
theorem y_app (h : M[k]? = some (some (.lst bs))) (hl : bs.length < SZ) {y : B} : vAppend (.own k) [y] M = .ok (.dat .non) (M.set k (some (.lst (bs ++ [y])))) := by simp [vAppend, h, hl]
end
@[simp] theorem dats_nil : dats [] = some [] := rfl
@[simp] theorem dats_cons (d : D) (bs : List B) : dats (.dat d :: bs) = (dats bs).map (d :: ·) := by
  have e : datOf (.dat d) = some d := rfl
  unfold dats
  rw [List.map_cons, e, optAll]
  cases optAll (bs.map datOf) <;> rfl
@[simp] theorem y_tupL (ds : List D) (M : Mem) : vTup [.dat (.lst ds)] M = .ok (.dat (.tup ds)) M := by simp [vTup, isL, els]
@[simp] theorem y_tupT (ds : List D) (M : Mem) : vTup [.dat (.tup ds)] M = .ok (.dat (.tup ds)) M := rfl
@[simp] theorem x_rgT (e : Ev) (ρ : Rho) (M : Mem) : eRgT e ρ M = (e ρ M).bind fun x M1 => match x with
  | .dat (.int n) => if okRg 0 n = true then .ok (.dat (.tup (rgD 0 n))) M1 else .stuck
  | _ => .stuck := rfl
@[simp] theorem SZ_val : SZ = 16777216 := rfl
@[simp] theorem x_forR1 (g : Tg) (a : Ea) (s : Es) (ρ : Rho) (M : Mem) : sForR1 g a s ρ M = (a ρ M).bind fun xs M1 => match rngOf1 xs with
  | some bs => forL g s bs ρ M1
  | none => .stuck := rfl
@[simp] theorem x_forR2 (g : Tg) (a : Ea) (s : Es) (ρ : Rho) (M : Mem) : sForR2 g a s ρ M = (a ρ M).bind fun xs M1 => match rngOf2 xs with
  | some bs => forL g s bs ρ M1
  | none => .stuck := rfl
theorem x_for (g : Tg) (e : Ev) (s : Es) (ρ : Rho) (M : Mem) : sFor g e s ρ M = (e ρ M).bind fun x M1 => match items x with
  | some bs => forL g s bs ρ M1
  | none => .stuck := rfl
/-! ### frozen -/
theorem x_frz {n i k : Nat} {ρ : Rho} {M : Mem} {bs : List B} {s : Es} (ds : List D) (h1 : ρ[i]? = some (some (.own k))) (h2 : n ≤ k) (h3 : M[k]? = some (some (.lst bs))) (h4 : bs = ds.map .dat) :
    sFz n i s ρ M = s (ρ.map fun o => o.map (sbB k (.lst ds))) ((M.map (sbC k (.lst ds))).set k none) := by
  subst h4
  unfold sFz
  simp only [h1, h2, if_true, h3, dats_map]
@[simp] theorem sb_dat (k : Nat) (d e : D) : sbB k d (.dat e) = .dat e := rfl
@[simp] theorem sb_vw (k : Nat) (d e : D) : sbB k d (.vw e) = .vw e := rfl
@[simp] theorem sb_own (k : Nat) (d : D) : sbB k d (.own k) = .dat d := by simp [sbB]
theorem sb_ne {k j : Nat} (d : D) (h : j ≠ k) : sbB k d (.own j) = .own j := by simp [sbB, h]
@[simp] theorem sb_none (k : Nat) (d : D) : sbC k d none = none := rfl
theorem sbC_dat (k : Nat) (d : D) (ds : List D) : sbC k d (some (.lst (ds.map .dat))) = some (.lst (ds.map .dat)) := by
  unfold sbC
  simp only [Option.map_some, mapC, List.map_map]
  rfl
/-! ### the end of a def -/
@[simp] theorem fin_0 (d : D) (M : Mem) : finD 0 (.ok (.dat d) M) = .ok (.dat d) [] := by
  simp [finD, resB, optAll]
theorem res_dat (n : Nat) (M : Mem) (ds : List D) : resC n M (some (.lst (ds.map .dat))) = some (some (.lst (ds.map .dat))) := by
  have h : ((ds.map B.dat).all fun b => (resB n M b).isSome) = true := by
    rw [List.all_eq_true]
    intro b hb
    obtain ⟨d, _, rfl⟩ := List.mem_map.mp hb
    rfl
  have h2 : (ds.map B.dat).map (fun b => (resB n M b).getD b) = ds.map B.dat := by
    rw [List.map_map]
    rfl
  unfold resC allC mapC
  simp only [h, h2, if_true]
theorem fin_1 (d : D) (ds : List D) (M : Mem) : finD 1 (.ok (.dat d) (some (.lst (ds.map .dat)) :: M)) = .ok (.dat d) [some (.lst (ds.map .dat))] := by
  unfold finD
  simp only [Res.bind_ok, List.take_succ_cons, List.take_zero, List.map_cons, List.map_nil, res_dat, optAll]
  rfl
end Ab

/-! Where an exception is handled: isinstance of it, defs called there. -/
namespace Ab
open PySem PySem.Spec PyProof.Rows L2 L2H
/-! ### isinstance(e, C), e the exception that is handled -/
/-- its fields, if it has any, stand there -/
def rIsP (K : PySem.W.Frag) (D a : Addr) (d : Option Addr) : List V → Hp → VK → Prop := fun xs H Q => (∀ dd, d = some dd → ∃ fs, H dd = some (.xd fs)) ∧ rIsE K D a xs H Q
theorem exc_inst {X : Cx} {pins : List (Addr × Obj)} {σ : L2.St} {H : Hp} {s : Shared} {a D : Addr} {oe : Obj} {d : Option Addr} (I : Inv X pins σ H s) (hz : Zc (.ref D) d oe) (hf : ∃ vs, oe.data = .fields vs) (hp : (a, oe) ∈ X.pn) (hd : ∀ dd, d = some dd → ∃ fs, H dd = some (.xd fs)) : ∃ od, PySem.W.InstAt s.heap a oe D od := by
  obtain ⟨hget, _⟩ := I.pin (a, oe) (List.mem_append.mpr (.inl hp))
  obtain ⟨vs, hv⟩ := hf
  have hn : PySem.W.notCls oe = true := by
    unfold PySem.W.notCls
    rw [hv]
  cases d with
  | none => exact ⟨none, hget, hz.1, hn, by rw [hz.2]; trivial⟩
  | some dd =>
    obtain ⟨fs, e⟩ := hd dd rfl
    have hx : ObjOk X.prog X.w H s.heap dd (.xd fs) := I.hok dd _ e
    obtain ⟨mA, hns, _⟩ := hx
    obtain ⟨od, ho, _⟩ := lookIn_ns hns
    exact ⟨some od, hget, hz.1, hn, by rw [hz.2]; exact ho⟩
theorem call_isP {X : Cx} {a D : Addr} {oe : Obj} {d : Option Addr} (C : ExcC X.K D) (hz : Zc (.ref D) d oe) (hf : ∃ vs, oe.data = .fields vs) (hp : (a, oe) ∈ X.pn) : CallR X (.builtin "isinstance") (rIsP X.K D a d) := by
  intro pins s σ H xs us Q I r h
  obtain ⟨hd, c, cv, b, rfl, hcv, e, q⟩ := h
  cases r with
  | cons rx rr =>
    cases rr with
    | cons rt rr =>
      cases rr
      cases rx
      have ec := hcv _ rt
      subst ec
      obtain ⟨od, J⟩ := exc_inst I hz hf hp hd
      have hcl : (PySem.W.clsIn X.K D).isSome = true := by
        obtain ⟨cd, hc, _⟩ := PySem.W.any_some C.hd
        rw [hc]
        rfl
      exact PySem.W.kia_one (PySem.W.kitx_exc hcl C.hg C.hk C.hs C.ha C.hn C.ht C.hm) I.kIn J e (fun z => nomatch z) fun tk => ⟨.bl b, H, I.kept (t' := tk) fun _ _ z => z, rfl, q⟩
def clsV : B → Option Value
  | .dat (.ref c) => some (.ref c)
  | .ty n => some (.type n)
  | _ => none
/-- the exception that is handled, as a value -/
def isArg (a : Addr) (d : Option Addr) : B → Bool
  | .dat (.ref a') => decide (a' = a) && d.isNone
  | .vw (.ref a') => decide (a' = a) && d.isNone
  | .dat (.xc a' dd _) => decide (a' = a) && decide (d = some dd)
  | .vw (.xc a' dd _) => decide (a' = a) && decide (d = some dd)
  | _ => false
def vIsE (K : PySem.W.Frag) (D a : Addr) (d : Option Addr) (xs : List B) (M : Mem) : Res B := match xs with
  | [x, c] => if isArg a d x = true then (match clsV c with
    | some cv => (match PySem.W.kitOne K (.ref D) cv with
      | some b => .ok (.dat (.bl b)) M
      | none => .stuck)
    | none => .stuck) else .stuck
  | _ => .stuck
theorem den_xc {H : Hp} {T : Addr → Prop} {v : V} {a dd : Addr} {fs : List (Str × D)} (h : Den H T v (.xc a dd fs)) : v = .ref a ∧ ∃ us, H dd = some (.xd us) := by
  cases h with
  | xc h n e r => exact ⟨rfl, _, h⟩
theorem isArg_ok {S : Addr → Prop} {as : As} {H : Hp} {v : V} {a : Addr} {d : Option Addr} {x : B} (h : isArg a d x = true) (r : RB S as H v x) : v = .ref a ∧ ∀ dd, d = some dd → ∃ fs, H dd = some (.xd fs) := by
  unfold isArg at h
  split at h
  · obtain ⟨h1, h2⟩ := He.ba h
    have e1 := of_decide_eq_true h1
    subst e1
    cases r
    exact ⟨rfl, fun dd e => by rw [e] at h2; cases h2⟩
  · obtain ⟨h1, h2⟩ := He.ba h
    have e1 := of_decide_eq_true h1
    subst e1
    cases r
    exact ⟨rfl, fun dd e => by rw [e] at h2; cases h2⟩
  · obtain ⟨h1, h2⟩ := He.ba h
    have e1 := of_decide_eq_true h1
    have e2 := of_decide_eq_true h2
    subst e1
    obtain ⟨q1, q2⟩ := den_xc r
    exact ⟨q1, fun dd e => by rw [e2] at e; cases e; exact q2⟩
  · obtain ⟨h1, h2⟩ := He.ba h
    have e1 := of_decide_eq_true h1
    have e2 := of_decide_eq_true h2
    subst e1
    obtain ⟨q1, q2⟩ := den_xc r
    exact ⟨q1, fun dd e => by rw [e2] at e; cases e; exact q2⟩
  · cases h
theorem vn_isE {W : XB → Hp → Prop} {K : PySem.W.Frag} {D a : Addr} {d : Option Addr} : VN W (rIsP K D a d) (vIsE K D a d) := by
  intro G as H ρ M σ xs vs Q R r h
  unfold vIsE at h
  split at h
  · rename_i x c
    split at h
    · rename_i hx
      split at h
      · rename_i cv ec
        split at h
        · rename_i b eb
          cases r with
          | cons r1 t =>
            cases t with
            | cons r2 t =>
              cases t
              obtain ⟨rfl, hd⟩ := isArg_ok hx r1
              rename_i u
              refine ⟨hd, u, cv, b, rfl, fun z hz => ?_, eb, h _ as H R (Den.bl b)⟩
              unfold clsV at ec
              split at ec
              · cases ec
                cases r2
                exact hz
              · cases ec
                have e2 : u = V.ty _ := r2
                subst e2
                exact hz
              · cases ec
        · exact h.elim
      · exact h.elim
    · exact h.elim
  · exact h.elim
theorem ev_gref {X : Cx} {W : XB → Hp → Prop} {x : Str} {C : Addr} {pos : Pos} (hg : Gl X x) (hm : X.mg x = some (.ref C)) (hd : (x == ("__debug__" : Str)) = false := by decide) : EV X W (.Name x pos) (eC (.ref C)) :=
  pe_imp (pe_glob (v := V.ref C) hg hm rfl hd) fun _ _ _ h => cE_C (fun _ => Den.ref C) h
/-! ### a comprehension over a list there -/
def eLCL (vs : List Nat) (g : Tg) (l : Ev) (t : Et) (e : Ev) : Ev := fun ρ M => (l ρ M).bind fun x M1 => match x with
  | .dat (.lst ds) => lcAll vs g t e (ds.map .dat) ρ M1
  | _ => .stuck
section
variable {X : Cx} {W : XB → Hp → Prop}
theorem lcL_imp {l : Ev} {g : Tg} {t : Et} {e : Ev} {vs : List Nat} {σ : L2.St} {H : Hp} {Q : VK} (h : cE W (eLCL vs g l t e) σ H Q) : tLc (iLst X.K (cE W l)) (cGc vs g) (cT W0 t) (cE W0 e) vs σ H Q := by
  obtain ⟨G, as, ρ, M, R, h⟩ := h
  refine ⟨G, as, ρ, M, R, ?_⟩
  unfold eLCL at h
  cases q : l ρ M with
  | stuck => rw [q] at h; exact h
  | exc x => rw [q] at h; exact h
  | ok x M1 =>
    rw [q] at h
    intro v as1 H1 R1 r1
    simp only [Res.bind_ok] at h
    split at h
    · rename_i ds
      cases r1 with
      | lst ha na hd =>
        rename_i a xs
        have rs : RBs G.S as1 H1 xs (ds.map .dat) := rbs_dat hd
        have hl := rs.length
        have na' : ¬ some a ∈ as1 := fun z => na (.inr z)
        have R2 : Rep (G.walk a _ (xs.zip (ds.map .dat))) as1 H1 ρ M1 σ := R1.walk ha na' (rbs_zip rs)
        have h2 := poE_walk (a := a) (o := .lst xs) (l := xs.zip (ds.map .dat)) h
        generalize ds.map B.dat = bs at *
        have sl : ∀ (i : Nat) (b : B), ρ[i]? = some (some b) → ∃ v, σ[i]? = some (some v) := fun i b e => let ⟨v, h, _⟩ := R2.sl i b e; ⟨v, h⟩
        have turn : ∀ (D : Addr) (i : Nat) (x : V) (H : Hp), xs[i]? = some x → PvC (G.walk a _ (xs.zip bs)) σ ρ D M1.length g t e vs (fun H => Q (.ref D) H) (bs.drop i) H → cGc vs g x (wipe σ vs) H fun σ2 H2 => wipe σ2 vs = wipe σ vs ∧ cT W0 t σ2 H2 fun c H3 => if c = true then cE W0 e σ2 H3 fun y H4 => ∃ acc, H4 D = some (.lst acc) ∧ acc.length < sizeLine ∧ PvC (G.walk a (.lst xs) (xs.zip bs)) σ ρ D M1.length g t e vs (fun H => Q (.ref D) H) (bs.drop (i + 1)) (upd H4 D (.lst (acc ++ [y]))) else PvC (G.walk a (.lst xs) (xs.zip bs)) σ ρ D M1.length g t e vs (fun H => Q (.ref D) H) (bs.drop (i + 1)) H3 := fun D i x H ex p => by
          have hi : i < bs.length := by rw [← hl]; exact (List.getElem?_eq_some_iff.mp ex).1
          have eb : bs[i]? = some bs[i] := List.getElem?_eq_getElem hi
          rw [List.drop_eq_getElem_cons hi] at p
          exact pvC_turn R2.len sl (fun as H hp => rb_walk (G := G) (a := a) (o := .lst xs) ex eb hp) p
        have keepO : ∀ (D : Addr) (bs' : List B) (H : Hp), PvC (G.walk a (.lst xs) (xs.zip bs)) σ ρ D M1.length g t e vs (fun H => Q (.ref D) H) bs' H → H a = some (.lst xs) := fun D bs' H p => by
          obtain ⟨as, M, σx, ρx, R, _⟩ := p
          exact (R.kp (a, .lst xs) List.mem_cons_self).1
        have done : ∀ (D : Addr) (H : Hp), PvC (G.walk a (.lst xs) (xs.zip bs)) σ ρ D M1.length g t e vs (fun H => Q (.ref D) H) (bs.drop xs.length) H → Q (.ref D) H := fun D H p => by
          rw [hl, List.drop_length] at p
          exact pvC_end (Qd := fun H => Q (.ref D) H) R2.len sl p
        refine ⟨a, rfl, ⟨xs, SqL.of ha⟩, fun D hD0 => lc_list (xs := xs) (fun i H => PvC (G.walk a (.lst xs) (xs.zip bs)) σ ρ D M1.length g t e vs (fun H => Q (.ref D) H) (bs.drop i) H) ?_ (fun i H _ p => SqL.of (keepO D _ H p)) (turn D) (done D)⟩
        rw [List.drop_zero]
        exact pvC_start R2 hD0 h2
    · exact h.elim
theorem ev_lcH {elt tg iter : Expr} {ifs : List Expr} {scope : Scope} {own : List (Str × Nat)} {pos : Pos} {l : Ev} {g : Tg} {t : Et} {e : Ev} (hot : HotC X) (hN : X.N.Nodup) (hi : EV X W iter l) (ok : BlkOk X.N X.env.scope scope own)
    (hg : ∀ (s : Shared) (H : Hp) (C : Addr) (cl : List (Str × Addr)) (fp : List Addr), EGc (X.blk s H scope (compEnvC scope cl C X.env) fp) (own.map (·.2)) tg g) (ht : ∀ (s : Shared) (H : Hp) (C : Addr) (cl : List (Str × Addr)) (fp : List Addr), ETs (X.blk s H scope (compEnvC scope cl C X.env) fp) ifs t)
    (he : ∀ (s : Shared) (H : Hp) (C : Addr) (cl : List (Str × Addr)) (fp : List Addr), EV (X.blk s H scope (compEnvC scope cl C X.env) fp) W0 elt e) (hs : ∀ x, foldedSetIterable iter X.env x = pure x := by intro _; rfl) :
    EV X W (.ListComp elt [⟨tg, iter, ifs, 0⟩] scope pos) (eLCL (own.map (·.2)) g l t e) :=
  pe_imp (pe_lcH hot hN hi ok hg ht he hs) fun σ H Q h => lcL_imp h
end
/-! ### a def that is called there: its promise knows the exception that is handled -/
structure FnHP (P : Program) (w : World) (K : PySem.W.Frag) (mg : Str → Option Value) (base : Heap) (CX : CXT) (k : Nat) (f : Addr) (fd : FuncData) (ps : List Str) (sp : Addr × Obj → Sp) : Prop where
  len : ∀ p vs H Q E, sp p vs H Q E → vs.length = ps.length
  run : ∀ (A : Around) (outer : List Env) (s : Shared) (H : Hp) (args : Args) (us : List Value) (vs : List V) (Q : VK) (E : XK) (p : Addr × Obj), RoomH k A → Hot1 A p → PinOk outer H s p → Env0 P w K mg base A outer s H → BindsTo s fd args (ps.zip us) → Vals vs us → sp p vs H Q E →
    codeAny (model P w) A (.call (.ref f) args) (CR CX outer P w H s Q E) s
theorem fn_ofHP {CX : CXT} {P : Program} {w : World} {K : PySem.W.Frag} {mg : Str → Option Value} {base : Heap} {k : Nat} {f : Addr} {name qual : Str} {params : Arguments} {body : List Stmt} {scope : Scope} {dV kV doc pm cdv ct oc : Value} {an od : Option Addr}
    {osl : Array (Option Value)} {N ps : List Str} {sp : Addr × Obj → Sp} (lk : K.lookup f = some ⟨oc, od, .func (PySem.W.fnOf name qual params body scope dV kV doc pm an cdv ct), osl⟩) (hcd : PySem.W.codeIn K cdv qual = true) (S : FnScope N ps scope)
    (len : ∀ p vs H Q E, sp p vs H Q E → vs.length = ps.length)
    (hbody : ∀ (A : Around) (outer : List Env) (s : Shared) (H : Hp) (vs : List V) (Q : VK) (E : XK) (p : Addr × Obj), Hot1 A p → RoomH k (A.deeper (envOfC qual scope s.heap.objs.size f cdv)) → sp p vs H Q E →
      ∃ t, PSs (cxH CX P w K mg base N qual scope f cdv A outer s H E p) body t ∧ t { nx := fun _ H' => Q .non H', rt := Q } (L2.start N vs) H) :
    FnHP P w K mg base CX (k + 1) f (PySem.W.fnOf name qual params body scope dV kV doc pm an cdv ct) ps sp := by
  refine ⟨len, fun A outer s H args us vs Q E p hr hot hpin e0 hb r hsp => ?_⟩
  have F : FnH P w K mg base CX (k + 1) f (PySem.W.fnOf name qual params body scope dV kV doc pm an cdv ct) ps (fun vs H Q E => False) := fn_ofH lk hcd S (fun _ _ _ _ h => h.elim) fun _ _ _ _ _ _ _ _ _ _ h => h.elim
  have hl := len _ _ _ _ _ hsp
  have KX : K.In s.heap := e0.mod.kin.keeps fun b o e => (e0.bs b o e).1
  have lim : s.heap.NoLimit := e0.mod.nolimit.keeps fun b o e => (e0.bs b o e).1
  have hkind : ∀ y ∈ ps.zip us, scope.names.lookup y.1 = some .local ∨ (scope.names.lookup y.1 = some .cell ∧ ((cellsFrom (s.heap.objs.size + 1) scope.names []).lookup y.1).isSome = true) := fun ⟨n, v⟩ hy => by
    rcases S.par n (List.of_mem_zip hy).1 with q | q
    · exact .inl q
    · exact .inr ⟨q, PySem.W.cellsFrom_some _ _ _ (.inl q)⟩
  refine codeAny_call_function hr.depth (KX _ _ lk) rfl S.co S.gen rfl (PySem.W.codeRec_of KX hcd) (hb _ _ _ _ ?_)
  refine wpAny_newFunctionEnv_cells S.kind hkind fun env he s1 x => ?_
  subst he
  refine ⟨lim.keeps x.toInCall.keep, codeAny_func ?_⟩
  obtain ⟨t, ht, hq⟩ := hbody A outer s H vs Q E p hot (hr.deeper _) hsp
  have I : Inv (cxH CX P w K mg base N qual scope f cdv A outer s H E p) [] (L2.start N vs) H s1 := inv_startH S hpin e0 hl r x
  refine wpAny_mono (ht.run [] s1 (L2.start N vs) H _ I hq) (fun fl s' hs => ?_) fun e s' hs => hs
  have fin : ∀ {σ' : L2.St} {H' : Hp} {v : V} {u : Value}, Inv (cxH CX P w K mg base N qual scope f cdv A outer s H E p) [] σ' H' s' → RelV v u → Q v H' → CE outer P w H s Q u s' :=
    fun {σ' H' v u} J rv q => ⟨v, H', J.os, J.bare, J.base, J.hok, rv, q⟩
  cases fl with
  | ret u =>
    obtain ⟨v, σ', H', J, rv, q⟩ := hs
    exact fin J rv q
  | next =>
    obtain ⟨σ', H', J, q⟩ := hs
    exact fin (v := V.non) (u := Value.none) J rfl q
  | brk =>
    obtain ⟨_, _, _, q⟩ := hs
    exact False.elim q
  | cont =>
    obtain ⟨_, _, _, q⟩ := hs
    exact False.elim q
section
variable {X : Cx} {CX : CXT} {k : Nat} {f : Addr} {fd : FuncData} {ps : List Str} {sp : Addr × Obj → Sp} {E : L2.St → XK} {x : Str} {q pos : Pos} {e : Expr} {es : List Expr} {t : TA} {p : Addr × Obj}
theorem pe_callHP (F : FnHP X.prog X.w X.K X.mg X.base CX k f fd ps sp) (hr : RoomH k X.A) (hot : Hot1 X.A p) (hp : p ∈ X.pn) (hg : Gl X x) (hm : X.mg x = some (.ref f)) (hk : PySem.W.keepIn X.K (.ref f) = true) (hb : Binds X.K fd ps []) (hx : ∀ σ, PassesAt CX X σ (E σ))
    (ha : PA X (e :: es) t) (hdb : (x == ("__debug__" : Str)) = false := by decide) (he : starEach (e :: es) X.env = (false, eval e X.env) :: starEach es X.env := by rfl) (hpl : (backTo pos (starEach es X.env)).any (·.1) = false := by rfl) :
    PE X (.Call (.Name x q) (e :: es) [] pos) (tCallS (sp p) E t) := by
  refine ⟨fun pins s σ H Q I h => ?_⟩
  refine wpAny_Call_Name_kw (ld_glob I hg hm ?_ hdb)
  refine PySem.W.callWith_K (h₀ := X.base) I.ok.mod.kin hk (thn (ha.run pos pins s σ H _ I h) fun us s1 ⟨vs, H1, I1, r, q⟩ => ⟨I1.kIn, ?_⟩) he hpl
  have hl : us.length = ps.length := by rw [← r.length]; exact F.len _ _ _ _ _ q
  have b := hb s1 us I1.kIn (by rw [List.append_nil]; exact hl)
  rw [List.append_nil] at b
  have P1 := I1.pin p (List.mem_append_left _ hp)
  have hpin : PinOk X.stack H1 s1 p := ⟨P1.1, P1.2.1, fun hm => (List.mem_cons.mp (I1.stkSub p.1 hm)).elim P1.2.2.1 P1.2.2.2.1, P1.2.2.2.2⟩
  refine wpAny_call (codeAny_mono (F.run X.A X.stack s1 H1 ⟨us, []⟩ us vs Q (E σ) p hr hot hpin I1.env0 b r q) fun r s' hq => ?_)
  cases r with
  | error e => exact hx σ pins H1 s1 e s' I1 hq
  | ok fl =>
    cases fl with
    | ret u => exact I1.after hq
    | next => exact False.elim hq
    | brk => exact False.elim hq
    | cont => exact False.elim hq
end
end Ab

/-! Exceptions raised, let through, caught. -/
namespace Ab
open PySem PySem.Spec PyProof.Rows L2 L2H
/-! ### what a refusal is -/
def xName : XB → Str
  | .gate _ _ _ => "BadGate"
  | .hand => "NoHand"
  | .many => "TooMany"
  | .two _ => "TwoWithin"
  | .other => "OtherGate"
  | .text _ => "BadText"
def plainX : XB → Bool
  | .hand => true
  | .many => true
  | .other => true
  | _ => false
/-- a refusal's fields -/
def xFlds : XB → List (Str × D)
  | .gate why h st => [("why", .str why), ("hand", .int h), ("step", .int st)]
  | .two w => [("weaving", .lst (w.map .int))]
  | .text r => [("row", .int r)]
  | _ => []
/-- where they stand -/
def FldAt (H : Hp) (d : Option Addr) (flds : List (Str × D)) : Prop := ∃ (dd : Addr) (vs : List V), d = some dd ∧ H dd = some (.xd ((flds.map (·.1)).zip vs).reverse) ∧ Dens H (fun _ => False) vs (flds.map (·.2))
/-- what leaves with a refusal -/
def AX1 (K : PySem.W.Frag) : AbsX := fun x cls d H => cls = .ref (He.ga K (xName x)) ∧ (plainX x = true → d = none) ∧ (plainX x = false → FldAt H d (xFlds x))
def sRaise (x : XB) : Es := fun _ _ => .exc x
/-- what a raising def lets out -/
abbrev WX1 (K : PySem.W.Frag) (E : XK) : XB → Hp → Prop := fun x H' => ∀ cls d, AX1 K x cls d H' → E cls d H'
section
variable {X : Cx} {E : XK}
theorem es_raise {n : Nat} {x : XB} {nm m : Str} {j : Nat} {p p2 cp pos : Pos} (hc : X.calm = true) (tk : L2N.Takes X (fun cls d _ H => E cls d H)) (q : PySem.W.excIn X.K (He.ga X.K nm) He.veBase "ValueError.__new__" = true) (gC : X.mg nm = some (.ref (He.ga X.K nm)))
    (kC : PySem.W.keepIn X.K (.ref (He.ga X.K nm)) = true) (r : Raises X (.ref (He.ga X.K nm))) (hg : Gl X nm) (hx : plainX x = true := by rfl) (hn : xName x = nm := by rfl) (hdb : (nm == ("__debug__" : Str)) = false := by decide) :
    ES X (WX1 X.K E) n (.Raise (some (.Call (.Name nm p) [.Constant (.str m) j p2] [] cp)) none pos) (sRaise x) :=
  ps_imp (L2N.ps_raise hc tk (L2N.pmk_own PySem.F.excBase_ValueError q gC kC r hg hdb)) fun D σ H h => by
    obtain ⟨G, as, ρ, M, hg, R, h⟩ := h
    exact h H R.fr _ _ ⟨by rw [hn], fun _ => rfl, fun z => by rw [hx] at z; cases z⟩
end
theorem es_raiseF {X : Cx} {E : XK} {n : Nat} {nm m : Str} {j : Nat} {p p2 cp pos : Pos} (x : XB) (hc : X.calm = true) (tk : L2N.Takes X (fun cls d _ H => E cls d H)) (f : (He.Fa.exc nm).ok X.K = true) (gC : X.mg nm = some (.ref (He.ga X.K nm))) (hg : Gl X nm) (hx : plainX x = true := by rfl) (hn : xName x = nm := by rfl) (hdb : (nm == ("__debug__" : Str)) = false := by decide) :
    ES X (WX1 X.K E) n (.Raise (some (.Call (.Name nm p) [.Constant (.str m) j p2] [] cp)) none pos) (sRaise x) := by
  obtain ⟨h1, h2⟩ := He.ba f
  obtain ⟨h2, h3⟩ := He.ba h2
  obtain ⟨h3, h4⟩ := He.ba h3
  exact es_raise hc tk h1 gC h2 (raises_own (of_decide_eq_true h3) (of_decide_eq_true h4)) hg hx hn hdb
/-! ### the facts of the head -/
theorem boot_ValErr : bootBuiltins "ValueError" = some (.type "ValueError") := by decide +kernel
def exNames : List Str := ["BadGate", "NoHand", "TooMany", "TwoWithin", "OtherGate", "BadText"]
def excB (K : PySem.W.Frag) (nm : Str) : Bool :=
  He.eqO (PySem.W.findIn K (.ref (He.ga K nm)) "__getattribute__") (some (some (.builtin "BaseException.__getattribute__"))) &&
  (He.eqO (PySem.W.findIn K (.ref (He.ga K nm)) "__getattr__") (some none) &&
  (decide (PySem.W.subIn K (.ref (He.ga K nm)) (.type "BaseException") = some true) &&
  (PySem.W.hasDictIn K (He.ga K nm) &&
  (He.eqO (PySem.W.findIn K (.ref (He.ga K nm)) "__class__") (some (some (.builtin "object.__class__"))) &&
  (He.eqO (PySem.W.specialIn K (.builtin "object.__class__") "__get__") (some (some (.builtin "getset_descriptor.__get__"))) &&
  (decide (PySem.W.takesIn K (.builtin "object.__class__") = some true) &&
  (decide (PySem.W.mroIn K (He.ga K nm) (.type "object") = some true) &&
  (decide (PySem.W.exmOne K (.ref (He.ga K nm)) (.ref (He.ga K "GateError")) = some true) &&
  (decide (PySem.W.kitOne K (.ref (He.ga K nm)) (.type "ValueError") = some true) &&
  exNames.all fun m => decide (PySem.W.kitOne K (.ref (He.ga K nm)) (.ref (He.ga K m)) = some (nm == m)))))))))))
theorem excB_ok {K : PySem.W.Frag} {nm : Str} (h : excB K nm = true) : ExcC K (He.ga K nm) ∧ PySem.W.exmOne K (.ref (He.ga K nm)) (.ref (He.ga K "GateError")) = some true ∧ PySem.W.kitOne K (.ref (He.ga K nm)) (.type "ValueError") = some true ∧ ∀ m ∈ exNames, PySem.W.kitOne K (.ref (He.ga K nm)) (.ref (He.ga K m)) = some (nm == m) := by
  unfold excB at h
  obtain ⟨h1, h⟩ := He.ba h
  obtain ⟨h2, h⟩ := He.ba h
  obtain ⟨h3, h⟩ := He.ba h
  obtain ⟨h4, h⟩ := He.ba h
  obtain ⟨h5, h⟩ := He.ba h
  obtain ⟨h6, h⟩ := He.ba h
  obtain ⟨h7, h⟩ := He.ba h
  obtain ⟨h8, h⟩ := He.ba h
  obtain ⟨h9, h⟩ := He.ba h
  obtain ⟨h10, h⟩ := He.ba h
  exact ⟨⟨He.eqO_ok h1, He.eqO_ok h2, of_decide_eq_true h3, h4, He.eqO_ok h5, He.eqO_ok h6, of_decide_eq_true h7, of_decide_eq_true h8⟩, of_decide_eq_true h9, of_decide_eq_true h10, fun m hm => of_decide_eq_true (List.all_eq_true.mp h m hm)⟩
def fldNames : List Str := ["why", "hand", "step", "weaving", "row"]
def exFB (K : PySem.W.Frag) (nm : Str) : Bool := fldNames.all fun f => He.eqO (PySem.W.findIn K (.ref (He.ga K nm)) f) (some none)
def exB (K : PySem.W.Frag) : Bool := exNames.all fun m => excB K m && exFB K m
/-- a refusal's class -/
structure XcC (K : PySem.W.Frag) (C : Addr) : Prop where
  c : ExcC K C
  no : ∀ f ∈ fldNames, PySem.W.findIn K (.ref C) f = some none
def XTab (K : PySem.W.Frag) : Prop := ∀ x, XcC K (He.ga K (xName x)) ∧ PySem.W.exmOne K (.ref (He.ga K (xName x))) (.ref (He.ga K "GateError")) = some true
theorem exB_at {K : PySem.W.Frag} (h : exB K = true) (x : XB) : excB K (xName x) = true ∧ exFB K (xName x) = true := by
  refine He.ba (List.all_eq_true.mp h (xName x) ?_)
  cases x <;> simp [xName, exNames]
theorem exB_ok {K : PySem.W.Frag} (h : exB K = true) (x : XB) : excB K (xName x) = true := (exB_at h x).1
theorem xtab {K : PySem.W.Frag} (h : exB K = true) : XTab K := fun x => by
  obtain ⟨h1, h2⟩ := exB_at h x
  obtain ⟨q1, q2, _⟩ := excB_ok h1
  exact ⟨⟨q1, fun f hf => He.eqO_ok (List.all_eq_true.mp h2 f hf)⟩, q2⟩
/-! ### a raising def -/
section
variable {P : Program} {w : World} {K : PySem.W.Frag} {mg : Str → Option Value} {base : Heap}
theorem def_DX {x qual : Str} {params : Arguments} {body : List Stmt} {scope : Scope} {f : Addr} {fd : FuncData} {N ps : List Str} {k n : Nat} {t : Es} {fs : Fn}
    (F : FunD K x qual params body scope [] [] f fd) (S : FnScope N ps scope) (hf : ∀ bs M, fs bs M = .stuck ∨ finD n (outB (t (rho0 N.length bs) M)) = fs bs M)
    (hbody : ∀ (cdv : Value) (A : Around) (outer : List Env) (s : Shared) (H : Hp) (E : XK), Room k (A.deeper (envOfC qual scope s.heap.objs.size f cdv)) → L2N.Takes (cxOf (L2N.CX P w) P w K mg base N qual scope f cdv A outer s H E) (fun cls d _ H => E cls d H) →
      ESs (cxOf (L2N.CX P w) P w K mg base N qual scope f cdv A outer s H E) (WX1 K E) n body t) :
    FnOk P w K mg base (L2N.CX P w) (k + 1) f fd ps (spF (AX1 K) ps.length n fs) :=
  F.ok S (fun vs H Q E h => h.1) fun cdv A outer s H vs Q E hr h => body_D (f := fun bs M => finD n (outB (t (rho0 N.length bs) M))) (fun _ _ => rfl) (hbody cdv A outer s H E hr (L2N.takes_of rfl rfl rfl rfl)) (spF_imp hf h)
theorem def_OX {x qual : Str} {params : Arguments} {body : List Stmt} {scope : Scope} {f : Addr} {fd : FuncData} {N ps : List Str} {k n : Nat} {t : Es} {fs : Fn}
    (F : FunD K x qual params body scope [] [] f fd) (S : FnScope N ps scope) (hf : ∀ bs M, fs bs M = .stuck ∨ finO n (outB (t (rho0 N.length bs) M)) = fs bs M)
    (hbody : ∀ (cdv : Value) (A : Around) (outer : List Env) (s : Shared) (H : Hp) (E : XK), Room k (A.deeper (envOfC qual scope s.heap.objs.size f cdv)) → L2N.Takes (cxOf (L2N.CX P w) P w K mg base N qual scope f cdv A outer s H E) (fun cls d _ H => E cls d H) →
      ESs (cxOf (L2N.CX P w) P w K mg base N qual scope f cdv A outer s H E) (WX1 K E) n body t) :
    FnOk P w K mg base (L2N.CX P w) (k + 1) f fd ps (spF (AX1 K) ps.length n fs) :=
  F.ok S (fun vs H Q E h => h.1) fun cdv A outer s H vs Q E hr h => body_O (f := fun bs M => finO n (outB (t (rho0 N.length bs) M))) (fun _ _ => rfl) (hbody cdv A outer s H E hr (L2N.takes_of rfl rfl rfl rfl)) (spF_imp hf h)
/-- a raising def where it does not raise -/
def noXF (f : Fn) : Fn := fun bs M => match f bs M with
  | .ok b M' => .ok b M'
  | _ => .stuck
theorem spF_noX {AX AX' : AbsX} {ar n : Nat} {f : Fn} {vs : List V} {H : Hp} {Q : VK} {E E' : XK} (h : spF AX ar n (noXF f) vs H Q E) : spF AX' ar n f vs H Q E' := by
  obtain ⟨h1, S, as, bs, M, h2, h3, h4, h5⟩ := h
  refine ⟨h1, S, as, bs, M, h2, h3, h4, ?_⟩
  unfold noXF at h5
  cases q : f bs M with
  | stuck => rw [q] at h5; exact h5.elim
  | exc x => rw [q] at h5; exact h5.elim
  | ok b M' => rw [q] at h5; exact h5
theorem fn_noX {AX : AbsX} {k ar n : Nat} {f : Addr} {fd : FuncData} {ps : List Str} {fs : Fn} (F : FnOk P w K mg base (L2N.CX P w) k f fd ps (spF AX ar n fs)) : FnOk P w K mg base CX0 k f fd ps (spF AX0 ar n (noXF fs)) :=
  ⟨fun vs H Q E h => F.len vs H Q E (spF_noX h), fun A outer s H args us vs Q E hr he hb hv h =>
    codeAny_mono (F.run A outer s H args us vs Q (fun _ _ _ => False) hr he hb hv (spF_noX h)) fun r s' hq => by
      cases r with
      | error e =>
        obtain ⟨a, B, H', cls, d, _, _, _, _, _, _, _, z⟩ := (show L2N.CX P w outer H s (fun _ _ _ => False) e s' from hq)
        exact z.elim
      | ok fl =>
        cases fl with
        | ret u => exact hq
        | next => exact hq
        | brk => exact hq
        | cont => exact hq⟩
end
section
variable (P : Program) (w : World) (K : PySem.W.Frag) (mg : Str → Option Value) (base : Heap)
structure HasX (x : Str) (k : Nat) (ps : List Str) (n : Nat) (fs : Fn) : Prop where
  ex : ∃ f fd, FnOk P w K mg base (L2N.CX P w) k f fd ps (spF (AX1 K) ps.length n fs) ∧ mg x = some (.ref f) ∧ PySem.W.keepIn K (.ref f) = true ∧ Binds K fd ps []
end
theorem HasX.has {P : Program} {w : World} {K : PySem.W.Frag} {mg : Str → Option Value} {base : Heap} {x : Str} {k : Nat} {ps : List Str} {n : Nat} {fs : Fn} (h : HasX P w K mg base x k ps n fs) : Has P w K mg base x k ps n (noXF fs) := by
  obtain ⟨f, fd, F, r⟩ := h.ex
  exact ⟨f, fd, fn_noX F, r⟩
theorem HasX.mono {P : Program} {w : World} {K : PySem.W.Frag} {mg : Str → Option Value} {base : Heap} {x : Str} {j k : Nat} {ps : List Str} {n : Nat} {fs : Fn} (h : HasX P w K mg base x j ps n fs) (l : j ≤ k) : HasX P w K mg base x k ps n fs := by
  obtain ⟨f, fd, F, r⟩ := h.ex
  exact ⟨f, fd, F.mono l, r⟩
/-- a raising def is called by one -/
theorem ev_callX {X : Cx} {W : XB → Hp → Prop} {ar k n : Nat} {fs : Fn} {ps : List Str} {x : Str} {p pos : Pos} {e : Expr} {es : List Expr} {eas : Ea} {WL : WX} (h : HasX X.prog X.w X.K X.mg X.base x k ps n fs) (hr : Room k X.A) (tk : L2N.Takes X WL) (hW : ∀ y H, W y H → ∀ cls d σ, AX1 X.K y cls d H → σ.length = X.N.length → WL cls d σ H) (hg : Gl X x) (ha : EA X W (e :: es) eas)
    (hdb : (x == ("__debug__" : Str)) = false := by decide) (he : starEach (e :: es) X.env = (false, eval e X.env) :: starEach es X.env := by rfl) (hpl : (backTo pos (starEach es X.env)).any (·.1) = false := by rfl) (har : ps.length = ar := by rfl) :
    EV X W (.Call (.Name x p) (e :: es) [] pos) (eApp (doCallA ar n fs) eas) := by
  subst har
  obtain ⟨f, fd, F, hm, hk, hb⟩ := h.ex
  refine ev_call F hr hg hm hk hb ?_ ha hdb he hpl
  intro pins σ H s e s' I c
  refine tk e s' (L2N.XE.of_call I (fun cls d H' hE => ?_) c)
  obtain ⟨y, w, ax⟩ := hE
  exact hW y H' w cls d σ ax I.len
/-! ### _law_is(e, word) -/
/-- the promise: f by the class and the address of the exception that is handled -/
abbrev IsF : Type := Addr → Addr → Option Addr → Fn
def spIs (K : PySem.W.Frag) (f : IsF) (p : Addr × Obj) : Sp := fun vs H Q E => ∃ C d, Zc (.ref C) d p.2 ∧ (∃ us, p.2.data = .fields us) ∧ ExcC K C ∧ spF AX0 2 0 (f C p.1 d) vs H Q E
def xWord : XB → Str
  | .gate _ _ _ => "gate"
  | .hand => "hand"
  | .many => "many"
  | .two _ => "two"
  | .other => "other"
  | .text _ => "text"
def isWords : List Str := ["gate", "hand", "many", "two", "other", "text"]
def isW (word : Str) (x : XB) : Option Bool := if word ∈ isWords then some (word == xWord x) else none
/-- what it answers -/
def IsTab (K : PySem.W.Frag) (f : IsF) : Prop := ∀ x word b, isW word x = some b → ExcC K (He.ga K (xName x)) ∧ PySem.W.exmOne K (.ref (He.ga K (xName x))) (.ref (He.ga K "GateError")) = some true ∧ ∀ (a : Addr) (d : Option Addr) (y : B), isArg a d y = true → f (He.ga K (xName x)) a d [y, .dat (.str word)] [] = .ok (.dat (.bl b)) []
/-- the refusal as data -/
def excD (x : XB) (a : Addr) (d : Option Addr) : D := match d with
  | none => .ref a
  | some dd => .xc a dd (xFlds x)
theorem zip_fst_snd : ∀ (l : List (Str × D)), (l.map (·.1)).zip (l.map (·.2)) = l
  | [] => rfl
  | p :: l => by rw [List.map_cons, List.map_cons, List.zip_cons_cons, zip_fst_snd l]
theorem excD_ok {K : PySem.W.Frag} {x : XB} {cls : Value} {d : Option Addr} {H : Hp} (ax : AX1 K x cls d H) (a : Addr) : Den H (fun _ => False) (.ref a) (excD x a d) := by
  cases hp : plainX x with
  | true =>
    have e := ax.2.1 hp
    subst e
    exact Den.ref a
  | false =>
    obtain ⟨dd, vs, rfl, h1, h2⟩ := ax.2.2 hp
    have q := Den.xc (a := a) (T := fun _ => False) h1 (fun z => z.elim) (by rw [List.length_map, List.length_map]) h2
    rw [zip_fst_snd] at q
    exact q
theorem excD_dat (x : XB) (a : Addr) (d : Option Addr) : isArg a d (.dat (excD x a d)) = true := by cases d <;> simp [excD, isArg]
theorem excD_vw (x : XB) (a : Addr) (d : Option Addr) : isArg a d (.vw (excD x a d)) = true := by cases d <;> simp [excD, isArg]
section
variable (P : Program) (w : World) (K : PySem.W.Frag) (mg : Str → Option Value) (base : Heap)
structure HasIs (x : Str) (k : Nat) (ps : List Str) (f : IsF) : Prop where
  ex : ∃ fa fd, FnHP P w K mg base CX0 k fa fd ps (spIs K f) ∧ mg x = some (.ref fa) ∧ PySem.W.keepIn K (.ref fa) = true ∧ Binds K fd ps []
  tab : IsTab K f
end
theorem def_is {P : Program} {w : World} {K : PySem.W.Frag} {mg : Str → Option Value} {base : Heap} {x qual : Str} {params : Arguments} {body : List Stmt} {scope : Scope} {f : Addr} {fd : FuncData} {N : List Str} {p0 p1 : Str} {k : Nat} {t : Addr → Addr → Option Addr → Es} {fs : IsF}
    (F : FunD K x qual params body scope [] [] f fd) (S : FnScope N [p0, p1] scope) (hfs : ∀ C a d bs M, fs C a d bs M = finD 0 (outB (t C a d (rho0 N.length bs) M)))
    (hbody : ∀ (cdv : Value) (A : Around) (outer : List Env) (s : Shared) (H : Hp) (E : XK) (W : XB → Hp → Prop) (p : Addr × Obj) (C : Addr) (d : Option Addr), Hot1 A p → RoomH k (A.deeper (envOfC qual scope s.heap.objs.size f cdv)) → Zc (.ref C) d p.2 → (∃ us, p.2.data = .fields us) → ExcC K C →
      ESs (cxH CX0 P w K mg base N qual scope f cdv A outer s H E p) W 0 body (t C p.1 d)) :
    FnHP P w K mg base CX0 (k + 1) f fd [p0, p1] (spIs K fs) := by
  obtain ⟨oc, od, dV, kV, doc, pm, an, cdv, ct, osl, rfl, lk, hcd, _, _⟩ := F.ex
  refine fn_ofHP lk hcd S (fun p vs H Q E h => ?_) fun A outer s H vs Q E p hot hr h => ?_
  · obtain ⟨C, d, _, _, _, h⟩ := h
    exact h.1
  · obtain ⟨C, d, hz, hf, hx, h⟩ := h
    exact body_D (f := fs C p.1 d) (fun bs M => hfs C p.1 d bs M) (hbody cdv A outer s H E _ p C d hot hr hz hf hx) h
/-! ### try: .. except GateError as e: return _law_is(e, "word") -/
def sTry (s : Es) (h : XB → Option Bool) : Es := fun ρ M => match s ρ M with
  | .exc x => (match h x with
    | some b => .ok (.ret (.dat (.bl b))) []
    | none => .stuck)
  | r => r
/-- statements at the top of a def that is handed no cells -/
def cS0 (W : XB → Hp → Prop) (s : Es) : TS := fun D σ H => ∃ G as ρ M, (G.ow = [] ∧ G.tmp = [] ∧ G.keep = [] ∧ ∀ a, G.S a → ∃ o, G.H0 a = some o) ∧ Rep G as H ρ M σ ∧ PoS G W D (s ρ M)
abbrev ES0 (X : Cx) (W : XB → Hp → Prop) (s : Stmt) (t : Es) : Prop := PS X s (cS0 W t)
abbrev ESs0 (X : Cx) (W : XB → Hp → Prop) (s : List Stmt) (t : Es) : Prop := PSs X s (cS0 W t)
section
variable {X : Cx} {W : XB → Hp → Prop}
theorem cS0_cS {s : Es} {D : Ends} {σ : L2.St} {H : Hp} (h : cS0 W s D σ H) : cS W 0 s D σ H := by
  obtain ⟨G, as, ρ, M, ⟨h1, h2, h3, h4⟩, R, h⟩ := h
  exact ⟨G, as, ρ, M, ⟨by rw [h1]; rfl, by rw [h2]; intro p hp; cases hp⟩, R, h⟩
theorem es0_of {st : Stmt} {s : Es} (h : ES X W 0 st s) : ES0 X W st s := ps_imp h fun _ _ _ q => cS0_cS q
theorem ess0_of {sts : List Stmt} {s : Es} (h : ESs X W 0 sts s) : ESs0 X W sts s := pss_imp h fun _ _ _ q => cS0_cS q
theorem ess0_cons {st : Stmt} {sts : List Stmt} {s r : Es} (h1 : ES0 X W st s) (h2 : ESs0 X W sts r) : ESs0 X W (st :: sts) (sSeq s r) := pss_imp (pss_cons h1 h2) fun D σ H h => by
  obtain ⟨G, as, ρ, M, hg, R, h⟩ := h
  refine ⟨G, as, ρ, M, hg, R, ?_⟩
  unfold sSeq at h
  cases q : s ρ M with
  | stuck => rw [q] at h; exact h
  | exc x => rw [q] at h; exact h
  | ok o M1 =>
    rw [q] at h
    cases o with
    | nx ρ1 => exact fun σ1 as1 H1 R1 => ⟨G, as1, ρ1, M1, hg, R1, h⟩
    | ret b => exact h
    | brk ρ1 => exact h
    | ct ρ1 => exact h
/-- the suite -/
theorem suite_is {k i : Nat} {a : Addr} {oe : Obj} {cls : Value} {d : Option Addr} {pn : List (Addr × Obj)} {f : IsF} {fx ex word : Str} {p0 p1 : Str} {j : Nat} {q1 q2 q3 q4 pos : Pos} (h : HasIs X.prog X.w X.K X.mg X.base fx k [p0, p1] f) (hr : RoomH k X.A) (hz : L2N.Zn cls d oe) (hf : ∃ vs, oe.data = .fields vs)
    (hg : Gl X fx) (hi : X.N[i]? = some ex) (hv : X.env.scope.names.lookup ex = some .local) (hdb : (fx == ("__debug__" : Str)) = false := by decide) (hde : (ex == ("__debug__" : Str)) = false := by decide) (hce : (ex == ("__classdict__" : Str)) = false := by decide) :
    PSs (X.suite a ((a, oe) :: pn)) [.Return (some (.Call (.Name fx q1) [.Name ex q2, .Constant (.str word) j q3] [] q4)) pos] (fun D σ H => ∃ C b y, cls = .ref C ∧ σ[i]? = some (some (V.ref a)) ∧ ExcC X.K C ∧ Den H (fun _ => False) (.ref a) y ∧ f C a d [.dat y, .dat (.str word)] [] = .ok (.dat (.bl b)) [] ∧ ∀ H', (∀ a o, H a = some o → H' a = some o) → D.rt (.bl b) H') := by
  obtain ⟨fa, fd, F, hm, hk, hb⟩ := h.ex
  have hot : Hot1 (X.suite a ((a, oe) :: pn)).A (a, oe) := by
    obtain ⟨vs, e⟩ := hf
    exact ⟨rfl, vs, e, hz.2.2 vs e⟩
  have ha : PA (X.suite a ((a, oe) :: pn)) [.Name ex q2, .Constant (.str word) j q3] _ := pa_cons (pe_var (X := X.suite a ((a, oe) :: pn)) hi (.inl hv) hde hce) (pa_cons pe_str pa_nil)
  refine pss_one (ps_imp (ps_ret (pe_callHP (X := X.suite a ((a, oe) :: pn)) (p := (a, oe)) (E := fun _ _ _ _ => False) F ⟨hr.dp, hr.un⟩ hot List.mem_cons_self hg hm hk hb (fun _ _ _ _ _ _ _ z => z.elim) ha hdb)) fun D σ H h => ?_)
  obtain ⟨C, b, y, rfl, hs, hx, hy, hfv, hD⟩ := h
  refine ⟨.ref a, hs, C, d, hz.zc, hf, hx, rfl, fun _ => False, [], [.dat y, .dat (.str word)], [], rfl, ⟨rfl, fun k c h => (by cases h), fun i j a h _ => (by cases h), fun a h => (by cases h), fun a h => (by cases h), fun a h => h.elim⟩, .cons (den_weak (fun a z => by rcases z with z | z <;> cases z) hy) (.cons (Den.str word) .nil), ?_⟩
  rw [hfv]
  intro v as' H' c t n keep r
  cases r
  exact hD H' fun a o e => keep a o e (by simp)
theorem es0_try {Wd : XB → Hp → Prop} {body : List Stmt} {t : Es} {hd : XB → Option Bool} {k i : Nat} {Cg : Addr} {f : IsF} {gx fx ex word : Str} {p0 p1 : Str} {j : Nat} {q1 q2 q3 q4 np pos pos1 pos2 : Pos} (h : HasIs X.prog X.w X.K X.mg X.base fx k [p0, p1] f) (hr : RoomH k X.A)
    (hs : X.stack = X.env :: X.outer) (hfr : X.env.frame = some X.env.locals) (hN : X.N.Nodup) (hi : X.N[i]? = some ex) (hln : X.env.kindOf ex = some .local) (hv : X.env.scope.names.lookup ex = some .local) (hg : Gl X fx) (hgg : Gl X gx) (hmg : X.mg gx = some (.ref Cg))
    (hres : ∀ x b, hd x = some b → ∀ cls d H, AX1 X.K x cls d H → ∃ C, cls = .ref C ∧ ExcC X.K C ∧ PySem.W.exmOne X.K (.ref C) (.ref Cg) = some true ∧ ∀ a : Addr, f C a d [.dat (excD x a d), .dat (.str word)] [] = .ok (.dat (.bl b)) [])
    (hb : ∀ (Wl : WX) (pn : List (Addr × Obj)) (xe : Value → Shared → Prop), L2N.Takes (X.tr pn xe) Wl → PassesOwn (model X.prog X.w) X.A X.env xe → ESs (X.tr pn xe) (fun y H => ∀ cls d σ, AX1 X.K y cls d H → σ.length = X.N.length → Wl cls d σ H) 0 body t)
    (hdb : (fx == ("__debug__" : Str)) = false := by decide) (hdg : (gx == ("__debug__" : Str)) = false := by decide) (hde : (ex == ("__debug__" : Str)) = false := by decide) (hce : (ex == ("__classdict__" : Str)) = false := by decide) :
    ES0 X Wd (.Try body [.ExceptHandler (some (.Name gx np)) (some ex) [.Return (some (.Call (.Name fx q1) [.Name ex q2, .Constant (.str word) j q3] [] q4)) pos] pos1] [] [] pos2) (sTry t hd) :=
  ps_imp (L2N.ps_try_as (i := i) (c := .ref Cg) (Wout := fun _ _ _ _ => False) hs hfr hN hi hln ⟨hgg, hdg, .inl hmg⟩ (fun u s' x => by obtain ⟨_, _, _, _, _, _, _, _, _, _, _, _, _, _, _, _, z⟩ := x; exact z.elim)
    (tb := fun Wl => cS (fun y H => ∀ cls d σ, AX1 X.K y cls d H → σ.length = X.N.length → Wl cls d σ H) 0 t) hb (fun a oe cls d pn hz hf => suite_is (X := X) h hr hz hf hg hi hv hdb hde hce)) fun D σ H q => by
    obtain ⟨G, as, ρ, M, ⟨h1, h2, h3, h4⟩, R, q⟩ := q
    refine ⟨G, as, ρ, M, ⟨by rw [h1]; rfl, by rw [h2]; intro p hp; cases hp⟩, R, ?_⟩
    unfold sTry at q
    cases e : t ρ M with
    | stuck => rw [e] at q; exact q
    | ok o M1 =>
      rw [e] at q
      cases o with
      | nx ρ' => exact q
      | ret b => exact q
      | brk ρ' => exact q
      | ct ρ' => exact q
    | exc x =>
      rw [e] at q
      simp only at q
      cases eh : hd x with
      | none => rw [eh] at q; exact q.elim
      | some b =>
        rw [eh] at q
        intro H1 fr cls d σ1 ax hl
        obtain ⟨C, rfl, hx, hm, hfv⟩ := hres x b eh cls d H1 ax
        refine ⟨true, hm, fun _ a na => ⟨C, b, _, rfl, ?_, hx, excD_ok ax a, hfv a, fun H2 ext => ?_⟩, fun z => nomatch z⟩
        · rw [List.getElem?_set_self]
          rw [hl]
          exact (List.getElem?_eq_some_iff.mp hi).1
        · refine q (.bl b) (List.replicate 0 none) (List.replicate 0 none) [] H2 ⟨⟨rfl, fun k c h => (by cases h), fun i j a h _ => (by cases h), fun a h => (by cases h), fun a h => (by cases h), fun a h => ?_⟩, rfl, fun i b h => (by cases h), fun p hp => (by rw [h2] at hp; cases hp), fun p hp => (by rw [h3] at hp; cases hp), fun a o e n => ext _ _ (fr a o e n), fun a h => (by cases h), by rw [h1]; rfl⟩ (Den.bl b)
          obtain ⟨o, ho⟩ := h4 a h
          exact ⟨o, ext _ _ (fr a o ho (by rw [h1]; simp))⟩
end
theorem es0_tryT {X : Cx} {Wd : XB → Hp → Prop} {body : List Stmt} {t : Es} {k : Nat} {f : IsF} {fx ex word : Str} {p0 p1 : Str} {j : Nat} {q1 q2 q3 q4 np pos pos1 pos2 : Pos} (i : Nat) (h : HasIs X.prog X.w X.K X.mg X.base fx k [p0, p1] f) (hr : RoomH k X.A)
    (hN : X.N.Nodup) (hmg : X.mg "GateError" = some (.ref (He.ga X.K "GateError")))
    (hb : ∀ (Wl : WX) (pn : List (Addr × Obj)) (xe : Value → Shared → Prop), L2N.Takes (X.tr pn xe) Wl → PassesOwn (model X.prog X.w) X.A X.env xe → ESs (X.tr pn xe) (fun y H => ∀ cls d σ, AX1 X.K y cls d H → σ.length = X.N.length → Wl cls d σ H) 0 body t)
    (hs : X.stack = X.env :: X.outer := by rfl) (hfr : X.env.frame = some X.env.locals := by rfl) (hi : X.N[i]? = some ex := by rfl) (hln : X.env.kindOf ex = some .local := by rfl) (hv : X.env.scope.names.lookup ex = some .local := by rfl) (hg : Gl X fx := by exact rfl) (hgg : Gl X "GateError" := by exact rfl)
    (hdb : (fx == ("__debug__" : Str)) = false := by decide) (hde : (ex == ("__debug__" : Str)) = false := by decide) (hce : (ex == ("__classdict__" : Str)) = false := by decide) :
    ES0 X Wd (.Try body [.ExceptHandler (some (.Name "GateError" np)) (some ex) [.Return (some (.Call (.Name fx q1) [.Name ex q2, .Constant (.str word) j q3] [] q4)) pos] pos1] [] [] pos2) (sTry t (isW word)) :=
  es0_try (i := i) h hr hs hfr hN hi hln hv hg hgg hmg (fun x b e cls d H ax => by
    obtain ⟨h1, h2, h3⟩ := h.tab x word b e
    exact ⟨_, ax.1, h1, h2, fun a => h3 a d _ (excD_dat x a d)⟩) hb hdb (by decide) hde hce
theorem body_D0 {X : Cx} {AX : AbsX} {ar : Nat} {body : Es} {N : List Str} {sts : List Stmt} {vs : List V} {H : Hp} {Q : VK} {E : XK} {f : Fn} (hf : ∀ bs M, f bs M = finD 0 (outB (body (rho0 N.length bs) M)))
    (hb : ESs0 X (fun x H' => ∀ cls d, AX x cls d H' → E cls d H') sts body) (h : spF AX ar 0 f vs H Q E) : ∃ t, PSs X sts t ∧ t { nx := fun _ H' => Q .non H', rt := Q } (L2.start N vs) H := by
  refine ⟨_, hb, ?_⟩
  obtain ⟨_, S, as, bs, M, hn, C, r, h⟩ := h
  have has : as = [] := List.length_eq_zero_iff.mp hn
  subst has
  have R := start_rep (AX := AX) (N := N) C r
  refine ⟨_, [], _, M, ⟨rfl, rfl, rfl, fun a z => C.dS a z⟩, R, ?_⟩
  rw [hf] at h
  have fin : ∀ (b : B) (M1 : Mem) (v : V) σ' ρ' as' H', Rep ⟨H, S, [], [], []⟩ as' H' ρ' M1 σ' → RB S as' H' v b → PoC AX S [] H Q E (finD 0 (.ok b M1)) → Q v H' := fun b M1 v σ' ρ' as' H' R' r' h' => by
    unfold finD at h'
    simp only [Res.bind_ok] at h'
    split at h'
    · rename_i b' M' e1 e2
      have ht : as'.take 0 = [] := rfl
      refine h' v [] H' ?_ rfl (fun a z => .inl z) (fun a o e z => R'.fr a o e z) ?_
      · have := cells_res R'.cs e2
        exact this
      · have := resB_ok R'.cs e1 r'
        exact this
    · exact h'.elim
  cases q : body (rho0 N.length bs) M with
  | stuck => rw [q] at h; exact h
  | exc x => rw [q] at h; exact fun H' fr cls d a => h cls d H' a fr
  | ok o M1 =>
    rw [q] at h
    cases o with
    | nx ρ1 => exact fun σ' as' H' R' => fin (.dat .non) M1 .non σ' _ as' H' R' Den.non h
    | ret b => exact fun v σ' ρ' as' H' R' r' => fin b M1 v σ' ρ' as' H' R' r' h
    | brk ρ1 => exact False.elim h
    | ct ρ1 => exact False.elim h
/-- a def with a try at its top -/
theorem def_D0 {P : Program} {w : World} {K : PySem.W.Frag} {mg : Str → Option Value} {base : Heap} {x qual : Str} {params : Arguments} {body : List Stmt} {scope : Scope} {f : Addr} {fd : FuncData} {N ps : List Str} {k : Nat} {t : Es} {fs : Fn}
    (F : FunD K x qual params body scope [] [] f fd) (S : FnScope N ps scope) (hf : ∀ bs M, fs bs M = .stuck ∨ finD 0 (outB (t (rho0 N.length bs) M)) = fs bs M)
    (hbody : ∀ (cdv : Value) (A : Around) (outer : List Env) (s : Shared) (H : Hp) (E : XK) (W : XB → Hp → Prop), Room k (A.deeper (envOfC qual scope s.heap.objs.size f cdv)) → ESs0 (cxOf CX0 P w K mg base N qual scope f cdv A outer s H E).nox W body t) :
    FnOk P w K mg base CX0 (k + 1) f fd ps (spF AX0 ps.length 0 fs) :=
  F.ok S (fun vs H Q E h => h.1) fun cdv A outer s H vs Q E hr h => body_D0 (f := fun bs M => finD 0 (outB (t (rho0 N.length bs) M))) (fun _ _ => rfl) (PSs.nox (hbody cdv A outer s H E _ hr)) (spF_imp hf h)
end Ab

namespace Ab
open PySem PySem.Spec PyProof.Rows L2
def top (i : Nat) : Stmt := PySem.Challenge.pw_gatehands_k18_whole_written_and_read.main.body.getD i (.Pass ⟨0, 0, 0, 0⟩)
def inner (s : Stmt) (j : Nat) : Stmt := match s with
  | .ClassDef _ _ _ body _ _ _ _ _ _ _ => body.getD j (.Pass ⟨0, 0, 0, 0⟩)
  | s => s
def mem (i j : Nat) : Stmt := inner (top i) j
/-! ### _law_dice -/
abbrev s_law_dice : Stmt := top 23
theorem sc_law_dice : FnScope ["_law_script", "_law_k", "_law_found", "_law_cell"] ["_law_script", "_law_k"] (defScope s_law_dice) := ⟨rfl, rfl, rfl, by decide +kernel, rfl, by decide +kernel, by decide +kernel⟩
noncomputable def t_law_dice (K : PySem.W.Frag) : Es :=
  (sSeq (sSet 2 (eVar 1))
  (sSeq (sForS K (gN 3) (eVar 0)
  (sSet 2 (eBin vMod (eBin vAdd (eBin vMul (eVar 2) (eC (.int 31))) (eApp vAbs (aCons (eVar 3) aNil))) (eC (.int 2147483647)))))
  (sRet (eBin vAddL (eLst (aCons (eVar 2) (aCons (eC (.int 0)) aNil))) (eFz (eLCS K [3] (gN 3) (eVar 0) (tV (eBin vGe (eVar 3) (eBin vPow (eC (.int 10)) (eC (.int 18))))) (eVar 3)))))))
noncomputable def f_law_dice (K : PySem.W.Frag) : Fn := fun bs M => finO 0 (outB (t_law_dice K (rho0 4 bs) M))
theorem ok_law_dice {P : Program} {w : World} {K : PySem.W.Frag} {mg : Str → Option Value} {base : Heap} {f : Addr} {fd : FuncData} {k : Nat} {fs : Fn} (m_abs : mg "abs" = none)
  (F : FunD K "_law_dice" "_law_dice" (defArgs s_law_dice) (defBody s_law_dice) (defScope s_law_dice) [] [] f fd) (hf : ∀ bs M, fs bs M = .stuck ∨ f_law_dice K bs M = fs bs M) : FnOk P w K mg base CX0 (k + 1) f fd ["_law_script", "_law_k"] (spF AX0 2 0 fs) :=
  def_O (t := t_law_dice K) F sc_law_dice hf fun cdv A outer s H E W hr => by
  have sc := sc_law_dice
  have hr0 := hr.mono (Nat.le_add_right k 0)
  have hu : (A.deeper (envOfC "_law_dice" (defScope s_law_dice) s.heap.objs.size f cdv)).units + 64 < cLine := by have := hr.un; omega
  have hu65 : (A.deeper (envOfC "_law_dice" (defScope s_law_dice) s.heap.objs.size f cdv)).units + 65 < cLine := by have := hr.un; omega
  unfold t_law_dice
  exact (ess_cons (es_set (ev_var 1) sc.nd)
  (ess_cons (es_forS PassesOwn.never rfl (ev_var 0) (eg_name sc.nd)
  (ess_one (es_set (ev_bin op_mod v2_mod (ev_bin op_addA v2_add (ev_bin op_mulA v2_mul (ev_var 2) ev_int) (ev_callB call_abs vn_abs (by exact rfl) m_abs boot_abs (ea_cons (ev_var 3) ea_nil))) ev_int) sc.nd)))
  (ess_one (es_ret (ev_bin op_cat v2_addL (ev_lst (ea_cons (ev_var 2) (ea_cons ev_int ea_nil))) (ev_fz (ev_lcS rfl sc.nd (ev_var 0) (own := [("_law_cell", 3)]) (blkOk_of (N' := ["_law_script", "_law_k", "_law_found", "_law_cell"]) (sc' := defScope s_law_dice) (by exact rfl) (by exact rfl) ⟨rfl, by decide +kernel, by decide +kernel, by decide +kernel, by decide +kernel⟩) (fun _ _ _ _ _ => (egc_name sc.nd)) (fun _ _ _ _ _ => (ets_one (et_cmp op_ge v2_ge (ev_var 3) (ev_bin op_pow v2_pow ev_int ev_int) rfl))) (fun _ _ _ _ _ => (ev_var 3)))))))))
/-! ### _law_off -/
abbrev s_law_off : Stmt := top 24
theorem sc_law_off : FnScope ["_law_d", "_law_most", "_law_found"] ["_law_d", "_law_most"] (defScope s_law_off) := ⟨rfl, rfl, rfl, by decide +kernel, rfl, by decide +kernel, by decide +kernel⟩
noncomputable def t_law_off : Es :=
  (sSeq (sIf (tAn (tV (eBin vEq (eBin vIx (eVar 0) (eC (.int 1))) (eC (.int 0)))) (tV (eBin vGt (eApp vLen (aCons (eVar 0) aNil)) (eC (.int 2)))))
  (sSub (eVar 0) (eC (.int 1)) (eMtL vPopAt (eVar 0) (aCons (eC (.int 2)) aNil)))
  sNil)
  (sSeq (sIf (tV (eBin vGt (eBin vIx (eVar 0) (eC (.int 1))) (eC (.int 0))))
  (sSeq (sSet 2 (eBin vMod (eBin vIx (eVar 0) (eC (.int 1))) (eVar 1)))
  (sSeq (sSub (eVar 0) (eC (.int 1)) (eBin vDiv (eBin vIx (eVar 0) (eC (.int 1))) (eVar 1)))
  (sRet (eVar 2))))
  sNil)
  (sSeq (sSub (eVar 0) (eC (.int 0)) (eBin vMod (eBin vAdd (eBin vMul (eBin vIx (eVar 0) (eC (.int 0))) (eC (.int 48271))) (eC (.int 11))) (eC (.int 2147483647))))
  (sRet (eBin vMod (eBin vDiv (eBin vIx (eVar 0) (eC (.int 0))) (eC (.int 64))) (eVar 1))))))
noncomputable def f_law_off : Fn := fun bs M => finD 1 (outB (t_law_off (rho0 3 bs) M))
theorem ok_law_off {P : Program} {w : World} {K : PySem.W.Frag} {mg : Str → Option Value} {base : Heap} {f : Addr} {fd : FuncData} {k : Nat} {fs : Fn} (m_len : mg "len" = none)
  (F : FunD K "_law_off" "_law_off" (defArgs s_law_off) (defBody s_law_off) (defScope s_law_off) [] [] f fd) (hf : ∀ bs M, fs bs M = .stuck ∨ f_law_off bs M = fs bs M) : FnOk P w K mg base CX0 (k + 1) f fd ["_law_d", "_law_most"] (spF AX0 2 1 fs) :=
  def_D (t := t_law_off) F sc_law_off hf fun cdv A outer s H E W hr => by
  have sc := sc_law_off
  have hr0 := hr.mono (Nat.le_add_right k 0)
  have hu : (A.deeper (envOfC "_law_off" (defScope s_law_off) s.heap.objs.size f cdv)).units + 64 < cLine := by have := hr.un; omega
  have hu65 : (A.deeper (envOfC "_law_off" (defScope s_law_off) s.heap.objs.size f cdv)).units + 65 < cLine := by have := hr.un; omega
  unfold t_law_off
  exact (ess_cons (es_if (PW.pt (ew_and (et_cmp (op_eqD hu) v2_eq (ev_ix ix_seq v2_ix (ev_var 0) ev_int) ev_int rfl) (ew_and1 (et_cmp op_gt v2_gt (ev_callB call_len vn_len (by exact rfl) m_len boot_len (ea_cons (ev_var 0) ea_nil)) ev_int rfl))))
  (ess_one (es_sub (ev_mtL PySem.F.slot_list_pop PySem.F.type_list_pop mt_popAt vm_popAt (ev_var 0) (ea_cons ev_int ea_nil)) (ev_var 0) ev_int))
  ess_nil)
  (ess_cons (es_if (et_cmp op_gt v2_gt (ev_ix ix_seq v2_ix (ev_var 0) ev_int) ev_int rfl)
  (ess_cons (es_set (ev_bin op_mod v2_mod (ev_ix ix_seq v2_ix (ev_var 0) ev_int) (ev_var 1)) sc.nd)
  (ess_cons (es_sub (ev_bin op_fdiv v2_div (ev_ix ix_seq v2_ix (ev_var 0) ev_int) (ev_var 1)) (ev_var 0) ev_int)
  (ess_one (es_ret (ev_var 2)))))
  ess_nil)
  (ess_cons (es_sub (ev_bin op_mod v2_mod (ev_bin op_addA v2_add (ev_bin op_mulA v2_mul (ev_ix ix_seq v2_ix (ev_var 0) ev_int) ev_int) ev_int) ev_int) (ev_var 0) ev_int)
  (ess_one (es_ret (ev_bin op_mod v2_mod (ev_bin op_fdiv v2_div (ev_ix ix_seq v2_ix (ev_var 0) ev_int) ev_int) (ev_var 1)))))))
/-! ### _law_alike -/
abbrev s_law_alike : Stmt := top 25
theorem sc_law_alike : FnScope ["_law_found", "_law_due", "_law_k", "_law_name"] ["_law_found", "_law_due"] (defScope s_law_alike) := ⟨rfl, rfl, rfl, by decide +kernel, rfl, by decide +kernel, by decide +kernel⟩
noncomputable def t_law_alike (g_law_alike : Fn) : Es :=
  (sSeq (sIf (tV (eIsN (eVar 1)))
  (sRet (eIsN (eVar 0)))
  sNil)
  (sSeq (sIf (tV (eApp vIsT (aCons (eVar 1) (aCons (eTy "bool") aNil))))
  (sRet (eAnd (eApp vIsT (aCons (eVar 0) (aCons (eTy "bool") aNil))) (eBin vEq (eVar 0) (eVar 1))))
  sNil)
  (sSeq (sIf (tV (eApp vIsT (aCons (eVar 1) (aCons (eTy "int") aNil))))
  (sRet (eAnd (eApp vIsT (aCons (eVar 0) (aCons (eTy "int") aNil))) (eAnd (eNot (eApp vIsT (aCons (eVar 0) (aCons (eTy "bool") aNil)))) (eBin vEq (eVar 0) (eVar 1)))))
  sNil)
  (sSeq (sIf (tV (eApp vIsT (aCons (eVar 1) (aCons (eTy "str") aNil))))
  (sRet (eAnd (eApp vIsT (aCons (eVar 0) (aCons (eTy "str") aNil))) (eBin vEq (eVar 0) (eVar 1))))
  sNil)
  (sSeq (sIf (tV (eApp vIsT (aCons (eVar 1) (aCons (eTy "dict") aNil))))
  sNever
  sNil)
  (sSeq (sIf (tOrr (tV (eBin vNe (eApp vIsT (aCons (eVar 1) (aCons (eTy "tuple") aNil))) (eApp vIsT (aCons (eVar 0) (aCons (eTy "tuple") aNil))))) (tV (eBin vNe (eApp vIsT (aCons (eVar 1) (aCons (eTy "list") aNil))) (eApp vIsT (aCons (eVar 0) (aCons (eTy "list") aNil))))))
  (sRet (eC (.bl false)))
  sNil)
  (sSeq (sIf (tV (eBin vNe (eApp vLen (aCons (eVar 0) aNil)) (eApp vLen (aCons (eVar 1) aNil))))
  (sRet (eC (.bl false)))
  sNil)
  (sRet (eApp vAll (aCons (eFz (eLCR1 [2] (gN 2) (aCons (eApp vLen (aCons (eVar 1) aNil)) aNil) tY (eApp (doCallA 2 0 g_law_alike) (aCons (eBin vIx (eVar 0) (eVar 2)) (aCons (eBin vIx (eVar 1) (eVar 2)) aNil))))) aNil))))))))))
noncomputable def f_law_alike (g_law_alike : Fn) : Fn := fun bs M => finD 0 (outB (t_law_alike g_law_alike (rho0 4 bs) M))
theorem ok_law_alike {P : Program} {w : World} {K : PySem.W.Frag} {mg : Str → Option Value} {base : Heap} {f : Addr} {fd : FuncData} {k : Nat} {g_law_alike : Fn} {fs : Fn} (m_bool : mg "bool" = none) (m_isinstance : mg "isinstance" = none) (m_int : mg "int" = none) (m_str : mg "str" = none) (m_dict : mg "dict" = none) (m_tuple : mg "tuple" = none) (m_list : mg "list" = none) (m_len : mg "len" = none) (h_law_alike : Has P w K mg base "_law_alike" k ["_law_found", "_law_due"] 0 g_law_alike) (m_range : mg "range" = none) (m_all : mg "all" = none)
  (F : FunD K "_law_alike" "_law_alike" (defArgs s_law_alike) (defBody s_law_alike) (defScope s_law_alike) [] [] f fd) (hf : ∀ bs M, fs bs M = .stuck ∨ f_law_alike g_law_alike bs M = fs bs M) : FnOk P w K mg base CX0 (k + 1) f fd ["_law_found", "_law_due"] (spF AX0 2 0 fs) :=
  def_D (t := t_law_alike g_law_alike) F sc_law_alike hf fun cdv A outer s H E W hr => by
  have sc := sc_law_alike
  have hr0 := hr.mono (Nat.le_add_right k 0)
  have hu : (A.deeper (envOfC "_law_alike" (defScope s_law_alike) s.heap.objs.size f cdv)).units + 64 < cLine := by have := hr.un; omega
  have hu65 : (A.deeper (envOfC "_law_alike" (defScope s_law_alike) s.heap.objs.size f cdv)).units + 65 < cLine := by have := hr.un; omega
  unfold t_law_alike
  exact (ess_cons (es_if (et_isN (ev_var 1))
  (ess_one (es_ret (ev_isN (ev_var 0))))
  ess_nil)
  (ess_cons (es_if (et_val (ev_callB call_isi vn_isT (by exact rfl) m_isinstance boot_isinstance (ea_cons (ev_var 1) (ea_cons (ev_ty (by exact rfl) m_bool boot_bool) ea_nil))))
  (ess_one (es_ret (ev_and (ev_callB call_isi vn_isT (by exact rfl) m_isinstance boot_isinstance (ea_cons (ev_var 0) (ea_cons (ev_ty (by exact rfl) m_bool boot_bool) ea_nil))) (ev_one (ev_cmp (op_eqD hu) v2_eq (ev_var 0) (ev_var 1) rfl)))))
  ess_nil)
  (ess_cons (es_if (et_val (ev_callB call_isi vn_isT (by exact rfl) m_isinstance boot_isinstance (ea_cons (ev_var 1) (ea_cons (ev_ty (by exact rfl) m_int boot_int) ea_nil))))
  (ess_one (es_ret (ev_and (ev_callB call_isi vn_isT (by exact rfl) m_isinstance boot_isinstance (ea_cons (ev_var 0) (ea_cons (ev_ty (by exact rfl) m_int boot_int) ea_nil))) (ev_and (ev_not (ev_callB call_isi vn_isT (by exact rfl) m_isinstance boot_isinstance (ea_cons (ev_var 0) (ea_cons (ev_ty (by exact rfl) m_bool boot_bool) ea_nil)))) (ev_one (ev_cmp (op_eqD hu) v2_eq (ev_var 0) (ev_var 1) rfl))))))
  ess_nil)
  (ess_cons (es_if (et_val (ev_callB call_isi vn_isT (by exact rfl) m_isinstance boot_isinstance (ea_cons (ev_var 1) (ea_cons (ev_ty (by exact rfl) m_str boot_str) ea_nil))))
  (ess_one (es_ret (ev_and (ev_callB call_isi vn_isT (by exact rfl) m_isinstance boot_isinstance (ea_cons (ev_var 0) (ea_cons (ev_ty (by exact rfl) m_str boot_str) ea_nil))) (ev_one (ev_cmp (op_eqD hu) v2_eq (ev_var 0) (ev_var 1) rfl)))))
  ess_nil)
  (ess_cons (es_if (et_val (ev_callB call_isi vn_isT (by exact rfl) m_isinstance boot_isinstance (ea_cons (ev_var 1) (ea_cons (ev_ty (by exact rfl) m_dict boot_dict) ea_nil))))
  ess_never
  ess_nil)
  (ess_cons (es_if (PW.pt (ew_or (et_cmp (op_neD hu) v2_ne (ev_callB call_isi vn_isT (by exact rfl) m_isinstance boot_isinstance (ea_cons (ev_var 1) (ea_cons (ev_ty (by exact rfl) m_tuple boot_tuple) ea_nil))) (ev_callB call_isi vn_isT (by exact rfl) m_isinstance boot_isinstance (ea_cons (ev_var 0) (ea_cons (ev_ty (by exact rfl) m_tuple boot_tuple) ea_nil))) rfl) (ew_or1 (et_cmp (op_neD hu) v2_ne (ev_callB call_isi vn_isT (by exact rfl) m_isinstance boot_isinstance (ea_cons (ev_var 1) (ea_cons (ev_ty (by exact rfl) m_list boot_list) ea_nil))) (ev_callB call_isi vn_isT (by exact rfl) m_isinstance boot_isinstance (ea_cons (ev_var 0) (ea_cons (ev_ty (by exact rfl) m_list boot_list) ea_nil))) rfl))))
  (ess_one (es_ret ev_bl))
  ess_nil)
  (ess_cons (es_if (et_cmp (op_neD hu) v2_ne (ev_callB call_len vn_len (by exact rfl) m_len boot_len (ea_cons (ev_var 0) ea_nil)) (ev_callB call_len vn_len (by exact rfl) m_len boot_len (ea_cons (ev_var 1) ea_nil)) rfl)
  (ess_one (es_ret ev_bl))
  ess_nil)
  (ess_one (es_ret (ev_callB (cr_all rfl) vn_all (by exact rfl) m_all boot_all (ea_cons (ev_fz (ev_lcR1 rfl sc.nd (by exact rfl) m_range (ea_cons (ev_callB call_len vn_len (by exact rfl) m_len boot_len (ea_cons (ev_var 1) ea_nil)) ea_nil) (own := [("_law_k", 2)]) (blkOk_of (N' := ["_law_found", "_law_due", "_law_k", "_law_name"]) (sc' := defScope s_law_alike) (by exact rfl) (by exact rfl) ⟨rfl, by decide +kernel, by decide +kernel, by decide +kernel, by decide +kernel⟩) (fun _ _ _ _ _ => (egc_name sc.nd)) (fun _ _ _ _ _ => ets_nil) (fun _ _ _ _ _ => (ev_callH h_law_alike hr0 (by exact rfl) (ea_cons (ev_ix ix_seq v2_ix (ev_var 0) (ev_var 2)) (ea_cons (ev_ix ix_seq v2_ix (ev_var 1) (ev_var 2)) ea_nil)))))) ea_nil)))))))))))
/-! ### _law_step -/
abbrev s_law_step : Stmt := top 26
theorem sc_law_step : FnScope ["_law_d", "_law_boxes", "_law_many", "_law_box", "_law_most", "_law_numbers", "_law_number"] ["_law_d", "_law_boxes", "_law_many"] (defScope s_law_step) := ⟨rfl, rfl, rfl, by decide +kernel, rfl, by decide +kernel, by decide +kernel⟩
noncomputable def t_law_step (g_law_off : Fn) : Es :=
  (sSeq (sSet 3 (eApp (doCallA 2 1 g_law_off) (aCons (eVar 0) (aCons (eApp vLen (aCons (eVar 1) aNil)) aNil))))
  (sSeq (sSet 4 (eBin vIx (eBin vIx (eVar 1) (eVar 3)) (eC (.int 1))))
  (sSeq (sIf (tV (eBin vEq (eApp (doCallA 2 1 g_law_off) (aCons (eVar 0) (aCons (eC (.int 2)) aNil))) (eC (.int 0))))
  (sRet (eTup (aCons (eC (.str "put")) (aCons (eVar 3) (aCons (eApp (doCallA 2 1 g_law_off) (aCons (eVar 0) (aCons (eBin vAdd (eVar 4) (eC (.int 1))) aNil))) aNil)))))
  sNil)
  (sSeq (sSet 5 (eApp vTup (aCons (eFz (eLCR1 [6] (gN 6) (aCons (eBin vAdd (eVar 4) (eC (.int 1))) aNil) (tV (eBin vEq (eApp (doCallA 2 1 g_law_off) (aCons (eVar 0) (aCons (eC (.int 2)) aNil))) (eC (.int 0)))) (eVar 6))) aNil)))
  (sSeq (sIf (tV (eBin vEq (eApp (doCallA 2 1 g_law_off) (aCons (eVar 0) (aCons (eC (.int 8)) aNil))) (eC (.int 0))))
  (sSet 5 (eRgT (eBin vAdd (eVar 4) (eC (.int 1)))))
  sNil)
  (sRet (eTup (aCons (eC (.str "go")) (aCons (eVar 3) (aCons (eVar 5) (aCons (eBin vAdd (eC (.int 1)) (eApp (doCallA 2 1 g_law_off) (aCons (eVar 0) (aCons (eBin vSub (eVar 2) (eC (.int 1))) aNil)))) aNil)))))))))))
noncomputable def f_law_step (g_law_off : Fn) : Fn := fun bs M => finD 1 (outB (t_law_step g_law_off (rho0 7 bs) M))
theorem ok_law_step {P : Program} {w : World} {K : PySem.W.Frag} {mg : Str → Option Value} {base : Heap} {f : Addr} {fd : FuncData} {k : Nat} {g_law_off : Fn} {fs : Fn} (m_len : mg "len" = none) (h_law_off : Has P w K mg base "_law_off" k ["_law_d", "_law_most"] 1 g_law_off) (m_range : mg "range" = none) (m_tuple : mg "tuple" = none)
  (F : FunD K "_law_step" "_law_step" (defArgs s_law_step) (defBody s_law_step) (defScope s_law_step) [] [] f fd) (hf : ∀ bs M, fs bs M = .stuck ∨ f_law_step g_law_off bs M = fs bs M) : FnOk P w K mg base CX0 (k + 1) f fd ["_law_d", "_law_boxes", "_law_many"] (spF AX0 3 1 fs) :=
  def_D (t := t_law_step g_law_off) F sc_law_step hf fun cdv A outer s H E W hr => by
  have sc := sc_law_step
  have hr0 := hr.mono (Nat.le_add_right k 0)
  have hu : (A.deeper (envOfC "_law_step" (defScope s_law_step) s.heap.objs.size f cdv)).units + 64 < cLine := by have := hr.un; omega
  have hu65 : (A.deeper (envOfC "_law_step" (defScope s_law_step) s.heap.objs.size f cdv)).units + 65 < cLine := by have := hr.un; omega
  unfold t_law_step
  exact (ess_cons (es_set (ev_callH h_law_off hr0 (by exact rfl) (ea_cons (ev_var 0) (ea_cons (ev_callB call_len vn_len (by exact rfl) m_len boot_len (ea_cons (ev_var 1) ea_nil)) ea_nil))) sc.nd)
  (ess_cons (es_set (ev_ix ix_seq v2_ix (ev_ix ix_seq v2_ix (ev_var 1) (ev_var 3)) ev_int) sc.nd)
  (ess_cons (es_if (et_cmp (op_eqD hu) v2_eq (ev_callH h_law_off hr0 (by exact rfl) (ea_cons (ev_var 0) (ea_cons ev_int ea_nil))) ev_int rfl)
  (ess_one (es_ret (ev_tup (ea_cons ev_str (ea_cons (ev_var 3) (ea_cons (ev_callH h_law_off hr0 (by exact rfl) (ea_cons (ev_var 0) (ea_cons (ev_bin op_addA v2_add (ev_var 4) ev_int) ea_nil))) ea_nil))))))
  ess_nil)
  (ess_cons (es_set (ev_callT call_tuple_of vn_tup (by exact rfl) m_tuple boot_tuple (ea_cons (ev_fz (ev_lcR1 rfl sc.nd (by exact rfl) m_range (ea_cons (ev_bin op_addA v2_add (ev_var 4) ev_int) ea_nil) (own := [("_law_number", 6)]) (blkOk_of (N' := ["_law_d", "_law_boxes", "_law_many", "_law_box", "_law_most", "_law_numbers", "_law_number"]) (sc' := defScope s_law_step) (by exact rfl) (by exact rfl) ⟨rfl, by decide +kernel, by decide +kernel, by decide +kernel, by decide +kernel⟩) (fun _ _ _ _ _ => (egc_name sc.nd)) (fun _ _ _ _ _ => (ets_one (et_cmp (op_eqD hu) v2_eq (ev_callH h_law_off hr0 (by exact rfl) (ea_cons (ev_var 0) (ea_cons ev_int ea_nil))) ev_int rfl))) (fun _ _ _ _ _ => (ev_var 6)))) ea_nil)) sc.nd)
  (ess_cons (es_if (et_cmp (op_eqD hu) v2_eq (ev_callH h_law_off hr0 (by exact rfl) (ea_cons (ev_var 0) (ea_cons ev_int ea_nil))) ev_int rfl)
  (ess_one (es_set (ev_rgT rfl (by exact rfl) m_tuple (by exact rfl) m_range (ev_bin op_addA v2_add (ev_var 4) ev_int)) sc.nd))
  ess_nil)
  (ess_one (es_ret (ev_tup (ea_cons ev_str (ea_cons (ev_var 3) (ea_cons (ev_var 5) (ea_cons (ev_bin op_addA v2_add ev_int (ev_callH h_law_off hr0 (by exact rfl) (ea_cons (ev_var 0) (ea_cons (ev_bin op_sub v2_sub (ev_var 2) ev_int) ea_nil)))) ea_nil))))))))))))
/-! ### _law_program -/
abbrev s_law_program : Stmt := top 27
theorem sc_law_program : FnScope ["_law_d", "_law_boxes", "_law_most", "_law_many", "_law_inner", "_law_steps", "_law_at"] ["_law_d", "_law_boxes", "_law_most"] (defScope s_law_program) := ⟨rfl, rfl, rfl, by decide +kernel, rfl, by decide +kernel, by decide +kernel⟩
noncomputable def t_law_program (g_law_off : Fn) (g_law_step : Fn) : Es :=
  (sSeq (sSet 3 (eBin vAdd (eC (.int 2)) (eApp (doCallA 2 1 g_law_off) (aCons (eVar 0) (aCons (eBin vSub (eVar 2) (eC (.int 1))) aNil)))))
  (sSeq (sSet 4 (eBin vAdd (eC (.int 1)) (eApp (doCallA 2 1 g_law_off) (aCons (eVar 0) (aCons (eBin vSub (eVar 3) (eC (.int 1))) aNil)))))
  (sSeq (sSet 5 (eLCR1 [6] (gN 6) (aCons (eVar 3) aNil) tY (eApp (doCallA 3 1 g_law_step) (aCons (eVar 0) (aCons (eVar 1) (aCons (eVar 3) aNil))))))
  (sSeq (sSub (eVar 5) (eVar 4) (eTup (aCons (eC (.str "in")) aNil)))
  (sFz 1 5 (sRet (eTup (aCons (eBin vAdd (eC (.int 1)) (eApp (doCallA 2 1 g_law_off) (aCons (eVar 0) (aCons (eVar 4) aNil)))) (aCons (eVar 5) aNil)))))))))
noncomputable def f_law_program (g_law_off : Fn) (g_law_step : Fn) : Fn := fun bs M => finD 1 (outB (t_law_program g_law_off g_law_step (rho0 7 bs) M))
theorem ok_law_program {P : Program} {w : World} {K : PySem.W.Frag} {mg : Str → Option Value} {base : Heap} {f : Addr} {fd : FuncData} {k : Nat} {g_law_off : Fn} {g_law_step : Fn} {fs : Fn} (h_law_off : Has P w K mg base "_law_off" k ["_law_d", "_law_most"] 1 g_law_off) (h_law_step : Has P w K mg base "_law_step" k ["_law_d", "_law_boxes", "_law_many"] 1 g_law_step) (m_range : mg "range" = none)
  (F : FunD K "_law_program" "_law_program" (defArgs s_law_program) (defBody s_law_program) (defScope s_law_program) [] [] f fd) (hf : ∀ bs M, fs bs M = .stuck ∨ f_law_program g_law_off g_law_step bs M = fs bs M) : FnOk P w K mg base CX0 (k + 1) f fd ["_law_d", "_law_boxes", "_law_most"] (spF AX0 3 1 fs) :=
  def_D (t := t_law_program g_law_off g_law_step) F sc_law_program hf fun cdv A outer s H E W hr => by
  have sc := sc_law_program
  have hr0 := hr.mono (Nat.le_add_right k 0)
  have hu : (A.deeper (envOfC "_law_program" (defScope s_law_program) s.heap.objs.size f cdv)).units + 64 < cLine := by have := hr.un; omega
  have hu65 : (A.deeper (envOfC "_law_program" (defScope s_law_program) s.heap.objs.size f cdv)).units + 65 < cLine := by have := hr.un; omega
  unfold t_law_program
  exact (ess_cons (es_set (ev_bin op_addA v2_add ev_int (ev_callH h_law_off hr0 (by exact rfl) (ea_cons (ev_var 0) (ea_cons (ev_bin op_sub v2_sub (ev_var 2) ev_int) ea_nil)))) sc.nd)
  (ess_cons (es_set (ev_bin op_addA v2_add ev_int (ev_callH h_law_off hr0 (by exact rfl) (ea_cons (ev_var 0) (ea_cons (ev_bin op_sub v2_sub (ev_var 3) ev_int) ea_nil)))) sc.nd)
  (ess_cons (es_setLc (i := 5) rfl sc.nd rfl rfl rfl (pi_range1 (by exact rfl) m_range (ea_cons (ev_var 3) ea_nil) rfl) (own := [("_law_at", 6)]) (blkOk_of (N' := ["_law_d", "_law_boxes", "_law_most", "_law_many", "_law_inner", "_law_steps", "_law_at"]) (sc' := defScope s_law_program) (by exact rfl) (by exact rfl) ⟨rfl, by decide +kernel, by decide +kernel, by decide +kernel, by decide +kernel⟩) (fun _ _ _ _ _ => (egc_name sc.nd)) (fun _ _ _ _ _ => ets_nil) (fun _ _ _ _ _ => (ev_callH h_law_step hr0 (by exact rfl) (ea_cons (ev_var 0) (ea_cons (ev_var 1) (ea_cons (ev_var 3) ea_nil))))) (fun _ _ _ h => (lcR1_imp h)))
  (ess_cons (es_sub (ev_tup (ea_cons ev_str ea_nil)) (ev_var 5) (ev_var 4))
  (ess_one (es_fz (es_ret (ev_tup (ea_cons (ev_bin op_addA v2_add ev_int (ev_callH h_law_off hr0 (by exact rfl) (ea_cons (ev_var 0) (ea_cons (ev_var 4) ea_nil)))) (ea_cons (ev_var 5) ea_nil))))))))))
/-! ### _law_pair -/
abbrev s_law_pair : Stmt := top 28
theorem sc_law_pair : FnScope ["_law_side", "_law_steps"] ["_law_side"] (defScope s_law_pair) := ⟨rfl, rfl, rfl, by decide +kernel, rfl, by decide +kernel, by decide +kernel⟩
noncomputable def t_law_pair : Es :=
  (sSeq (sSet 1 (eLst (aCons (eTup (aCons (eC (.str "put")) (aCons (eVar 0) (aCons (eC (.int 1)) aNil)))) (aCons (eTup (aCons (eC (.str "put")) (aCons (eC (.int 2)) (aCons (eBin vSub (eC (.int 1)) (eVar 0)) aNil)))) (aCons (eTup (aCons (eC (.str "go")) (aCons (eBin vSub (eC (.int 1)) (eVar 0)) (aCons (eTup (aCons (eC (.int 0)) aNil)) (aCons (eC (.int 4)) aNil))))) (aCons (eTup (aCons (eC (.str "go")) (aCons (eC (.int 2)) (aCons (eTup (aCons (eBin vSub (eC (.int 1)) (eVar 0)) aNil)) (aCons (eC (.int 2)) aNil))))) aNil))))))
  (sRet (eTup (aCons (eC (.int 2)) (aCons (eBin vAdd (eVar 1) (eLst (aCons (eTup (aCons (eC (.str "in")) aNil)) (aCons (eTup (aCons (eC (.str "put")) (aCons (eVar 0) (aCons (eC (.int 0)) aNil)))) aNil)))) aNil)))))
noncomputable def f_law_pair : Fn := fun bs M => finD 0 (outB (t_law_pair (rho0 2 bs) M))
theorem ok_law_pair {P : Program} {w : World} {K : PySem.W.Frag} {mg : Str → Option Value} {base : Heap} {f : Addr} {fd : FuncData} {k : Nat} {fs : Fn}
  (F : FunD K "_law_pair" "_law_pair" (defArgs s_law_pair) (defBody s_law_pair) (defScope s_law_pair) [] [] f fd) (hf : ∀ bs M, fs bs M = .stuck ∨ f_law_pair bs M = fs bs M) : FnOk P w K mg base CX0 (k + 1) f fd ["_law_side"] (spF AX0 1 0 fs) :=
  def_D (t := t_law_pair) F sc_law_pair hf fun cdv A outer s H E W hr => by
  have sc := sc_law_pair
  have hr0 := hr.mono (Nat.le_add_right k 0)
  have hu : (A.deeper (envOfC "_law_pair" (defScope s_law_pair) s.heap.objs.size f cdv)).units + 64 < cLine := by have := hr.un; omega
  have hu65 : (A.deeper (envOfC "_law_pair" (defScope s_law_pair) s.heap.objs.size f cdv)).units + 65 < cLine := by have := hr.un; omega
  unfold t_law_pair
  exact (ess_cons (es_set (ev_lst (ea_cons (ev_tup (ea_cons ev_str (ea_cons (ev_var 0) (ea_cons ev_int ea_nil)))) (ea_cons (ev_tup (ea_cons ev_str (ea_cons ev_int (ea_cons (ev_bin op_sub v2_sub ev_int (ev_var 0)) ea_nil)))) (ea_cons (ev_tup (ea_cons ev_str (ea_cons (ev_bin op_sub v2_sub ev_int (ev_var 0)) (ea_cons (ev_tup (ea_cons ev_int ea_nil)) (ea_cons ev_int ea_nil))))) (ea_cons (ev_tup (ea_cons ev_str (ea_cons ev_int (ea_cons (ev_tup (ea_cons (ev_bin op_sub v2_sub ev_int (ev_var 0)) ea_nil)) (ea_cons ev_int ea_nil))))) ea_nil))))) sc.nd)
  (ess_one (es_ret (ev_tup (ea_cons ev_int (ea_cons (ev_bin op_addA v2_add (ev_var 1) (ev_lst (ea_cons (ev_tup (ea_cons ev_str ea_nil)) (ea_cons (ev_tup (ea_cons ev_str (ea_cons (ev_var 0) (ea_cons ev_int ea_nil)))) ea_nil)))) ea_nil))))))
/-! ### _law_bits -/
abbrev s_law_bits : Stmt := top 29
theorem sc_law_bits : FnScope ["_law_hand", "_law_many", "_law_steps", "_law_other", "_law_at"] ["_law_hand", "_law_many"] (defScope s_law_bits) := ⟨rfl, rfl, rfl, by decide +kernel, rfl, by decide +kernel, by decide +kernel⟩
noncomputable def t_law_bits : Es :=
  (sSeq (sSet 2 (eLstO (aCons (eTup (aCons (eC (.str "put")) (aCons (eVar 0) (aCons (eC (.int 1)) aNil)))) aNil)))
  (sSeq (sForR1 (gN 3) (aCons (eVar 0) aNil)
  (sSeq (sSet 4 (eApp vLen (aCons (eVar 2) aNil)))
  (sSeq (sSet 2 (eBin vAddL (eVar 2) (eLst (aCons (eTup (aCons (eC (.str "go")) (aCons (eVar 3) (aCons (eTup (aCons (eC (.int 0)) aNil)) (aCons (eBin vAdd (eVar 4) (eC (.int 5))) aNil))))) (aCons (eTup (aCons (eC (.str "put")) (aCons (eVar 0) (aCons (eC (.int 0)) aNil)))) (aCons (eTup (aCons (eC (.str "go")) (aCons (eVar 3) (aCons (eTup (aCons (eC (.int 1)) aNil)) (aCons (eBin vAdd (eVar 4) (eC (.int 2))) aNil))))) aNil))))))
  (sSet 2 (eBin vAddL (eVar 2) (eLst (aCons (eTup (aCons (eC (.str "put")) (aCons (eVar 0) (aCons (eC (.int 1)) aNil)))) (aCons (eTup (aCons (eC (.str "go")) (aCons (eVar 0) (aCons (eTup (aCons (eC (.int 0)) (aCons (eC (.int 1)) aNil))) (aCons (eC (.int 1)) aNil))))) aNil))))))))
  (sSeq (sForR2 (gN 3) (aCons (eBin vAdd (eVar 0) (eC (.int 1))) (aCons (eVar 1) aNil))
  (sExpr (eMtL vAppend (eVar 2) (aCons (eTup (aCons (eC (.str "go")) (aCons (eVar 3) (aCons (eTup (aCons (eC (.int 1)) aNil)) (aCons (eApp vLen (aCons (eVar 2) aNil)) aNil))))) aNil))))
  (sFz 0 2 (sRet (eTup (aCons (eC (.int 1)) (aCons (eBin vAdd (eVar 2) (eLst (aCons (eTup (aCons (eC (.str "in")) aNil)) (aCons (eTup (aCons (eC (.str "put")) (aCons (eVar 0) (aCons (eC (.int 0)) aNil)))) aNil)))) aNil))))))))
noncomputable def f_law_bits : Fn := fun bs M => finD 0 (outB (t_law_bits (rho0 5 bs) M))
theorem ok_law_bits {P : Program} {w : World} {K : PySem.W.Frag} {mg : Str → Option Value} {base : Heap} {f : Addr} {fd : FuncData} {k : Nat} {fs : Fn} (m_len : mg "len" = none) (m_range : mg "range" = none)
  (F : FunD K "_law_bits" "_law_bits" (defArgs s_law_bits) (defBody s_law_bits) (defScope s_law_bits) [] [] f fd) (hf : ∀ bs M, fs bs M = .stuck ∨ f_law_bits bs M = fs bs M) : FnOk P w K mg base CX0 (k + 1) f fd ["_law_hand", "_law_many"] (spF AX0 2 0 fs) :=
  def_D (t := t_law_bits) F sc_law_bits hf fun cdv A outer s H E W hr => by
  have sc := sc_law_bits
  have hr0 := hr.mono (Nat.le_add_right k 0)
  have hu : (A.deeper (envOfC "_law_bits" (defScope s_law_bits) s.heap.objs.size f cdv)).units + 64 < cLine := by have := hr.un; omega
  have hu65 : (A.deeper (envOfC "_law_bits" (defScope s_law_bits) s.heap.objs.size f cdv)).units + 65 < cLine := by have := hr.un; omega
  unfold t_law_bits
  exact (ess_cons (es_set (ev_lstO (ea_cons (ev_tup (ea_cons ev_str (ea_cons (ev_var 0) (ea_cons ev_int ea_nil)))) ea_nil)) sc.nd)
  (ess_cons (es_forR1 PassesOwn.never rfl (by exact rfl) m_range (ea_cons (ev_var 0) ea_nil) (eg_name sc.nd)
  (ess_cons (es_set (ev_callB call_len vn_len (by exact rfl) m_len boot_len (ea_cons (ev_var 2) ea_nil)) sc.nd)
  (ess_cons (es_set (ev_bin op_cat v2_addL (ev_var 2) (ev_lst (ea_cons (ev_tup (ea_cons ev_str (ea_cons (ev_var 3) (ea_cons (ev_tup (ea_cons ev_int ea_nil)) (ea_cons (ev_bin op_addA v2_add (ev_var 4) ev_int) ea_nil))))) (ea_cons (ev_tup (ea_cons ev_str (ea_cons (ev_var 0) (ea_cons ev_int ea_nil)))) (ea_cons (ev_tup (ea_cons ev_str (ea_cons (ev_var 3) (ea_cons (ev_tup (ea_cons ev_int ea_nil)) (ea_cons (ev_bin op_addA v2_add (ev_var 4) ev_int) ea_nil))))) ea_nil))))) sc.nd)
  (ess_one (es_set (ev_bin op_cat v2_addL (ev_var 2) (ev_lst (ea_cons (ev_tup (ea_cons ev_str (ea_cons (ev_var 0) (ea_cons ev_int ea_nil)))) (ea_cons (ev_tup (ea_cons ev_str (ea_cons (ev_var 0) (ea_cons (ev_tup (ea_cons ev_int (ea_cons ev_int ea_nil))) (ea_cons ev_int ea_nil))))) ea_nil)))) sc.nd)))))
  (ess_cons (es_forR2 PassesOwn.never rfl (by exact rfl) m_range (ea_cons (ev_bin op_addA v2_add (ev_var 0) ev_int) (ea_cons (ev_var 1) ea_nil)) (eg_name sc.nd)
  (ess_one (es_expr (ev_mtL PySem.F.slot_list_append PySem.F.type_list_append mt_append vm_append (ev_var 2) (ea_cons (ev_tup (ea_cons ev_str (ea_cons (ev_var 3) (ea_cons (ev_tup (ea_cons ev_int ea_nil)) (ea_cons (ev_callB call_len vn_len (by exact rfl) m_len boot_len (ea_cons (ev_var 2) ea_nil)) ea_nil))))) ea_nil)))))
  (ess_one (es_fz (es_ret (ev_tup (ea_cons ev_int (ea_cons (ev_bin op_addA v2_add (ev_var 2) (ev_lst (ea_cons (ev_tup (ea_cons ev_str ea_nil)) (ea_cons (ev_tup (ea_cons ev_str (ea_cons (ev_var 0) (ea_cons ev_int ea_nil)))) ea_nil)))) ea_nil)))))))))
/-! ### _law_counter -/
abbrev s_law_counter : Stmt := top 30
theorem sc_law_counter : FnScope ["_law_many", "_law_steps", "_law_box", "_law_at"] ["_law_many"] (defScope s_law_counter) := ⟨rfl, rfl, rfl, by decide +kernel, rfl, by decide +kernel, by decide +kernel⟩
noncomputable def t_law_counter : Es :=
  (sSeq (sSet 1 (eLst (aCons (eTup (aCons (eC (.str "go")) (aCons (eC (.int 0)) (aCons (eTup aNil) (aCons (eC (.int 1)) aNil))))) aNil)))
  (sSeq (sForR1 (gN 2) (aCons (eVar 0) aNil)
  (sSeq (sSet 3 (eApp vLen (aCons (eVar 1) aNil)))
  (sSet 1 (eBin vAdd (eVar 1) (eLst (aCons (eTup (aCons (eC (.str "go")) (aCons (eVar 2) (aCons (eTup (aCons (eC (.int 1)) aNil)) (aCons (eBin vAdd (eVar 3) (eC (.int 3))) aNil))))) (aCons (eTup (aCons (eC (.str "put")) (aCons (eVar 2) (aCons (eC (.int 1)) aNil)))) (aCons (eTup (aCons (eC (.str "go")) (aCons (eVar 2) (aCons (eTup (aCons (eC (.int 0)) (aCons (eC (.int 1)) aNil))) (aCons (eC (.int 1)) aNil))))) (aCons (eTup (aCons (eC (.str "put")) (aCons (eVar 2) (aCons (eC (.int 0)) aNil)))) aNil)))))))))
  (sRet (eTup (aCons (eBin vMul (eLst (aCons (eTup (aCons (eC (.int 0)) (aCons (eC (.int 1)) aNil))) aNil)) (eVar 0)) (aCons (eLst (aCons (eTup (aCons (eC (.int 1)) (aCons (eBin vAdd (eVar 1) (eLst (aCons (eTup (aCons (eC (.str "in")) aNil)) aNil))) aNil))) aNil)) aNil))))))
noncomputable def f_law_counter : Fn := fun bs M => finD 0 (outB (t_law_counter (rho0 4 bs) M))
theorem ok_law_counter {P : Program} {w : World} {K : PySem.W.Frag} {mg : Str → Option Value} {base : Heap} {f : Addr} {fd : FuncData} {k : Nat} {fs : Fn} (m_len : mg "len" = none) (m_range : mg "range" = none)
  (F : FunD K "_law_counter" "_law_counter" (defArgs s_law_counter) (defBody s_law_counter) (defScope s_law_counter) [] [] f fd) (hf : ∀ bs M, fs bs M = .stuck ∨ f_law_counter bs M = fs bs M) : FnOk P w K mg base CX0 (k + 1) f fd ["_law_many"] (spF AX0 1 0 fs) :=
  def_D (t := t_law_counter) F sc_law_counter hf fun cdv A outer s H E W hr => by
  have sc := sc_law_counter
  have hr0 := hr.mono (Nat.le_add_right k 0)
  have hu : (A.deeper (envOfC "_law_counter" (defScope s_law_counter) s.heap.objs.size f cdv)).units + 64 < cLine := by have := hr.un; omega
  have hu65 : (A.deeper (envOfC "_law_counter" (defScope s_law_counter) s.heap.objs.size f cdv)).units + 65 < cLine := by have := hr.un; omega
  unfold t_law_counter
  exact (ess_cons (es_set (ev_lst (ea_cons (ev_tup (ea_cons ev_str (ea_cons ev_int (ea_cons (ev_tup ea_nil) (ea_cons ev_int ea_nil))))) ea_nil)) sc.nd)
  (ess_cons (es_forR1 PassesOwn.never rfl (by exact rfl) m_range (ea_cons (ev_var 0) ea_nil) (eg_name sc.nd)
  (ess_cons (es_set (ev_callB call_len vn_len (by exact rfl) m_len boot_len (ea_cons (ev_var 1) ea_nil)) sc.nd)
  (ess_one (es_set (ev_bin op_addA v2_add (ev_var 1) (ev_lst (ea_cons (ev_tup (ea_cons ev_str (ea_cons (ev_var 2) (ea_cons (ev_tup (ea_cons ev_int ea_nil)) (ea_cons (ev_bin op_addA v2_add (ev_var 3) ev_int) ea_nil))))) (ea_cons (ev_tup (ea_cons ev_str (ea_cons (ev_var 2) (ea_cons ev_int ea_nil)))) (ea_cons (ev_tup (ea_cons ev_str (ea_cons (ev_var 2) (ea_cons (ev_tup (ea_cons ev_int (ea_cons ev_int ea_nil))) (ea_cons ev_int ea_nil))))) (ea_cons (ev_tup (ea_cons ev_str (ea_cons (ev_var 2) (ea_cons ev_int ea_nil)))) ea_nil)))))) sc.nd))))
  (ess_one (es_ret (ev_tup (ea_cons (ev_bin op_mulA v2_mul (ev_lst (ea_cons (ev_tup (ea_cons ev_int (ea_cons ev_int ea_nil))) ea_nil)) (ev_var 0)) (ea_cons (ev_lst (ea_cons (ev_tup (ea_cons ev_int (ea_cons (ev_bin op_addA v2_add (ev_var 1) (ev_lst (ea_cons (ev_tup (ea_cons ev_str ea_nil)) ea_nil))) ea_nil))) ea_nil)) ea_nil)))))))
/-! ### _law_gate -/
abbrev s_law_gate : Stmt := top 31
theorem sc_law_gate : FnScope ["_law_d", "_law_way", "_law_many", "_law_boxes", "_law_hands", "_law_k", "_law_hand", "_law_at", "_law_most", "_law_knock", "_law_steps"] ["_law_d"] (defScope s_law_gate) := ⟨rfl, rfl, rfl, by decide +kernel, rfl, by decide +kernel, by decide +kernel⟩
noncomputable def t_law_gate (g_law_off : Fn) (g_law_counter : Fn) (g_law_program : Fn) (g_law_pair : Fn) (g_law_bits : Fn) (g_law_step : Fn) : Es :=
  (sSeq (sIf (tV (eBin vEq (eApp (doCallA 2 1 g_law_off) (aCons (eVar 0) (aCons (eC (.int 14)) aNil))) (eC (.int 0))))
  (sRet (eApp (doCallA 1 0 g_law_counter) (aCons (eBin vAdd (eC (.int 1)) (eApp (doCallA 2 1 g_law_off) (aCons (eVar 0) (aCons (eC (.int 5)) aNil)))) aNil)))
  sNil)
  (sSeq (sSet 1 (eApp (doCallA 2 1 g_law_off) (aCons (eVar 0) (aCons (eC (.int 5)) aNil))))
  (sSeq (sIf (tV (eBin vLt (eVar 1) (eC (.int 2))))
  (sSeq (sSet 2 (eBin vIx (eLst (aCons (eC (.int 2)) (aCons (eC (.int 1)) (aCons (eC (.int 3)) (aCons (eC (.int 4)) aNil))))) (eApp (doCallA 2 1 g_law_off) (aCons (eVar 0) (aCons (eC (.int 4)) aNil)))))
  (sSeq (sSet 3 (eLstO aNil))
  (sSeq (sForR1 (gN 5) (aCons (eBin vAdd (eC (.int 1)) (eApp (doCallA 2 1 g_law_off) (aCons (eVar 0) (aCons (eBin vIx (eLst (aCons (eC (.int 3)) (aCons (eC (.int 3)) (aCons (eC (.int 3)) (aCons (eC (.int 2)) (aCons (eC (.int 1)) aNil)))))) (eVar 2)) aNil)))) aNil)
  (sSeq (sSet 8 (eApp (doCallA 2 1 g_law_off) (aCons (eVar 0) (aCons (eBin vIx (eLst (aCons (eC (.int 3)) (aCons (eC (.int 3)) (aCons (eC (.int 3)) (aCons (eC (.int 2)) (aCons (eC (.int 3)) aNil)))))) (eVar 2)) aNil))))
  (sExpr (eMtL vAppend (eVar 3) (aCons (eTup (aCons (eApp (doCallA 2 1 g_law_off) (aCons (eVar 0) (aCons (eBin vAdd (eVar 8) (eC (.int 1))) aNil))) (aCons (eVar 8) aNil))) aNil)))))
  (sFz 1 3 (sRet (eTup (aCons (eVar 3) (aCons (eFz (eLCR1 [6] (gN 6) (aCons (eVar 2) aNil) tY (eApp (doCallA 3 1 g_law_program) (aCons (eVar 0) (aCons (eVar 3) (aCons (eBin vIx (eLst (aCons (eC (.int 6)) (aCons (eC (.int 6)) (aCons (eC (.int 6)) (aCons (eC (.int 5)) (aCons (eC (.int 3)) aNil)))))) (eVar 2)) aNil)))))) aNil))))))))
  sNil)
  (sSeq (sIf (tV (eBin vEq (eVar 1) (eC (.int 2))))
  (sSeq (sSet 3 (eLst (aCons (eTup (aCons (eC (.int 0)) (aCons (eApp (doCallA 2 1 g_law_off) (aCons (eVar 0) (aCons (eBin vIx (eLst (aCons (eC (.int 3)) (aCons (eC (.int 10)) aNil))) (eApp vInt (aCons (eBin vEq (eApp (doCallA 2 1 g_law_off) (aCons (eVar 0) (aCons (eC (.int 3)) aNil))) (eC (.int 0))) aNil))) aNil))) aNil))) aNil)))
  (sRet (eTup (aCons (eVar 3) (aCons (eFz (eLCR1 [6] (gN 6) (aCons (eC (.int 2)) aNil) tY (eApp (doCallA 3 1 g_law_program) (aCons (eVar 0) (aCons (eVar 3) (aCons (eC (.int 6)) aNil)))))) aNil)))))
  sNil)
  (sSeq (sSet 2 (eBin vAdd (eC (.int 2)) (eApp vInt (aCons (eAnd (eBin vEq (eVar 1) (eC (.int 4))) (eBin vEq (eApp (doCallA 2 1 g_law_off) (aCons (eVar 0) (aCons (eC (.int 3)) aNil))) (eC (.int 0)))) aNil))))
  (sSeq (sSet 3 (eBin vMul (eLst (aCons (eTup (aCons (eC (.int 0)) (aCons (eC (.int 1)) aNil))) aNil)) (eBin vIx (eLst (aCons (eC (.int 3)) (aCons (eVar 2) aNil))) (eApp vInt (aCons (eBin vEq (eVar 1) (eC (.int 4))) aNil)))))
  (sSeq (sSet 4 (eFz (eLCR1 [6] (gN 6) (aCons (eVar 2) aNil) tY (eBin vIx (eLst (aCons (eApp (doCallA 1 0 g_law_pair) (aCons (eBin vMod (eVar 6) (eC (.int 2))) aNil)) (aCons (eApp (doCallA 2 0 g_law_bits) (aCons (eVar 6) (aCons (eVar 2) aNil))) aNil))) (eApp vInt (aCons (eBin vEq (eVar 1) (eC (.int 4))) aNil))))))
  (sSeq (sIf (tV (eBin vEq (eApp (doCallA 2 1 g_law_off) (aCons (eVar 0) (aCons (eC (.int 2)) aNil))) (eC (.int 0))))
  (sSeq (sSet 6 (eApp (doCallA 2 1 g_law_off) (aCons (eVar 0) (aCons (eVar 2) aNil))))
  (sSeq (sAsg (gT [9, 10]) (eBin vIx (eVar 4) (eVar 6)))
  (sSeq (sSet 7 (eApp (doCallA 2 1 g_law_off) (aCons (eVar 0) (aCons (eApp vLen (aCons (eVar 10) aNil)) aNil))))
  (sSeq (sIf (tV (eBin vNe (eBin vIx (eVar 10) (eVar 7)) (eTup (aCons (eC (.str "in")) aNil))))
  (sSet 10 (eBin vAdd (eBin vAdd (eSl (eVar 10) oNone (oSome (eVar 7))) (eLst (aCons (eApp (doCallA 3 1 g_law_step) (aCons (eVar 0) (aCons (eVar 3) (aCons (eApp vLen (aCons (eVar 10) aNil)) aNil)))) aNil))) (eSl (eVar 10) (oSome (eBin vAdd (eVar 7) (eC (.int 1)))) oNone)))
  sNil)
  (sSet 4 (eBin vAdd (eBin vAdd (eSl (eVar 4) oNone (oSome (eVar 6))) (eLst (aCons (eTup (aCons (eVar 9) (aCons (eVar 10) aNil))) aNil))) (eSl (eVar 4) (oSome (eBin vAdd (eVar 6) (eC (.int 1)))) oNone)))))))
  sNil)
  (sRet (eTup (aCons (eVar 3) (aCons (eVar 4) aNil))))))))))))
noncomputable def f_law_gate (g_law_off : Fn) (g_law_counter : Fn) (g_law_program : Fn) (g_law_pair : Fn) (g_law_bits : Fn) (g_law_step : Fn) : Fn := fun bs M => finD 1 (outB (t_law_gate g_law_off g_law_counter g_law_program g_law_pair g_law_bits g_law_step (rho0 11 bs) M))
theorem ok_law_gate {P : Program} {w : World} {K : PySem.W.Frag} {mg : Str → Option Value} {base : Heap} {f : Addr} {fd : FuncData} {k : Nat} {g_law_off : Fn} {g_law_counter : Fn} {g_law_program : Fn} {g_law_pair : Fn} {g_law_bits : Fn} {g_law_step : Fn} {fs : Fn} (h_law_off : Has P w K mg base "_law_off" k ["_law_d", "_law_most"] 1 g_law_off) (h_law_counter : Has P w K mg base "_law_counter" k ["_law_many"] 0 g_law_counter) (m_range : mg "range" = none) (h_law_program : Has P w K mg base "_law_program" k ["_law_d", "_law_boxes", "_law_most"] 1 g_law_program) (m_int : mg "int" = none) (h_law_pair : Has P w K mg base "_law_pair" k ["_law_side"] 0 g_law_pair) (h_law_bits : Has P w K mg base "_law_bits" k ["_law_hand", "_law_many"] 0 g_law_bits) (m_len : mg "len" = none) (h_law_step : Has P w K mg base "_law_step" k ["_law_d", "_law_boxes", "_law_many"] 1 g_law_step)
  (F : FunD K "_law_gate" "_law_gate" (defArgs s_law_gate) (defBody s_law_gate) (defScope s_law_gate) [] [] f fd) (hf : ∀ bs M, fs bs M = .stuck ∨ f_law_gate g_law_off g_law_counter g_law_program g_law_pair g_law_bits g_law_step bs M = fs bs M) : FnOk P w K mg base CX0 (k + 1) f fd ["_law_d"] (spF AX0 1 1 fs) :=
  def_D (t := t_law_gate g_law_off g_law_counter g_law_program g_law_pair g_law_bits g_law_step) F sc_law_gate hf fun cdv A outer s H E W hr => by
  have sc := sc_law_gate
  have hr0 := hr.mono (Nat.le_add_right k 0)
  have hu : (A.deeper (envOfC "_law_gate" (defScope s_law_gate) s.heap.objs.size f cdv)).units + 64 < cLine := by have := hr.un; omega
  have hu65 : (A.deeper (envOfC "_law_gate" (defScope s_law_gate) s.heap.objs.size f cdv)).units + 65 < cLine := by have := hr.un; omega
  unfold t_law_gate
  exact (ess_cons (es_if (et_cmp (op_eqD hu) v2_eq (ev_callH h_law_off hr0 (by exact rfl) (ea_cons (ev_var 0) (ea_cons ev_int ea_nil))) ev_int rfl)
  (ess_one (es_ret (ev_callH h_law_counter hr0 (by exact rfl) (ea_cons (ev_bin op_addA v2_add ev_int (ev_callH h_law_off hr0 (by exact rfl) (ea_cons (ev_var 0) (ea_cons ev_int ea_nil)))) ea_nil))))
  ess_nil)
  (ess_cons (es_set (ev_callH h_law_off hr0 (by exact rfl) (ea_cons (ev_var 0) (ea_cons ev_int ea_nil))) sc.nd)
  (ess_cons (es_if (et_cmp op_lt v2_lt (ev_var 1) ev_int rfl)
  (ess_cons (es_set (ev_ix ix_seq v2_ix (ev_lst (ea_cons ev_int (ea_cons ev_int (ea_cons ev_int (ea_cons ev_int ea_nil))))) (ev_callH h_law_off hr0 (by exact rfl) (ea_cons (ev_var 0) (ea_cons ev_int ea_nil)))) sc.nd)
  (ess_cons (es_set (ev_lstO ea_nil) sc.nd)
  (ess_cons (es_forR1 PassesOwn.never rfl (by exact rfl) m_range (ea_cons (ev_bin op_addA v2_add ev_int (ev_callH h_law_off hr0 (by exact rfl) (ea_cons (ev_var 0) (ea_cons (ev_ix ix_seq v2_ix (ev_lst (ea_cons ev_int (ea_cons ev_int (ea_cons ev_int (ea_cons ev_int (ea_cons ev_int ea_nil)))))) (ev_var 2)) ea_nil)))) ea_nil) (eg_name sc.nd)
  (ess_cons (es_set (ev_callH h_law_off hr0 (by exact rfl) (ea_cons (ev_var 0) (ea_cons (ev_ix ix_seq v2_ix (ev_lst (ea_cons ev_int (ea_cons ev_int (ea_cons ev_int (ea_cons ev_int (ea_cons ev_int ea_nil)))))) (ev_var 2)) ea_nil))) sc.nd)
  (ess_one (es_expr (ev_mtL PySem.F.slot_list_append PySem.F.type_list_append mt_append vm_append (ev_var 3) (ea_cons (ev_tup (ea_cons (ev_callH h_law_off hr0 (by exact rfl) (ea_cons (ev_var 0) (ea_cons (ev_bin op_addA v2_add (ev_var 8) ev_int) ea_nil))) (ea_cons (ev_var 8) ea_nil))) ea_nil))))))
  (ess_one (es_fz (es_ret (ev_tup (ea_cons (ev_var 3) (ea_cons (ev_fz (ev_lcR1 rfl sc.nd (by exact rfl) m_range (ea_cons (ev_var 2) ea_nil) (own := [("_law_hand", 6)]) (blkOk_of (N' := ["_law_d", "_law_way", "_law_many", "_law_boxes", "_law_hands", "_law_k", "_law_hand", "_law_at", "_law_most", "_law_knock", "_law_steps"]) (sc' := defScope s_law_gate) (by exact rfl) (by exact rfl) ⟨rfl, by decide +kernel, by decide +kernel, by decide +kernel, by decide +kernel⟩) (fun _ _ _ _ _ => (egc_name sc.nd)) (fun _ _ _ _ _ => ets_nil) (fun _ _ _ _ _ => (ev_callH h_law_program hr0 (by exact rfl) (ea_cons (ev_var 0) (ea_cons (ev_var 3) (ea_cons (ev_ix ix_seq v2_ix (ev_lst (ea_cons ev_int (ea_cons ev_int (ea_cons ev_int (ea_cons ev_int (ea_cons ev_int ea_nil)))))) (ev_var 2)) ea_nil))))))) ea_nil)))))))))
  ess_nil)
  (ess_cons (es_if (et_cmp (op_eqD hu) v2_eq (ev_var 1) ev_int rfl)
  (ess_cons (es_set (ev_lst (ea_cons (ev_tup (ea_cons ev_int (ea_cons (ev_callH h_law_off hr0 (by exact rfl) (ea_cons (ev_var 0) (ea_cons (ev_ix ix_seq v2_ix (ev_lst (ea_cons ev_int (ea_cons ev_int ea_nil))) (ev_callT call_int1 vn_int (by exact rfl) m_int boot_int (ea_cons (ev_cmp (op_eqD hu) v2_eq (ev_callH h_law_off hr0 (by exact rfl) (ea_cons (ev_var 0) (ea_cons ev_int ea_nil))) ev_int rfl) ea_nil))) ea_nil))) ea_nil))) ea_nil)) sc.nd)
  (ess_one (es_ret (ev_tup (ea_cons (ev_var 3) (ea_cons (ev_fz (ev_lcR1 rfl sc.nd (by exact rfl) m_range (ea_cons ev_int ea_nil) (own := [("_law_hand", 6)]) (blkOk_of (N' := ["_law_d", "_law_way", "_law_many", "_law_boxes", "_law_hands", "_law_k", "_law_hand", "_law_at", "_law_most", "_law_knock", "_law_steps"]) (sc' := defScope s_law_gate) (by exact rfl) (by exact rfl) ⟨rfl, by decide +kernel, by decide +kernel, by decide +kernel, by decide +kernel⟩) (fun _ _ _ _ _ => (egc_name sc.nd)) (fun _ _ _ _ _ => ets_nil) (fun _ _ _ _ _ => (ev_callH h_law_program hr0 (by exact rfl) (ea_cons (ev_var 0) (ea_cons (ev_var 3) (ea_cons ev_int ea_nil))))))) ea_nil))))))
  ess_nil)
  (ess_cons (es_set (ev_bin op_addA v2_add ev_int (ev_callT call_int1 vn_int (by exact rfl) m_int boot_int (ea_cons (ev_and (ev_cmp (op_eqD hu) v2_eq (ev_var 1) ev_int rfl) (ev_one (ev_cmp (op_eqD hu) v2_eq (ev_callH h_law_off hr0 (by exact rfl) (ea_cons (ev_var 0) (ea_cons ev_int ea_nil))) ev_int rfl))) ea_nil))) sc.nd)
  (ess_cons (es_set (ev_bin op_mulA v2_mul (ev_lst (ea_cons (ev_tup (ea_cons ev_int (ea_cons ev_int ea_nil))) ea_nil)) (ev_ix ix_seq v2_ix (ev_lst (ea_cons ev_int (ea_cons (ev_var 2) ea_nil))) (ev_callT call_int1 vn_int (by exact rfl) m_int boot_int (ea_cons (ev_cmp (op_eqD hu) v2_eq (ev_var 1) ev_int rfl) ea_nil)))) sc.nd)
  (ess_cons (es_setLc (i := 4) rfl sc.nd rfl rfl rfl (pi_range1 (by exact rfl) m_range (ea_cons (ev_var 2) ea_nil) rfl) (own := [("_law_hand", 6)]) (blkOk_of (N' := ["_law_d", "_law_way", "_law_many", "_law_boxes", "_law_hands", "_law_k", "_law_hand", "_law_at", "_law_most", "_law_knock", "_law_steps"]) (sc' := defScope s_law_gate) (by exact rfl) (by exact rfl) ⟨rfl, by decide +kernel, by decide +kernel, by decide +kernel, by decide +kernel⟩) (fun _ _ _ _ _ => (egc_name sc.nd)) (fun _ _ _ _ _ => ets_nil) (fun _ _ _ _ _ => (ev_ix ix_seq v2_ix (ev_lst (ea_cons (ev_callH h_law_pair hr0 (by exact rfl) (ea_cons (ev_bin op_mod v2_mod (ev_var 6) ev_int) ea_nil)) (ea_cons (ev_callH h_law_bits hr0 (by exact rfl) (ea_cons (ev_var 6) (ea_cons (ev_var 2) ea_nil))) ea_nil))) (ev_callT call_int1 vn_int (by exact rfl) m_int boot_int (ea_cons (ev_cmp (op_eqD hu) v2_eq (ev_var 1) ev_int rfl) ea_nil)))) (fun _ _ _ h => (lcR1_imp (fz_imp h))))
  (ess_cons (es_if (et_cmp (op_eqD hu) v2_eq (ev_callH h_law_off hr0 (by exact rfl) (ea_cons (ev_var 0) (ea_cons ev_int ea_nil))) ev_int rfl)
  (ess_cons (es_set (ev_callH h_law_off hr0 (by exact rfl) (ea_cons (ev_var 0) (ea_cons (ev_var 2) ea_nil))) sc.nd)
  (ess_cons (es_asg (ev_ix ix_seq v2_ix (ev_var 4) (ev_var 6)) (eg_tup rfl (egs_cons (egs_cons egs_nil sc.nd) sc.nd)))
  (ess_cons (es_set (ev_callH h_law_off hr0 (by exact rfl) (ea_cons (ev_var 0) (ea_cons (ev_callB call_len vn_len (by exact rfl) m_len boot_len (ea_cons (ev_var 10) ea_nil)) ea_nil))) sc.nd)
  (ess_cons (es_if (et_cmp (op_neD hu) v2_ne (ev_ix ix_seq v2_ix (ev_var 10) (ev_var 7)) (ev_tup (ea_cons ev_str ea_nil)) rfl)
  (ess_one (es_set (ev_bin op_addA v2_add (ev_bin op_addA v2_add (ev_sl (ev_var 10) eo_none (eo_some (ev_var 7))) (ev_lst (ea_cons (ev_callH h_law_step hr0 (by exact rfl) (ea_cons (ev_var 0) (ea_cons (ev_var 3) (ea_cons (ev_callB call_len vn_len (by exact rfl) m_len boot_len (ea_cons (ev_var 10) ea_nil)) ea_nil)))) ea_nil))) (ev_sl (ev_var 10) (eo_some (ev_bin op_addA v2_add (ev_var 7) ev_int)) eo_none)) sc.nd))
  ess_nil)
  (ess_one (es_set (ev_bin op_addA v2_add (ev_bin op_addA v2_add (ev_sl (ev_var 4) eo_none (eo_some (ev_var 6))) (ev_lst (ea_cons (ev_tup (ea_cons (ev_var 9) (ea_cons (ev_var 10) ea_nil))) ea_nil))) (ev_sl (ev_var 4) (eo_some (ev_bin op_addA v2_add (ev_var 6) ev_int)) eo_none)) sc.nd))))))
  ess_nil)
  (ess_one (es_ret (ev_tup (ea_cons (ev_var 3) (ea_cons (ev_var 4) ea_nil)))))))))))))
/-! ### must -/
abbrev s_must : Stmt := top 11
theorem sc_must : FnScope ["good", "why", "hand", "step"] ["good", "why", "hand", "step"] (defScope s_must) := ⟨rfl, rfl, rfl, by decide +kernel, rfl, by decide +kernel, by decide +kernel⟩
noncomputable def t_must : Es :=
  (sIf (tNt (tV (eVar 0)))
  sNever
  sNil)
noncomputable def f_must : Fn := fun bs M => finD 0 (outB (t_must (rho0 4 bs) M))
theorem ok_must {P : Program} {w : World} {K : PySem.W.Frag} {mg : Str → Option Value} {base : Heap} {f : Addr} {fd : FuncData} {k : Nat} {fs : Fn}
  (F : FunD K "must" "must" (defArgs s_must) (defBody s_must) (defScope s_must) [] [] f fd) (hf : ∀ bs M, fs bs M = .stuck ∨ f_must bs M = fs bs M) : FnOk P w K mg base CX0 (k + 1) f fd ["good", "why", "hand", "step"] (spF AX0 4 0 fs) :=
  def_D (t := t_must) F sc_must hf fun cdv A outer s H E W hr => by
  have sc := sc_must
  have hr0 := hr.mono (Nat.le_add_right k 0)
  have hu : (A.deeper (envOfC "must" (defScope s_must) s.heap.objs.size f cdv)).units + 64 < cLine := by have := hr.un; omega
  have hu65 : (A.deeper (envOfC "must" (defScope s_must) s.heap.objs.size f cdv)).units + 65 < cLine := by have := hr.un; omega
  unfold t_must
  exact (ess_one (es_if (et_not (et_val (ev_var 0)))
  (ess_one es_never)
  ess_nil))
/-! ### is_rising -/
abbrev s_is_rising : Stmt := top 12
theorem sc_is_rising : FnScope ["numbers"] ["numbers"] (defScope s_is_rising) := ⟨rfl, rfl, rfl, by decide +kernel, rfl, by decide +kernel, by decide +kernel⟩
noncomputable def t_is_rising : Es :=
  (sRet (eBin vEq (eVar 0) (eApp vTup (aCons (eApp vSset (aCons (eVar 0) aNil)) aNil))))
noncomputable def f_is_rising : Fn := fun bs M => finD 0 (outB (t_is_rising (rho0 1 bs) M))
theorem ok_is_rising {P : Program} {w : World} {K : PySem.W.Frag} {mg : Str → Option Value} {base : Heap} {f : Addr} {fd : FuncData} {k : Nat} {fs : Fn} (m_sorted : mg "sorted" = none) (m_set : mg "set" = none) (m_tuple : mg "tuple" = none)
  (F : FunD K "is_rising" "is_rising" (defArgs s_is_rising) (defBody s_is_rising) (defScope s_is_rising) [] [] f fd) (hf : ∀ bs M, fs bs M = .stuck ∨ f_is_rising bs M = fs bs M) : FnOk P w K mg base CX0 (k + 1) f fd ["numbers"] (spF AX0 1 0 fs) :=
  def_D (t := t_is_rising) F sc_is_rising hf fun cdv A outer s H E W hr => by
  have sc := sc_is_rising
  have hr0 := hr.mono (Nat.le_add_right k 0)
  have hu : (A.deeper (envOfC "is_rising" (defScope s_is_rising) s.heap.objs.size f cdv)).units + 64 < cLine := by have := hr.un; omega
  have hu65 : (A.deeper (envOfC "is_rising" (defScope s_is_rising) s.heap.objs.size f cdv)).units + 65 < cLine := by have := hr.un; omega
  unfold t_is_rising
  exact (ess_one (es_ret (ev_cmp (op_eqD hu) v2_eq (ev_var 0) (ev_callT call_tuple_of vn_tup (by exact rfl) m_tuple boot_tuple (ea_cons (ev_sset rfl (by exact rfl) m_sorted (by exact rfl) m_set (ea_cons (ev_var 0) ea_nil)) ea_nil)) rfl)))
/-! ### Gate.is_step -/
abbrev s_Gate_is_step : Stmt := mem 13 2
theorem sc_Gate_is_step : FnScope ["self", "step", "many", "most", "number"] ["self", "step", "many"] (defScope s_Gate_is_step) := ⟨rfl, rfl, rfl, by decide +kernel, rfl, by decide +kernel, by decide +kernel⟩
noncomputable def t_Gate_is_step (K : PySem.W.Frag) (g_is_rising : Fn) : Es :=
  (sSeq (sIf (tV (eBin vEq (eVar 1) (eTup (aCons (eC (.str "in")) aNil))))
  (sRet (eC (.bl true)))
  sNil)
  (sSeq (sIf (tOrr (tV (eBin vLt (eApp vLen (aCons (eVar 1) aNil)) (eC (.int 3)))) (tNt (tV (eCh vLe vLt (eC (.int 0)) (eBin vIx (eVar 1) (eC (.int 1))) (eApp vLen (aCons (eFld (He.ga K "Gate") "kept_boxes" (eVar 0)) aNil))))))
  (sRet (eC (.bl false)))
  sNil)
  (sSeq (sSet 3 (eBin vIx (eBin vIx (eFld (He.ga K "Gate") "kept_boxes" (eVar 0)) (eBin vIx (eVar 1) (eC (.int 1)))) (eC (.int 1))))
  (sSeq (sIf (tAn (tV (eBin vEq (eBin vIx (eVar 1) (eC (.int 0))) (eC (.str "put")))) (tV (eBin vEq (eApp vLen (aCons (eVar 1) aNil)) (eC (.int 3)))))
  (sRet (eCh vLe vLe (eC (.int 0)) (eBin vIx (eVar 1) (eC (.int 2))) (eVar 3)))
  sNil)
  (sSeq (sIf (tOrr (tV (eBin vNe (eBin vIx (eVar 1) (eC (.int 0))) (eC (.str "go")))) (tOrr (tV (eBin vNe (eApp vLen (aCons (eVar 1) aNil)) (eC (.int 4)))) (tNt (tV (eApp (doCallA 1 0 g_is_rising) (aCons (eBin vIx (eVar 1) (eC (.int 2))) aNil))))))
  (sRet (eC (.bl false)))
  sNil)
  (sRet (eAnd (eApp vAll (aCons (eFz (eLC [4] (gN 4) (eBin vIx (eVar 1) (eC (.int 2))) tY (eCh vLe vLe (eC (.int 0)) (eVar 4) (eVar 3)))) aNil)) (eCh vLe vLt (eC (.int 1)) (eBin vIx (eVar 1) (eC (.int 3))) (eVar 2)))))))))
noncomputable def f_Gate_is_step (K : PySem.W.Frag) (g_is_rising : Fn) : Fn := fun bs M => finD 1 (outB (t_Gate_is_step K g_is_rising (rho0 5 bs) M))
theorem ok_Gate_is_step {P : Program} {w : World} {K : PySem.W.Frag} {mg : Str → Option Value} {base : Heap} {f : Addr} {fd : FuncData} {k : Nat} {g_is_rising : Fn} {fs : Fn} (m_len : mg "len" = none) (l_Gate : Cls K (He.ga K "Gate")) (n_Gate_kept_boxes : NoAttr K (He.ga K "Gate") "kept_boxes") (h_is_rising : Has P w K mg base "is_rising" k ["numbers"] 0 g_is_rising) (m_all : mg "all" = none)
  (F : FunD K "is_step" "Gate.is_step" (defArgs s_Gate_is_step) (defBody s_Gate_is_step) (defScope s_Gate_is_step) [] [] f fd) (hf : ∀ bs M, fs bs M = .stuck ∨ f_Gate_is_step K g_is_rising bs M = fs bs M) : FnOk P w K mg base CX0 (k + 1) f fd ["self", "step", "many"] (spF AX0 3 1 fs) :=
  def_D (t := t_Gate_is_step K g_is_rising) F sc_Gate_is_step hf fun cdv A outer s H E W hr => by
  have sc := sc_Gate_is_step
  have hr0 := hr.mono (Nat.le_add_right k 0)
  have hu : (A.deeper (envOfC "Gate.is_step" (defScope s_Gate_is_step) s.heap.objs.size f cdv)).units + 64 < cLine := by have := hr.un; omega
  have hu65 : (A.deeper (envOfC "Gate.is_step" (defScope s_Gate_is_step) s.heap.objs.size f cdv)).units + 65 < cLine := by have := hr.un; omega
  unfold t_Gate_is_step
  exact (ess_cons (es_if (et_cmp (op_eqD hu) v2_eq (ev_var 1) (ev_tup (ea_cons ev_str ea_nil)) rfl)
  (ess_one (es_ret ev_bl))
  ess_nil)
  (ess_cons (es_if (PW.pt (ew_or (et_cmp op_lt v2_lt (ev_callB call_len vn_len (by exact rfl) m_len boot_len (ea_cons (ev_var 1) ea_nil)) ev_int rfl) (ew_or1 (et_not (et_chain op_le v2_le op_lt v2_lt ev_int (ev_ix ix_seq v2_ix (ev_var 1) ev_int) (ev_callB call_len vn_len (by exact rfl) m_len boot_len (ea_cons (ev_fld l_Gate n_Gate_kept_boxes (ev_var 0)) ea_nil)))))))
  (ess_one (es_ret ev_bl))
  ess_nil)
  (ess_cons (es_set (ev_ix ix_seq v2_ix (ev_ix ix_seq v2_ix (ev_fld l_Gate n_Gate_kept_boxes (ev_var 0)) (ev_ix ix_seq v2_ix (ev_var 1) ev_int)) ev_int) sc.nd)
  (ess_cons (es_if (PW.pt (ew_and (et_cmp (op_eqD hu) v2_eq (ev_ix ix_seq v2_ix (ev_var 1) ev_int) ev_str rfl) (ew_and1 (et_cmp (op_eqD hu) v2_eq (ev_callB call_len vn_len (by exact rfl) m_len boot_len (ea_cons (ev_var 1) ea_nil)) ev_int rfl))))
  (ess_one (es_ret (ev_chain op_le v2_le op_le v2_le ev_int (ev_ix ix_seq v2_ix (ev_var 1) ev_int) (ev_var 3))))
  ess_nil)
  (ess_cons (es_if (PW.pt (ew_or (et_cmp (op_neD hu) v2_ne (ev_ix ix_seq v2_ix (ev_var 1) ev_int) ev_str rfl) (ew_or (et_cmp (op_neD hu) v2_ne (ev_callB call_len vn_len (by exact rfl) m_len boot_len (ea_cons (ev_var 1) ea_nil)) ev_int rfl) (ew_or1 (et_not (et_val (ev_callH h_is_rising hr0 (by exact rfl) (ea_cons (ev_ix ix_seq v2_ix (ev_var 1) ev_int) ea_nil))))))))
  (ess_one (es_ret ev_bl))
  ess_nil)
  (ess_one (es_ret (ev_and (ev_callB (cr_all rfl) vn_all (by exact rfl) m_all boot_all (ea_cons (ev_fz (ev_lc rfl sc.nd (ev_ix ix_seq v2_ix (ev_var 1) ev_int) (own := [("number", 4)]) (blkOk_of (N' := ["self", "step", "many", "most", "number"]) (sc' := defScope s_Gate_is_step) (by exact rfl) (by exact rfl) ⟨rfl, by decide +kernel, by decide +kernel, by decide +kernel, by decide +kernel⟩) (fun _ _ _ _ _ => (egc_name sc.nd)) (fun _ _ _ _ _ => ets_nil) (fun _ _ _ _ _ => (ev_chain op_le v2_le op_le v2_le ev_int (ev_var 4) (ev_var 3))))) ea_nil)) (ev_one (ev_chain op_le v2_le op_lt v2_lt ev_int (ev_ix ix_seq v2_ix (ev_var 1) ev_int) (ev_var 2)))))))))))
/-! ### Gate.need_hand -/
abbrev s_Gate_need_hand : Stmt := mem 13 1
theorem sc_Gate_need_hand : FnScope ["self", "hand", "at", "places", "knock", "steps"] ["self", "hand"] (defScope s_Gate_need_hand) := ⟨rfl, rfl, rfl, by decide +kernel, rfl, by decide +kernel, by decide +kernel⟩
noncomputable def t_Gate_need_hand (K : PySem.W.Frag) (g_must : Fn) (g_Gate_is_step : Fn) : Es :=
  (sSeq (sAsg (gT [4, 5]) (eBin vIx (eFld (He.ga K "Gate") "kept_hands" (eVar 0)) (eVar 1)))
  (sSeq (sExpr (eApp (doCallA 4 0 g_must) (aCons (eCh vLe vLe (eC (.int 2)) (eApp vLen (aCons (eVar 5) aNil)) (eC (.int 24))) (aCons (eC (.str "steps")) (aCons (eVar 1) (aCons (eC (.int 0)) aNil))))))
  (sSeq (sForR1 (gN 2) (aCons (eApp vLen (aCons (eVar 5) aNil)) aNil)
  (sExpr (eApp (doCallA 4 0 g_must) (aCons (eMeth (He.ga K "Gate") "is_step" 3 1 g_Gate_is_step (eVar 0) (aCons (eBin vIx (eVar 5) (eVar 2)) (aCons (eApp vLen (aCons (eVar 5) aNil)) aNil))) (aCons (eC (.str "step")) (aCons (eVar 1) (aCons (eVar 2) aNil)))))))
  (sSeq (sSet 3 (eFz (eLCR1 [2] (gN 2) (aCons (eApp vLen (aCons (eVar 5) aNil)) aNil) (tV (eBin vEq (eBin vIx (eVar 5) (eVar 2)) (eTup (aCons (eC (.str "in")) aNil)))) (eVar 2))))
  (sSeq (sExpr (eApp (doCallA 4 0 g_must) (aCons (eAnd (eBin vEq (eApp vLen (aCons (eVar 3) aNil)) (eC (.int 1))) (eBin vGt (eBin vIx (eVar 3) (eC (.int 0))) (eC (.int 0)))) (aCons (eC (.str "in")) (aCons (eVar 1) (aCons (eC (.int 0)) aNil))))))
  (sExpr (eApp (doCallA 4 0 g_must) (aCons (eCh vLe vLe (eC (.int 1)) (eVar 4) (eBin vIx (eVar 3) (eC (.int 0)))) (aCons (eC (.str "knock")) (aCons (eVar 1) (aCons (eC (.int 0)) aNil)))))))))))
noncomputable def f_Gate_need_hand (K : PySem.W.Frag) (g_must : Fn) (g_Gate_is_step : Fn) : Fn := fun bs M => finD 1 (outB (t_Gate_need_hand K g_must g_Gate_is_step (rho0 6 bs) M))
theorem ok_Gate_need_hand {P : Program} {w : World} {K : PySem.W.Frag} {mg : Str → Option Value} {base : Heap} {f : Addr} {fd : FuncData} {k : Nat} {g_must : Fn} {g_Gate_is_step : Fn} {fs : Fn} (l_Gate : Cls K (He.ga K "Gate")) (n_Gate_kept_hands : NoAttr K (He.ga K "Gate") "kept_hands") (c_LEAST_STEPS : ∃ t, mg "LEAST_STEPS" = some (.int 2 t)) (m_len : mg "len" = none) (c_MOST_STEPS : ∃ t, mg "MOST_STEPS" = some (.int 24 t)) (h_must : Has P w K mg base "must" k ["good", "why", "hand", "step"] 0 g_must) (h_Gate_is_step : HasM P w K mg base (He.ga K "Gate") "is_step" k ["self", "step", "many"] 1 g_Gate_is_step) (m_range : mg "range" = none)
  (F : FunD K "need_hand" "Gate.need_hand" (defArgs s_Gate_need_hand) (defBody s_Gate_need_hand) (defScope s_Gate_need_hand) [] [] f fd) (hf : ∀ bs M, fs bs M = .stuck ∨ f_Gate_need_hand K g_must g_Gate_is_step bs M = fs bs M) : FnOk P w K mg base CX0 (k + 1) f fd ["self", "hand"] (spF AX0 2 1 fs) :=
  def_D (t := t_Gate_need_hand K g_must g_Gate_is_step) F sc_Gate_need_hand hf fun cdv A outer s H E W hr => by
  have sc := sc_Gate_need_hand
  have hr0 := hr.mono (Nat.le_add_right k 0)
  have hu : (A.deeper (envOfC "Gate.need_hand" (defScope s_Gate_need_hand) s.heap.objs.size f cdv)).units + 64 < cLine := by have := hr.un; omega
  have hu65 : (A.deeper (envOfC "Gate.need_hand" (defScope s_Gate_need_hand) s.heap.objs.size f cdv)).units + 65 < cLine := by have := hr.un; omega
  unfold t_Gate_need_hand
  exact (ess_cons (es_asg (ev_ix ix_seq v2_ix (ev_fld l_Gate n_Gate_kept_hands (ev_var 0)) (ev_var 1)) (eg_tup rfl (egs_cons (egs_cons egs_nil sc.nd) sc.nd)))
  (ess_cons (es_expr (ev_callH h_must hr0 (by exact rfl) (ea_cons (ev_chain op_le v2_le op_le v2_le (ev_glob (by exact rfl) c_LEAST_STEPS.choose_spec ⟨_, rfl⟩) (ev_callB call_len vn_len (by exact rfl) m_len boot_len (ea_cons (ev_var 5) ea_nil)) (ev_glob (by exact rfl) c_MOST_STEPS.choose_spec ⟨_, rfl⟩)) (ea_cons ev_str (ea_cons (ev_var 1) (ea_cons ev_int ea_nil))))))
  (ess_cons (es_forR1 PassesOwn.never rfl (by exact rfl) m_range (ea_cons (ev_callB call_len vn_len (by exact rfl) m_len boot_len (ea_cons (ev_var 5) ea_nil)) ea_nil) (eg_name sc.nd)
  (ess_one (es_expr (ev_callH h_must hr0 (by exact rfl) (ea_cons (ev_methH h_Gate_is_step hr0 (ev_var 0) (ea_cons (ev_ix ix_seq v2_ix (ev_var 5) (ev_var 2)) (ea_cons (ev_callB call_len vn_len (by exact rfl) m_len boot_len (ea_cons (ev_var 5) ea_nil)) ea_nil))) (ea_cons ev_str (ea_cons (ev_var 1) (ea_cons (ev_var 2) ea_nil))))))))
  (ess_cons (es_setLc (i := 3) rfl sc.nd rfl rfl rfl (pi_range1 (by exact rfl) m_range (ea_cons (ev_callB call_len vn_len (by exact rfl) m_len boot_len (ea_cons (ev_var 5) ea_nil)) ea_nil) rfl) (own := [("at", 2)]) (blkOk_of (N' := ["self", "hand", "at", "places", "knock", "steps"]) (sc' := defScope s_Gate_need_hand) (by exact rfl) (by exact rfl) ⟨rfl, by decide +kernel, by decide +kernel, by decide +kernel, by decide +kernel⟩) (fun _ _ _ _ _ => (egc_name sc.nd)) (fun _ _ _ _ _ => (ets_one (et_cmp (op_eqD hu) v2_eq (ev_ix ix_seq v2_ix (ev_var 5) (ev_var 2)) (ev_tup (ea_cons ev_str ea_nil)) rfl))) (fun _ _ _ _ _ => (ev_var 2)) (fun _ _ _ h => (lcR1_imp (fz_imp h))))
  (ess_cons (es_expr (ev_callH h_must hr0 (by exact rfl) (ea_cons (ev_and (ev_cmp (op_eqD hu) v2_eq (ev_callB call_len vn_len (by exact rfl) m_len boot_len (ea_cons (ev_var 3) ea_nil)) ev_int rfl) (ev_one (ev_cmp op_gt v2_gt (ev_ix ix_seq v2_ix (ev_var 3) ev_int) ev_int rfl))) (ea_cons ev_str (ea_cons (ev_var 1) (ea_cons ev_int ea_nil))))))
  (ess_one (es_expr (ev_callH h_must hr0 (by exact rfl) (ea_cons (ev_chain op_le v2_le op_le v2_le ev_int (ev_var 4) (ev_ix ix_seq v2_ix (ev_var 3) ev_int)) (ea_cons ev_str (ea_cons (ev_var 1) (ea_cons ev_int ea_nil))))))))))))
/-! ### Gate.__init__ -/
abbrev s_Gate_init : Stmt := mem 13 0
theorem sc_Gate_init : FnScope ["self", "boxes", "hands", "at", "hand", "first", "most", "box", "knock", "steps", "step"] ["self", "boxes", "hands"] (defScope s_Gate_init) := ⟨rfl, rfl, rfl, by decide +kernel, rfl, by decide +kernel, by decide +kernel⟩
noncomputable def t_Gate_init (g_must : Fn) (K : PySem.W.Frag) (g_Gate_need_hand : Fn) : Es :=
  (sSeq (sExpr (eApp (doCallA 4 0 g_must) (aCons (eCh vLe vLe (eC (.int 1)) (eApp vLen (aCons (eVar 1) aNil)) (eC (.int 12))) (aCons (eC (.str "boxes")) (aCons (eC (.int 0)) (aCons (eC (.int 0)) aNil))))))
  (sSeq (sForR1 (gN 3) (aCons (eApp vLen (aCons (eVar 1) aNil)) aNil)
  (sSeq (sAsg (gT [5, 6]) (eBin vIx (eVar 1) (eVar 3)))
  (sExpr (eApp (doCallA 4 0 g_must) (aCons (eCh3 vLe vLe vLe (eC (.int 0)) (eVar 5) (eVar 6) (eC (.int 9))) (aCons (eC (.str "box")) (aCons (eC (.int 0)) (aCons (eVar 3) aNil))))))))
  (sSeq (sExpr (eApp (doCallA 4 0 g_must) (aCons (eCh vLe vLe (eC (.int 1)) (eApp vLen (aCons (eVar 2) aNil)) (eC (.int 4))) (aCons (eC (.str "hands")) (aCons (eC (.int 0)) (aCons (eC (.int 0)) aNil))))))
  (sSeq (sFld (He.ga K "Gate") "kept_boxes" (eVar 0) (eFz (eLC [7] (gN 7) (eVar 1) tY (eApp vTup (aCons (eVar 7) aNil)))))
  (sSeq (sFld (He.ga K "Gate") "kept_hands" (eVar 0) (eFz (eLC [8, 9] (gT [8, 9]) (eVar 2) tY (eTup (aCons (eVar 8) (aCons (eFz (eLC [10] (gN 10) (eVar 9) tY (eApp vTup (aCons (eVar 10) aNil)))) aNil))))))
  (sForR1 (gN 4) (aCons (eApp vLen (aCons (eVar 2) aNil)) aNil)
  (sExpr (eMeth (He.ga K "Gate") "need_hand" 2 1 g_Gate_need_hand (eVar 0) (aCons (eVar 4) aNil)))))))))
noncomputable def f_Gate_init (g_must : Fn) (K : PySem.W.Frag) (g_Gate_need_hand : Fn) : Fn := fun bs M => finD 1 (outB (t_Gate_init g_must K g_Gate_need_hand (rho0 11 bs) M))
theorem ok_Gate_init {P : Program} {w : World} {K : PySem.W.Frag} {mg : Str → Option Value} {base : Heap} {f : Addr} {fd : FuncData} {k : Nat} {g_must : Fn} {g_Gate_need_hand : Fn} {fs : Fn} (m_len : mg "len" = none) (c_MOST_BOXES : ∃ t, mg "MOST_BOXES" = some (.int 12 t)) (h_must : Has P w K mg base "must" k ["good", "why", "hand", "step"] 0 g_must) (c_MOST_NUMBER : ∃ t, mg "MOST_NUMBER" = some (.int 9 t)) (m_range : mg "range" = none) (c_MOST_HANDS : ∃ t, mg "MOST_HANDS" = some (.int 4 t)) (m_tuple : mg "tuple" = none) (l_Gate : Cls K (He.ga K "Gate")) (n_Gate_kept_boxes : NoAttr K (He.ga K "Gate") "kept_boxes") (n_Gate_kept_hands : NoAttr K (He.ga K "Gate") "kept_hands") (h_Gate_need_hand : HasM P w K mg base (He.ga K "Gate") "need_hand" k ["self", "hand"] 1 g_Gate_need_hand)
  (F : FunD K "__init__" "Gate.__init__" (defArgs s_Gate_init) (defBody s_Gate_init) (defScope s_Gate_init) [] [] f fd) (hf : ∀ bs M, fs bs M = .stuck ∨ f_Gate_init g_must K g_Gate_need_hand bs M = fs bs M) : FnOk P w K mg base CX0 (k + 1) f fd ["self", "boxes", "hands"] (spF AX0 3 1 fs) :=
  def_D (t := t_Gate_init g_must K g_Gate_need_hand) F sc_Gate_init hf fun cdv A outer s H E W hr => by
  have sc := sc_Gate_init
  have hr0 := hr.mono (Nat.le_add_right k 0)
  have hu : (A.deeper (envOfC "Gate.__init__" (defScope s_Gate_init) s.heap.objs.size f cdv)).units + 64 < cLine := by have := hr.un; omega
  have hu65 : (A.deeper (envOfC "Gate.__init__" (defScope s_Gate_init) s.heap.objs.size f cdv)).units + 65 < cLine := by have := hr.un; omega
  unfold t_Gate_init
  exact (ess_cons (es_expr (ev_callH h_must hr0 (by exact rfl) (ea_cons (ev_chain op_le v2_le op_le v2_le ev_int (ev_callB call_len vn_len (by exact rfl) m_len boot_len (ea_cons (ev_var 1) ea_nil)) (ev_glob (by exact rfl) c_MOST_BOXES.choose_spec ⟨_, rfl⟩)) (ea_cons ev_str (ea_cons ev_int (ea_cons ev_int ea_nil))))))
  (ess_cons (es_forR1 PassesOwn.never rfl (by exact rfl) m_range (ea_cons (ev_callB call_len vn_len (by exact rfl) m_len boot_len (ea_cons (ev_var 1) ea_nil)) ea_nil) (eg_name sc.nd)
  (ess_cons (es_asg (ev_ix ix_seq v2_ix (ev_var 1) (ev_var 3)) (eg_tup rfl (egs_cons (egs_cons egs_nil sc.nd) sc.nd)))
  (ess_one (es_expr (ev_callH h_must hr0 (by exact rfl) (ea_cons (ev_chain3 op_le v2_le op_le v2_le op_le v2_le ev_int (ev_var 5) (ev_var 6) (ev_glob (by exact rfl) c_MOST_NUMBER.choose_spec ⟨_, rfl⟩)) (ea_cons ev_str (ea_cons ev_int (ea_cons (ev_var 3) ea_nil)))))))))
  (ess_cons (es_expr (ev_callH h_must hr0 (by exact rfl) (ea_cons (ev_chain op_le v2_le op_le v2_le ev_int (ev_callB call_len vn_len (by exact rfl) m_len boot_len (ea_cons (ev_var 2) ea_nil)) (ev_glob (by exact rfl) c_MOST_HANDS.choose_spec ⟨_, rfl⟩)) (ea_cons ev_str (ea_cons ev_int (ea_cons ev_int ea_nil))))))
  (ess_cons (es_fld l_Gate n_Gate_kept_boxes (ev_var 0) (ev_fz (ev_lc rfl sc.nd (ev_var 1) (own := [("box", 7)]) (blkOk_of (N' := ["self", "boxes", "hands", "at", "hand", "first", "most", "box", "knock", "steps", "step"]) (sc' := defScope s_Gate_init) (by exact rfl) (by exact rfl) ⟨rfl, by decide +kernel, by decide +kernel, by decide +kernel, by decide +kernel⟩) (fun _ _ _ _ _ => (egc_name sc.nd)) (fun _ _ _ _ _ => ets_nil) (fun _ _ _ _ _ => (ev_callT call_tuple_of vn_tup (by exact rfl) m_tuple boot_tuple (ea_cons (ev_var 7) ea_nil))))))
  (ess_cons (es_fld l_Gate n_Gate_kept_hands (ev_var 0) (ev_fz (ev_lc rfl sc.nd (ev_var 2) (own := [("knock", 8), ("steps", 9)]) (blkOk_of (N' := ["self", "boxes", "hands", "at", "hand", "first", "most", "box", "knock", "steps", "step"]) (sc' := defScope s_Gate_init) (by exact rfl) (by exact rfl) ⟨rfl, by decide +kernel, by decide +kernel, by decide +kernel, by decide +kernel⟩) (fun _ _ _ _ _ => (egc_tup rfl (egcs_cons (egcs_cons egcs_nil sc.nd) sc.nd))) (fun _ _ _ _ _ => ets_nil) (fun _ _ _ _ _ => (ev_tup (ea_cons (ev_var 8) (ea_cons (ev_fz (ev_lc rfl sc.nd (ev_var 9) (own := [("step", 10)]) (blkOk_of (N' := ["self", "boxes", "hands", "at", "hand", "first", "most", "box", "knock", "steps", "step"]) (sc' := (lcSc (asgV ((defBody s_Gate_init).getD 4 (.Pass ⟨0, 0, 0, 0⟩))))) (by exact rfl) (by exact rfl) ⟨rfl, by decide +kernel, by decide +kernel, by decide +kernel, by decide +kernel⟩) (fun _ _ _ _ _ => (egc_name sc.nd)) (fun _ _ _ _ _ => ets_nil) (fun _ _ _ _ _ => (ev_callT call_tuple_of vn_tup (by exact rfl) m_tuple boot_tuple (ea_cons (ev_var 10) ea_nil))))) ea_nil)))))))
  (ess_one (es_forR1 PassesOwn.never rfl (by exact rfl) m_range (ea_cons (ev_callB call_len vn_len (by exact rfl) m_len boot_len (ea_cons (ev_var 2) ea_nil)) ea_nil) (eg_name sc.nd)
  (ess_one (es_expr (ev_methH h_Gate_need_hand hr0 (ev_var 0) (ea_cons (ev_var 4) ea_nil)))))))))))
/-! ### Gate.boxes -/
abbrev s_Gate_boxes : Stmt := mem 13 3
theorem sc_Gate_boxes : FnScope ["self"] ["self"] (defScope s_Gate_boxes) := ⟨rfl, rfl, rfl, by decide +kernel, rfl, by decide +kernel, by decide +kernel⟩
noncomputable def t_Gate_boxes (K : PySem.W.Frag) : Es :=
  (sRet (eApp vLstD (aCons (eFld (He.ga K "Gate") "kept_boxes" (eVar 0)) aNil)))
noncomputable def f_Gate_boxes (K : PySem.W.Frag) : Fn := fun bs M => finD 0 (outB (t_Gate_boxes K (rho0 1 bs) M))
theorem ok_Gate_boxes {P : Program} {w : World} {K : PySem.W.Frag} {mg : Str → Option Value} {base : Heap} {f : Addr} {fd : FuncData} {k : Nat} {fs : Fn} (l_Gate : Cls K (He.ga K "Gate")) (n_Gate_kept_boxes : NoAttr K (He.ga K "Gate") "kept_boxes") (m_list : mg "list" = none)
  (F : FunD K "boxes" "Gate.boxes" (defArgs s_Gate_boxes) (defBody s_Gate_boxes) (defScope s_Gate_boxes) [] [] f fd) (hf : ∀ bs M, fs bs M = .stuck ∨ f_Gate_boxes K bs M = fs bs M) : FnOk P w K mg base CX0 (k + 1) f fd ["self"] (spF AX0 1 0 fs) :=
  def_D (t := t_Gate_boxes K) F sc_Gate_boxes hf fun cdv A outer s H E W hr => by
  have sc := sc_Gate_boxes
  have hr0 := hr.mono (Nat.le_add_right k 0)
  have hu : (A.deeper (envOfC "Gate.boxes" (defScope s_Gate_boxes) s.heap.objs.size f cdv)).units + 64 < cLine := by have := hr.un; omega
  have hu65 : (A.deeper (envOfC "Gate.boxes" (defScope s_Gate_boxes) s.heap.objs.size f cdv)).units + 65 < cLine := by have := hr.un; omega
  unfold t_Gate_boxes
  exact (ess_one (es_ret (ev_callT call_list_of vn_lstD (by exact rfl) m_list boot_list (ea_cons (ev_fld l_Gate n_Gate_kept_boxes (ev_var 0)) ea_nil))))
/-! ### Gate.hands -/
abbrev s_Gate_hands : Stmt := mem 13 4
theorem sc_Gate_hands : FnScope ["self", "knock", "steps"] ["self"] (defScope s_Gate_hands) := ⟨rfl, rfl, rfl, by decide +kernel, rfl, by decide +kernel, by decide +kernel⟩
noncomputable def t_Gate_hands (K : PySem.W.Frag) : Es :=
  (sRet (eFz (eLC [1, 2] (gT [1, 2]) (eFld (He.ga K "Gate") "kept_hands" (eVar 0)) tY (eTup (aCons (eVar 1) (aCons (eApp vLstD (aCons (eVar 2) aNil)) aNil))))))
noncomputable def f_Gate_hands (K : PySem.W.Frag) : Fn := fun bs M => finD 0 (outB (t_Gate_hands K (rho0 3 bs) M))
theorem ok_Gate_hands {P : Program} {w : World} {K : PySem.W.Frag} {mg : Str → Option Value} {base : Heap} {f : Addr} {fd : FuncData} {k : Nat} {fs : Fn} (m_list : mg "list" = none) (l_Gate : Cls K (He.ga K "Gate")) (n_Gate_kept_hands : NoAttr K (He.ga K "Gate") "kept_hands")
  (F : FunD K "hands" "Gate.hands" (defArgs s_Gate_hands) (defBody s_Gate_hands) (defScope s_Gate_hands) [] [] f fd) (hf : ∀ bs M, fs bs M = .stuck ∨ f_Gate_hands K bs M = fs bs M) : FnOk P w K mg base CX0 (k + 1) f fd ["self"] (spF AX0 1 0 fs) :=
  def_D (t := t_Gate_hands K) F sc_Gate_hands hf fun cdv A outer s H E W hr => by
  have sc := sc_Gate_hands
  have hr0 := hr.mono (Nat.le_add_right k 0)
  have hu : (A.deeper (envOfC "Gate.hands" (defScope s_Gate_hands) s.heap.objs.size f cdv)).units + 64 < cLine := by have := hr.un; omega
  have hu65 : (A.deeper (envOfC "Gate.hands" (defScope s_Gate_hands) s.heap.objs.size f cdv)).units + 65 < cLine := by have := hr.un; omega
  unfold t_Gate_hands
  exact (ess_one (es_ret (ev_fz (ev_lc rfl sc.nd (ev_fld l_Gate n_Gate_kept_hands (ev_var 0)) (own := [("knock", 1), ("steps", 2)]) (blkOk_of (N' := ["self", "knock", "steps"]) (sc' := defScope s_Gate_hands) (by exact rfl) (by exact rfl) ⟨rfl, by decide +kernel, by decide +kernel, by decide +kernel, by decide +kernel⟩) (fun _ _ _ _ _ => (egc_tup rfl (egcs_cons (egcs_cons egcs_nil sc.nd) sc.nd))) (fun _ _ _ _ _ => ets_nil) (fun _ _ _ _ _ => (ev_tup (ea_cons (ev_var 1) (ea_cons (ev_callT call_list_of vn_lstD (by exact rfl) m_list boot_list (ea_cons (ev_var 2) ea_nil)) ea_nil))))))))
/-! ### Gate.many -/
abbrev s_Gate_many : Stmt := mem 13 5
theorem sc_Gate_many : FnScope ["self"] ["self"] (defScope s_Gate_many) := ⟨rfl, rfl, rfl, by decide +kernel, rfl, by decide +kernel, by decide +kernel⟩
noncomputable def t_Gate_many (K : PySem.W.Frag) : Es :=
  (sRet (eApp vLen (aCons (eFld (He.ga K "Gate") "kept_hands" (eVar 0)) aNil)))
noncomputable def f_Gate_many (K : PySem.W.Frag) : Fn := fun bs M => finD 0 (outB (t_Gate_many K (rho0 1 bs) M))
theorem ok_Gate_many {P : Program} {w : World} {K : PySem.W.Frag} {mg : Str → Option Value} {base : Heap} {f : Addr} {fd : FuncData} {k : Nat} {fs : Fn} (l_Gate : Cls K (He.ga K "Gate")) (n_Gate_kept_hands : NoAttr K (He.ga K "Gate") "kept_hands") (m_len : mg "len" = none)
  (F : FunD K "many" "Gate.many" (defArgs s_Gate_many) (defBody s_Gate_many) (defScope s_Gate_many) [] [] f fd) (hf : ∀ bs M, fs bs M = .stuck ∨ f_Gate_many K bs M = fs bs M) : FnOk P w K mg base CX0 (k + 1) f fd ["self"] (spF AX0 1 0 fs) :=
  def_D (t := t_Gate_many K) F sc_Gate_many hf fun cdv A outer s H E W hr => by
  have sc := sc_Gate_many
  have hr0 := hr.mono (Nat.le_add_right k 0)
  have hu : (A.deeper (envOfC "Gate.many" (defScope s_Gate_many) s.heap.objs.size f cdv)).units + 64 < cLine := by have := hr.un; omega
  have hu65 : (A.deeper (envOfC "Gate.many" (defScope s_Gate_many) s.heap.objs.size f cdv)).units + 65 < cLine := by have := hr.un; omega
  unfold t_Gate_many
  exact (ess_one (es_ret (ev_callB call_len vn_len (by exact rfl) m_len boot_len (ea_cons (ev_fld l_Gate n_Gate_kept_hands (ev_var 0)) ea_nil))))
/-! ### step_text -/
abbrev s_step_text : Stmt := top 16
theorem sc_step_text : FnScope ["step", "row", "number"] ["step"] (defScope s_step_text) := ⟨rfl, rfl, rfl, by decide +kernel, rfl, by decide +kernel, by decide +kernel⟩
noncomputable def t_step_text : Es :=
  (sSeq (sIf (tV (eBin vEq (eBin vIx (eVar 0) (eC (.int 0))) (eC (.str "in"))))
  (sRet (eC (.str "in")))
  sNil)
  (sSeq (sIf (tV (eBin vEq (eBin vIx (eVar 0) (eC (.int 0))) (eC (.str "put"))))
  (sRet (eBin vAdd (eBin vAdd (eBin vAdd (eC (.str "put ")) (eApp vStrI (aCons (eBin vIx (eVar 0) (eC (.int 1))) aNil))) (eC (.str " "))) (eApp vStrI (aCons (eBin vIx (eVar 0) (eC (.int 2))) aNil))))
  sNil)
  (sSeq (sSet 1 (eBin vAdd (eBin vAdd (eBin vAdd (eC (.str "go ")) (eApp vStrI (aCons (eBin vIx (eVar 0) (eC (.int 1))) aNil))) (eC (.str " to "))) (eApp vStrI (aCons (eBin vIx (eVar 0) (eC (.int 3))) aNil))))
  (sSeq (sIf (tV (eBin vEq (eBin vIx (eVar 0) (eC (.int 2))) (eTup aNil)))
  (sRet (eVar 1))
  sNil)
  (sRet (eBin vAdd (eBin vAdd (eVar 1) (eC (.str " if "))) (eMtS vJoin (eC (.str " ")) (eFz (eLC [2] (gN 2) (eBin vIx (eVar 0) (eC (.int 2))) tY (eApp vStrI (aCons (eVar 2) aNil)))))))))))
noncomputable def f_step_text : Fn := fun bs M => finD 0 (outB (t_step_text (rho0 3 bs) M))
theorem ok_step_text {P : Program} {w : World} {K : PySem.W.Frag} {mg : Str → Option Value} {base : Heap} {f : Addr} {fd : FuncData} {k : Nat} {fs : Fn} (m_str : mg "str" = none)
  (F : FunD K "step_text" "step_text" (defArgs s_step_text) (defBody s_step_text) (defScope s_step_text) [] [] f fd) (hf : ∀ bs M, fs bs M = .stuck ∨ f_step_text bs M = fs bs M) : FnOk P w K mg base CX0 (k + 1) f fd ["step"] (spF AX0 1 0 fs) :=
  def_D (t := t_step_text) F sc_step_text hf fun cdv A outer s H E W hr => by
  have sc := sc_step_text
  have hr0 := hr.mono (Nat.le_add_right k 0)
  have hu : (A.deeper (envOfC "step_text" (defScope s_step_text) s.heap.objs.size f cdv)).units + 64 < cLine := by have := hr.un; omega
  have hu65 : (A.deeper (envOfC "step_text" (defScope s_step_text) s.heap.objs.size f cdv)).units + 65 < cLine := by have := hr.un; omega
  unfold t_step_text
  exact (ess_cons (es_if (et_cmp (op_eqD hu) v2_eq (ev_ix ix_seq v2_ix (ev_var 0) ev_int) ev_str rfl)
  (ess_one (es_ret ev_str))
  ess_nil)
  (ess_cons (es_if (et_cmp (op_eqD hu) v2_eq (ev_ix ix_seq v2_ix (ev_var 0) ev_int) ev_str rfl)
  (ess_one (es_ret (ev_bin op_addA v2_add (ev_bin op_addA v2_add (ev_bin op_addA v2_add ev_str (ev_callT call_str_int vn_strI (by exact rfl) m_str boot_str (ea_cons (ev_ix ix_seq v2_ix (ev_var 0) ev_int) ea_nil))) ev_str) (ev_callT call_str_int vn_strI (by exact rfl) m_str boot_str (ea_cons (ev_ix ix_seq v2_ix (ev_var 0) ev_int) ea_nil)))))
  ess_nil)
  (ess_cons (es_set (ev_bin op_addA v2_add (ev_bin op_addA v2_add (ev_bin op_addA v2_add ev_str (ev_callT call_str_int vn_strI (by exact rfl) m_str boot_str (ea_cons (ev_ix ix_seq v2_ix (ev_var 0) ev_int) ea_nil))) ev_str) (ev_callT call_str_int vn_strI (by exact rfl) m_str boot_str (ea_cons (ev_ix ix_seq v2_ix (ev_var 0) ev_int) ea_nil))) sc.nd)
  (ess_cons (es_if (et_cmp (op_eqD hu) v2_eq (ev_ix ix_seq v2_ix (ev_var 0) ev_int) (ev_tup ea_nil) rfl)
  (ess_one (es_ret (ev_var 1)))
  ess_nil)
  (ess_one (es_ret (ev_bin op_addA v2_add (ev_bin op_addA v2_add (ev_var 1) ev_str) (ev_mtS PySem.F.slot_str_join PySem.F.type_str_join mt_join vm_join ev_str (ev_fz (ev_lc rfl sc.nd (ev_ix ix_seq v2_ix (ev_var 0) ev_int) (own := [("number", 2)]) (blkOk_of (N' := ["step", "row", "number"]) (sc' := defScope s_step_text) (by exact rfl) (by exact rfl) ⟨rfl, by decide +kernel, by decide +kernel, by decide +kernel, by decide +kernel⟩) (fun _ _ _ _ _ => (egc_name sc.nd)) (fun _ _ _ _ _ => ets_nil) (fun _ _ _ _ _ => (ev_callT call_str_int vn_strI (by exact rfl) m_str boot_str (ea_cons (ev_var 2) ea_nil)))))))))))))
/-! ### written -/
abbrev s_written : Stmt := top 17
theorem sc_written : FnScope ["gate", "rows", "knock", "steps", "first", "most", "step"] ["gate"] (defScope s_written) := ⟨rfl, rfl, rfl, by decide +kernel, rfl, by decide +kernel, by decide +kernel⟩
noncomputable def t_written (K : PySem.W.Frag) (g_Gate_boxes : Fn) (g_step_text : Fn) (g_Gate_hands : Fn) : Es :=
  (sSeq (sSet 1 (eLC [4, 5] (gT [4, 5]) (eMeth (He.ga K "Gate") "boxes" 1 0 g_Gate_boxes (eVar 0) aNil) tY (eBin vAdd (eBin vAdd (eBin vAdd (eC (.str "box ")) (eApp vStrI (aCons (eVar 4) aNil))) (eC (.str " "))) (eApp vStrI (aCons (eVar 5) aNil)))))
  (sSeq (sFor (gT [2, 3]) (eMeth (He.ga K "Gate") "hands" 1 0 g_Gate_hands (eVar 0) aNil)
  (sSeq (sExpr (eMtL vAppend (eVar 1) (aCons (eBin vAdd (eC (.str "hand ")) (eApp vStrI (aCons (eVar 2) aNil))) aNil)))
  (sExpr (eMtL vExt (eVar 1) (aCons (eFz (eLC [6] (gN 6) (eVar 3) tY (eApp (doCallA 1 0 g_step_text) (aCons (eVar 6) aNil)))) aNil)))))
  (sRet (eMtS vJoin (eC (.str "\n")) (eVar 1)))))
noncomputable def f_written (K : PySem.W.Frag) (g_Gate_boxes : Fn) (g_step_text : Fn) (g_Gate_hands : Fn) : Fn := fun bs M => finD 0 (outB (t_written K g_Gate_boxes g_step_text g_Gate_hands (rho0 7 bs) M))
theorem ok_written {P : Program} {w : World} {K : PySem.W.Frag} {mg : Str → Option Value} {base : Heap} {f : Addr} {fd : FuncData} {k : Nat} {g_Gate_boxes : Fn} {g_step_text : Fn} {g_Gate_hands : Fn} {fs : Fn} (m_str : mg "str" = none) (h_Gate_boxes : HasM P w K mg base (He.ga K "Gate") "boxes" k ["self"] 0 g_Gate_boxes) (h_step_text : Has P w K mg base "step_text" k ["step"] 0 g_step_text) (h_Gate_hands : HasM P w K mg base (He.ga K "Gate") "hands" k ["self"] 0 g_Gate_hands)
  (F : FunD K "written" "written" (defArgs s_written) (defBody s_written) (defScope s_written) [] [] f fd) (hf : ∀ bs M, fs bs M = .stuck ∨ f_written K g_Gate_boxes g_step_text g_Gate_hands bs M = fs bs M) : FnOk P w K mg base CX0 (k + 1) f fd ["gate"] (spF AX0 1 0 fs) :=
  def_D (t := t_written K g_Gate_boxes g_step_text g_Gate_hands) F sc_written hf fun cdv A outer s H E W hr => by
  have sc := sc_written
  have hr0 := hr.mono (Nat.le_add_right k 0)
  have hu : (A.deeper (envOfC "written" (defScope s_written) s.heap.objs.size f cdv)).units + 64 < cLine := by have := hr.un; omega
  have hu65 : (A.deeper (envOfC "written" (defScope s_written) s.heap.objs.size f cdv)).units + 65 < cLine := by have := hr.un; omega
  unfold t_written
  exact (ess_cons (es_setLc (i := 1) rfl sc.nd rfl rfl rfl (pi_seq (ev_methH0 h_Gate_boxes hr0 (ev_var 0))) (own := [("first", 4), ("most", 5)]) (blkOk_of (N' := ["gate", "rows", "knock", "steps", "first", "most", "step"]) (sc' := defScope s_written) (by exact rfl) (by exact rfl) ⟨rfl, by decide +kernel, by decide +kernel, by decide +kernel, by decide +kernel⟩) (fun _ _ _ _ _ => (egc_tup rfl (egcs_cons (egcs_cons egcs_nil sc.nd) sc.nd))) (fun _ _ _ _ _ => ets_nil) (fun _ _ _ _ _ => (ev_bin op_addA v2_add (ev_bin op_addA v2_add (ev_bin op_addA v2_add ev_str (ev_callT call_str_int vn_strI (by exact rfl) m_str boot_str (ea_cons (ev_var 4) ea_nil))) ev_str) (ev_callT call_str_int vn_strI (by exact rfl) m_str boot_str (ea_cons (ev_var 5) ea_nil)))) (fun _ _ _ h => (lc_imp h)))
  (ess_cons (es_for PassesOwn.never rfl (ev_methH0 h_Gate_hands hr0 (ev_var 0)) (eg_tup rfl (egs_cons (egs_cons egs_nil sc.nd) sc.nd))
  (ess_cons (es_expr (ev_mtL PySem.F.slot_list_append PySem.F.type_list_append mt_append vm_append (ev_var 1) (ea_cons (ev_bin op_addA v2_add ev_str (ev_callT call_str_int vn_strI (by exact rfl) m_str boot_str (ea_cons (ev_var 2) ea_nil))) ea_nil)))
  (ess_one (es_expr (ev_mtL PySem.F.slot_list_extend PySem.F.type_list_extend mt_extend vm_ext (ev_var 1) (ea_cons (ev_fz (ev_lc rfl sc.nd (ev_var 3) (own := [("step", 6)]) (blkOk_of (N' := ["gate", "rows", "knock", "steps", "first", "most", "step"]) (sc' := defScope s_written) (by exact rfl) (by exact rfl) ⟨rfl, by decide +kernel, by decide +kernel, by decide +kernel, by decide +kernel⟩) (fun _ _ _ _ _ => (egc_name sc.nd)) (fun _ _ _ _ _ => ets_nil) (fun _ _ _ _ _ => (ev_callH h_step_text hr0 (by exact rfl) (ea_cons (ev_var 6) ea_nil))))) ea_nil))))))
  (ess_one (es_ret (ev_mtS PySem.F.slot_str_join PySem.F.type_str_join mt_join vm_join ev_str (ev_var 1))))))
/-! ### number_of -/
abbrev s_number_of : Stmt := top 18
theorem sc_number_of : FnScope ["word", "at", "sign"] ["word", "at"] (defScope s_number_of) := ⟨rfl, rfl, rfl, by decide +kernel, rfl, by decide +kernel, by decide +kernel⟩
noncomputable def t_number_of : Es :=
  (sSeq (sIf (tOrr (tNt (tV (eCh vLe vLe (eC (.int 1)) (eApp vLen (aCons (eVar 0) aNil)) (eC (.int 2))))) (tAn (tV (eBin vEq (eBin vIx (eVar 0) (eC (.int 0))) (eC (.str "0")))) (tV (eBin vNe (eVar 0) (eC (.str "0"))))))
  sNever
  sNil)
  (sSeq (sForT (gN 2) (eVar 0)
  (sIf (tV (eBin (vInT true) (eVar 2) (eC (.str "0123456789"))))
  sNever
  sNil))
  (sRet (eApp vIntS (aCons (eVar 0) aNil)))))
noncomputable def f_number_of : Fn := fun bs M => finD 0 (outB (t_number_of (rho0 3 bs) M))
theorem ok_number_of {P : Program} {w : World} {K : PySem.W.Frag} {mg : Str → Option Value} {base : Heap} {f : Addr} {fd : FuncData} {k : Nat} {fs : Fn} (m_len : mg "len" = none) (c_FIGURES : ∃ t, mg "FIGURES" = some (.str "0123456789" t)) (m_int : mg "int" = none)
  (F : FunD K "number_of" "number_of" (defArgs s_number_of) (defBody s_number_of) (defScope s_number_of) [] [] f fd) (hf : ∀ bs M, fs bs M = .stuck ∨ f_number_of bs M = fs bs M) : FnOk P w K mg base CX0 (k + 1) f fd ["word", "at"] (spF AX0 2 0 fs) :=
  def_D (t := t_number_of) F sc_number_of hf fun cdv A outer s H E W hr => by
  have sc := sc_number_of
  have hr0 := hr.mono (Nat.le_add_right k 0)
  have hu : (A.deeper (envOfC "number_of" (defScope s_number_of) s.heap.objs.size f cdv)).units + 64 < cLine := by have := hr.un; omega
  have hu65 : (A.deeper (envOfC "number_of" (defScope s_number_of) s.heap.objs.size f cdv)).units + 65 < cLine := by have := hr.un; omega
  unfold t_number_of
  exact (ess_cons (es_if (PW.pt (ew_or (et_not (et_chain op_le v2_le op_le v2_le ev_int (ev_callB call_len vn_len (by exact rfl) m_len boot_len (ea_cons (ev_var 0) ea_nil)) ev_int)) (ew_or1 (PW.pt (ew_and (et_cmp (op_eqD hu) v2_eq (ev_ix ix_seq v2_ix (ev_var 0) ev_int) ev_str rfl) (ew_and1 (et_cmp (op_neD hu) v2_ne (ev_var 0) ev_str rfl)))))))
  (ess_one es_never)
  ess_nil)
  (ess_cons (es_forT PassesOwn.never rfl (ev_var 0) (eg_name sc.nd)
  (ess_one (es_if (et_cmp op_notInT v2_inT (ev_var 2) (ev_globS (by exact rfl) c_FIGURES.choose_spec ⟨_, rfl⟩) rfl)
  (ess_one es_never)
  ess_nil)))
  (ess_one (es_ret (ev_callT call_int_str vn_intS (by exact rfl) m_int boot_int (ea_cons (ev_var 0) ea_nil))))))
/-! ### numbers_of -/
abbrev s_numbers_of : Stmt := top 19
theorem sc_numbers_of : FnScope ["words", "at", "word"] ["words", "at"] (defScope s_numbers_of) := ⟨rfl, rfl, rfl, by decide +kernel, rfl, by decide +kernel, by decide +kernel⟩
noncomputable def t_numbers_of (g_number_of : Fn) : Es :=
  (sRet (eApp vTup (aCons (eFz (eLC [2] (gN 2) (eVar 0) tY (eApp (doCallA 2 0 g_number_of) (aCons (eVar 2) (aCons (eVar 1) aNil))))) aNil)))
noncomputable def f_numbers_of (g_number_of : Fn) : Fn := fun bs M => finD 0 (outB (t_numbers_of g_number_of (rho0 3 bs) M))
theorem ok_numbers_of {P : Program} {w : World} {K : PySem.W.Frag} {mg : Str → Option Value} {base : Heap} {f : Addr} {fd : FuncData} {k : Nat} {g_number_of : Fn} {fs : Fn} (h_number_of : Has P w K mg base "number_of" k ["word", "at"] 0 g_number_of) (m_tuple : mg "tuple" = none)
  (F : FunD K "numbers_of" "numbers_of" (defArgs s_numbers_of) (defBody s_numbers_of) (defScope s_numbers_of) [] [] f fd) (hf : ∀ bs M, fs bs M = .stuck ∨ f_numbers_of g_number_of bs M = fs bs M) : FnOk P w K mg base CX0 (k + 1) f fd ["words", "at"] (spF AX0 2 0 fs) :=
  def_D (t := t_numbers_of g_number_of) F sc_numbers_of hf fun cdv A outer s H E W hr => by
  have sc := sc_numbers_of
  have hr0 := hr.mono (Nat.le_add_right k 0)
  have hu : (A.deeper (envOfC "numbers_of" (defScope s_numbers_of) s.heap.objs.size f cdv)).units + 64 < cLine := by have := hr.un; omega
  have hu65 : (A.deeper (envOfC "numbers_of" (defScope s_numbers_of) s.heap.objs.size f cdv)).units + 65 < cLine := by have := hr.un; omega
  unfold t_numbers_of
  exact (ess_one (es_ret (ev_callT call_tuple_of vn_tup (by exact rfl) m_tuple boot_tuple (ea_cons (ev_fz (ev_lc rfl sc.nd (ev_var 0) (own := [("word", 2)]) (blkOk_of (N' := ["words", "at", "word"]) (sc' := defScope s_numbers_of) (by exact rfl) (by exact rfl) ⟨rfl, by decide +kernel, by decide +kernel, by decide +kernel, by decide +kernel⟩) (fun _ _ _ _ _ => (egc_name sc.nd)) (fun _ _ _ _ _ => ets_nil) (fun _ _ _ _ _ => (ev_callH h_number_of hr0 (by exact rfl) (ea_cons (ev_var 2) (ea_cons (ev_var 1) ea_nil)))))) ea_nil))))
/-! ### step_of -/
abbrev s_step_of : Stmt := top 20
theorem sc_step_of : FnScope ["words", "at"] ["words", "at"] (defScope s_step_of) := ⟨rfl, rfl, rfl, by decide +kernel, rfl, by decide +kernel, by decide +kernel⟩
noncomputable def t_step_of (g_numbers_of : Fn) (g_number_of : Fn) : Es :=
  (sSeq (sIf (tV (eBin vEq (eVar 0) (eLst (aCons (eC (.str "in")) aNil))))
  (sRet (eTup (aCons (eC (.str "in")) aNil)))
  sNil)
  (sSeq (sIf (tAn (tV (eBin vEq (eBin vIx (eVar 0) (eC (.int 0))) (eC (.str "put")))) (tV (eBin vEq (eApp vLen (aCons (eVar 0) aNil)) (eC (.int 3)))))
  (sRet (eBin vAdd (eTup (aCons (eC (.str "put")) aNil)) (eApp (doCallA 2 0 g_numbers_of) (aCons (eSl (eVar 0) (oSome (eC (.int 1))) oNone) (aCons (eVar 1) aNil)))))
  sNil)
  (sSeq (sIf (tOrr (tV (eBin vNe (eBin vIx (eVar 0) (eC (.int 0))) (eC (.str "go")))) (tOrr (tV (eBin vLt (eApp vLen (aCons (eVar 0) aNil)) (eC (.int 4)))) (tOrr (tV (eBin vNe (eBin vIx (eVar 0) (eC (.int 2))) (eC (.str "to")))) (tV (eBin vEq (eApp vLen (aCons (eVar 0) aNil)) (eC (.int 5)))))))
  sNever
  sNil)
  (sSeq (sIf (tAn (tV (eBin vGt (eApp vLen (aCons (eVar 0) aNil)) (eC (.int 4)))) (tV (eBin vNe (eBin vIx (eVar 0) (eC (.int 4))) (eC (.str "if")))))
  sNever
  sNil)
  (sRet (eTup (aCons (eC (.str "go")) (aCons (eApp (doCallA 2 0 g_number_of) (aCons (eBin vIx (eVar 0) (eC (.int 1))) (aCons (eVar 1) aNil))) (aCons (eApp (doCallA 2 0 g_numbers_of) (aCons (eSl (eVar 0) (oSome (eC (.int 5))) oNone) (aCons (eVar 1) aNil))) (aCons (eApp (doCallA 2 0 g_number_of) (aCons (eBin vIx (eVar 0) (eC (.int 3))) (aCons (eVar 1) aNil))) aNil))))))))))
noncomputable def f_step_of (g_numbers_of : Fn) (g_number_of : Fn) : Fn := fun bs M => finD 0 (outB (t_step_of g_numbers_of g_number_of (rho0 2 bs) M))
theorem ok_step_of {P : Program} {w : World} {K : PySem.W.Frag} {mg : Str → Option Value} {base : Heap} {f : Addr} {fd : FuncData} {k : Nat} {g_numbers_of : Fn} {g_number_of : Fn} {fs : Fn} (m_len : mg "len" = none) (h_numbers_of : Has P w K mg base "numbers_of" k ["words", "at"] 0 g_numbers_of) (h_number_of : Has P w K mg base "number_of" k ["word", "at"] 0 g_number_of)
  (F : FunD K "step_of" "step_of" (defArgs s_step_of) (defBody s_step_of) (defScope s_step_of) [] [] f fd) (hf : ∀ bs M, fs bs M = .stuck ∨ f_step_of g_numbers_of g_number_of bs M = fs bs M) : FnOk P w K mg base CX0 (k + 1) f fd ["words", "at"] (spF AX0 2 0 fs) :=
  def_D (t := t_step_of g_numbers_of g_number_of) F sc_step_of hf fun cdv A outer s H E W hr => by
  have sc := sc_step_of
  have hr0 := hr.mono (Nat.le_add_right k 0)
  have hu : (A.deeper (envOfC "step_of" (defScope s_step_of) s.heap.objs.size f cdv)).units + 64 < cLine := by have := hr.un; omega
  have hu65 : (A.deeper (envOfC "step_of" (defScope s_step_of) s.heap.objs.size f cdv)).units + 65 < cLine := by have := hr.un; omega
  unfold t_step_of
  exact (ess_cons (es_if (et_cmp (op_eqD hu) v2_eq (ev_var 0) (ev_lst (ea_cons ev_str ea_nil)) rfl)
  (ess_one (es_ret (ev_tup (ea_cons ev_str ea_nil))))
  ess_nil)
  (ess_cons (es_if (PW.pt (ew_and (et_cmp (op_eqD hu) v2_eq (ev_ix ix_seq v2_ix (ev_var 0) ev_int) ev_str rfl) (ew_and1 (et_cmp (op_eqD hu) v2_eq (ev_callB call_len vn_len (by exact rfl) m_len boot_len (ea_cons (ev_var 0) ea_nil)) ev_int rfl))))
  (ess_one (es_ret (ev_bin op_addA v2_add (ev_tup (ea_cons ev_str ea_nil)) (ev_callH h_numbers_of hr0 (by exact rfl) (ea_cons (ev_sl (ev_var 0) (eo_some ev_int) eo_none) (ea_cons (ev_var 1) ea_nil))))))
  ess_nil)
  (ess_cons (es_if (PW.pt (ew_or (et_cmp (op_neD hu) v2_ne (ev_ix ix_seq v2_ix (ev_var 0) ev_int) ev_str rfl) (ew_or (et_cmp op_lt v2_lt (ev_callB call_len vn_len (by exact rfl) m_len boot_len (ea_cons (ev_var 0) ea_nil)) ev_int rfl) (ew_or (et_cmp (op_neD hu) v2_ne (ev_ix ix_seq v2_ix (ev_var 0) ev_int) ev_str rfl) (ew_or1 (et_cmp (op_eqD hu) v2_eq (ev_callB call_len vn_len (by exact rfl) m_len boot_len (ea_cons (ev_var 0) ea_nil)) ev_int rfl))))))
  (ess_one es_never)
  ess_nil)
  (ess_cons (es_if (PW.pt (ew_and (et_cmp op_gt v2_gt (ev_callB call_len vn_len (by exact rfl) m_len boot_len (ea_cons (ev_var 0) ea_nil)) ev_int rfl) (ew_and1 (et_cmp (op_neD hu) v2_ne (ev_ix ix_seq v2_ix (ev_var 0) ev_int) ev_str rfl))))
  (ess_one es_never)
  ess_nil)
  (ess_one (es_ret (ev_tup (ea_cons ev_str (ea_cons (ev_callH h_number_of hr0 (by exact rfl) (ea_cons (ev_ix ix_seq v2_ix (ev_var 0) ev_int) (ea_cons (ev_var 1) ea_nil))) (ea_cons (ev_callH h_numbers_of hr0 (by exact rfl) (ea_cons (ev_sl (ev_var 0) (eo_some ev_int) eo_none) (ea_cons (ev_var 1) ea_nil))) (ea_cons (ev_callH h_number_of hr0 (by exact rfl) (ea_cons (ev_ix ix_seq v2_ix (ev_var 0) ev_int) (ea_cons (ev_var 1) ea_nil))) ea_nil)))))))))))
/-! ### read -/
abbrev s_read : Stmt := top 21
theorem sc_read : FnScope ["text", "boxes", "hands", "rows", "at", "words"] ["text"] (defScope s_read) := ⟨rfl, rfl, rfl, by decide +kernel, rfl, by decide +kernel, by decide +kernel⟩
noncomputable def t_read (g_numbers_of : Fn) (g_number_of : Fn) (g_step_of : Fn) (K : PySem.W.Frag) (g_Gate : Fn) : Es :=
  (sSeq (sSet 1 (eLstO aNil))
  (sSeq (sSet 2 (eLstO aNil))
  (sSeq (sSet 3 (eFz (eMtS vSplit (eVar 0) (eC (.str "\n")))))
  (sSeq (sForR1 (gN 4) (aCons (eApp vLen (aCons (eVar 3) aNil)) aNil)
  (sSeq (sSet 5 (eFz (eMtS vSplit (eBin vIx (eVar 3) (eVar 4)) (eC (.str " ")))))
  (sIf (tAn (tV (eBin vEq (eBin vIx (eVar 5) (eC (.int 0))) (eC (.str "box")))) (tAn (tV (eBin vEq (eApp vLen (aCons (eVar 5) aNil)) (eC (.int 3)))) (tV (eBin vEq (eVar 2) (eLst aNil)))))
  (sExpr (eMtL vAppend (eVar 1) (aCons (eApp (doCallA 2 0 g_numbers_of) (aCons (eSl (eVar 5) (oSome (eC (.int 1))) oNone) (aCons (eVar 4) aNil))) aNil)))
  (sIf (tAn (tV (eBin vEq (eBin vIx (eVar 5) (eC (.int 0))) (eC (.str "hand")))) (tV (eBin vEq (eApp vLen (aCons (eVar 5) aNil)) (eC (.int 2)))))
  (sExpr (eMtL vAppend (eVar 2) (aCons (eTupO (aCons (eApp (doCallA 2 0 g_number_of) (aCons (eBin vIx (eVar 5) (eC (.int 1))) (aCons (eVar 4) aNil))) (aCons (eLstO aNil) aNil))) aNil)))
  (sIf (tV (eBin vEq (eVar 2) (eLst aNil)))
  sNever
  (sExpr (eMtL vAppend (eBin vIxT (eBin vIx (eVar 2) (eUn vNeg (eC (.int 1)))) (eC (.int 1))) (aCons (eApp (doCallA 2 0 g_step_of) (aCons (eVar 5) (aCons (eVar 4) aNil))) aNil))))))))
  (sFzA 0 (sRet (eApp (doMake (He.ga K "Gate") 3 g_Gate) (aCons (eVar 1) (aCons (eVar 2) aNil)))))))))
noncomputable def f_read (g_numbers_of : Fn) (g_number_of : Fn) (g_step_of : Fn) (K : PySem.W.Frag) (g_Gate : Fn) : Fn := fun bs M => finD 0 (outB (t_read g_numbers_of g_number_of g_step_of K g_Gate (rho0 6 bs) M))
theorem ok_read {P : Program} {w : World} {K : PySem.W.Frag} {mg : Str → Option Value} {base : Heap} {f : Addr} {fd : FuncData} {k : Nat} {g_numbers_of : Fn} {g_number_of : Fn} {g_step_of : Fn} {g_Gate : Fn} {fs : Fn} (m_len : mg "len" = none) (h_numbers_of : Has P w K mg base "numbers_of" k ["words", "at"] 0 g_numbers_of) (h_number_of : Has P w K mg base "number_of" k ["word", "at"] 0 g_number_of) (h_step_of : Has P w K mg base "step_of" k ["words", "at"] 0 g_step_of) (m_range : mg "range" = none) (h_Gate : HasK P w K mg base "Gate" (He.ga K "Gate") k ["self", "boxes", "hands"] g_Gate)
  (F : FunD K "read" "read" (defArgs s_read) (defBody s_read) (defScope s_read) [] [] f fd) (hf : ∀ bs M, fs bs M = .stuck ∨ f_read g_numbers_of g_number_of g_step_of K g_Gate bs M = fs bs M) : FnOk P w K mg base CX0 (k + 2) f fd ["text"] (spF AX0 1 0 fs) :=
  def_D (t := t_read g_numbers_of g_number_of g_step_of K g_Gate) F sc_read hf fun cdv A outer s H E W hr => by
  have sc := sc_read
  have hr0 := hr.mono (Nat.le_add_right k 1)
  have hu : (A.deeper (envOfC "read" (defScope s_read) s.heap.objs.size f cdv)).units + 64 < cLine := by have := hr.un; omega
  have hu65 : (A.deeper (envOfC "read" (defScope s_read) s.heap.objs.size f cdv)).units + 65 < cLine := by have := hr.un; omega
  unfold t_read
  exact (ess_cons (es_set (ev_lstO ea_nil) sc.nd)
  (ess_cons (es_set (ev_lstO ea_nil) sc.nd)
  (ess_cons (es_set (ev_fz (ev_mtS PySem.F.slot_str_split PySem.F.type_str_split mt_split vm_split (ev_var 0) ev_str)) sc.nd)
  (ess_cons (es_forR1 PassesOwn.never rfl (by exact rfl) m_range (ea_cons (ev_callB call_len vn_len (by exact rfl) m_len boot_len (ea_cons (ev_var 3) ea_nil)) ea_nil) (eg_name sc.nd)
  (ess_cons (es_set (ev_fz (ev_mtS PySem.F.slot_str_split PySem.F.type_str_split mt_split vm_split (ev_ix ix_seq v2_ix (ev_var 3) (ev_var 4)) ev_str)) sc.nd)
  (ess_one (es_if (PW.pt (ew_and (et_cmp (op_eqD hu) v2_eq (ev_ix ix_seq v2_ix (ev_var 5) ev_int) ev_str rfl) (ew_and (et_cmp (op_eqD hu) v2_eq (ev_callB call_len vn_len (by exact rfl) m_len boot_len (ea_cons (ev_var 5) ea_nil)) ev_int rfl) (ew_and1 (et_cmp (op_eqD hu) v2_eq (ev_var 2) (ev_lst ea_nil) rfl)))))
  (ess_one (es_expr (ev_mtL PySem.F.slot_list_append PySem.F.type_list_append mt_append vm_append (ev_var 1) (ea_cons (ev_callH h_numbers_of hr0 (by exact rfl) (ea_cons (ev_sl (ev_var 5) (eo_some ev_int) eo_none) (ea_cons (ev_var 4) ea_nil))) ea_nil))))
  (ess_one (es_if (PW.pt (ew_and (et_cmp (op_eqD hu) v2_eq (ev_ix ix_seq v2_ix (ev_var 5) ev_int) ev_str rfl) (ew_and1 (et_cmp (op_eqD hu) v2_eq (ev_callB call_len vn_len (by exact rfl) m_len boot_len (ea_cons (ev_var 5) ea_nil)) ev_int rfl))))
  (ess_one (es_expr (ev_mtL PySem.F.slot_list_append PySem.F.type_list_append mt_append vm_append (ev_var 2) (ea_cons (ev_tupO (ea_cons (ev_callH h_number_of hr0 (by exact rfl) (ea_cons (ev_ix ix_seq v2_ix (ev_var 5) ev_int) (ea_cons (ev_var 4) ea_nil))) (ea_cons (ev_lstO ea_nil) ea_nil))) ea_nil))))
  (ess_one (es_if (et_cmp (op_eqD hu) v2_eq (ev_var 2) (ev_lst ea_nil) rfl)
  (ess_one es_never)
  (ess_one (es_expr (ev_mtL PySem.F.slot_list_append PySem.F.type_list_append mt_append vm_append (ev_ix ix_seq v2_ixT (ev_ix ix_seq v2_ix (ev_var 2) (ev_un un_neg v1_neg ev_int)) ev_int) (ea_cons (ev_callH h_step_of hr0 (by exact rfl) (ea_cons (ev_var 5) (ea_cons (ev_var 4) ea_nil))) ea_nil))))))))))))
  (ess_one (es_fzA (es_ret (ev_makeH h_Gate hr (by exact rfl) (ea_cons (ev_var 1) (ea_cons (ev_var 2) ea_nil))))))))))
/-! ### _law_made -/
abbrev s_law_made : Stmt := top 32
theorem sc_law_made : FnScope ["_law_t", "_law_knock", "_law_steps"] ["_law_t"] (defScope s_law_made) := ⟨rfl, rfl, rfl, by decide +kernel, rfl, by decide +kernel, by decide +kernel⟩
noncomputable def t_law_made (K : PySem.W.Frag) (g_Gate : Fn) : Es :=
  (sRet (eApp (doMake (He.ga K "Gate") 3 g_Gate) (aCons (eApp vLstD (aCons (eBin vIx (eVar 0) (eC (.int 0))) aNil)) (aCons (eFz (eLC [1, 2] (gT [1, 2]) (eBin vIx (eVar 0) (eC (.int 1))) tY (eTup (aCons (eVar 1) (aCons (eApp vLstD (aCons (eVar 2) aNil)) aNil))))) aNil))))
noncomputable def f_law_made (K : PySem.W.Frag) (g_Gate : Fn) : Fn := fun bs M => finD 0 (outB (t_law_made K g_Gate (rho0 3 bs) M))
theorem ok_law_made {P : Program} {w : World} {K : PySem.W.Frag} {mg : Str → Option Value} {base : Heap} {f : Addr} {fd : FuncData} {k : Nat} {g_Gate : Fn} {fs : Fn} (m_list : mg "list" = none) (h_Gate : HasK P w K mg base "Gate" (He.ga K "Gate") k ["self", "boxes", "hands"] g_Gate)
  (F : FunD K "_law_made" "_law_made" (defArgs s_law_made) (defBody s_law_made) (defScope s_law_made) [] [] f fd) (hf : ∀ bs M, fs bs M = .stuck ∨ f_law_made K g_Gate bs M = fs bs M) : FnOk P w K mg base CX0 (k + 2) f fd ["_law_t"] (spF AX0 1 0 fs) :=
  def_D (t := t_law_made K g_Gate) F sc_law_made hf fun cdv A outer s H E W hr => by
  have sc := sc_law_made
  have hr0 := hr.mono (Nat.le_add_right k 1)
  have hu : (A.deeper (envOfC "_law_made" (defScope s_law_made) s.heap.objs.size f cdv)).units + 64 < cLine := by have := hr.un; omega
  have hu65 : (A.deeper (envOfC "_law_made" (defScope s_law_made) s.heap.objs.size f cdv)).units + 65 < cLine := by have := hr.un; omega
  unfold t_law_made
  exact (ess_one (es_ret (ev_makeH h_Gate hr (by exact rfl) (ea_cons (ev_callT call_list_of vn_lstD (by exact rfl) m_list boot_list (ea_cons (ev_ix ix_seq v2_ix (ev_var 0) ev_int) ea_nil)) (ea_cons (ev_fz (ev_lc rfl sc.nd (ev_ix ix_seq v2_ix (ev_var 0) ev_int) (own := [("_law_knock", 1), ("_law_steps", 2)]) (blkOk_of (N' := ["_law_t", "_law_knock", "_law_steps"]) (sc' := defScope s_law_made) (by exact rfl) (by exact rfl) ⟨rfl, by decide +kernel, by decide +kernel, by decide +kernel, by decide +kernel⟩) (fun _ _ _ _ _ => (egc_tup rfl (egcs_cons (egcs_cons egcs_nil sc.nd) sc.nd))) (fun _ _ _ _ _ => ets_nil) (fun _ _ _ _ _ => (ev_tup (ea_cons (ev_var 1) (ea_cons (ev_callT call_list_of vn_lstD (by exact rfl) m_list boot_list (ea_cons (ev_var 2) ea_nil)) ea_nil)))))) ea_nil)))))
/-! ### _law_row -/
abbrev s_law_row : Stmt := top 33
theorem sc_law_row : FnScope ["_law_step_here", "_law_row_here", "_law_number"] ["_law_step_here"] (defScope s_law_row) := ⟨rfl, rfl, rfl, by decide +kernel, rfl, by decide +kernel, by decide +kernel⟩
noncomputable def t_law_row : Es :=
  (sSeq (sIf (tV (eBin vEq (eBin vIx (eVar 0) (eC (.int 0))) (eC (.str "in"))))
  (sRet (eC (.str "in")))
  sNil)
  (sSeq (sIf (tV (eBin vEq (eBin vIx (eVar 0) (eC (.int 0))) (eC (.str "put"))))
  (sRet (eBin vAdd (eBin vAdd (eBin vAdd (eC (.str "put ")) (eApp vStrI (aCons (eBin vIx (eVar 0) (eC (.int 1))) aNil))) (eC (.str " "))) (eApp vStrI (aCons (eBin vIx (eVar 0) (eC (.int 2))) aNil))))
  sNil)
  (sSeq (sSet 1 (eBin vAdd (eBin vAdd (eBin vAdd (eC (.str "go ")) (eApp vStrI (aCons (eBin vIx (eVar 0) (eC (.int 1))) aNil))) (eC (.str " to "))) (eApp vStrI (aCons (eBin vIx (eVar 0) (eC (.int 3))) aNil))))
  (sSeq (sIf (tV (eBin vNe (eBin vIx (eVar 0) (eC (.int 2))) (eTup aNil)))
  (sSet 1 (eBin vAdd (eBin vAdd (eVar 1) (eC (.str " if "))) (eMtS vJoin (eC (.str " ")) (eFz (eLC [2] (gN 2) (eBin vIx (eVar 0) (eC (.int 2))) tY (eApp vStrI (aCons (eVar 2) aNil)))))))
  sNil)
  (sRet (eVar 1))))))
noncomputable def f_law_row : Fn := fun bs M => finD 0 (outB (t_law_row (rho0 3 bs) M))
theorem ok_law_row {P : Program} {w : World} {K : PySem.W.Frag} {mg : Str → Option Value} {base : Heap} {f : Addr} {fd : FuncData} {k : Nat} {fs : Fn} (m_str : mg "str" = none)
  (F : FunD K "_law_row" "_law_row" (defArgs s_law_row) (defBody s_law_row) (defScope s_law_row) [] [] f fd) (hf : ∀ bs M, fs bs M = .stuck ∨ f_law_row bs M = fs bs M) : FnOk P w K mg base CX0 (k + 1) f fd ["_law_step_here"] (spF AX0 1 0 fs) :=
  def_D (t := t_law_row) F sc_law_row hf fun cdv A outer s H E W hr => by
  have sc := sc_law_row
  have hr0 := hr.mono (Nat.le_add_right k 0)
  have hu : (A.deeper (envOfC "_law_row" (defScope s_law_row) s.heap.objs.size f cdv)).units + 64 < cLine := by have := hr.un; omega
  have hu65 : (A.deeper (envOfC "_law_row" (defScope s_law_row) s.heap.objs.size f cdv)).units + 65 < cLine := by have := hr.un; omega
  unfold t_law_row
  exact (ess_cons (es_if (et_cmp (op_eqD hu) v2_eq (ev_ix ix_seq v2_ix (ev_var 0) ev_int) ev_str rfl)
  (ess_one (es_ret ev_str))
  ess_nil)
  (ess_cons (es_if (et_cmp (op_eqD hu) v2_eq (ev_ix ix_seq v2_ix (ev_var 0) ev_int) ev_str rfl)
  (ess_one (es_ret (ev_bin op_addA v2_add (ev_bin op_addA v2_add (ev_bin op_addA v2_add ev_str (ev_callT call_str_int vn_strI (by exact rfl) m_str boot_str (ea_cons (ev_ix ix_seq v2_ix (ev_var 0) ev_int) ea_nil))) ev_str) (ev_callT call_str_int vn_strI (by exact rfl) m_str boot_str (ea_cons (ev_ix ix_seq v2_ix (ev_var 0) ev_int) ea_nil)))))
  ess_nil)
  (ess_cons (es_set (ev_bin op_addA v2_add (ev_bin op_addA v2_add (ev_bin op_addA v2_add ev_str (ev_callT call_str_int vn_strI (by exact rfl) m_str boot_str (ea_cons (ev_ix ix_seq v2_ix (ev_var 0) ev_int) ea_nil))) ev_str) (ev_callT call_str_int vn_strI (by exact rfl) m_str boot_str (ea_cons (ev_ix ix_seq v2_ix (ev_var 0) ev_int) ea_nil))) sc.nd)
  (ess_cons (es_if (et_cmp (op_neD hu) v2_ne (ev_ix ix_seq v2_ix (ev_var 0) ev_int) (ev_tup ea_nil) rfl)
  (ess_one (es_set (ev_bin op_addA v2_add (ev_bin op_addA v2_add (ev_var 1) ev_str) (ev_mtS PySem.F.slot_str_join PySem.F.type_str_join mt_join vm_join ev_str (ev_fz (ev_lc rfl sc.nd (ev_ix ix_seq v2_ix (ev_var 0) ev_int) (own := [("_law_number", 2)]) (blkOk_of (N' := ["_law_step_here", "_law_row_here", "_law_number"]) (sc' := defScope s_law_row) (by exact rfl) (by exact rfl) ⟨rfl, by decide +kernel, by decide +kernel, by decide +kernel, by decide +kernel⟩) (fun _ _ _ _ _ => (egc_name sc.nd)) (fun _ _ _ _ _ => ets_nil) (fun _ _ _ _ _ => (ev_callT call_str_int vn_strI (by exact rfl) m_str boot_str (ea_cons (ev_var 2) ea_nil))))))) sc.nd))
  ess_nil)
  (ess_one (es_ret (ev_var 1)))))))
/-! ### _law_lines -/
abbrev s_law_lines : Stmt := top 34
theorem sc_law_lines : FnScope ["_law_t", "_law_rows", "_law_knock", "_law_steps", "_law_first", "_law_most", "_law_step_here"] ["_law_t"] (defScope s_law_lines) := ⟨rfl, rfl, rfl, by decide +kernel, rfl, by decide +kernel, by decide +kernel⟩
noncomputable def t_law_lines (g_law_row : Fn) : Es :=
  (sSeq (sSet 1 (eFz (eLC [4, 5] (gT [4, 5]) (eBin vIx (eVar 0) (eC (.int 0))) tY (eBin vAdd (eBin vAdd (eBin vAdd (eC (.str "box ")) (eApp vStrI (aCons (eVar 4) aNil))) (eC (.str " "))) (eApp vStrI (aCons (eVar 5) aNil))))))
  (sSeq (sFor (gT [2, 3]) (eBin vIx (eVar 0) (eC (.int 1)))
  (sSet 1 (eBin vAdd (eBin vAdd (eVar 1) (eLst (aCons (eBin vAdd (eC (.str "hand ")) (eApp vStrI (aCons (eVar 2) aNil))) aNil))) (eFz (eLC [6] (gN 6) (eVar 3) tY (eApp (doCallA 1 0 g_law_row) (aCons (eVar 6) aNil)))))))
  (sRet (eVar 1))))
noncomputable def f_law_lines (g_law_row : Fn) : Fn := fun bs M => finD 0 (outB (t_law_lines g_law_row (rho0 7 bs) M))
theorem ok_law_lines {P : Program} {w : World} {K : PySem.W.Frag} {mg : Str → Option Value} {base : Heap} {f : Addr} {fd : FuncData} {k : Nat} {g_law_row : Fn} {fs : Fn} (m_str : mg "str" = none) (h_law_row : Has P w K mg base "_law_row" k ["_law_step_here"] 0 g_law_row)
  (F : FunD K "_law_lines" "_law_lines" (defArgs s_law_lines) (defBody s_law_lines) (defScope s_law_lines) [] [] f fd) (hf : ∀ bs M, fs bs M = .stuck ∨ f_law_lines g_law_row bs M = fs bs M) : FnOk P w K mg base CX0 (k + 1) f fd ["_law_t"] (spF AX0 1 0 fs) :=
  def_D (t := t_law_lines g_law_row) F sc_law_lines hf fun cdv A outer s H E W hr => by
  have sc := sc_law_lines
  have hr0 := hr.mono (Nat.le_add_right k 0)
  have hu : (A.deeper (envOfC "_law_lines" (defScope s_law_lines) s.heap.objs.size f cdv)).units + 64 < cLine := by have := hr.un; omega
  have hu65 : (A.deeper (envOfC "_law_lines" (defScope s_law_lines) s.heap.objs.size f cdv)).units + 65 < cLine := by have := hr.un; omega
  unfold t_law_lines
  exact (ess_cons (es_setLc (i := 1) rfl sc.nd rfl rfl rfl (pi_seq (ev_ix ix_seq v2_ix (ev_var 0) ev_int)) (own := [("_law_first", 4), ("_law_most", 5)]) (blkOk_of (N' := ["_law_t", "_law_rows", "_law_knock", "_law_steps", "_law_first", "_law_most", "_law_step_here"]) (sc' := defScope s_law_lines) (by exact rfl) (by exact rfl) ⟨rfl, by decide +kernel, by decide +kernel, by decide +kernel, by decide +kernel⟩) (fun _ _ _ _ _ => (egc_tup rfl (egcs_cons (egcs_cons egcs_nil sc.nd) sc.nd))) (fun _ _ _ _ _ => ets_nil) (fun _ _ _ _ _ => (ev_bin op_addA v2_add (ev_bin op_addA v2_add (ev_bin op_addA v2_add ev_str (ev_callT call_str_int vn_strI (by exact rfl) m_str boot_str (ea_cons (ev_var 4) ea_nil))) ev_str) (ev_callT call_str_int vn_strI (by exact rfl) m_str boot_str (ea_cons (ev_var 5) ea_nil)))) (fun _ _ _ h => (lc_imp (fz_imp h))))
  (ess_cons (es_for PassesOwn.never rfl (ev_ix ix_seq v2_ix (ev_var 0) ev_int) (eg_tup rfl (egs_cons (egs_cons egs_nil sc.nd) sc.nd))
  (ess_one (es_set (ev_bin op_addA v2_add (ev_bin op_addA v2_add (ev_var 1) (ev_lst (ea_cons (ev_bin op_addA v2_add ev_str (ev_callT call_str_int vn_strI (by exact rfl) m_str boot_str (ea_cons (ev_var 2) ea_nil))) ea_nil))) (ev_fz (ev_lc rfl sc.nd (ev_var 3) (own := [("_law_step_here", 6)]) (blkOk_of (N' := ["_law_t", "_law_rows", "_law_knock", "_law_steps", "_law_first", "_law_most", "_law_step_here"]) (sc' := defScope s_law_lines) (by exact rfl) (by exact rfl) ⟨rfl, by decide +kernel, by decide +kernel, by decide +kernel, by decide +kernel⟩) (fun _ _ _ _ _ => (egc_name sc.nd)) (fun _ _ _ _ _ => ets_nil) (fun _ _ _ _ _ => (ev_callH h_law_row hr0 (by exact rfl) (ea_cons (ev_var 6) ea_nil)))))) sc.nd)))
  (ess_one (es_ret (ev_var 1)))))
/-! ### _law_wide_gate -/
abbrev s_law_wide_gate : Stmt := top 35
theorem sc_law_wide_gate : FnScope ["_law_d", "_law_boxes", "_law_k", "_law_most", "_law_hand"] ["_law_d"] (defScope s_law_wide_gate) := ⟨rfl, rfl, rfl, by decide +kernel, rfl, by decide +kernel, by decide +kernel⟩
noncomputable def t_law_wide_gate (g_law_off : Fn) (g_law_gate : Fn) (g_law_program : Fn) : Es :=
  (sSeq (sIf (tV (eBin vEq (eApp (doCallA 2 1 g_law_off) (aCons (eVar 0) (aCons (eC (.int 2)) aNil))) (eC (.int 0))))
  (sRet (eApp (doCallA 1 1 g_law_gate) (aCons (eVar 0) aNil)))
  sNil)
  (sSeq (sSet 1 (eLstO aNil))
  (sSeq (sForR1 (gN 2) (aCons (eBin vAdd (eC (.int 1)) (eApp (doCallA 2 1 g_law_off) (aCons (eVar 0) (aCons (eC (.int 12)) aNil)))) aNil)
  (sSeq (sSet 3 (eApp (doCallA 2 1 g_law_off) (aCons (eVar 0) (aCons (eC (.int 10)) aNil))))
  (sExpr (eMtL vAppend (eVar 1) (aCons (eTup (aCons (eApp (doCallA 2 1 g_law_off) (aCons (eVar 0) (aCons (eBin vAdd (eVar 3) (eC (.int 1))) aNil))) (aCons (eVar 3) aNil))) aNil)))))
  (sFz 1 1 (sRet (eTup (aCons (eVar 1) (aCons (eFz (eLCR1 [4] (gN 4) (aCons (eBin vAdd (eC (.int 1)) (eApp (doCallA 2 1 g_law_off) (aCons (eVar 0) (aCons (eC (.int 2)) aNil)))) aNil) tY (eApp (doCallA 3 1 g_law_program) (aCons (eVar 0) (aCons (eVar 1) (aCons (eC (.int 24)) aNil)))))) aNil))))))))
noncomputable def f_law_wide_gate (g_law_off : Fn) (g_law_gate : Fn) (g_law_program : Fn) : Fn := fun bs M => finD 1 (outB (t_law_wide_gate g_law_off g_law_gate g_law_program (rho0 5 bs) M))
theorem ok_law_wide_gate {P : Program} {w : World} {K : PySem.W.Frag} {mg : Str → Option Value} {base : Heap} {f : Addr} {fd : FuncData} {k : Nat} {g_law_off : Fn} {g_law_gate : Fn} {g_law_program : Fn} {fs : Fn} (h_law_off : Has P w K mg base "_law_off" k ["_law_d", "_law_most"] 1 g_law_off) (h_law_gate : Has P w K mg base "_law_gate" k ["_law_d"] 1 g_law_gate) (m_range : mg "range" = none) (h_law_program : Has P w K mg base "_law_program" k ["_law_d", "_law_boxes", "_law_most"] 1 g_law_program)
  (F : FunD K "_law_wide_gate" "_law_wide_gate" (defArgs s_law_wide_gate) (defBody s_law_wide_gate) (defScope s_law_wide_gate) [] [] f fd) (hf : ∀ bs M, fs bs M = .stuck ∨ f_law_wide_gate g_law_off g_law_gate g_law_program bs M = fs bs M) : FnOk P w K mg base CX0 (k + 1) f fd ["_law_d"] (spF AX0 1 1 fs) :=
  def_D (t := t_law_wide_gate g_law_off g_law_gate g_law_program) F sc_law_wide_gate hf fun cdv A outer s H E W hr => by
  have sc := sc_law_wide_gate
  have hr0 := hr.mono (Nat.le_add_right k 0)
  have hu : (A.deeper (envOfC "_law_wide_gate" (defScope s_law_wide_gate) s.heap.objs.size f cdv)).units + 64 < cLine := by have := hr.un; omega
  have hu65 : (A.deeper (envOfC "_law_wide_gate" (defScope s_law_wide_gate) s.heap.objs.size f cdv)).units + 65 < cLine := by have := hr.un; omega
  unfold t_law_wide_gate
  exact (ess_cons (es_if (et_cmp (op_eqD hu) v2_eq (ev_callH h_law_off hr0 (by exact rfl) (ea_cons (ev_var 0) (ea_cons ev_int ea_nil))) ev_int rfl)
  (ess_one (es_ret (ev_callH h_law_gate hr0 (by exact rfl) (ea_cons (ev_var 0) ea_nil))))
  ess_nil)
  (ess_cons (es_set (ev_lstO ea_nil) sc.nd)
  (ess_cons (es_forR1 PassesOwn.never rfl (by exact rfl) m_range (ea_cons (ev_bin op_addA v2_add ev_int (ev_callH h_law_off hr0 (by exact rfl) (ea_cons (ev_var 0) (ea_cons ev_int ea_nil)))) ea_nil) (eg_name sc.nd)
  (ess_cons (es_set (ev_callH h_law_off hr0 (by exact rfl) (ea_cons (ev_var 0) (ea_cons ev_int ea_nil))) sc.nd)
  (ess_one (es_expr (ev_mtL PySem.F.slot_list_append PySem.F.type_list_append mt_append vm_append (ev_var 1) (ea_cons (ev_tup (ea_cons (ev_callH h_law_off hr0 (by exact rfl) (ea_cons (ev_var 0) (ea_cons (ev_bin op_addA v2_add (ev_var 3) ev_int) ea_nil))) (ea_cons (ev_var 3) ea_nil))) ea_nil))))))
  (ess_one (es_fz (es_ret (ev_tup (ea_cons (ev_var 1) (ea_cons (ev_fz (ev_lcR1 rfl sc.nd (by exact rfl) m_range (ea_cons (ev_bin op_addA v2_add ev_int (ev_callH h_law_off hr0 (by exact rfl) (ea_cons (ev_var 0) (ea_cons ev_int ea_nil)))) ea_nil) (own := [("_law_hand", 4)]) (blkOk_of (N' := ["_law_d", "_law_boxes", "_law_k", "_law_most", "_law_hand"]) (sc' := defScope s_law_wide_gate) (by exact rfl) (by exact rfl) ⟨rfl, by decide +kernel, by decide +kernel, by decide +kernel, by decide +kernel⟩) (fun _ _ _ _ _ => (egc_name sc.nd)) (fun _ _ _ _ _ => ets_nil) (fun _ _ _ _ _ => (ev_callH h_law_program hr0 (by exact rfl) (ea_cons (ev_var 0) (ea_cons (ev_var 1) (ea_cons ev_int ea_nil))))))) ea_nil)))))))))
/-! ### law -/
abbrev s_law : Stmt := top 36
theorem sc_law : FnScope ["_law_script", "_law_d", "_law_one", "_law_other", "_law_t", "_law_text", "_law_gate_here"] ["_law_script"] (defScope s_law) := ⟨rfl, rfl, rfl, by decide +kernel, rfl, by decide +kernel, by decide +kernel⟩
noncomputable def t_law (g_law_dice : Fn) (g_law_wide_gate : Fn) (g_law_gate : Fn) (g_law_lines : Fn) (g_law_made : Fn) (g_written : Fn) (g_law_alike : Fn) (g_read : Fn) (K : PySem.W.Frag) (g_Gate_boxes : Fn) (g_Gate_hands : Fn) : Es :=
  (sSeq (sSet 1 (eApp (doCallA 2 0 g_law_dice) (aCons (eVar 0) (aCons (eC (.int 0)) aNil))))
  (sSeq (sSet 2 (eApp (doCallA 1 1 g_law_wide_gate) (aCons (eVar 1) aNil)))
  (sSeq (sSet 3 (eApp (doCallA 1 1 g_law_gate) (aCons (eVar 1) aNil)))
  (sSeq (sFor (gN 4) (eLst (aCons (eVar 2) (aCons (eVar 3) (aCons (eVar 2) aNil))))
  (sSeq (sSet 5 (eMtS vJoin (eC (.str "\n")) (eApp (doCallA 1 0 g_law_lines) (aCons (eVar 4) aNil))))
  (sSeq (sIf (tNt (tV (eApp (doCallA 2 0 g_law_alike) (aCons (eApp (doCallA 1 0 g_written) (aCons (eApp (doCallA 1 0 g_law_made) (aCons (eVar 4) aNil)) aNil)) (aCons (eVar 5) aNil)))))
  (sRet (eC (.bl false)))
  sNil)
  (sSeq (sSet 6 (eApp (doCallA 1 0 g_read) (aCons (eVar 5) aNil)))
  (sIf (tOrr (tNt (tV (eApp (doCallA 2 0 g_law_alike) (aCons (eLst (aCons (eMeth (He.ga K "Gate") "boxes" 1 0 g_Gate_boxes (eVar 6) aNil) (aCons (eMeth (He.ga K "Gate") "hands" 1 0 g_Gate_hands (eVar 6) aNil) aNil))) (aCons (eLst (aCons (eBin vIx (eVar 4) (eC (.int 0))) (aCons (eBin vIx (eVar 4) (eC (.int 1))) aNil))) aNil))))) (tV (eBin vNe (eApp (doCallA 1 0 g_written) (aCons (eVar 6) aNil)) (eVar 5))))
  (sRet (eC (.bl false)))
  sNil)))))
  (sRet (eC (.bl true)))))))
noncomputable def f_law (g_law_dice : Fn) (g_law_wide_gate : Fn) (g_law_gate : Fn) (g_law_lines : Fn) (g_law_made : Fn) (g_written : Fn) (g_law_alike : Fn) (g_read : Fn) (K : PySem.W.Frag) (g_Gate_boxes : Fn) (g_Gate_hands : Fn) : Fn := fun bs M => finD 0 (outB (t_law g_law_dice g_law_wide_gate g_law_gate g_law_lines g_law_made g_written g_law_alike g_read K g_Gate_boxes g_Gate_hands (rho0 7 bs) M))
theorem ok_law {P : Program} {w : World} {K : PySem.W.Frag} {mg : Str → Option Value} {base : Heap} {f : Addr} {fd : FuncData} {k : Nat} {g_law_dice : Fn} {g_law_wide_gate : Fn} {g_law_gate : Fn} {g_law_lines : Fn} {g_law_made : Fn} {g_written : Fn} {g_law_alike : Fn} {g_read : Fn} {g_Gate_boxes : Fn} {g_Gate_hands : Fn} {fs : Fn} (h_law_dice : Has P w K mg base "_law_dice" k ["_law_script", "_law_k"] 0 g_law_dice) (h_law_wide_gate : Has P w K mg base "_law_wide_gate" k ["_law_d"] 1 g_law_wide_gate) (h_law_gate : Has P w K mg base "_law_gate" k ["_law_d"] 1 g_law_gate) (h_law_lines : Has P w K mg base "_law_lines" k ["_law_t"] 0 g_law_lines) (h_law_made : Has P w K mg base "_law_made" k ["_law_t"] 0 g_law_made) (h_written : Has P w K mg base "written" k ["gate"] 0 g_written) (h_law_alike : Has P w K mg base "_law_alike" k ["_law_found", "_law_due"] 0 g_law_alike) (h_read : Has P w K mg base "read" k ["text"] 0 g_read) (h_Gate_boxes : HasM P w K mg base (He.ga K "Gate") "boxes" k ["self"] 0 g_Gate_boxes) (h_Gate_hands : HasM P w K mg base (He.ga K "Gate") "hands" k ["self"] 0 g_Gate_hands)
  (F : FunD K "law" "law" (defArgs s_law) (defBody s_law) (defScope s_law) [] [] f fd) (hf : ∀ bs M, fs bs M = .stuck ∨ f_law g_law_dice g_law_wide_gate g_law_gate g_law_lines g_law_made g_written g_law_alike g_read K g_Gate_boxes g_Gate_hands bs M = fs bs M) : FnOk P w K mg base CX0 (k + 1) f fd ["_law_script"] (spF AX0 1 0 fs) :=
  def_D (t := t_law g_law_dice g_law_wide_gate g_law_gate g_law_lines g_law_made g_written g_law_alike g_read K g_Gate_boxes g_Gate_hands) F sc_law hf fun cdv A outer s H E W hr => by
  have sc := sc_law
  have hr0 := hr.mono (Nat.le_add_right k 0)
  have hu : (A.deeper (envOfC "law" (defScope s_law) s.heap.objs.size f cdv)).units + 64 < cLine := by have := hr.un; omega
  have hu65 : (A.deeper (envOfC "law" (defScope s_law) s.heap.objs.size f cdv)).units + 65 < cLine := by have := hr.un; omega
  unfold t_law
  exact (ess_cons (es_set (ev_callH h_law_dice hr0 (by exact rfl) (ea_cons (ev_var 0) (ea_cons ev_int ea_nil))) sc.nd)
  (ess_cons (es_set (ev_callH h_law_wide_gate hr0 (by exact rfl) (ea_cons (ev_var 1) ea_nil)) sc.nd)
  (ess_cons (es_set (ev_callH h_law_gate hr0 (by exact rfl) (ea_cons (ev_var 1) ea_nil)) sc.nd)
  (ess_cons (es_for PassesOwn.never rfl (ev_lst (ea_cons (ev_var 2) (ea_cons (ev_var 3) (ea_cons (ev_var 2) ea_nil)))) (eg_name sc.nd)
  (ess_cons (es_set (ev_mtS PySem.F.slot_str_join PySem.F.type_str_join mt_join vm_join ev_str (ev_callH h_law_lines hr0 (by exact rfl) (ea_cons (ev_var 4) ea_nil))) sc.nd)
  (ess_cons (es_if (et_not (et_val (ev_callH h_law_alike hr0 (by exact rfl) (ea_cons (ev_callH h_written hr0 (by exact rfl) (ea_cons (ev_callH h_law_made hr0 (by exact rfl) (ea_cons (ev_var 4) ea_nil)) ea_nil)) (ea_cons (ev_var 5) ea_nil)))))
  (ess_one (es_ret ev_bl))
  ess_nil)
  (ess_cons (es_set (ev_callH h_read hr0 (by exact rfl) (ea_cons (ev_var 5) ea_nil)) sc.nd)
  (ess_one (es_if (PW.pt (ew_or (et_not (et_val (ev_callH h_law_alike hr0 (by exact rfl) (ea_cons (ev_lst (ea_cons (ev_methH0 h_Gate_boxes hr0 (ev_var 6)) (ea_cons (ev_methH0 h_Gate_hands hr0 (ev_var 6)) ea_nil))) (ea_cons (ev_lst (ea_cons (ev_ix ix_seq v2_ix (ev_var 4) ev_int) (ea_cons (ev_ix ix_seq v2_ix (ev_var 4) ev_int) ea_nil))) ea_nil))))) (ew_or1 (et_cmp (op_neD hu) v2_ne (ev_callH h_written hr0 (by exact rfl) (ea_cons (ev_var 6) ea_nil)) (ev_var 5) rfl))))
  (ess_one (es_ret ev_bl))
  ess_nil))))))
  (ess_one (es_ret ev_bl))))))
end Ab

namespace Ab
open PySem PySem.Spec PyProof.Rows L2

abbrev DI := Int × Int × List Int
def ib (i : Int) : B := .dat (.int i)
def dl (s : DI) : Cell := .lst (ib s.1 :: ib s.2.1 :: s.2.2.map ib)
def pull (s : DI) : DI := if s.2.1 = 0 then (match s.2.2 with
  | [] => s
  | x :: r => (s.1, x, r)) else s
def offI (m : Int) (s : DI) : Int × DI :=
  let t := pull s
  if 0 < t.2.1 then (t.2.1 % m, (t.1, t.2.1 / m, t.2.2)) else
    let n := (t.1 * 48271 + 11) % 2147483647
    ((n / 64) % m, (n, t.2.1, t.2.2))
theorem offI_lt {m : Int} (h : 0 < m) (s : DI) : 0 ≤ (offI m s).1 ∧ (offI m s).1 < m := by
  unfold offI
  simp only
  split
  · exact ⟨Int.emod_nonneg _ (by omega), Int.emod_lt_of_pos _ h⟩
  · exact ⟨Int.emod_nonneg _ (by omega), Int.emod_lt_of_pos _ h⟩
theorem e_off {m : Int} (s : DI) (h1 : 0 < m) (h2 : m < 1073741824) : f_law_off [.own 0, .dat (.int m)] [some (dl s)] = .ok (.dat (.int (offI m s).1)) [some (dl (offI m s).2)] := by
  obtain ⟨a, b, r⟩ := s
  unfold f_law_off t_law_off
  have fin : ∀ (d : D) (a b : Int) (r : List Int), finD 1 (.ok (.dat d) [some (.lst (B.dat (.int a) :: B.dat (.int b) :: r.map fun i => B.dat (.int i)))]) = .ok (.dat d) [some (.lst (B.dat (.int a) :: B.dat (.int b) :: r.map fun i => B.dat (.int i)))] := fun d a b r => by
    have q := fin_1 d (.int a :: .int b :: r.map .int) []
    simpa [List.map_map, Function.comp_def] using q
  by_cases hb : b = 0
  · cases r with
    | nil =>
      have f0 := fin
      simp [dl, ib, y_ixO, y_lenO, y_mod, y_div, y_mul, y_isL, hb, offI, pull, h1, h2, fin _ _ _ []]
      exact fin _ _ _ []
    | cons x r =>
      have hp : vPopAt (.own 0) [.dat (.int 2)] [some (.lst (B.dat (.int a) :: B.dat (.int 0) :: B.dat (.int x) :: r.map ib))] = .ok (.dat (.int x)) [some (.lst (B.dat (.int a) :: B.dat (.int 0) :: r.map ib))] := y_popAt (n := 2) (bs := B.dat (.int a) :: B.dat (.int 0) :: B.dat (.int x) :: r.map ib) rfl rfl (by decide)
      have hl : (2 : Int) < (r.length : Int) + 1 + 1 + 1 := by omega
      by_cases hx : 0 < x
      · simp [dl, ib, y_ixO, y_lenO, y_mod, y_div, y_mul, y_isL, hb, offI, pull, h1, h2, hp, hl, hx]
        exact fin _ _ _ _
      · simp [dl, ib, y_ixO, y_lenO, y_mod, y_div, y_mul, y_isL, hb, offI, pull, h1, h2, hp, hl, hx]
        exact fin _ _ _ _
  · by_cases hx : 0 < b
    · simp [dl, ib, y_ixO, y_lenO, y_mod, y_div, y_mul, y_isL, hb, offI, pull, h1, h2, hx]
      exact fin _ _ _ _
    · simp [dl, ib, y_ixO, y_lenO, y_mod, y_div, y_mul, y_isL, hb, offI, pull, h1, h2, hx]
      exact fin _ _ _ _

end Ab

namespace Ab
open PySem PySem.Spec PyProof.Rows L2
/-- an argument that is data, or only looked at -/
def vd : B → Bool
  | .dat _ => true
  | .vw _ => true
  | _ => false
theorem cv_vd {n : Nat} {M : Mem} : ∀ {xs : List B}, xs.all vd = true → optAll (xs.map (cvB n M)) = some xs
  | [], _ => rfl
  | x :: xs, h => by
    rw [List.all_cons, Bool.and_eq_true] at h
    have ih := cv_vd (n := n) (M := M) h.2
    rw [List.map_cons]
    cases x with
    | dat d => show optAll (some _ :: _) = _; unfold optAll; rw [ih]
    | vw d => show optAll (some _ :: _) = _; unfold optAll; rw [ih]
    | own k => cases h.1
    | ty t => cases h.1
theorem low_dl (n : Nat) (s : DI) : lowC n (dl s) = true := by
  unfold lowC dl allC
  simp only [List.all_cons, Bool.and_eq_true]
  refine ⟨rfl, rfl, ?_⟩
  rw [List.all_eq_true]
  intro b hb
  obtain ⟨i, _, rfl⟩ := List.mem_map.mp hb
  rfl
theorem nv_dl (s : DI) : nvC (some (dl s)) = true := by
  show allC nvB (dl s) = true
  unfold dl allC
  simp only [List.all_cons, Bool.and_eq_true]
  refine ⟨rfl, rfl, ?_⟩
  rw [List.all_eq_true]
  intro b hb
  obtain ⟨i, _, rfl⟩ := List.mem_map.mp hb
  rfl
theorem sh_dl (n m : Nat) (s : DI) : shC n m (some (dl s)) = some (dl s) := by
  unfold shC dl
  simp only [Option.map_some, mapC, List.map_cons, List.map_map]
  rfl
/-- a def that draws is called -/
theorem call_d {fs : Fn} {s s' : DI} {d : D} {xs : List B} {ar : Nat} (h : fs (.own 0 :: xs) [some (dl s)] = .ok (.dat d) [some (dl s')]) (hx : xs.all vd = true) (har : xs.length + 1 = ar) (Mr : Mem) :
    doCallA ar 1 fs (.own 0 :: xs) (some (dl s) :: Mr) = .ok (.dat d) (some (dl s') :: Mr) := by
  unfold doCallA doCall
  have e : optAll ((B.own 0 :: xs).map (cvB 1 (some (dl s) :: Mr))) = some (.own 0 :: xs) := by
    rw [List.map_cons]
    show optAll (some _ :: _) = _
    unfold optAll
    rw [cv_vd hx]
  have h' : fs (.own 0 :: xs) (List.take 1 (some (dl s) :: Mr)) = .ok (.dat d) [some (dl s')] := h
  rw [if_pos (by rw [List.length_cons]; exact har), e]
  dsimp only
  rw [if_pos ⟨by simp [lowM, low_dl], by simp⟩, h']
  dsimp only
  rw [if_pos ⟨rfl, by simp [nv_dl], by simp⟩]
  simp [sh_dl, shB]
/-- a def of nothing but data is called -/
theorem call_0 {fs : Fn} {d : D} {xs cs : List B} {ar : Nat} {M : Mem} (hc : optAll (xs.map (cvB 0 M)) = some cs) (h : fs cs [] = .ok (.dat d) []) (har : xs.length = ar) : doCallA ar 0 fs xs M = .ok (.dat d) M := by
  unfold doCallA doCall
  have h' : fs cs (List.take 0 M) = .ok (.dat d) [] := h
  rw [if_pos har, hc]
  dsimp only
  rw [if_pos ⟨rfl, Nat.zero_le _⟩, h']
  simp [nvB, shB]
theorem call_0v {fs : Fn} {d : D} {xs : List B} {ar : Nat} {M : Mem} (hx : xs.all vd = true) (h : fs xs [] = .ok (.dat d) []) (har : xs.length = ar) : doCallA ar 0 fs xs M = .ok (.dat d) M := call_0 (cv_vd hx) h har
theorem c_off (m : Int) (s : DI) (Mr : Mem) (h : 0 < m) (h2 : m < 1073741824) : doCallA 2 1 f_law_off [.own 0, .dat (.int m)] (some (dl s) :: Mr) = .ok (.dat (.int (offI m s).1)) (some (dl (offI m s).2) :: Mr) := call_d (xs := [.dat (.int m)]) (e_off s h h2) rfl rfl Mr
theorem c_off2 (s : DI) (Mr : Mem) : doCallA 2 1 f_law_off [.own 0, .dat (.int 2)] (some (dl s) :: Mr) = .ok (.dat (.int (offI 2 s).1)) (some (dl (offI 2 s).2) :: Mr) := c_off 2 s Mr (by decide) (by decide)
theorem c_off8 (s : DI) (Mr : Mem) : doCallA 2 1 f_law_off [.own 0, .dat (.int 8)] (some (dl s) :: Mr) = .ok (.dat (.int (offI 8 s).1)) (some (dl (offI 8 s).2) :: Mr) := c_off 8 s Mr (by decide) (by decide)
theorem fin_dl (d : D) (s : DI) (M : Mem) : finD 1 (.ok (.dat d) (some (dl s) :: M)) = .ok (.dat d) [some (dl s)] := by
  obtain ⟨a, b, r⟩ := s
  have q := fin_1 d (.int a :: .int b :: r.map .int) M
  simp only [List.map_map, Function.comp_def, List.map_cons] at q
  exact q
/-! ### steps -/
inductive Sp' where
  | put (b v : Int) | go (b : Int) (ns : List Int) (g : Int) | inn
def Sp'.d : Sp' → D
  | .put b v => .tup [.str "put", .int b, .int v]
  | .go b ns g => .tup [.str "go", .int b, .tup (ns.map .int), .int g]
  | .inn => .tup [.str "in"]
def boxD (b : Int × Int) : D := .tup [.int b.1, .int b.2]
def draws : List Int → DI → List Int × DI
  | [], s => ([], s)
  | i :: r, s => ((if (offI 2 s).1 = 0 then i :: (draws r (offI 2 s).2).1 else (draws r (offI 2 s).2).1), (draws r (offI 2 s).2).2)
def upto (n : Int) : List Int := (List.range n.toNat).map fun (i : Nat) => (i : Int)
def stepI (bx : List (Int × Int)) (many : Int) (s : DI) : Sp' × DI :=
  let o := offI bx.length s
  let most := (bx[o.1.toNat]?.getD (0, 0)).2
  let z := offI 2 o.2
  if z.1 = 0 then
    let v := offI (most + 1) z.2
    (.put o.1 v.1, v.2)
  else
    let q := draws (upto (most + 1)) z.2
    let y := offI 8 q.2
    let g := offI (many - 1) y.2
    (.go o.1 (if y.1 = 0 then upto (most + 1) else q.1) (1 + g.1), g.2)
theorem lcL_draws (j : Nat) (hj : j ≠ 0) (ρ : Rho) (Mr : Mem) (h0 : ρ[0]? = some (some (.own 0))) (hl : j < ρ.length) : ∀ (l acc : List Int) (s : DI), acc.length + l.length < SZ →
    lcL 1 (gN j) (tV (eBin vEq (eApp (doCallA 2 1 f_law_off) (aCons (eVar 0) (aCons (eC (.int 2)) aNil))) (eC (.int 0)))) (eVar j) ρ (l.map fun i => B.dat (.int i)) (some (dl s) :: some (.lst (acc.map ib)) :: Mr) =
      .ok () (some (dl (draws l s).2) :: some (.lst ((acc ++ (draws l s).1).map ib)) :: Mr)
  | [], acc, s, h => by simp [lcL, draws]
  | i :: l, acc, s, h => by
    rw [List.length_cons] at h
    have e0 : (ρ.set j (some (.dat (.int i))))[0]? = some (some (.own 0)) := by rw [List.getElem?_set_ne hj]; exact h0
    have e5 : (ρ.set j (some (.dat (.int i))))[j]? = some (some (.dat (.int i))) := List.getElem?_set_self hl
    rw [List.map_cons]
    unfold lcL
    simp only [x_gn, x_tv, x_bin, x_app, x_cons, x_var, e0, e5, x_c, x_nil, Res.bind_ok, c_off2, y_eqI]
    by_cases hz : (offI 2 s).1 = 0
    · have hz' : ((offI 2 s).1 == 0) = true := by simp [hz]
      simp only [hz', if_true, List.getElem?_cons_succ, List.getElem?_cons_zero, Res.bind_ok, List.length_map]
      rw [if_pos (by omega)]
      have ih := lcL_draws j hj ρ Mr h0 hl l (acc ++ [i]) (offI 2 s).2 (by rw [List.length_append, List.length_singleton]; omega)
      simp only [List.set_cons_succ, List.set_cons_zero]
      rw [List.map_append] at ih
      have e : draws (i :: l) s = (i :: (draws l (offI 2 s).2).1, (draws l (offI 2 s).2).2) := by
        simp [draws, hz]
      rw [e]
      rw [List.append_assoc] at ih
      exact ih
    · have hz' : ((offI 2 s).1 == 0) = false := by simp [hz]
      simp only [hz', Bool.false_eq_true, if_false]
      have ih := lcL_draws j hj ρ Mr h0 hl l acc (offI 2 s).2 (by omega)
      have e : draws (i :: l) s = ((draws l (offI 2 s).2).1, (draws l (offI 2 s).2).2) := by
        simp [draws, hz]
      rw [e]
      exact ih
end Ab

/-! Numbers up to n. -/
namespace Ab
open PySem PySem.Spec PyProof.Rows L2
theorem fz_new {s : DI} {bs : List B} {ds : List D} (h : bs = ds.map .dat) : fzN 1 [some (dl s), some (.lst bs)] 4 (.own 1) = some (.lst ds) := by
  subst h
  have e : optAll ((ds.map B.dat).map (fzN 1 [some (dl s), some (.lst (ds.map .dat))] 3)) = some ds := by
    rw [List.map_map]
    exact (congrArg optAll (List.map_congr_left fun d _ => rfl)).trans (optAll_some ds)
  show (optAll ((ds.map B.dat).map (fzN 1 [some (dl s), some (.lst (ds.map .dat))] 3))).map D.lst = _
  rw [e]
  rfl
theorem rng_upto (n : Int) : rng 0 n = (upto n).map fun i => B.dat (.int i) := by
  unfold rng upto
  rw [List.map_map, Int.sub_zero]
  apply List.map_congr_left
  intro i _
  show B.dat (.int (0 + (i : Int))) = _
  rw [Int.zero_add]
  rfl
theorem upto_len (n : Int) : (upto n).length = n.toNat := by simp [upto]
theorem rgD_upto (n : Int) : rgD 0 n = (upto n).map .int := by
  unfold rgD upto
  rw [List.map_map, Int.sub_zero]
  apply List.map_congr_left
  intro i _
  show D.int (0 + (i : Int)) = _
  rw [Int.zero_add]
  rfl
theorem draws_len : ∀ (l : List Int) (s : DI), (draws l s).1.length ≤ l.length
  | [], _ => Nat.le_refl _
  | i :: l, s => by
    have := draws_len l (offI 2 s).2
    unfold draws
    simp only
    split <;> simp <;> omega
end Ab

/-! Programs drawn: the plain law. -/
namespace Ab
open PySem PySem.Spec PyProof.Rows L2
def nsteps (bx : List (Int × Int)) (many : Int) : Nat → DI → List Sp' × DI
  | 0, s => ([], s)
  | n + 1, s => ((stepI bx many s).1 :: (nsteps bx many n (stepI bx many s).2).1, (nsteps bx many n (stepI bx many s).2).2)
theorem nsteps_len (bx : List (Int × Int)) (many : Int) : ∀ (n : Nat) (s : DI), (nsteps bx many n s).1.length = n
  | 0, _ => rfl
  | n + 1, s => by unfold nsteps; simp [nsteps_len bx many n]
def progI (bx : List (Int × Int)) (most : Int) (s : DI) : (Int × List Sp') × DI :=
  let a := offI (most - 1) s
  let many := 2 + a.1
  let b := offI (many - 1) a.2
  let inner := 1 + b.1
  let q := nsteps bx many many.toNat b.2
  let c := offI inner q.2
  ((1 + c.1, q.1.set inner.toNat .inn), c.2)
/-- boxes of a drawn gate -/
def BoxOk (bx : List (Int × Int)) : Prop := bx ≠ [] ∧ bx.length < 1000 ∧ ∀ b ∈ bx, 0 ≤ b.2 ∧ b.2 ≤ 9
theorem sb_dl (k : Nat) (d : D) (s : DI) : sbC k d (some (dl s)) = some (dl s) := by
  obtain ⟨a, b, r⟩ := s
  have q := sbC_dat k d (.int a :: .int b :: r.map .int)
  simp only [List.map_map, Function.comp_def, List.map_cons] at q
  exact q
abbrev stB (x : Sp') : B := .dat x.d
end Ab

namespace Ab
open PySem PySem.Spec PyProof.Rows L2
abbrev Hand := Int × List Sp'
abbrev Gt := List (Int × Int) × List Hand
def handD (h : Hand) : D := .tup [.int h.1, .lst (h.2.map Sp'.d)]
def gateD (g : Gt) : D := .tup [.lst (g.1.map boxD), .lst (g.2.map handD)]
def pairH (side : Int) : Hand := (2, [.put side 1, .put 2 (1 - side), .go (1 - side) [0] 4, .go 2 [1 - side] 2, .inn, .put side 0])
def cntS : Nat → List Sp'
  | 0 => [.go 0 [] 1]
  | n + 1 => cntS n ++ [.go n [1] ((cntS n).length + 3), .put n 1, .go n [0, 1] 1, .put n 0]
def cntG (n : Nat) : Gt := (List.replicate n (0, 1), [(1, cntS n ++ [.inn])])
def bitS (h : Int) : Nat → List Sp'
  | 0 => [.put h 1]
  | n + 1 => bitS h n ++ [.go n [0] ((bitS h n).length + 5), .put h 0, .go n [1] ((bitS h n).length + 2), .put h 1, .go h [0, 1] 1]
def bitT (l : List Sp') (from_ : Int) : Nat → List Sp'
  | 0 => l
  | n + 1 => bitT l from_ n ++ [.go (from_ + n) [1] (bitT l from_ n).length]
def bitH (h many : Nat) : Hand := (1, bitT (bitS h h) (h + 1) (many - (h + 1)) ++ [.inn, .put h 0])
end Ab

namespace Ab
open PySem PySem.Spec PyProof.Rows L2
abbrev mostOf (bx : List (Int × Int)) (b : Int) : Int := (bx[b.toNat]?.getD (0, 0)).2
def OkStep (bx : List (Int × Int)) (many : Int) : Sp' → Prop
  | .put b v => (0 ≤ b ∧ b < bx.length) ∧ 0 ≤ v ∧ v ≤ mostOf bx b
  | .go b ns g => (0 ≤ b ∧ b < bx.length) ∧ ns.Pairwise (· < ·) ∧ ns.length ≤ 10 ∧ (∀ n ∈ ns, 0 ≤ n ∧ n ≤ mostOf bx b) ∧ 1 ≤ g ∧ g < many
  | .inn => False
theorem draws_sub : ∀ (l : List Int) (s : DI), (draws l s).1.Sublist l
  | [], _ => List.Sublist.refl _
  | i :: l, s => by
    have ih := draws_sub l (offI 2 s).2
    unfold draws
    simp only
    split
    · exact ih.cons₂ i
    · exact ih.cons i
theorem upto_mem {n i : Int} (h : i ∈ upto n) : 0 ≤ i ∧ i < n := by
  unfold upto at h
  obtain ⟨k, hk, rfl⟩ := List.mem_map.mp h
  have := List.mem_range.mp hk
  omega
theorem upto_lt (n : Int) : (upto n).Pairwise (· < ·) := by
  unfold upto
  rw [List.pairwise_map]
  refine List.Pairwise.imp ?_ (List.pairwise_lt_range (n := n.toNat))
  intro a b h
  omega
theorem stepI_ok {bx : List (Int × Int)} {many : Int} (s : DI) (hb : BoxOk bx) (h2 : 2 ≤ many) : OkStep bx many (stepI bx many s).1 := by
  have hbl : 0 < bx.length := List.length_pos_iff.mpr hb.1
  have r1 := offI_lt (m := bx.length) (by omega) s
  have hlt : (offI bx.length s).1.toNat < bx.length := by omega
  unfold stepI
  simp only
  generalize hv : offI bx.length s = v at *
  have hbb := hb.2.2 (bx[v.1.toNat]) (List.getElem_mem hlt)
  have hg : bx[v.1.toNat]?.getD (0, 0) = bx[v.1.toNat] := by rw [List.getElem?_eq_getElem hlt]; rfl
  rw [← hg] at hbb
  generalize hm : (bx[v.1.toNat]?.getD (0, 0)).2 = m at hbb
  split
  · have r := offI_lt (m := m + 1) (by omega) (offI 2 v.2).2
    refine ⟨r1, r.1, ?_⟩
    show _ ≤ (bx[v.1.toNat]?.getD (0, 0)).2
    rw [hm]
    omega
  · have r := offI_lt (m := many - 1) (by omega) (offI 8 (draws (upto (m + 1)) (offI 2 v.2).2).2).2
    have key : ∀ l : List Int, l.Sublist (upto (m + 1)) → l.Pairwise (· < ·) ∧ l.length ≤ 10 ∧ ∀ n ∈ l, 0 ≤ n ∧ n ≤ m := fun l hl => by
      refine ⟨List.Pairwise.sublist hl (upto_lt _), ?_, fun n hn => ?_⟩
      · have := hl.length_le
        rw [upto_len] at this
        omega
      · have := upto_mem (hl.subset hn)
        omega
    have q : ∀ l : List Int, l.Sublist (upto (m + 1)) → OkStep bx many (.go v.1 l (1 + (offI (many - 1) (offI 8 (draws (upto (m + 1)) (offI 2 v.2).2).2).2).1)) := fun l hl => by
      obtain ⟨k1, k2, k3⟩ := key l hl
      refine ⟨r1, k1, k2, fun n hn => ?_, by omega, by omega⟩
      show _ ∧ _ ≤ (bx[v.1.toNat]?.getD (0, 0)).2
      rw [hm]
      exact k3 n hn
    split
    · exact q _ (List.Sublist.refl _)
    · exact q _ (draws_sub _ _)
theorem nsteps_ok {bx : List (Int × Int)} {many : Int} (hb : BoxOk bx) (h2 : 2 ≤ many) : ∀ (n : Nat) (s : DI), ∀ x ∈ (nsteps bx many n s).1, OkStep bx many x
  | 0, _, x, h => by cases h
  | n + 1, s, x, h => by
    unfold nsteps at h
    rcases List.mem_cons.mp h with rfl | h
    · exact stepI_ok s hb h2
    · exact nsteps_ok hb h2 n _ x h
/-- a hand's steps are well made: one within, at p -/
structure OkHand (bx : List (Int × Int)) (h : Hand) : Prop where
  len : 2 ≤ h.2.length ∧ h.2.length ≤ 24
  ex : ∃ p : Nat, 0 < p ∧ h.2[p]? = some .inn ∧ 1 ≤ h.1 ∧ h.1 ≤ p ∧ ∀ (i : Nat) (x : Sp'), i ≠ p → h.2[i]? = some x → OkStep bx h.2.length x
theorem progI_ok {bx : List (Int × Int)} {most : Int} (s : DI) (hb : BoxOk bx) (h2 : 2 ≤ most) (h3 : most ≤ 24) : OkHand bx (progI bx most s).1 ∧ ((progI bx most s).1.2.length : Int) ≤ most := by
  have r1 := offI_lt (m := most - 1) (by omega) s
  unfold progI
  simp only
  generalize ha : offI (most - 1) s = a at r1
  have r2 := offI_lt (m := 2 + a.1 - 1) (by omega) a.2
  generalize hbb : offI (2 + a.1 - 1) a.2 = b at r2
  have hl := nsteps_len bx (2 + a.1) (2 + a.1).toNat b.2
  have ho := nsteps_ok hb (many := 2 + a.1) (by omega) (2 + a.1).toNat b.2
  generalize nsteps bx (2 + a.1) (2 + a.1).toNat b.2 = q at *
  have r3 := offI_lt (m := 1 + b.1) (by omega) q.2
  generalize offI (1 + b.1) q.2 = c at *
  have hlen : (q.1.set (1 + b.1).toNat .inn).length = (2 + a.1).toNat := by rw [List.length_set]; exact hl
  refine ⟨⟨by show 2 ≤ (q.1.set (1 + b.1).toNat .inn).length ∧ (q.1.set (1 + b.1).toNat .inn).length ≤ 24; omega, (1 + b.1).toNat, by omega, ?_, by show 1 ≤ 1 + c.1; omega, by show 1 + c.1 ≤ _; omega, fun i x hi e => ?_⟩, by show ((q.1.set (1 + b.1).toNat .inn).length : Int) ≤ most; omega⟩
  · exact List.getElem?_set_self (by omega)
  · have e' : (q.1.set (1 + b.1).toNat Sp'.inn)[i]? = some x := e
    rw [List.getElem?_set_ne (Ne.symm hi)] at e'
    have := ho x (List.mem_of_getElem? e')
    show OkStep bx ((q.1.set (1 + b.1).toNat Sp'.inn).length : Int) x
    have el : ((q.1.set (1 + b.1).toNat Sp'.inn).length : Int) = 2 + a.1 := by omega
    rw [el]
    exact this
end Ab

/-! Good gates. -/
namespace Ab
open PySem PySem.Spec PyProof.Rows L2
theorem fz_end {M : Mem} {k : Nat} (hk : M.length = k) (ds : List D) : fzN k (M ++ [some (.lst (ds.map .dat))]) 4 (.own k) = some (.lst ds) := by
  have e : optAll ((ds.map B.dat).map (fzN k (M ++ [some (.lst (ds.map .dat))]) 3)) = some ds := by
    rw [List.map_map]
    exact (congrArg optAll (List.map_congr_left fun d _ => rfl)).trans (optAll_some ds)
  have g : (M ++ [some (Cell.lst (ds.map .dat))])[k]? = some (some (.lst (ds.map .dat))) := by rw [← hk]; simp
  unfold fzN
  rw [if_pos (Nat.le_refl _)]
  simp only [g, e]
  rfl
theorem bnd_ok {i : Int} (h : 0 ≤ i) (h2 : i < 1000000) : bnd i = true := by
  simp only [bnd_eq, Bool.and_eq_true, decide_eq_true_eq]
  omega
def prodL : List Nat → Nat
  | [] => 1
  | a :: l => a * prodL l
theorem prodL_le {c : Nat} : ∀ {l : List Nat}, (∀ a ∈ l, a ≤ c) → prodL l ≤ c ^ l.length
  | [], _ => Nat.le_refl _
  | a :: l, h => by
    unfold prodL
    rw [List.length_cons, Nat.pow_succ, Nat.mul_comm]
    exact Nat.mul_le_mul (prodL_le fun b hb => h b (List.mem_cons_of_mem _ hb)) (h a List.mem_cons_self)
def sizeG (g : Gt) : Nat := prodL (g.1.map fun b => (b.2 + 1).toNat) * prodL (g.2.map fun h => h.2.length)
structure GoodS (g : Gt) : Prop where
  boxes : 1 ≤ g.1.length ∧ g.1.length ≤ 12
  box : ∀ b ∈ g.1, 0 ≤ b.1 ∧ b.1 ≤ b.2 ∧ b.2 ≤ 9
  hands : 1 ≤ g.2.length ∧ g.2.length ≤ 4
  hand : ∀ h ∈ g.2, OkHand g.1 h
  size : sizeG g ≤ 5000
  bx : prodL (g.1.map fun b => (b.2 + 1).toNat) ≤ 32
/-- a gate of any size -/
structure Good (g : Gt) : Prop where
  boxes : 1 ≤ g.1.length ∧ g.1.length ≤ 12
  box : ∀ b ∈ g.1, 0 ≤ b.1 ∧ b.1 ≤ b.2 ∧ b.2 ≤ 9
  hands : 1 ≤ g.2.length ∧ g.2.length ≤ 4
  hand : ∀ h ∈ g.2, OkHand g.1 h
theorem GoodS.w {g : Gt} (G : GoodS g) : Good g := ⟨G.boxes, G.box, G.hands, G.hand⟩
instance {g : Gt} : CoeHead (GoodS g) (Good g) := ⟨GoodS.w⟩
theorem bx_le {bx : List (Int × Int)} {a b : Nat} (h1 : ∀ x ∈ bx, (x.2 + 1).toNat ≤ a) (l1 : bx.length ≤ b) (a1 : 1 ≤ a) (h : a ^ b ≤ 32) : prodL (bx.map fun b => (b.2 + 1).toNat) ≤ 32 := by
  have p1 := prodL_le (c := a) (l := bx.map fun b => (b.2 + 1).toNat) (fun x hx => by
    obtain ⟨y, hy, rfl⟩ := List.mem_map.mp hx
    exact h1 y hy)
  rw [List.length_map] at p1
  exact Nat.le_trans p1 (Nat.le_trans (Nat.pow_le_pow_right a1 l1) h)
end Ab

/-! Rows as texts: the plain law. -/
namespace Ab
open PySem PySem.Spec PyProof.Rows L2 TL
def iS (i : Int) : Str := Str.ofString (toString i)
theorem tl_iS {i : Int} (h : 0 ≤ i) : tl (iS i) = numL i.toNat := by
  obtain ⟨n, rfl⟩ := Int.eq_ofNat_of_zero_le h
  exact tl_num n
theorem numL_2 {n : Nat} (h : 10 ≤ n) (h2 : n < 100) : numL n = [48 + n / 10, 48 + n % 10] := by
  rw [numL_step h, numL_lt (by omega)]
  rfl
theorem y_str {i : Int} (h : 0 ≤ i) (h2 : i < 100) (M : Mem) : vStrI [.dat (.int i)] M = .ok (.dat (.str (iS i))) M := by
  unfold vStrI
  dsimp only
  rw [if_pos (by omega)]
  rfl
theorem tl_sp : tl (Str.ofString " ") = [32] := by decide +kernel
theorem tl_nl : tl (Str.ofString "\n") = [10] := by decide +kernel
/-! ### the rows -/
def goS (b g : Int) : Str := "go " ++ iS b ++ " to " ++ iS g
def stepS : Sp' → Str
  | .inn => "in"
  | .put b v => "put " ++ iS b ++ " " ++ iS v
  | .go b ns g => if ns = [] then goS b g else goS b g ++ " if " ++ Txt.join " " (ns.map iS)
def boxS (b : Int × Int) : Str := "box " ++ iS b.1 ++ " " ++ iS b.2
def knS (k : Int) : Str := "hand " ++ iS k
def handS (h : Hand) : List Str := knS h.1 :: h.2.map stepS
def linesS (g : Gt) : List Str := g.1.map boxS ++ (g.2.map handS).flatten
def textS (g : Gt) : Str := Txt.join "\n" (linesS g)
/-! ### their words -/
def stepW : Sp' → List Str
  | .inn => ["in"]
  | .put b v => ["put", iS b, iS v]
  | .go b ns g => "go" :: iS b :: "to" :: iS g :: (if ns = [] then [] else "if" :: ns.map iS)
def boxW (b : Int × Int) : List Str := ["box", iS b.1, iS b.2]
def knW (k : Int) : List Str := ["hand", iS k]
theorem tl_J (y : Str) (parts : List Str) : tl (Txt.join y parts) = joinL (tl y) (parts.map tl) := by rw [join_eq, tl_join]
theorem tl_put : tl (Str.ofString "put ") = tl (Str.ofString "put") ++ [32] := by decide +kernel
theorem tl_box : tl (Str.ofString "box ") = tl (Str.ofString "box") ++ [32] := by decide +kernel
theorem tl_hand : tl (Str.ofString "hand ") = tl (Str.ofString "hand") ++ [32] := by decide +kernel
theorem tl_go : tl (Str.ofString "go ") = tl (Str.ofString "go") ++ [32] := by decide +kernel
theorem tl_to : tl (Str.ofString " to ") = [32] ++ (tl (Str.ofString "to") ++ [32]) := by decide +kernel
theorem tl_if : tl (Str.ofString " if ") = [32] ++ (tl (Str.ofString "if") ++ [32]) := by decide +kernel
theorem joinL_cons (S p : List Nat) {r : List (List Nat)} (h : r ≠ []) : joinL S (p :: r) = p ++ (S ++ joinL S r) := by
  cases r with
  | nil => exact absurd rfl h
  | cons q r => rfl
theorem box_J (b : Int × Int) : boxS b = Txt.join " " (boxW b) := ext_tl (by
  rw [tl_J]
  simp only [boxS, boxW, tl_append, tl_box, tl_sp, List.map_cons, List.map_nil, joinL, List.append_assoc])
theorem kn_J (k : Int) : knS k = Txt.join " " (knW k) := ext_tl (by
  rw [tl_J]
  simp only [knS, knW, tl_append, tl_hand, tl_sp, List.map_cons, List.map_nil, joinL, List.append_assoc])
theorem step_J (x : Sp') : stepS x = Txt.join " " (stepW x) := ext_tl (by
  rw [tl_J]
  cases x with
  | inn => rfl
  | put b v => simp only [stepS, stepW, tl_append, tl_put, tl_sp, List.map_cons, List.map_nil, joinL, List.append_assoc]
  | go b ns g =>
    unfold stepS stepW
    by_cases h : ns = []
    · subst h
      simp only [if_true, goS, tl_append, tl_go, tl_to, tl_sp, List.map_cons, List.map_nil, joinL, List.append_assoc]
    · have hn : (ns.map iS).map tl ≠ [] := by simpa using h
      simp only [if_neg h, goS, tl_append, tl_go, tl_to, tl_if, tl_sp, tl_J, List.map_cons, List.append_assoc]
      rw [joinL_cons _ _ (by simp), joinL_cons _ _ (by simp), joinL_cons _ _ (by simp), joinL_cons _ _ (by simp), joinL_cons _ _ hn])
/-! ### read back -/
def okN (i : Int) : Prop := 0 ≤ i ∧ i < 100
def okW : Sp' → Prop
  | .inn => True
  | .put b v => okN b ∧ okN v
  | .go b ns g => okN b ∧ okN g ∧ (∀ n ∈ ns, okN n) ∧ ns.length ≤ 10
theorem iS_free {i : Int} (h : 0 ≤ i) {s : Nat} (hs : s < 48) : s ∉ tl (iS i) := by
  rw [tl_iS h]
  exact numL_free (.inl hs)
theorem iS_len {i : Int} (h : okN i) : (iS i).length ≤ 2 := by
  rw [len_tl, tl_iS h.1]
  exact numL_len (by decide) (by have := h.2; omega)
theorem lit_free {x : String} {s : Nat} (h : (tl (Str.ofString x)).contains s = false) : s ∉ tl (Str.ofString x) := by
  intro z
  have := List.contains_iff_mem.mpr z
  rw [h] at this
  cases this
theorem box_free {b : Int × Int} (h1 : okN b.1) (h2 : okN b.2) : ∀ p ∈ boxW b, 32 ∉ tl p ∧ 10 ∉ tl p := by
  intro p hp
  simp only [boxW, List.mem_cons, List.not_mem_nil, or_false] at hp
  rcases hp with rfl | rfl | rfl
  · exact ⟨lit_free (by decide +kernel), lit_free (by decide +kernel)⟩
  · exact ⟨iS_free h1.1 (by decide), iS_free h1.1 (by decide)⟩
  · exact ⟨iS_free h2.1 (by decide), iS_free h2.1 (by decide)⟩
theorem kn_free {k : Int} (h1 : okN k) : ∀ p ∈ knW k, 32 ∉ tl p ∧ 10 ∉ tl p := by
  intro p hp
  simp only [knW, List.mem_cons, List.not_mem_nil, or_false] at hp
  rcases hp with rfl | rfl
  · exact ⟨lit_free (by decide +kernel), lit_free (by decide +kernel)⟩
  · exact ⟨iS_free h1.1 (by decide), iS_free h1.1 (by decide)⟩
theorem step_free {x : Sp'} (h : okW x) : ∀ p ∈ stepW x, 32 ∉ tl p ∧ 10 ∉ tl p := by
  intro p hp
  cases x with
  | inn =>
    simp only [stepW, List.mem_cons, List.not_mem_nil, or_false] at hp
    subst hp
    exact ⟨lit_free (by decide +kernel), lit_free (by decide +kernel)⟩
  | put b v =>
    simp only [stepW, List.mem_cons, List.not_mem_nil, or_false] at hp
    rcases hp with rfl | rfl | rfl
    · exact ⟨lit_free (by decide +kernel), lit_free (by decide +kernel)⟩
    · exact ⟨iS_free h.1.1 (by decide), iS_free h.1.1 (by decide)⟩
    · exact ⟨iS_free h.2.1 (by decide), iS_free h.2.1 (by decide)⟩
  | go b ns g =>
    simp only [stepW, List.mem_cons] at hp
    rcases hp with rfl | rfl | rfl | rfl | hp
    · exact ⟨lit_free (by decide +kernel), lit_free (by decide +kernel)⟩
    · exact ⟨iS_free h.1.1 (by decide), iS_free h.1.1 (by decide)⟩
    · exact ⟨lit_free (by decide +kernel), lit_free (by decide +kernel)⟩
    · exact ⟨iS_free h.2.1.1 (by decide), iS_free h.2.1.1 (by decide)⟩
    · split at hp
      · cases hp
      · rcases List.mem_cons.mp hp with rfl | hp
        · exact ⟨lit_free (by decide +kernel), lit_free (by decide +kernel)⟩
        · obtain ⟨n, hn, rfl⟩ := List.mem_map.mp hp
          have := h.2.2.1 n hn
          exact ⟨iS_free this.1 (by decide), iS_free this.1 (by decide)⟩
theorem sp_k : (Str.ofString " ").cps.all (· < 256) = true := by decide +kernel
theorem nl_k : (Str.ofString "\n").cps.all (· < 256) = true := by decide +kernel
theorem split_sp {ws : List Str} (hne : ws ≠ []) (h : ∀ p ∈ ws, 32 ∉ tl p ∧ 10 ∉ tl p) : Txt.split (Txt.join " " ws) " " = ws := split_join tl_sp sp_k hne fun p hp => (h p hp).1
theorem joinL_mem {S : List Nat} {c : Nat} : ∀ {ps : List (List Nat)}, c ∈ joinL S ps → c ∈ S ∨ ∃ p ∈ ps, c ∈ p
  | [], h => by cases h
  | [p], h => .inr ⟨p, List.mem_cons_self, h⟩
  | p :: q :: r, h => by
    have h' : c ∈ p ++ (S ++ joinL S (q :: r)) := h
    rcases List.mem_append.mp h' with h | h
    · exact .inr ⟨p, List.mem_cons_self, h⟩
    · rcases List.mem_append.mp h with h | h
      · exact .inl h
      · rcases joinL_mem h with h | ⟨z, hz, h⟩
        · exact .inl h
        · exact .inr ⟨z, List.mem_cons_of_mem _ hz, h⟩
theorem row_free {ws : List Str} (h : ∀ p ∈ ws, 32 ∉ tl p ∧ 10 ∉ tl p) : 10 ∉ tl (Txt.join " " ws) := by
  rw [tl_J, tl_sp]
  intro z
  rcases joinL_mem z with z | ⟨p, hp, z⟩
  · simp at z
  · obtain ⟨w, hw, rfl⟩ := List.mem_map.mp hp
    exact (h w hw).2 z
/-! ### lengths -/
theorem joinL_len {S : List Nat} {k : Nat} : ∀ {ps : List (List Nat)}, (∀ p ∈ ps, p.length ≤ k) → (joinL S ps).length ≤ ps.length * (k + S.length)
  | [], _ => by simp [joinL]
  | [p], h => by
    have := h p List.mem_cons_self
    show p.length ≤ 1 * _
    omega
  | p :: q :: r, h => by
    have h1 := h p List.mem_cons_self
    have h2 := joinL_len (S := S) (ps := q :: r) fun z hz => h z (List.mem_cons_of_mem _ hz)
    show (p ++ (S ++ joinL S (q :: r))).length ≤ _
    rw [List.length_append, List.length_append, List.length_cons]
    rw [Nat.add_mul]
    omega
theorem lit_len {x : String} {n : Nat} (h : (tl (Str.ofString x)).length = n) : (Str.ofString x).length = n := by rw [len_tl]; exact h
theorem J_len {ws : List Str} {k : Nat} (h : ∀ p ∈ ws, p.length ≤ k) : (Txt.join " " ws).length ≤ ws.length * (k + 1) := by
  rw [len_tl, tl_J, tl_sp]
  have := joinL_len (S := [32]) (ps := ws.map tl) (k := k) fun p hp => by
    obtain ⟨w, hw, rfl⟩ := List.mem_map.mp hp
    rw [← len_tl]
    exact h w hw
  rw [List.length_map] at this
  exact this
theorem boxW_len {b : Int × Int} (h1 : okN b.1) (h2 : okN b.2) : ∀ p ∈ boxW b, p.length ≤ 4 := by
  intro p hp
  have l1 := iS_len h1
  have l2 := iS_len h2
  simp only [boxW, List.mem_cons, List.not_mem_nil, or_false] at hp
  rcases hp with rfl | rfl | rfl
  · rw [lit_len (n := 3) (by decide +kernel)]; decide
  · omega
  · omega
theorem knW_len {k : Int} (h1 : okN k) : ∀ p ∈ knW k, p.length ≤ 4 := by
  intro p hp
  have l1 := iS_len h1
  simp only [knW, List.mem_cons, List.not_mem_nil, or_false] at hp
  rcases hp with rfl | rfl
  · rw [lit_len (n := 4) (by decide +kernel)]; decide
  · omega
theorem stepW_len {x : Sp'} (h : okW x) : (∀ p ∈ stepW x, p.length ≤ 4) ∧ (stepW x).length ≤ 15 := by
  cases x with
  | inn =>
    refine ⟨fun p hp => ?_, by simp [stepW]⟩
    simp only [stepW, List.mem_cons, List.not_mem_nil, or_false] at hp
    subst hp
    rw [lit_len (n := 2) (by decide +kernel)]; decide
  | put b v =>
    have l1 := iS_len h.1
    have l2 := iS_len h.2
    refine ⟨fun p hp => ?_, by simp [stepW]⟩
    simp only [stepW, List.mem_cons, List.not_mem_nil, or_false] at hp
    rcases hp with rfl | rfl | rfl
    · rw [lit_len (n := 3) (by decide +kernel)]; decide
    · omega
    · omega
  | go b ns g =>
    have l1 := iS_len h.1
    have l2 := iS_len h.2.1
    refine ⟨fun p hp => ?_, ?_⟩
    · simp only [stepW, List.mem_cons] at hp
      rcases hp with rfl | rfl | rfl | rfl | hp
      · rw [lit_len (n := 2) (by decide +kernel)]; decide
      · omega
      · rw [lit_len (n := 2) (by decide +kernel)]; decide
      · omega
      · split at hp
        · cases hp
        · rcases List.mem_cons.mp hp with rfl | hp
          · rw [lit_len (n := 2) (by decide +kernel)]; decide
          · obtain ⟨n, hn, rfl⟩ := List.mem_map.mp hp
            have := iS_len (h.2.2.1 n hn)
            omega
    · have := h.2.2.2
      simp only [stepW, List.length_cons]
      by_cases hn : ns = []
      · simp [hn]
      · simp only [hn, if_false, List.length_cons, List.length_map]
        omega
theorem boxS_len {b : Int × Int} (h1 : okN b.1) (h2 : okN b.2) : (boxS b).length ≤ 100 := by
  rw [box_J]
  have := J_len (boxW_len h1 h2)
  have l : (boxW b).length = 3 := rfl
  omega
theorem knS_len {k : Int} (h1 : okN k) : (knS k).length ≤ 100 := by
  rw [kn_J]
  have := J_len (knW_len h1)
  have l : (knW k).length = 2 := rfl
  omega
theorem stepS_len {x : Sp'} (h : okW x) : (stepS x).length ≤ 100 := by
  rw [step_J]
  obtain ⟨q1, q2⟩ := stepW_len h
  have := J_len q1
  omega
/-! ### a gate's rows are well made -/
theorem ok_step {bx : List (Int × Int)} {m : Int} (hb : bx.length ≤ 12) (h9 : ∀ b ∈ bx, 0 ≤ b.1 ∧ b.1 ≤ b.2 ∧ b.2 ≤ 9) (hm : m ≤ 24) : ∀ {x : Sp'}, OkStep bx m x → okW x
  | .put b v, h => by
    obtain ⟨⟨b1, b2⟩, v1, v2⟩ := h
    have hi : b.toNat < bx.length := by omega
    have := (h9 bx[b.toNat] (List.getElem_mem hi)).2.2
    have e : mostOf bx b = bx[b.toNat].2 := by unfold mostOf; rw [List.getElem?_eq_getElem hi]; rfl
    exact ⟨⟨b1, by omega⟩, v1, by omega⟩
  | .go b ns g, h => by
    obtain ⟨⟨b1, b2⟩, _, n10, hn, g1, g2⟩ := h
    have hi : b.toNat < bx.length := by omega
    have := (h9 bx[b.toNat] (List.getElem_mem hi)).2.2
    have e : mostOf bx b = bx[b.toNat].2 := by unfold mostOf; rw [List.getElem?_eq_getElem hi]; rfl
    exact ⟨⟨b1, by omega⟩, ⟨by omega, by omega⟩, fun n z => by
      have := hn n z
      exact ⟨this.1, by omega⟩, n10⟩
theorem ok_hand {g : Gt} (G : Good g) {h : Hand} (hh : h ∈ g.2) : okN h.1 ∧ (∀ x ∈ h.2, okW x) ∧ h.2.length ≤ 24 := by
  have O := G.hand h hh
  obtain ⟨p, p1, p2, p3, p4, p5⟩ := O.ex
  have hp : p < h.2.length := (List.getElem?_eq_some_iff.mp p2).1
  have := O.len
  refine ⟨⟨by omega, by omega⟩, fun x hx => ?_, this.2⟩
  obtain ⟨i, hi⟩ := List.mem_iff_getElem?.mp hx
  by_cases e : i = p
  · subst e
    rw [p2] at hi
    cases hi
    trivial
  · exact ok_step (m := h.2.length) G.boxes.2 G.box (by omega) (p5 i x e hi)
theorem ok_box {g : Gt} (G : Good g) {b : Int × Int} (hb : b ∈ g.1) : okN b.1 ∧ okN b.2 := by
  have := G.box b hb
  exact ⟨⟨by omega, by omega⟩, by omega, by omega⟩
theorem flat_len {α β : Type} (f : α → List β) (k : Nat) : ∀ l : List α, (∀ a ∈ l, (f a).length ≤ k) → (l.map f).flatten.length ≤ l.length * k
  | [], _ => by simp
  | a :: l, h => by
    have h1 := h a List.mem_cons_self
    have h2 := flat_len f k l fun b hb => h b (List.mem_cons_of_mem _ hb)
    rw [List.map_cons, List.flatten_cons, List.length_append, List.length_cons, Nat.add_mul]
    omega
theorem lines_len {g : Gt} (G : Good g) : (linesS g).length ≤ 112 := by
  have h1 := G.boxes
  have h2 := G.hands
  have h3 := flat_len handS 25 g.2 fun h hh => by
    have := (ok_hand G hh).2.2
    show (knS h.1 :: h.2.map stepS).length ≤ _
    rw [List.length_cons, List.length_map]
    omega
  unfold linesS
  rw [List.length_append, List.length_map]
  omega
theorem lines_ne {g : Gt} (G : Good g) : linesS g ≠ [] := by
  have h1 := G.boxes
  intro e
  have := congrArg List.length e
  unfold linesS at this
  rw [List.length_append, List.length_map] at this
  simp only [List.length_nil] at this
  omega
theorem line_all {g : Gt} (G : Good g) {P : Str → Prop} (h1 : ∀ b, okN b.1 → okN b.2 → P (boxS b)) (h2 : ∀ k, okN k → P (knS k)) (h3 : ∀ x, okW x → P (stepS x)) : ∀ l ∈ linesS g, P l := by
  intro l hl
  unfold linesS at hl
  rcases List.mem_append.mp hl with hl | hl
  · obtain ⟨b, hb, rfl⟩ := List.mem_map.mp hl
    exact h1 b (ok_box G hb).1 (ok_box G hb).2
  · obtain ⟨q, hq, hl⟩ := List.mem_flatten.mp hl
    obtain ⟨h, hh, rfl⟩ := List.mem_map.mp hq
    obtain ⟨o1, o2, _⟩ := ok_hand G hh
    rcases List.mem_cons.mp hl with rfl | hl
    · exact h2 _ o1
    · obtain ⟨x, hx, rfl⟩ := List.mem_map.mp hl
      exact h3 x (o2 x hx)
theorem line_len {g : Gt} (G : Good g) : ∀ l ∈ linesS g, l.length ≤ 100 := line_all G (fun _ => boxS_len) (fun _ => knS_len) (fun _ => stepS_len)
theorem line_free {g : Gt} (G : Good g) : ∀ l ∈ linesS g, 10 ∉ tl l := line_all G (fun b h1 h2 => by rw [box_J]; exact row_free (box_free h1 h2)) (fun k h => by rw [kn_J]; exact row_free (kn_free h)) (fun x h => by rw [step_J]; exact row_free (step_free h))
theorem split_text {g : Gt} (G : Good g) : Txt.split (textS g) "\n" = linesS g := split_join tl_nl nl_k (lines_ne G) (line_free G)
theorem text_len {g : Gt} (G : Good g) : (textS g).length ≤ 12000 := by
  unfold textS
  rw [len_tl, tl_J, tl_nl]
  have h := joinL_len (S := [10]) (ps := (linesS g).map tl) (k := 100) fun p hp => by
    obtain ⟨w, hw, rfl⟩ := List.mem_map.mp hp
    rw [← len_tl]
    exact line_len G w hw
  rw [List.length_map] at h
  have := lines_len G
  simp only [List.length_cons, List.length_nil] at h
  omega
theorem sum_len {g : Gt} (G : Good g) : ((linesS g).map (·.length)).sum ≤ 11200 := by
  have key : ∀ l : List Str, (∀ x ∈ l, x.length ≤ 100) → (l.map (·.length)).sum ≤ l.length * 100 := by
    intro l
    induction l with
    | nil => simp
    | cons a l ih =>
      intro h
      have h1 := h a List.mem_cons_self
      have h2 := ih fun x hx => h x (List.mem_cons_of_mem _ hx)
      rw [List.map_cons, List.sum_cons, List.length_cons, Nat.add_mul]
      omega
  have := key _ (line_len G)
  have := lines_len G
  omega
end Ab

namespace Ab
open PySem PySem.Spec PyProof.Rows L2
/-- hands built, and one step drawn anew -/
def okStepB (bx : List (Int × Int)) (many : Int) : Sp' → Bool
  | .put b v => decide (0 ≤ b) && decide (b < bx.length) && decide (0 ≤ v) && decide (v ≤ mostOf bx b)
  | .go b ns g => decide (0 ≤ b) && decide (b < bx.length) && decide (ns.Pairwise (· < ·)) && decide (ns.length ≤ 10) && ns.all (fun n => decide (0 ≤ n) && decide (n ≤ mostOf bx b)) && decide (1 ≤ g) && decide (g < many)
  | .inn => false
theorem okStepB_ok {bx : List (Int × Int)} {many : Int} {x : Sp'} (h : okStepB bx many x = true) : OkStep bx many x := by
  cases x with
  | put b v =>
    simp only [okStepB, Bool.and_eq_true, decide_eq_true_eq] at h
    exact ⟨⟨h.1.1.1, h.1.1.2⟩, h.1.2, h.2⟩
  | go b ns g =>
    simp only [okStepB, Bool.and_eq_true, decide_eq_true_eq, List.all_eq_true] at h
    exact ⟨⟨h.1.1.1.1.1.1, h.1.1.1.1.1.2⟩, h.1.1.1.1.2, h.1.1.1.2, h.1.1.2, h.1.2, h.2⟩
  | inn => cases h
def okHandB (bx : List (Int × Int)) (h : Hand) (p : Nat) : Bool := decide (2 ≤ h.2.length) && decide (h.2.length ≤ 24) && decide (0 < p) && decide (1 ≤ h.1) && decide (h.1 ≤ p) && (match h.2[p]? with
  | some .inn => true
  | _ => false) && (List.range h.2.length).all fun i => decide (i = p) || (match h.2[i]? with
  | some x => okStepB bx h.2.length x
  | none => true)
theorem okHandB_ok {bx : List (Int × Int)} {h : Hand} {p : Nat} (e : okHandB bx h p = true) : OkHand bx h := by
  simp only [okHandB, Bool.and_eq_true, decide_eq_true_eq, List.all_eq_true, Bool.or_eq_true] at e
  obtain ⟨⟨⟨⟨⟨⟨a1, a2⟩, a3⟩, a4⟩, a5⟩, a6⟩, a7⟩ := e
  refine ⟨⟨a1, a2⟩, p, a3, ?_, a4, a5, fun i x hi ex => ?_⟩
  · revert a6
    cases q : h.2[p]? with
    | none => intro z; cases z
    | some y => cases y with
      | inn => intro _; rfl
      | put _ _ => intro z; cases z
      | go _ _ _ => intro z; cases z
  · have hlt : i < h.2.length := (List.getElem?_eq_some_iff.mp ex).1
    rcases a7 i (List.mem_range.mpr hlt) with z | z
    · exact absurd z hi
    · rw [ex] at z
      exact okStepB_ok z
def goodB (g : Gt) (ps : List Nat) : Bool := decide (1 ≤ g.1.length) && decide (g.1.length ≤ 12) && g.1.all (fun b => decide (0 ≤ b.1) && decide (b.1 ≤ b.2) && decide (b.2 ≤ 9)) && decide (1 ≤ g.2.length) && decide (g.2.length ≤ 4) && decide (ps.length = g.2.length) && (g.2.zip ps).all (fun q => okHandB g.1 q.1 q.2) && decide (sizeG g ≤ 5000) && decide (prodL (g.1.map fun b => (b.2 + 1).toNat) ≤ 32)
theorem goodB_ok {g : Gt} {ps : List Nat} (e : goodB g ps = true) : GoodS g := by
  simp only [goodB, Bool.and_eq_true, decide_eq_true_eq, List.all_eq_true] at e
  obtain ⟨⟨⟨⟨⟨⟨⟨⟨a1, a2⟩, a3⟩, a4⟩, a5⟩, a6⟩, a7⟩, a8⟩, a9⟩ := e
  refine ⟨⟨a1, a2⟩, fun b hb => ⟨(a3 b hb).1.1, (a3 b hb).1.2, (a3 b hb).2⟩, ⟨a4, a5⟩, fun h hh => ?_, a8, a9⟩
  obtain ⟨i, hi⟩ := List.mem_iff_getElem?.mp hh
  have hlt : i < ps.length := by rw [a6]; exact (List.getElem?_eq_some_iff.mp hi).1
  exact okHandB_ok (a7 (h, ps[i]) (List.mem_of_getElem? (i := i) (by rw [List.getElem?_zip_eq_some]; exact ⟨hi, List.getElem?_eq_getElem hlt⟩)))
theorem good_cnt : ∀ n : Nat, 1 ≤ n → n ≤ 5 → GoodS (cntG n) := by
  intro n h1 h2
  have h : n = 1 ∨ n = 2 ∨ n = 3 ∨ n = 4 ∨ n = 5 := by omega
  rcases h with rfl | rfl | rfl | rfl | rfl
  · exact goodB_ok (ps := [5]) (by decide +kernel)
  · exact goodB_ok (ps := [9]) (by decide +kernel)
  · exact goodB_ok (ps := [13]) (by decide +kernel)
  · exact goodB_ok (ps := [17]) (by decide +kernel)
  · exact goodB_ok (ps := [21]) (by decide +kernel)
end Ab

namespace Ab
open PySem PySem.Spec PyProof.Rows L2
theorem cut_take {α : Type} (xs : List α) {i : Int} (h0 : 0 ≤ i) (h1 : i ≤ xs.length) : cut xs none (some i) = xs.take i.toNat := by
  unfold cut HT.sIx
  simp only
  rw [if_neg (by omega)]
  simp only [List.drop_zero, Nat.sub_zero]
  rw [Nat.min_eq_left (by omega)]
theorem cut_drop {α : Type} (xs : List α) {i : Int} (h0 : 0 ≤ i) (h1 : i ≤ xs.length) : cut xs (some i) none = xs.drop i.toNat := by
  unfold cut HT.sIx
  simp only
  rw [if_neg (by omega), Nat.min_eq_left (by omega), List.take_of_length_le (by rw [List.length_drop]; exact Nat.le_refl _)]
theorem ok_put : PyData.strOk "put" = true := by decide +kernel
theorem ok_go : PyData.strOk "go" = true := by decide +kernel
theorem ok_in : PyData.strOk "in" = true := by decide +kernel
theorem okL_ints (l : List Int) (n : Nat) : okL (l.map D.int) n = true := by
  induction l with
  | nil => rfl
  | cons a l ih => simp [okL, okD, ih]
theorem okD_st (x : Sp') : okD x.d 8 = true := by
  cases x with
  | put b v => simp [Sp'.d, okD, okL, ok_put]
  | go b ns g => simp [Sp'.d, okD, okL, ok_go, okL_ints]
  | inn => simp [Sp'.d, okD, okL, ok_in]
def Sp'.isIn : Sp' → Bool
  | .inn => true
  | _ => false
theorem s_pi : ((Str.ofString "put") == (Str.ofString "in")) = false := by decide +kernel
theorem s_gi : ((Str.ofString "go") == (Str.ofString "in")) = false := by decide +kernel
theorem ne_inn (x : Sp') (M : Mem) : vNe (.dat x.d) (.dat (.tup [.str "in"])) M = .ok (.dat (.bl (!x.isIn))) M := by
  have h1 := okD_st x
  have h2 : okD (.tup [.str "in"]) 8 = true := okD_st .inn
  unfold vNe
  simp only [view_dat, h1, h2, and_self, if_true]
  cases x with
  | put b v => simp [Sp'.d, Sp'.isIn, s_pi]
  | go b ns g => simp [Sp'.d, Sp'.isIn, s_gi]
  | inn => simp [Sp'.d, Sp'.isIn]
theorem set_cut {α : Type} (l : List α) {i : Nat} (h : i < l.length) (x : α) : l.take i ++ [x] ++ l.drop (i + 1) = l.set i x := by
  rw [List.set_eq_take_append_cons_drop, if_pos h]
  simp
theorem add_take {l : List D} (h : l.length ≤ 1000) (i : Nat) (a : D) (M : Mem) : vAdd (.dat (.lst (l.take i))) (.dat (.lst [a])) M = .ok (.dat (.lst (l.take i ++ [a]))) M := by
  have : (l.take i).length + [a].length ≤ SZ := by rw [List.length_take, SZ_val]; simp; omega
  show (if (l.take i).length + [a].length ≤ SZ then _ else _) = _
  rw [if_pos this]
theorem add_drop {l : List D} (h : l.length ≤ 1000) (i j : Nat) (a : D) (M : Mem) : vAdd (.dat (.lst (l.take i ++ [a]))) (.dat (.lst (l.drop j))) M = .ok (.dat (.lst (l.take i ++ [a] ++ l.drop j))) M := by
  have : (l.take i ++ [a]).length + (l.drop j).length ≤ SZ := by rw [List.length_append, List.length_take, List.length_drop, SZ_val]; simp; omega
  show (if (l.take i ++ [a]).length + (l.drop j).length ≤ SZ then _ else _) = _
  rw [if_pos this]
theorem at_int {α : Type} (l : List α) {i : Int} (h0 : 0 ≤ i) (h1 : i < l.length) : ∃ h : i.toNat < l.length, atI l i = some l[i.toNat] := by
  have hlt : i.toNat < l.length := by omega
  refine ⟨hlt, ?_⟩
  have e : i = (i.toNat : Int) := by omega
  refine (congrArg (atI l) e).trans ?_
  rw [atI_nat, List.getElem?_eq_getElem hlt]
end Ab

namespace Ab
open PySem PySem.Spec PyProof.Rows L2
theorem y_abs (i : Int) (M : Mem) : vAbs [.dat (.int i)] M = .ok (.dat (.int (if i < 0 then -i else i))) M := rfl
noncomputable abbrev t_mix : Es := (sSet 2 (eBin vMod (eBin vAdd (eBin vMul (eVar 2) (eC (.int 31))) (eApp vAbs (aCons (eVar 3) aNil))) (eC (.int 2147483647))))
theorem for_mix (d : B) : ∀ (ns : List Int) (v : Int) (x1 x3 : Option B), ∃ (v' : Int) (x3' : Option B), forL (gN 3) t_mix (ns.map fun n => .dat (.int n)) [some d, x1, some (.dat (.int v)), x3] [] = .ok (.nx [some d, x1, some (.dat (.int v')), x3']) []
  | [], v, x1, x3 => ⟨v, x3, rfl⟩
  | n :: ns, v, x1, x3 => by
    obtain ⟨v', x', q⟩ := for_mix d ns ((v * 31 + (if n < 0 then -n else n)) % 2147483647) x1 (some (.dat (.int n)))
    refine ⟨v', x', ?_⟩
    rw [List.map_cons]
    unfold forL
    simp [y_mul, y_mod, y_abs]
    exact q
def big (ns : List Int) : List Int := ns.filter fun n => decide ((10 : Int) ^ 18 ≤ n)
theorem y_pow18 (M : Mem) : vPow (.dat (.int 10)) (.dat (.int 18)) M = .ok (.dat (.int (10 ^ 18))) M := rfl
theorem lcL_big (ρ : Rho) (hl : 3 < ρ.length) : ∀ (ns acc : List Int), acc.length + ns.length < 1000 →
    lcL 0 (gN 3) (tV (eBin vGe (eVar 3) (eBin vPow (eC (.int 10)) (eC (.int 18))))) (eVar 3) ρ (ns.map fun n => .dat (.int n)) [some (.lst (acc.map ib))] = .ok () [some (.lst ((acc ++ big ns).map ib))]
  | [], acc, h => by simp [lcL, big]
  | n :: ns, acc, h => by
    rw [List.length_cons] at h
    have e3 : (ρ.set 3 (some (.dat (.int n))))[3]? = some (some (.dat (.int n))) := List.getElem?_set_self hl
    have hz : (acc.map ib).length < SZ := by rw [List.length_map, SZ_val]; omega
    rw [List.map_cons]
    unfold lcL
    simp only [x_gn, x_tv, x_bin, x_var, e3, x_c, Res.bind_ok, y_pow18, y_ge]
    by_cases hb : (10 : Int) ^ 18 ≤ n
    · have ih := lcL_big ρ hl ns (acc ++ [n]) (by rw [List.length_append, List.length_singleton]; omega)
      have e : big (n :: ns) = n :: big ns := by
        unfold big
        rw [List.filter_cons_of_pos (by simpa using hb)]
      simp only [hb, decide_true, if_true, Res.bind_ok, List.getElem?_cons_zero, hz, List.set_cons_zero]
      rw [e]
      rw [List.map_append, List.append_assoc] at ih
      exact ih
    · have ih := lcL_big ρ hl ns acc (by omega)
      have e : big (n :: ns) = big ns := by
        unfold big
        rw [List.filter_cons_of_neg (by simpa using hb)]
      simp only [hb, decide_false, Bool.false_eq_true, if_false]
      rw [e]
      exact ih
theorem fin_O0 (ds : List D) : finO 0 (.ok (.own 0) [some (.lst (ds.map .dat))]) = .ok (.own 0) [some (.lst (ds.map .dat))] := by
  unfold finO
  simp only [Res.bind_ok, List.take_zero, Nat.le_refl, true_and, List.getElem?_cons_zero, dats_map]
  rfl
theorem scrI_at (K : PySem.W.Frag) (ns : List Int) : scrI K (.dat (.scr K ns)) = some ns := by
  unfold scrI
  simp
theorem e_dice (K : PySem.W.Frag) (ns : List Int) (hn : ns.length ≤ 63) : ∃ s : DI, f_law_dice K [.dat (.scr K ns), .dat (.int 0)] [] = .ok (.own 0) [some (dl s)] := by
  obtain ⟨v', x3', q⟩ := for_mix (.dat (.scr K ns)) ns 0 (some (.dat (.int 0))) none
  refine ⟨(v', 0, big ns), ?_⟩
  have l := lcL_big [some (.dat (.scr K ns)), some (.dat (.int 0)), some (.dat (.int v')), none] (by simp) ns [] (by simp; omega)
  have hf := fz_end (M := []) (k := 0) rfl ((big ns).map .int)
  rw [List.map_map] at hf
  have hlc : eLCS K [3] (gN 3) (eVar 0) (tV (eBin vGe (eVar 3) (eBin vPow (eC (.int 10)) (eC (.int 18))))) (eVar 3) [some (.dat (.scr K ns)), some (.dat (.int 0)), some (.dat (.int v')), x3'] [] = .ok (.own 0) [some (.lst ((big ns).map ib))] := by
    unfold eLCS
    simp only [x_var, List.getElem?_cons_zero, Res.bind_ok, scrI_at]
    unfold lcAll
    have w : wipeR [some (.dat (.scr K ns)), some (.dat (.int 0)), some (.dat (.int v')), x3'] [3] = [some (.dat (.scr K ns)), some (.dat (.int 0)), some (.dat (.int v')), none] := rfl
    rw [w]
    have l' : lcL ([] : Mem).length (gN 3) (tV (eBin vGe (eVar 3) (eBin vPow (eC (.int 10)) (eC (.int 18))))) (eVar 3) [some (.dat (.scr K ns)), some (.dat (.int 0)), some (.dat (.int v')), none] (ns.map fun n => .dat (.int n)) ([] ++ [some (.lst [])]) = .ok () [some (.lst ((big ns).map ib))] := l
    rw [l']
    rfl
  have hfz : eFz (eLCS K [3] (gN 3) (eVar 0) (tV (eBin vGe (eVar 3) (eBin vPow (eC (.int 10)) (eC (.int 18))))) (eVar 3)) [some (.dat (.scr K ns)), some (.dat (.int 0)), some (.dat (.int v')), x3'] [] = .ok (.dat (.lst ((big ns).map .int))) [] := by
    rw [x_fz, hlc]
    simp only [Res.bind_ok, List.length_nil]
    have hf' : fzN 0 [some (.lst ((big ns).map ib))] 4 (.own 0) = some (.lst ((big ns).map .int)) := hf
    rw [hf']
    rfl
  have sf : sForS K (gN 3) (eVar 0) t_mix [some (.dat (.scr K ns)), some (.dat (.int 0)), some (.dat (.int 0)), none] [] = .ok (.nx [some (.dat (.scr K ns)), some (.dat (.int 0)), some (.dat (.int v')), x3']) [] := by
    unfold sForS
    simp only [x_var, List.getElem?_cons_zero, Res.bind_ok, scrI_at]
    exact q
  unfold f_law_dice t_law_dice
  generalize hU : eFz (eLCS K [3] (gN 3) (eVar 0) (tV (eBin vGe (eVar 3) (eBin vPow (eC (.int 10)) (eC (.int 18))))) (eVar 3)) = U at hfz
  simp [sf, hfz]
  have hbig : (big ns).length ≤ 63 := Nat.le_trans (List.length_filter_le _ _) hn
  have ha : vAddL (.dat (.lst [.int v', .int 0])) (.dat (.lst ((big ns).map .int))) [] = .ok (.own 0) [some (.lst ((D.int v' :: .int 0 :: (big ns).map .int).map .dat))] := by
    simp [vAddL, isL, vAddO, els, newL]
    omega
  rw [ha]
  simp only [Res.bind_ok, x_o2]
  rw [fin_O0]
  simp [dl, ib, Function.comp_def]
end Ab

namespace Ab
open PySem PySem.Spec PyProof.Rows L2
theorem e_must (a b c : B) : f_must [.dat (.bl true), a, b, c] [] = .ok (.dat .non) [] := rfl
theorem c_must (a b c : B) (M : Mem) (h : [a, b, c].all vd = true) : doCallA 4 0 f_must [.dat (.bl true), a, b, c] M = .ok (.dat .non) M := call_0v (by simpa [vd] using h) (e_must a b c) rfl
theorem e_rising {l : List Int} (h : l.Pairwise (· < ·)) (hl : l.length ≤ 10) : f_is_rising [.dat (.tup (l.map .int))] [] = .ok (.dat (.bl true)) [] := by
  have ai : asInts (l.map .int) = some l := by
    unfold asInts
    rw [List.map_map]
    exact (congrArg optAll (List.map_congr_left fun i _ => rfl)).trans (optAll_some l)
  have ss := sset_self h
  have ok : okD (.tup (l.map .int)) 8 = true := by
    show okL (l.map .int) 7 = true
    exact okL_ints l 7
  have eq : eqD (.tup (l.map .int)) (.tup (l.map .int)) = true := eqD_self ok
  have l60 : l.length < 60 := by omega
  unfold f_is_rising t_is_rising
  simp [vSset, ai, ss, l60, vEq, ok, -eqD_tup]
  rw [eq]
end Ab

namespace Ab
open PySem PySem.Spec PyProof.Rows L2
theorem c_rising {l : List Int} (h : l.Pairwise (· < ·)) (hl : l.length ≤ 10) (M : Mem) : doCallA 1 0 f_is_rising [.dat (.tup (l.map .int))] M = .ok (.dat (.bl true)) M := call_0v rfl (e_rising h hl) rfl
theorem y_fldO {M : Mem} {k : Nat} {C : Addr} {fs : List (Str × B)} (h : M[k]? = some (some (.ins C fs))) (f : Str) : fldB C f (.own k) M = fs.lookup f := by simp [fldB, h]
theorem s_bb : (Str.ofString "kept_boxes" == Str.ofString "kept_boxes") = true := by decide +kernel
theorem s_hb : (Str.ofString "kept_hands" == Str.ofString "kept_boxes") = false := by decide +kernel
theorem s_hh : (Str.ofString "kept_hands" == Str.ofString "kept_hands") = true := by decide +kernel
abbrev gfs (bx : List (Int × Int)) (hs : List Hand) : List (Str × B) := [("kept_boxes", .dat (.lst (bx.map boxD))), ("kept_hands", .dat (.lst (hs.map handD)))]
theorem look_b (bx : List (Int × Int)) (hs : List Hand) : (gfs bx hs).lookup (Str.ofString "kept_boxes") = some (B.dat (.lst (bx.map boxD))) := by
  simp [gfs, List.lookup, s_bb]
theorem look_h (bx : List (Int × Int)) (hs : List Hand) : (gfs bx hs).lookup (Str.ofString "kept_hands") = some (B.dat (.lst (hs.map handD))) := by
  simp [gfs, List.lookup, s_hb, s_hh]
abbrev gC (C : Addr) (bx : List (Int × Int)) (hs : List Hand) : Cell := .ins C (gfs bx hs)
theorem fld_b (C : Addr) (bx : List (Int × Int)) (hs : List Hand) (Mr : Mem) : fldB C "kept_boxes" (.own 0) (some (gC C bx hs) :: Mr) = some (.dat (.lst (bx.map boxD))) := (y_fldO rfl _).trans (look_b bx hs)
theorem fld_h (C : Addr) (bx : List (Int × Int)) (hs : List Hand) (Mr : Mem) : fldB C "kept_hands" (.own 0) (some (gC C bx hs) :: Mr) = some (.dat (.lst (hs.map handD))) := (y_fldO rfl _).trans (look_h bx hs)
theorem eq_inn (x : Sp') (M : Mem) : vEq (.dat x.d) (.dat (.tup [.str "in"])) M = .ok (.dat (.bl x.isIn)) M := by
  have h1 := okD_st x
  have h2 : okD (.tup [.str "in"]) 8 = true := okD_st .inn
  unfold vEq
  simp only [view_dat, h1, h2, and_self, if_true]
  cases x with
  | put b v => simp [Sp'.d, Sp'.isIn, s_pi]
  | go b ns g => simp [Sp'.d, Sp'.isIn, s_gi]
  | inn => simp [Sp'.d, Sp'.isIn]
theorem s_gp : (Str.ofString "go" == Str.ofString "put") = false := by decide +kernel
theorem eq_pp (M : Mem) : vEq (.dat (.str "put")) (.dat (.str "put")) M = .ok (.dat (.bl true)) M := by simp [vEq, okD, ok_put]
theorem eq_gp (M : Mem) : vEq (.dat (.str "go")) (.dat (.str "put")) M = .ok (.dat (.bl false)) M := by simp [vEq, okD, ok_put, ok_go, s_gp]
theorem ne_gg (M : Mem) : vNe (.dat (.str "go")) (.dat (.str "go")) M = .ok (.dat (.bl false)) M := by simp [vNe, okD, ok_go]
theorem fin_gC (C : Addr) (bx : List (Int × Int)) (hs : List Hand) (d : D) (M : Mem) : finD 1 (.ok (.dat d) (some (gC C bx hs) :: M)) = .ok (.dat d) [some (gC C bx hs)] := rfl
theorem step_box {bx : List (Int × Int)} {b : Int} (h : 0 ≤ b ∧ b < bx.length) : ∃ f, atI (bx.map boxD) b = some (.tup [.int f, .int (mostOf bx b)]) := by
  obtain ⟨hi, e⟩ := at_int bx h.1 h.2
  refine ⟨bx[b.toNat].1, ?_⟩
  rw [atI_map, e]
  show some (boxD _) = _
  unfold boxD mostOf
  rw [List.getElem?_eq_getElem hi]
  rfl
theorem lcL_in {m : Int} {c0 : Cell} (ρ : Rho) (hl : ρ.length = 5) (h3 : ρ[3]? = some (some (.dat (.int m)))) : ∀ (ns : List Int) (n : Nat), (∀ i ∈ ns, 0 ≤ i ∧ i ≤ m) → n + ns.length < 1000 →
    lcL 1 (gN 4) tY (eCh vLe vLe (eC (.int 0)) (eVar 4) (eVar 3)) ρ (ns.map fun i => .dat (.int i)) [some c0, some (.lst (List.replicate n (.dat (.bl true))))] = .ok () [some c0, some (.lst (List.replicate (n + ns.length) (.dat (.bl true))))]
  | [], n, _, _ => by simp [lcL]
  | i :: ns, n, h, hn => by
    rw [List.length_cons] at hn
    have hi := h i List.mem_cons_self
    have e4 : (ρ.set 4 (some (.dat (.int i))))[4]? = some (some (.dat (.int i))) := List.getElem?_set_self (by omega)
    have e3 : (ρ.set 4 (some (.dat (.int i))))[3]? = some (some (.dat (.int m))) := by rw [List.getElem?_set_ne (by decide)]; exact h3
    have hz : (List.replicate n (B.dat (.bl true))).length < SZ := by rw [List.length_replicate, SZ_val]; omega
    have ih := lcL_in (c0 := c0) ρ hl h3 ns (n + 1) (fun j hj => h j (List.mem_cons_of_mem _ hj)) (by omega)
    have er : List.replicate n (B.dat (.bl true)) ++ [.dat (.bl true)] = List.replicate (n + 1) (.dat (.bl true)) := (List.replicate_succ' ..).symm
    rw [List.map_cons]
    unfold lcL
    simp only [x_gn, x_ty1, x_ch, x_var, e3, e4, x_c, Res.bind_ok, y_le, hi.1, hi.2, decide_true, if_true, List.getElem?_cons_succ, List.getElem?_cons_zero, hz, List.set_cons_succ, List.set_cons_zero, er]
    rw [ih, List.length_cons]
    have e : n + 1 + ns.length = n + (ns.length + 1) := by omega
    rw [e]
theorem all_true (n : Nat) (M : Mem) : vAll [.dat (.lst (List.replicate n (.bl true)))] M = .ok (.dat (.bl true)) M := by
  have e : optAll ((List.replicate n (D.bl true)).map asBl) = some (List.replicate n true) := by
    have e1 : (List.replicate n (D.bl true)).map asBl = (List.replicate n true).map some := by simp [asBl]
    rw [e1]
    exact optAll_some _
  unfold vAll
  simp only [e]
  have : (List.replicate n true).all id = true := by simp
  rw [this]
theorem e_isstep (K : PySem.W.Frag) {bx : List (Int × Int)} {hs : List Hand} {many : Int} (x : Sp') (hx : x = .inn ∨ OkStep bx many x) :
    f_Gate_is_step K f_is_rising [.own 0, .dat x.d, .dat (.int many)] [some (gC (He.ga K "Gate") bx hs)] = .ok (.dat (.bl true)) [some (gC (He.ga K "Gate") bx hs)] := by
  have ei := eq_inn x
  have fb := fld_b (He.ga K "Gate") bx hs []
  have fb2 := fld_b (He.ga K "Gate") bx hs
  unfold f_Gate_is_step t_Gate_is_step
  cases x with
  | inn =>
    simp [ei, Sp'.isIn, fin_gC]
  | put b v =>
    have o : OkStep bx many (.put b v) := hx.resolve_left (by intro z; cases z)
    obtain ⟨f, hf⟩ := step_box o.1
    have o1 := o.1
    have o2 := o.2
    simp only [Sp'.d] at ei ⊢
    simp [ei, Sp'.isIn, fin_gC, fb, o1.1, o1.2, hf, eq_pp, o2.1, o2.2]
  | go b ns g =>
    have o : OkStep bx many (.go b ns g) := hx.resolve_left (by intro z; cases z)
    obtain ⟨f, hf⟩ := step_box o.1
    have o1 := o.1
    have o2 := o.2
    simp only [Sp'.d] at ei ⊢
    simp [ei, Sp'.isIn, fin_gC, fb, o1.1, o1.2, hf, eq_gp, ne_gg, c_rising o2.1 o2.2.1]
    let ρ : Rho := [some (.own 0), some (.dat (.tup [.str "go", .int b, .tup (ns.map .int), .int g])), some (.dat (.int many)), some (.dat (.int (mostOf bx b))), none]
    have l := lcL_in (c0 := gC (He.ga K "Gate") bx hs) ρ rfl rfl ns 0 o2.2.2.1 (by have := o2.2.1; omega)
    have hlc : eLC [4] (gN 4) (eBin vIx (eVar 1) (eC (.int 2))) tY (eCh vLe vLe (eC (.int 0)) (eVar 4) (eVar 3)) ρ [some (gC (He.ga K "Gate") bx hs)] = .ok (.own 1) [some (gC (He.ga K "Gate") bx hs), some (.lst (List.replicate ns.length (.dat (.bl true))))] := by
      have it : eBin vIx (eVar 1) (eC (.int 2)) ρ [some (gC (He.ga K "Gate") bx hs)] = .ok (.dat (.tup (ns.map .int))) [some (gC (He.ga K "Gate") bx hs)] := by simp [ρ]
      have im : items (.dat (.tup (ns.map .int))) = some (ns.map fun i => .dat (.int i)) := by
        show some ((ns.map D.int).map B.dat) = _
        rw [List.map_map]
        rfl
      unfold eLC
      rw [it]
      simp only [Res.bind_ok, im]
      unfold lcAll
      have l' : lcL [some (gC (He.ga K "Gate") bx hs)].length (gN 4) tY (eCh vLe vLe (eC (.int 0)) (eVar 4) (eVar 3)) (wipeR ρ [4]) (ns.map fun i => .dat (.int i)) ([some (gC (He.ga K "Gate") bx hs)] ++ [some (.lst [])]) = .ok () [some (gC (He.ga K "Gate") bx hs), some (.lst (List.replicate (0 + ns.length) (.dat (.bl true))))] := l
      rw [l', Nat.zero_add]
      rfl
    have hf : fzN 1 [some (gC (He.ga K "Gate") bx hs), some (.lst (List.replicate ns.length (.dat (.bl true))))] 4 (.own 1) = some (.lst (List.replicate ns.length (.bl true))) := by
      have q := fz_end (M := [some (gC (He.ga K "Gate") bx hs)]) (k := 1) rfl (List.replicate ns.length (.bl true))
      rw [List.map_replicate] at q
      exact q
    have hlow : lowM 1 [some (gC (He.ga K "Gate") bx hs)] = true := rfl
    simp only [ρ] at hlc
    rw [hlc]
    simp [hf, hlow, all_true, o2.2.2.2.1, o2.2.2.2.2, fin_gC]
end Ab

namespace Ab
open PySem PySem.Spec PyProof.Rows L2
/-- a def with one cell handed in, that it leaves as it is -/
theorem call_c {fs : Fn} {c : Cell} {d : D} {xs : List B} {ar : Nat} (hl : lowC 1 c = true) (hn : nvC (some c) = true) (hs : ∀ m, shC 1 m (some c) = some c) (h : fs (.own 0 :: xs) [some c] = .ok (.dat d) [some c]) (hx : xs.all vd = true) (har : xs.length + 1 = ar) (Mr : Mem) :
    doCallA ar 1 fs (.own 0 :: xs) (some c :: Mr) = .ok (.dat d) (some c :: Mr) := by
  unfold doCallA doCall
  have e : optAll ((B.own 0 :: xs).map (cvB 1 (some c :: Mr))) = some (.own 0 :: xs) := by
    rw [List.map_cons]
    show optAll (some _ :: _) = _
    unfold optAll
    rw [cv_vd hx]
  have h' : fs (.own 0 :: xs) (List.take 1 (some c :: Mr)) = .ok (.dat d) [some c] := h
  rw [if_pos (by rw [List.length_cons]; exact har), e]
  dsimp only
  rw [if_pos ⟨by simp [lowM, hl], by simp⟩, h']
  dsimp only
  rw [if_pos ⟨rfl, by simp [hn], by simp⟩]
  simp [hs, shB]
theorem c_isstep (K : PySem.W.Frag) {bx : List (Int × Int)} {hs : List Hand} {many : Int} (x : Sp') (hx : x = .inn ∨ OkStep bx many x) (Mr : Mem) :
    doCallA 3 1 (f_Gate_is_step K f_is_rising) [.own 0, .dat x.d, .dat (.int many)] (some (gC (He.ga K "Gate") bx hs) :: Mr) = .ok (.dat (.bl true)) (some (gC (He.ga K "Gate") bx hs) :: Mr) :=
  call_c rfl rfl (fun _ => rfl) (e_isstep K x hx) rfl rfl Mr
theorem s_ib : (Str.ofString "is_step" == Str.ofString "kept_boxes") = false := by decide +kernel
theorem s_ih : (Str.ofString "is_step" == Str.ofString "kept_hands") = false := by decide +kernel
theorem obj_is (C : Addr) (bx : List (Int × Int)) (hs : List Hand) (Mr : Mem) : objB C (Str.ofString "is_step") (.own 0) (some (gC C bx hs) :: Mr) = true := by
  simp [objB, gfs, List.lookup, s_ib, s_ih]
noncomputable abbrev t_chk (K : PySem.W.Frag) : Es := (sExpr (eApp (doCallA 4 0 f_must) (aCons (eMeth (He.ga K "Gate") "is_step" 3 1 (f_Gate_is_step K f_is_rising) (eVar 0) (aCons (eBin vIx (eVar 5) (eVar 2)) (aCons (eApp vLen (aCons (eVar 5) aNil)) aNil))) (aCons (eC (.str "step")) (aCons (eVar 1) (aCons (eVar 2) aNil))))))
theorem for_chk (K : PySem.W.Frag) {bx : List (Int × Int)} {hs : List Hand} {h : Hand} (oh : OkHand bx h) (i : Int) (x3 x4 : Option B) (x4d : x4 = some (.dat (.int h.1))) : ∀ (js : List Int) (x2 : Option B), (∀ j ∈ js, 0 ≤ j ∧ j < h.2.length) → ∃ x2',
    forL (gN 2) (t_chk K) (js.map fun j => .dat (.int j)) [some (.own 0), some (.dat (.int i)), x2, x3, x4, some (.dat (.lst (h.2.map Sp'.d)))] [some (gC (He.ga K "Gate") bx hs)] = .ok (.nx [some (.own 0), some (.dat (.int i)), x2', x3, x4, some (.dat (.lst (h.2.map Sp'.d)))]) [some (gC (He.ga K "Gate") bx hs)]
  | [], x2, _ => ⟨x2, rfl⟩
  | j :: js, x2, hj => by
    obtain ⟨x2', q⟩ := for_chk K oh i x3 x4 x4d js (some (.dat (.int j))) fun k hk => hj k (List.mem_cons_of_mem _ hk)
    refine ⟨x2', ?_⟩
    obtain ⟨p, p1, p2, p3, p4, p5⟩ := oh.ex
    have hjj := hj j List.mem_cons_self
    obtain ⟨hlt, e⟩ := at_int h.2 hjj.1 hjj.2
    have e' : atI (h.2.map Sp'.d) j = some (h.2[j.toNat]).d := by rw [atI_map, e]; rfl
    generalize hx : h.2[j.toNat] = x at e'
    have hg : h.2[j.toNat]? = some x := by rw [List.getElem?_eq_getElem hlt, hx]
    have ok : x = .inn ∨ OkStep bx h.2.length x := by
      by_cases ep : j.toNat = p
      · rw [ep, p2] at hg
        exact .inl (Option.some.inj hg).symm
      · exact .inr (p5 _ x ep hg)
    have cs := c_isstep K (hs := hs) x ok []
    have cm := c_must (.dat (.str "step")) (.dat (.int i)) (.dat (.int j)) [some (gC (He.ga K "Gate") bx hs)] rfl
    have ob := obj_is (He.ga K "Gate") bx hs []
    rw [List.map_cons]
    unfold forL
    simp [e', ob, cs, cm]
    exact q
theorem upto_filter {n p : Int} (h0 : 0 ≤ p) (h1 : p < n) : (upto n).filter (fun j => decide (j = p)) = [p] := by
  have hp := (upto_lt n).filter (fun j => decide (j = p))
  have hm : p ∈ (upto n).filter (fun j => decide (j = p)) := by
    rw [List.mem_filter]
    refine ⟨?_, by simp⟩
    unfold upto
    exact List.mem_map.mpr ⟨p.toNat, List.mem_range.mpr (by omega), by omega⟩
  have ha : ∀ x ∈ (upto n).filter (fun j => decide (j = p)), x = p := fun x hx => by simpa using (List.mem_filter.mp hx).2
  generalize (upto n).filter (fun j => decide (j = p)) = l at *
  cases l with
  | nil => cases hm
  | cons a l =>
    have := ha a List.mem_cons_self
    subst this
    cases l with
    | nil => rfl
    | cons b l =>
      have hb := ha b (by simp)
      rw [List.pairwise_cons] at hp
      have := hp.1 b (by simp)
      omega
end Ab

/-! Comprehensions and loops, evaluated in general. -/
namespace Ab
open PySem PySem.Spec PyProof.Rows L2
theorem lcL_gen {α : Type} {k : Nat} {g : Tg} {t : Et} {e : Ev} {ρ : Rho} {M0 : Mem} (hk : M0.length = k) (β : α → B) (p : α → Bool) (f : α → B) :
    ∀ (xs zs : List α), zs.length + xs.length < 1000000 → (∀ x ∈ xs, ∀ zs : List α, ∃ ρ', g (β x) ρ = some ρ' ∧ t ρ' (M0 ++ [some (.lst (zs.map f))]) = .ok (p x) (M0 ++ [some (.lst (zs.map f))]) ∧ (p x = true → e ρ' (M0 ++ [some (.lst (zs.map f))]) = .ok (f x) (M0 ++ [some (.lst (zs.map f))]))) →
      lcL k g t e ρ (xs.map β) (M0 ++ [some (.lst (zs.map f))]) = .ok () (M0 ++ [some (.lst ((zs ++ xs.filter p).map f))])
  | [], zs, _, _ => by simp [lcL]
  | x :: xs, zs, hl, h => by
    rw [List.length_cons] at hl
    obtain ⟨ρ', h1, h2, h3⟩ := h x List.mem_cons_self zs
    have hx : ∀ y ∈ xs, ∀ zs : List α, ∃ ρ', g (β y) ρ = some ρ' ∧ t ρ' (M0 ++ [some (.lst (zs.map f))]) = .ok (p y) (M0 ++ [some (.lst (zs.map f))]) ∧ (p y = true → e ρ' (M0 ++ [some (.lst (zs.map f))]) = .ok (f y) (M0 ++ [some (.lst (zs.map f))])) := fun y hy => h y (List.mem_cons_of_mem _ hy)
    have hz : (zs.map f).length < SZ := by rw [List.length_map, SZ_val]; omega
    have hg : (M0 ++ [some (Cell.lst (zs.map f))])[k]? = some (some (.lst (zs.map f))) := by rw [← hk]; simp
    have hs : (M0 ++ [some (Cell.lst (zs.map f))]).set k (some (.lst (zs.map f ++ [f x]))) = M0 ++ [some (.lst ((zs ++ [x]).map f))] := by rw [← hk]; simp
    rw [List.map_cons]
    unfold lcL
    rw [h1]
    dsimp only
    rw [h2]
    dsimp only [Res.bind_ok]
    cases hp : p x with
    | true =>
      have e1 := h3 hp
      rw [if_pos rfl, e1]
      dsimp only [Res.bind_ok]
      rw [hg]
      dsimp only
      rw [if_pos hz, hs]
      have ih := lcL_gen hk β p f xs (zs ++ [x]) (by rw [List.length_append, List.length_singleton]; omega) hx
      rw [ih, List.filter_cons_of_pos hp, List.append_assoc]
      rfl
    | false =>
      rw [if_neg Bool.false_ne_true]
      have ih := lcL_gen hk β p f xs zs (by omega) hx
      rw [ih, List.filter_cons_of_neg (by simp [hp])]
/-- a comprehension that looks at what there is, and makes values -/
theorem lc_own {α : Type} {vs : List Nat} {g : Tg} {t : Et} {e : Ev} {ρ : Rho} {M : Mem} (β : α → B) (p : α → Bool) (f : α → B) (xs : List α) (hl : xs.length < 1000000)
    (h : ∀ x ∈ xs, ∀ zs : List α, ∃ ρ', g (β x) (wipeR ρ vs) = some ρ' ∧ t ρ' (M ++ [some (.lst (zs.map f))]) = .ok (p x) (M ++ [some (.lst (zs.map f))]) ∧ (p x = true → e ρ' (M ++ [some (.lst (zs.map f))]) = .ok (f x) (M ++ [some (.lst (zs.map f))]))) :
    lcAll vs g t e (xs.map β) ρ M = .ok (.own M.length) (M ++ [some (.lst ((xs.filter p).map f))]) := by
  have q := lcL_gen (t := t) (e := e) (ρ := wipeR ρ vs) (rfl : M.length = M.length) β p f xs [] (by simpa using hl) h
  unfold lcAll
  rw [List.map_nil] at q
  rw [q]
  rfl
theorem low_dat (n : Nat) (ds : List D) : lowC n (.lst (ds.map .dat)) = true := by
  unfold lowC allC
  rw [List.all_eq_true]
  intro b hb
  obtain ⟨d, _, rfl⟩ := List.mem_map.mp hb
  rfl
theorem lowB_mono {n m : Nat} (h : n ≤ m) {b : B} (hb : lowB n b = true) : lowB m b = true := by
  cases b with
  | own k => have : k < n := of_decide_eq_true hb; exact decide_eq_true (by omega)
  | dat d => rfl
  | vw d => rfl
  | ty t => rfl
theorem lowC_mono {n m : Nat} (h : n ≤ m) {c : Cell} (hc : lowC n c = true) : lowC m c = true := by
  induction c with
  | lk ad od u c ih => exact ih hc
  | _ => unfold lowC allC at *; simp only [List.all_eq_true] at *; exact fun b hb => lowB_mono h (hc b hb)
theorem low_snoc {n m : Nat} {M : Mem} (hM : lowM n M = true) (h : n ≤ m) (ds : List D) : lowM m (M ++ [some (.lst (ds.map .dat))]) = true := by
  unfold lowM at *
  rw [List.all_append, Bool.and_eq_true]
  refine ⟨?_, by simp [low_dat]⟩
  rw [List.all_eq_true] at *
  intro o ho
  have := hM o ho
  cases o with
  | none => rfl
  | some c => exact lowC_mono h this
abbrev lstD (ds : List D) : Cell := .lst (ds.map B.dat)
theorem fz_last {M : Mem} (hlow : lowM M.length M = true) (ds : List D) :
    (match fzN M.length (M ++ [some (lstD ds)]) 4 (.own M.length) with
      | some d => if lowM M.length ((M ++ [some (lstD ds)]).take M.length) = true then Res.ok (B.dat d) ((M ++ [some (lstD ds)]).take M.length) else .stuck
      | none => .stuck) = .ok (B.dat (.lst ds)) M := by
  have e : optAll ((ds.map B.dat).map (fzN M.length (M ++ [some (lstD ds)]) 3)) = some ds := by
    rw [List.map_map]
    exact (congrArg optAll (List.map_congr_left fun d _ => rfl)).trans (optAll_some ds)
  have g : (M ++ [some (lstD ds)])[M.length]? = some (some (lstD ds)) := by simp
  have hf : fzN M.length (M ++ [some (lstD ds)]) 4 (.own M.length) = some (.lst ds) := by
    unfold fzN
    rw [if_pos (Nat.le_refl _)]
    simp only [g, e]
    rfl
  have ht : (M ++ [some (lstD ds)]).take M.length = M := by simp
  rw [hf]
  dsimp only
  rw [ht, if_pos hlow]
theorem fz_all {α : Type} {vs : List Nat} {g : Tg} {t : Et} {e : Ev} {ρ : Rho} {M : Mem} {E : Ev} (β : α → B) (p : α → Bool) (f : α → D) (xs : List α) (hE : E ρ M = lcAll vs g t e (xs.map β) ρ M) (hlow : lowM M.length M = true) (hl : xs.length < 1000000)
    (h : ∀ x ∈ xs, ∀ c : List D, ∃ ρ', g (β x) (wipeR ρ vs) = some ρ' ∧ t ρ' (M ++ [some (.lst (c.map .dat))]) = .ok (p x) (M ++ [some (.lst (c.map .dat))]) ∧ (p x = true → e ρ' (M ++ [some (.lst (c.map .dat))]) = .ok (.dat (f x)) (M ++ [some (.lst (c.map .dat))]))) :
    eFz E ρ M = .ok (.dat (.lst ((xs.filter p).map f))) M := by
  rw [x_fz, hE, lc_own β p (fun x => .dat (f x)) xs hl fun x hx zs => by
    have q := h x hx (zs.map f)
    rw [List.map_map] at q
    exact q]
  dsimp only [Res.bind_ok]
  have q := fz_last hlow ((xs.filter p).map f)
  have e : (xs.filter p).map (fun x => B.dat (f x)) = ((xs.filter p).map f).map B.dat := by rw [List.map_map]; rfl
  rw [e]
  exact q
/-- over items -/
theorem fz_it {α : Type} {vs : List Nat} {g : Tg} {l : Ev} {t : Et} {e : Ev} {ρ : Rho} {M : Mem} {x : B} (β : α → B) (p : α → Bool) (f : α → D) (xs : List α) (hx : l ρ M = .ok x M) (hi : items x = some (xs.map β)) (hlow : lowM M.length M = true) (hl : xs.length < 1000000)
    (h : ∀ x ∈ xs, ∀ c : List D, ∃ ρ', g (β x) (wipeR ρ vs) = some ρ' ∧ t ρ' (M ++ [some (.lst (c.map .dat))]) = .ok (p x) (M ++ [some (.lst (c.map .dat))]) ∧ (p x = true → e ρ' (M ++ [some (.lst (c.map .dat))]) = .ok (.dat (f x)) (M ++ [some (.lst (c.map .dat))]))) :
    eFz (eLC vs g l t e) ρ M = .ok (.dat (.lst ((xs.filter p).map f))) M := by
  refine fz_all β p f xs ?_ hlow hl h
  unfold eLC
  rw [hx]
  dsimp only [Res.bind_ok]
  rw [hi]
theorem filter_tt {α : Type} : ∀ xs : List α, xs.filter (fun _ => true) = xs
  | [] => rfl
  | x :: xs => by rw [List.filter_cons_of_pos rfl, filter_tt xs]
/-- over items, no test -/
theorem fz_itY {α : Type} {vs : List Nat} {g : Tg} {l : Ev} {e : Ev} {ρ : Rho} {M : Mem} {x : B} (β : α → B) (f : α → D) (xs : List α) (hx : l ρ M = .ok x M) (hi : items x = some (xs.map β)) (hlow : lowM M.length M = true) (hl : xs.length < 1000000)
    (h : ∀ x ∈ xs, ∀ c : List D, ∃ ρ', g (β x) (wipeR ρ vs) = some ρ' ∧ e ρ' (M ++ [some (.lst (c.map .dat))]) = .ok (.dat (f x)) (M ++ [some (.lst (c.map .dat))])) :
    eFz (eLC vs g l tY e) ρ M = .ok (.dat (.lst (xs.map f))) M := by
  have q := fz_it (t := tY) (e := e) β (fun _ => true) f xs hx hi hlow hl fun x hx c => by
    obtain ⟨ρ', h1, h2⟩ := h x hx c
    exact ⟨ρ', h1, rfl, fun _ => h2⟩
  rw [filter_tt] at q
  exact q
/-- the numbers up to n -/
def upn (n : Nat) : List Nat := List.range n
theorem rng_up (n : Nat) : rng 0 (n : Int) = (List.range n).map fun (i : Nat) => B.dat (.int (i : Int)) := by
  unfold rng
  simp
theorem bnd_nat {n : Nat} (h : n < 1000000) : bnd (n : Int) = true := by
  simp only [bnd_eq, Bool.and_eq_true, decide_eq_true_eq]
  omega
theorem lcr1_int {vs : List Nat} {g : Tg} {l : Ev} {t : Et} {e : Ev} {ρ : Rho} {M : Mem} {n : Int} (hx : l ρ M = .ok (.dat (.int n)) M) (hb : bnd n = true) : eLCR1 vs g (aCons l aNil) t e ρ M = lcAll vs g t e (rng 0 n) ρ M := by
  have ea : aCons l aNil ρ M = .ok [.dat (.int n)] M := by simp only [x_cons, hx, x_nil, Res.bind_ok]
  unfold eLCR1
  rw [ea]
  simp only [Res.bind_ok, rngOf1, hb, if_true]
theorem forR1_int {g : Tg} {l : Ev} {s : Es} {ρ : Rho} {M : Mem} {n : Int} (hx : l ρ M = .ok (.dat (.int n)) M) (hb : bnd n = true) : sForR1 g (aCons l aNil) s ρ M = forL g s (rng 0 n) ρ M := by
  have ea : aCons l aNil ρ M = .ok [.dat (.int n)] M := by simp only [x_cons, hx, x_nil, Res.bind_ok]
  unfold sForR1
  rw [ea]
  simp only [Res.bind_ok, rngOf1, hb, if_true]
theorem forR1_nat {g : Tg} {l : Ev} {s : Es} {ρ : Rho} {M : Mem} {n : Nat} (hx : l ρ M = .ok (.dat (.int (n : Int))) M) (hl : n < 1000000) : sForR1 g (aCons l aNil) s ρ M = forL g s ((List.range n).map fun (i : Nat) => B.dat (.int (i : Int))) ρ M := by
  rw [forR1_int hx (bnd_nat hl), rng_up]
/-- over a range -/
theorem fz_rg {vs : List Nat} {g : Tg} {l : Ev} {t : Et} {e : Ev} {ρ : Rho} {M : Mem} (n : Nat) (p : Nat → Bool) (f : Nat → D) (hx : l ρ M = .ok (.dat (.int (n : Int))) M) (hlow : lowM M.length M = true) (hl : n < 1000000)
    (h : ∀ i, i < n → ∀ c : List D, ∃ ρ', g (.dat (.int (i : Int))) (wipeR ρ vs) = some ρ' ∧ t ρ' (M ++ [some (.lst (c.map .dat))]) = .ok (p i) (M ++ [some (.lst (c.map .dat))]) ∧ (p i = true → e ρ' (M ++ [some (.lst (c.map .dat))]) = .ok (.dat (f i)) (M ++ [some (.lst (c.map .dat))]))) :
    eFz (eLCR1 vs g (aCons l aNil) t e) ρ M = .ok (.dat (.lst (((List.range n).filter p).map f))) M := by
  have hl2 : (List.range n).length < 1000000 := by rw [List.length_range]; exact hl
  refine fz_all (fun i : Nat => B.dat (.int (i : Int))) p f (List.range n) ?_ hlow hl2 fun i hi c => h i (List.mem_range.mp hi) c
  rw [lcr1_int hx (bnd_nat hl), rng_up]
theorem fz_rgY {vs : List Nat} {g : Tg} {l : Ev} {e : Ev} {ρ : Rho} {M : Mem} (n : Nat) (f : Nat → D) (hx : l ρ M = .ok (.dat (.int (n : Int))) M) (hlow : lowM M.length M = true) (hl : n < 1000000)
    (h : ∀ i, i < n → ∀ c : List D, ∃ ρ', g (.dat (.int (i : Int))) (wipeR ρ vs) = some ρ' ∧ e ρ' (M ++ [some (.lst (c.map .dat))]) = .ok (.dat (f i)) (M ++ [some (.lst (c.map .dat))])) :
    eFz (eLCR1 vs g (aCons l aNil) tY e) ρ M = .ok (.dat (.lst ((List.range n).map f))) M := by
  have q := fz_rg (t := tY) (e := e) n (fun _ => true) f hx hlow hl fun i hi c => by
    obtain ⟨ρ', h1, h2⟩ := h i hi c
    exact ⟨ρ', h1, rfl, fun _ => h2⟩
  rw [filter_tt] at q
  exact q
/-! ### loops -/
theorem seq_ok {s r : Es} {ρ ρ1 : Rho} {M M1 : Mem} (h : s ρ M = .ok (.nx ρ1) M1) : sSeq s r ρ M = r ρ1 M1 := by
  rw [x_seq, h]
  rfl
theorem seq_ret {s r : Es} {ρ : Rho} {M M1 : Mem} {b : B} (h : s ρ M = .ok (.ret b) M1) : sSeq s r ρ M = .ok (.ret b) M1 := by
  rw [x_seq, h]
  rfl
theorem forL_fold {α σ : Type} {g : Tg} {s : Es} (β : α → B) (R : σ → Rho → Mem → Prop) (F : σ → α → σ) : ∀ (xs : List α) (st : σ) (ρ : Rho) (M : Mem), R st ρ M →
    (∀ x ∈ xs, ∀ st ρ M, R st ρ M → ∃ ρ1 ρ2 M2, g (β x) ρ = some ρ1 ∧ s ρ1 M = .ok (.nx ρ2) M2 ∧ R (F st x) ρ2 M2) →
    ∃ ρ2 M2, forL g s (xs.map β) ρ M = .ok (.nx ρ2) M2 ∧ R (xs.foldl F st) ρ2 M2
  | [], st, ρ, M, h0, _ => ⟨ρ, M, rfl, h0⟩
  | x :: xs, st, ρ, M, h0, h => by
    obtain ⟨ρ1, ρ2, M2, q1, q2, q3⟩ := h x List.mem_cons_self st ρ M h0
    obtain ⟨ρ3, M3, q4, q5⟩ := forL_fold β R F xs (F st x) ρ2 M2 q3 fun y hy => h y (List.mem_cons_of_mem _ hy)
    refine ⟨ρ3, M3, ?_, q5⟩
    rw [List.map_cons]
    unfold forL
    rw [q1]
    dsimp only
    rw [q2]
    exact q4
/-- a loop over the numbers up to n, with what holds ahead of each -/
theorem forL_up {g : Tg} {s : Es} (R : Nat → Rho → Mem → Prop) (n : Nat) (ρ : Rho) (M : Mem) (h0 : R 0 ρ M)
    (h : ∀ i, i < n → ∀ ρ M, R i ρ M → ∃ ρ1 ρ2 M2, g (.dat (.int (i : Int))) ρ = some ρ1 ∧ s ρ1 M = .ok (.nx ρ2) M2 ∧ R (i + 1) ρ2 M2) :
    ∃ ρ2 M2, forL g s ((List.range n).map fun (i : Nat) => B.dat (.int (i : Int))) ρ M = .ok (.nx ρ2) M2 ∧ R n ρ2 M2 := by
  have key : ∀ (k a : Nat) (ρ : Rho) (M : Mem), a + k ≤ n → R a ρ M → ∃ ρ2 M2, forL g s ((List.range' a k).map fun (i : Nat) => B.dat (.int (i : Int))) ρ M = .ok (.nx ρ2) M2 ∧ R (a + k) ρ2 M2 := by
    intro k
    induction k with
    | zero => exact fun a ρ M _ r => ⟨ρ, M, rfl, r⟩
    | succ k ih =>
      intro a ρ M hk r
      obtain ⟨ρ1, ρ2, M2, q1, q2, q3⟩ := h a (by omega) ρ M r
      obtain ⟨ρ3, M3, q4, q5⟩ := ih (a + 1) ρ2 M2 (by omega) q3
      have ek : a + 1 + k = a + (k + 1) := by omega
      rw [ek] at q5
      refine ⟨ρ3, M3, ?_, q5⟩
      rw [List.range'_succ, List.map_cons]
      unfold forL
      rw [q1]
      dsimp only
      rw [q2]
      exact q4
  have q := key n 0 ρ M (by omega) h0
  rw [← List.range_eq_range', Nat.zero_add] at q
  exact q
def runN {σ : Type} (p : σ → Bool) (F : σ → σ) : Nat → σ → σ
  | 0, st => st
  | n + 1, st => if p st = true then runN p F n (F st) else st
/-- a loop that goes on while something holds -/
theorem whL_run {σ : Type} {t : Et} {s : Es} (R : σ → Rho → Mem → Prop) (p : σ → Bool) (F : σ → σ) (m : σ → Nat)
    (ht : ∀ st ρ M, R st ρ M → t ρ M = .ok (p st) M)
    (hs : ∀ st ρ M, R st ρ M → p st = true → ∃ ρ2 M2, s ρ M = .ok (.nx ρ2) M2 ∧ R (F st) ρ2 M2 ∧ m (F st) < m st) :
    ∀ (n : Nat) (st : σ) (ρ : Rho) (M : Mem), m st < n → R st ρ M → ∃ ρ2 M2, whL t s n ρ M = .ok (.nx ρ2) M2 ∧ R (runN p F n st) ρ2 M2 ∧ p (runN p F n st) = false
  | 0, st, ρ, M, h, _ => absurd h (Nat.not_lt_zero _)
  | n + 1, st, ρ, M, hm, r => by
    unfold whL runN
    rw [ht st ρ M r]
    dsimp only [Res.bind_ok]
    cases hp : p st with
    | false => exact ⟨ρ, M, rfl, r, hp⟩
    | true =>
      obtain ⟨ρ2, M2, q1, q2, q3⟩ := hs st ρ M r hp
      obtain ⟨ρ3, M3, w1, w2, w3⟩ := whL_run R p F m ht hs n (F st) ρ2 M2 (by omega) q2
      rw [if_pos rfl, if_pos rfl, q1]
      exact ⟨ρ3, M3, w1, w2, w3⟩
end Ab

/-! States, steps, the map: the plain law. -/
namespace Ab
open PySem PySem.Spec PyProof.Rows L2
/-- what boxes hold, hands' places -/
abbrev Sta := List Nat × List Nat
abbrev natD (n : Nat) : D := .int (n : Int)
def staD (s : Sta) : D := .tup [.tup (s.1.map natD), .tup (s.2.map natD)]
def progOf (g : Gt) (h : Nat) : List Sp' := (g.2[h]?.getD (0, [])).2
def stepOf (g : Gt) (s : Sta) (h : Nat) : Sp' := (progOf g h)[s.2[h]?.getD 0]?.getD .inn
def nextP (g : Gt) (s : Sta) (h : Nat) : Nat := (s.2[h]?.getD 0 + 1) % (progOf g h).length
def behindP (g : Gt) (s : Sta) (h : Nat) : Sta := match stepOf g s h with
  | .put b v => (s.1.set b.toNat v.toNat, s.2.set h (nextP g s h))
  | .go b ns j => if ns.contains ((s.1[b.toNat]?.getD 0 : Nat) : Int) = true then (s.1, s.2.set h j.toNat) else (s.1, s.2.set h (nextP g s h))
  | .inn => (s.1, s.2.set h (nextP g s h))
def beginP (g : Gt) : Sta := (g.1.map fun b => b.1.toNat, g.2.map fun _ => 0)
/-- below, place by place -/
def Below : List Nat → List Nat → Prop
  | [], [] => True
  | a :: l, n :: m => a < n ∧ Below l m
  | _, _ => False
theorem Below.len : ∀ {l m : List Nat}, Below l m → l.length = m.length
  | [], [], _ => rfl
  | a :: l, n :: m, h => by rw [List.length_cons, List.length_cons, Below.len h.2]
theorem Below.get : ∀ {l m : List Nat} {i : Nat}, Below l m → (h : i < m.length) → l[i]?.getD 0 < m[i]
  | [], [], _, _, h => absurd h (Nat.not_lt_zero _)
  | a :: l, n :: m, 0, h, _ => h.1
  | a :: l, n :: m, i + 1, h, hi => by
    have := Below.get (i := i) h.2 (Nat.lt_of_succ_lt_succ hi)
    simpa using this
theorem Below.set : ∀ {l m : List Nat} {i v : Nat}, Below l m → (∀ h : i < m.length, v < m[i]) → Below (l.set i v) m
  | [], [], _, _, _, _ => trivial
  | a :: l, n :: m, 0, v, h, hv => ⟨hv (Nat.succ_pos _), h.2⟩
  | a :: l, n :: m, i + 1, v, h, hv => ⟨h.1, Below.set h.2 fun hi => by
      have := hv (Nat.succ_lt_succ hi)
      simpa using this⟩
def dimB (g : Gt) : List Nat := g.1.map fun b => (b.2 + 1).toNat
def dimH (g : Gt) : List Nat := g.2.map fun h => h.2.length
def OkSt (g : Gt) (s : Sta) : Prop := Below s.1 (dimB g) ∧ Below s.2 (dimH g)
/-- all lists below -/
def allL : List Nat → List (List Nat)
  | [] => [[]]
  | n :: m => (List.range n).flatMap fun a => (allL m).map (a :: ·)
theorem allL_len : ∀ m, (allL m).length = prodL m
  | [] => rfl
  | n :: m => by
    unfold allL prodL
    rw [List.length_flatMap]
    simp only [List.length_map, allL_len m]
    have : ∀ l : List Nat, (l.map fun _ => prodL m).sum = l.length * prodL m := by
      intro l
      induction l with
      | nil => simp
      | cons a l ih => simp [ih, Nat.add_mul, Nat.add_comm]
    rw [this, List.length_range]
theorem allL_mem : ∀ {l m : List Nat}, Below l m → l ∈ allL m
  | [], [], _ => by simp [allL]
  | a :: l, n :: m, h => by
    unfold allL
    rw [List.mem_flatMap]
    exact ⟨a, List.mem_range.mpr h.1, List.mem_map.mpr ⟨l, allL_mem h.2, rfl⟩⟩
def allSt (g : Gt) : List Sta := (allL (dimB g)).flatMap fun a => (allL (dimH g)).map fun b => (a, b)
theorem allSt_len (g : Gt) : (allSt g).length = sizeG g := by
  unfold allSt sizeG
  rw [List.length_flatMap]
  simp only [List.length_map, allL_len]
  have : ∀ l : List (List Nat), (l.map fun _ => prodL (dimH g)).sum = l.length * prodL (dimH g) := by
    intro l
    induction l with
    | nil => simp
    | cons a l ih => simp [ih, Nat.add_mul, Nat.add_comm]
  rw [this, allL_len]
  rfl
theorem allSt_mem {g : Gt} {s : Sta} (h : OkSt g s) : s ∈ allSt g := by
  unfold allSt
  rw [List.mem_flatMap]
  exact ⟨s.1, allL_mem h.1, List.mem_map.mpr ⟨s.2, allL_mem h.2, rfl⟩⟩
theorem nodup_le {α : Type} [DecidableEq α] : ∀ {l m : List α}, l.Nodup → (∀ x ∈ l, x ∈ m) → l.length ≤ m.length
  | [], m, _, _ => Nat.zero_le _
  | a :: l, m, hn, hm => by
    rw [List.nodup_cons] at hn
    have ha := hm a List.mem_cons_self
    have ih := nodup_le (m := m.erase a) hn.2 fun x hx => (List.mem_erase_of_ne (fun e => hn.1 (by rw [← e]; exact hx))).mpr (hm x (List.mem_cons_of_mem _ hx))
    rw [List.length_erase_of_mem ha] at ih
    have := List.length_pos_of_mem ha
    rw [List.length_cons]
    omega
theorem dimH_len (g : Gt) : (dimH g).length = g.2.length := List.length_map _
theorem dimB_len (g : Gt) : (dimB g).length = g.1.length := List.length_map _
theorem dimH_get {g : Gt} {h : Nat} (hh : h < (dimH g).length) : (dimH g)[h] = (progOf g h).length := by
  have h2 : h < g.2.length := by rw [dimH_len] at hh; exact hh
  have e : (dimH g)[h] = (g.2[h]).2.length := List.getElem_map ..
  unfold progOf
  rw [e, List.getElem?_eq_getElem h2]
  rfl
theorem dimB_get {g : Gt} {b : Nat} (hb : b < (dimB g).length) : (dimB g)[b] = (mostOf g.1 b + 1).toNat := by
  have h2 : b < g.1.length := by rw [dimB_len] at hb; exact hb
  have e : (dimB g)[b] = ((g.1[b]).2 + 1).toNat := List.getElem_map ..
  rw [e]
  simp only [mostOf, Int.toNat_natCast, List.getElem?_eq_getElem h2, Option.getD_some]
theorem Good.ok {g : Gt} (G : Good g) {h : Nat} (hh : h < g.2.length) : OkHand g.1 (g.2[h]) := G.hand _ (List.getElem_mem hh)
theorem prog_eq {g : Gt} {h : Nat} (hh : h < g.2.length) : progOf g h = (g.2[h]).2 := by
  unfold progOf
  rw [List.getElem?_eq_getElem hh]
  rfl
theorem prog_len {g : Gt} (G : Good g) {h : Nat} (hh : h < g.2.length) : 2 ≤ (progOf g h).length ∧ (progOf g h).length ≤ 24 := by
  rw [prog_eq hh]
  exact (G.ok hh).len
theorem place_lt {g : Gt} {s : Sta} (S : OkSt g s) {h : Nat} (hh : h < g.2.length) : s.2[h]?.getD 0 < (progOf g h).length := by
  have h2 : h < (dimH g).length := by rw [dimH_len]; exact hh
  have := S.2.get h2
  rw [dimH_get h2] at this
  exact this
theorem step_get {g : Gt} {s : Sta} (S : OkSt g s) {h : Nat} (hh : h < g.2.length) : (progOf g h)[s.2[h]?.getD 0]? = some (stepOf g s h) := by
  have := place_lt S hh
  unfold stepOf
  rw [List.getElem?_eq_getElem this]
  rfl
/-- a step is the one within, or well made -/
theorem step_ok {g : Gt} (G : Good g) {s : Sta} (S : OkSt g s) {h : Nat} (hh : h < g.2.length) : stepOf g s h = .inn ∨ OkStep g.1 (progOf g h).length (stepOf g s h) := by
  obtain ⟨p, p1, p2, p3, p4, p5⟩ := (G.ok hh).ex
  have q := step_get S hh
  rw [prog_eq hh] at q ⊢
  by_cases e : s.2[h]?.getD 0 = p
  · rw [e, p2] at q
    exact .inl (Option.some.inj q).symm
  · exact .inr (p5 _ _ e q)
theorem next_lt {g : Gt} (G : Good g) (s : Sta) {h : Nat} (hh : h < g.2.length) : nextP g s h < (progOf g h).length := Nat.mod_lt _ (by have := (prog_len G hh).1; omega)
theorem behind_ok {g : Gt} (G : Good g) {s : Sta} (S : OkSt g s) {h : Nat} (hh : h < g.2.length) : OkSt g (behindP g s h) := by
  have st : ∀ v, v < (progOf g h).length → Below (s.2.set h v) (dimH g) := fun v hv => S.2.set fun h2 => by rw [dimH_get h2]; exact hv
  have o := step_ok G S hh
  unfold behindP
  cases e : stepOf g s h with
  | put b v =>
    rw [e] at o
    have o' : OkStep g.1 (progOf g h).length (.put b v) := o.resolve_left (by intro z; cases z)
    refine ⟨S.1.set fun h2 => ?_, st _ (next_lt G s hh)⟩
    rw [dimB_get h2]
    have e1 : ((b.toNat : Nat) : Int) = b := by have := o'.1; omega
    rw [e1]
    have := o'.2
    show v.toNat < _
    omega
  | go b ns j =>
    rw [e] at o
    have o' : OkStep g.1 (progOf g h).length (.go b ns j) := o.resolve_left (by intro z; cases z)
    dsimp only
    split
    · exact ⟨S.1, st _ (by have := o'.2.2.2.2; omega)⟩
    · exact ⟨S.1, st _ (next_lt G s hh)⟩
  | inn => exact ⟨S.1, st _ (next_lt G s hh)⟩
theorem begin_ok {g : Gt} (G : Good g) : OkSt g (beginP g) := by
  have k1 : ∀ l : List (Int × Int), (∀ b ∈ l, 0 ≤ b.1 ∧ b.1 ≤ b.2 ∧ b.2 ≤ 9) → Below (l.map fun b => b.1.toNat) (l.map fun b => (b.2 + 1).toNat) := by
    intro l
    induction l with
    | nil => exact fun _ => trivial
    | cons a l ih =>
      intro h
      have := h a List.mem_cons_self
      exact ⟨by show a.1.toNat < (a.2 + 1).toNat; omega, ih fun b hb => h b (List.mem_cons_of_mem _ hb)⟩
  have k2 : ∀ l : List Hand, (∀ h ∈ l, 0 < h.2.length) → Below (l.map fun _ => 0) (l.map fun h => h.2.length) := by
    intro l
    induction l with
    | nil => exact fun _ => trivial
    | cons a l ih => exact fun h => ⟨h a List.mem_cons_self, ih fun b hb => h b (List.mem_cons_of_mem _ hb)⟩
  exact ⟨k1 _ G.box, k2 _ fun h hh => by have := (G.hand h hh).len.1; omega⟩
/-! ### the map -/
structure MS where
  sts : List Sta
  roots : List (Option (Nat × Nat))
  rows : List (List Nat)
structure HS where
  sts : List Sta
  roots : List (Option (Nat × Nat))
  row : List Nat
def hStep (g : Gt) (n : Nat) (q : HS) (h : Nat) : HS :=
  let s := behindP g (q.sts[n]?.getD ([], [])) h
  if s ∈ q.sts then ⟨q.sts, q.roots, q.row ++ [q.sts.idxOf s]⟩ else ⟨q.sts ++ [s], q.roots ++ [some (n, h)], q.row ++ [q.sts.length]⟩
def hRun (g : Gt) (m : MS) : HS := (List.range g.2.length).foldl (hStep g m.rows.length) ⟨m.sts, m.roots, []⟩
def mStep (g : Gt) (m : MS) : MS := ⟨(hRun g m).sts, (hRun g m).roots, m.rows ++ [(hRun g m).row]⟩
def mMore (m : MS) : Bool := decide (m.rows.length < m.sts.length)
def m0 (g : Gt) : MS := ⟨[beginP g], [none], []⟩
/-- what holds of states and roots -/
structure SInv (g : Gt) (sts : List Sta) (roots : List (Option (Nat × Nat))) : Prop where
  ok : ∀ s ∈ sts, OkSt g s
  nd : sts.Nodup
  len : roots.length = sts.length
  pos : sts[0]? = some (beginP g)
  r0 : roots[0]? = some none
  rs : ∀ i, 0 < i → i < sts.length → ∃ n h, roots[i]? = some (some (n, h)) ∧ n < i ∧ h < g.2.length ∧ sts[i]? = some (behindP g (sts[n]?.getD ([], [])) h)
theorem SInv.size {g : Gt} (G : GoodS g) {sts : List Sta} {roots : List (Option (Nat × Nat))} (I : SInv g sts roots) : sts.length ≤ 5000 := by
  have := nodup_le I.nd fun s hs => allSt_mem (I.ok s hs)
  rw [allSt_len] at this
  exact Nat.le_trans this G.size
theorem getD_app {α : Type} {l m : List α} {n : Nat} {d : α} (h : n < l.length) : (l ++ m)[n]?.getD d = l[n]?.getD d := by rw [List.getElem?_append_left h]
theorem SInv.add {g : Gt} (G : GoodS g) {sts : List Sta} {roots : List (Option (Nat × Nat))} (I : SInv g sts roots) {n h : Nat} (hn : n < sts.length) (hh : h < g.2.length) (hs : behindP g (sts[n]?.getD ([], [])) h ∉ sts) :
    SInv g (sts ++ [behindP g (sts[n]?.getD ([], [])) h]) (roots ++ [some (n, h)]) := by
  have e : sts[n]?.getD ([], []) ∈ sts := by rw [List.getElem?_eq_getElem hn]; exact List.getElem_mem hn
  have hpos : 0 < sts.length := by omega
  refine ⟨fun s hs => ?_, ?_, by simp [I.len], ?_, ?_, fun i hi hl => ?_⟩
  · rcases List.mem_append.mp hs with q | q
    · exact I.ok s q
    · rw [List.mem_singleton.mp q]
      exact behind_ok G (I.ok _ e) hh
  · rw [List.nodup_append]
    exact ⟨I.nd, by simp, fun a ha b hb z => hs (by rw [← List.mem_singleton.mp hb, ← z]; exact ha)⟩
  · rw [List.getElem?_append_left hpos]; exact I.pos
  · rw [List.getElem?_append_left (by rw [I.len]; exact hpos)]; exact I.r0
  · rw [List.length_append, List.length_singleton] at hl
    by_cases q : i < sts.length
    · obtain ⟨n', h', w1, w2, w3, w4⟩ := I.rs i hi q
      exact ⟨n', h', by rw [List.getElem?_append_left (by rw [I.len]; exact q)]; exact w1, w2, w3, by rw [List.getElem?_append_left q, getD_app (by omega)]; exact w4⟩
    · have ei : i = sts.length := by omega
      subst ei
      exact ⟨n, h, by rw [← I.len]; simp, hn, hh, by rw [getD_app hn]; simp⟩
/-- the numbers of a row, so far -/
def RowOk (g : Gt) (sts : List Sta) (n : Nat) (row : List Nat) : Prop := ∀ h, h < row.length → ∃ j, row[h]? = some j ∧ sts[j]? = some (behindP g (sts[n]?.getD ([], [])) h)
theorem get_app {α : Type} {l m : List α} {i : Nat} {x : α} (h : l[i]? = some x) : (l ++ m)[i]? = some x := by
  have : i < l.length := (List.getElem?_eq_some_iff.mp h).1
  rw [List.getElem?_append_left this]; exact h
theorem RowOk.app {g : Gt} {sts : List Sta} {n : Nat} {row : List Nat} (hn : n < sts.length) (R : RowOk g sts n row) (m : List Sta) : RowOk g (sts ++ m) n row := fun h hh => by
  obtain ⟨j, q1, q2⟩ := R h hh
  exact ⟨j, q1, by rw [getD_app hn]; exact get_app q2⟩
theorem RowOk.snoc {g : Gt} {sts : List Sta} {n : Nat} {row : List Nat} (R : RowOk g sts n row) {j : Nat} (hj : sts[j]? = some (behindP g (sts[n]?.getD ([], [])) row.length)) : RowOk g sts n (row ++ [j]) := fun h hh => by
  rw [List.length_append, List.length_singleton] at hh
  by_cases q : h < row.length
  · obtain ⟨k, q1, q2⟩ := R h q
    exact ⟨k, get_app q1, q2⟩
  · have e : h = row.length := by omega
    subst e
    exact ⟨j, by simp, hj⟩
structure HInv (g : Gt) (n k : Nat) (q : HS) : Prop where
  si : SInv g q.sts q.roots
  lt : n < q.sts.length
  len : q.row.length = k
  row : RowOk g q.sts n q.row
theorem hStep_ok {g : Gt} (G : GoodS g) {n k : Nat} {q : HS} (I : HInv g n k q) (hk : k < g.2.length) : HInv g n (k + 1) (hStep g n q k) ∧ ∃ m, (hStep g n q k).sts = q.sts ++ m := by
  unfold hStep
  dsimp only
  split
  · rename_i hm
    refine ⟨⟨I.si, I.lt, by simp [I.len], I.row.snoc ?_⟩, [], by simp⟩
    rw [I.len]
    have := List.idxOf_lt_length_of_mem hm
    rw [List.getElem?_eq_getElem this]
    exact congrArg some (List.getElem_idxOf this)
  · rename_i hm
    refine ⟨⟨I.si.add G I.lt hk hm, by have := I.lt; simp; omega, by simp [I.len], (I.row.app I.lt _).snoc ?_⟩, _, rfl⟩
    rw [I.len, getD_app I.lt]
    simp
theorem hFold_ok {g : Gt} (G : GoodS g) {n : Nat} {q : HS} (I : HInv g n 0 q) : ∀ k, k ≤ g.2.length → HInv g n k ((List.range k).foldl (hStep g n) q) ∧ ∃ m, ((List.range k).foldl (hStep g n) q).sts = q.sts ++ m
  | 0, _ => ⟨I, [], by simp⟩
  | k + 1, hk => by
    obtain ⟨w1, m1, w2⟩ := hFold_ok G I k (by omega)
    obtain ⟨v1, m2, v2⟩ := hStep_ok G w1 (by omega)
    rw [List.range_succ, List.foldl_append]
    exact ⟨v1, m1 ++ m2, by show (hStep g n _ k).sts = _; rw [v2, w2, List.append_assoc]⟩
structure MInv (g : Gt) (m : MS) : Prop where
  si : SInv g m.sts m.roots
  le : m.rows.length ≤ m.sts.length
  rows : ∀ i row, m.rows[i]? = some row → row.length = g.2.length ∧ RowOk g m.sts i row
theorem m0_ok {g : Gt} (G : GoodS g) : MInv g (m0 g) :=
  ⟨⟨fun s hs => by rw [List.mem_singleton.mp hs]; exact begin_ok G, by simp [m0], rfl, rfl, rfl, fun i hi hl => by
    have : i < 1 := hl
    omega⟩, by simp [m0], fun i row h => by cases i <;> cases h⟩
theorem mStep_ok {g : Gt} (G : GoodS g) {m : MS} (I : MInv g m) (h : m.rows.length < m.sts.length) : MInv g (mStep g m) := by
  have I0 : HInv g m.rows.length 0 ⟨m.sts, m.roots, []⟩ := ⟨I.si, h, rfl, fun h hh => by cases hh⟩
  obtain ⟨w1, e, w2⟩ := hFold_ok G I0 g.2.length (Nat.le_refl _)
  have w2' : (hRun g m).sts = m.sts ++ e := w2
  have w1' : HInv g m.rows.length g.2.length (hRun g m) := w1
  refine ⟨w1'.si, ?_, fun i row hr => ?_⟩
  · show (m.rows ++ [(hRun g m).row]).length ≤ (hRun g m).sts.length
    rw [List.length_append, List.length_singleton]
    exact w1'.lt
  · have hr' : (m.rows ++ [(hRun g m).row])[i]? = some row := hr
    by_cases q : i < m.rows.length
    · rw [List.getElem?_append_left q] at hr'
      obtain ⟨r1, r2⟩ := I.rows i row hr'
      refine ⟨r1, ?_⟩
      show RowOk g (hRun g m).sts i row
      rw [w2']
      exact r2.app (by omega) e
    · by_cases q2 : i = m.rows.length
      · subst q2
        have er : (hRun g m).row = row := by simpa using hr'
        rw [← er]
        exact ⟨w1'.len, w1'.row⟩
      · rw [List.getElem?_eq_none (by simp; omega)] at hr'
        cases hr'
/-- the map; nothing computes with it -/
noncomputable def mapP (g : Gt) : MS := Classical.choose (⟨_, rfl⟩ : ∃ m, m = runN mMore (mStep g) 6000 (m0 g))
theorem mapP_eq (g : Gt) : mapP g = runN mMore (mStep g) 6000 (m0 g) := Classical.choose_spec (⟨_, rfl⟩ : ∃ m, m = runN mMore (mStep g) 6000 (m0 g))
theorem runN_inv {σ : Type} {p : σ → Bool} {F : σ → σ} (P : σ → Prop) (h : ∀ s, P s → p s = true → P (F s)) : ∀ (n : Nat) (s : σ), P s → P (runN p F n s)
  | 0, s, q => q
  | n + 1, s, q => by
    unfold runN
    split
    · rename_i e
      exact runN_inv P h n _ (h s q e)
    · exact q
theorem mapP_inv {g : Gt} (G : GoodS g) : MInv g (mapP g) := by
  rw [mapP_eq]
  exact runN_inv (MInv g) (fun m I e => mStep_ok G I (by simpa [mMore] using e)) 6000 _ (m0_ok G)
end Ab

/-! Weavings by the map's roots: the plain law. -/
namespace Ab
open PySem PySem.Spec PyProof.Rows L2
abbrev Roots := List (Option (Nat × Nat))
/-- the hands from a state's number back to the first one -/
def chain (roots : Roots) : Nat → Nat → List Nat
  | 0, _ => []
  | k + 1, n => match roots[n]? with
    | some (some (m, h)) => h :: chain roots k m
    | _ => []
def weav (roots : Roots) (n : Nat) : List Nat := (chain roots (n + 1) n).reverse
def rMore (roots : Roots) (s : Nat × List Nat) : Bool := match roots[s.1]? with
  | some (some _) => true
  | _ => false
def rBack (roots : Roots) (s : Nat × List Nat) : Nat × List Nat := match roots[s.1]? with
  | some (some (m, h)) => (m, s.2 ++ [h])
  | _ => s
def rFront (roots : Roots) (s : Nat × List Nat) : Nat × List Nat := match roots[s.1]? with
  | some (some (m, h)) => (m, h :: s.2)
  | _ => s
/-- roots lead down -/
structure Down (roots : Roots) : Prop where
  r0 : roots[0]? = some none
  rs : ∀ i, 0 < i → i < roots.length → ∃ n h, roots[i]? = some (some (n, h)) ∧ n < i
theorem Down.cases {roots : Roots} (d : Down roots) {n : Nat} (hn : n < roots.length) : (n = 0 ∧ roots[n]? = some none) ∨ ∃ m h, roots[n]? = some (some (m, h)) ∧ m < n := by
  by_cases e : n = 0
  · subst e; exact .inl ⟨rfl, d.r0⟩
  · exact .inr (d.rs n (by omega) hn)
theorem chain_fuel {roots : Roots} (d : Down roots) : ∀ (k n : Nat), n < roots.length → n < k → chain roots k n = chain roots (n + 1) n
  | 0, n, _, h => absurd h (Nat.not_lt_zero _)
  | k + 1, n, hn, h => by
    rcases d.cases hn with ⟨rfl, e⟩ | ⟨m, h', e, hm⟩
    · unfold chain
      rw [e]
    · unfold chain
      rw [e]
      dsimp only
      rw [chain_fuel d k m (by omega) (by omega), chain_fuel d n m (by omega) hm]
theorem chain0 {roots : Roots} (d : Down roots) (k : Nat) : chain roots k 0 = [] := by
  cases k with
  | zero => rfl
  | succ k => unfold chain; rw [d.r0]
theorem runBack {roots : Roots} (d : Down roots) : ∀ (k n : Nat) (acc : List Nat), n < roots.length → n < k → runN (rMore roots) (rBack roots) k (n, acc) = (0, acc ++ chain roots (n + 1) n)
  | 0, n, _, _, h => absurd h (Nat.not_lt_zero _)
  | k + 1, n, acc, hn, h => by
    rcases d.cases hn with ⟨rfl, e⟩ | ⟨m, h', e, hm⟩
    · rw [chain0 d]
      have q : rMore roots (0, acc) = false := by simp [rMore, e]
      unfold runN
      rw [q, if_neg Bool.false_ne_true, List.append_nil]
    · have q : rMore roots (n, acc) = true := by simp [rMore, e]
      have q2 : rBack roots (n, acc) = (m, acc ++ [h']) := by simp [rBack, e]
      unfold runN chain
      rw [q, if_pos rfl, q2, e]
      dsimp only
      rw [runBack d k m _ (by omega) (by omega), chain_fuel d n m (by omega) hm, List.append_assoc]
      rfl
theorem runFront {roots : Roots} (d : Down roots) : ∀ (k n : Nat) (acc : List Nat), n < roots.length → n < k → runN (rMore roots) (rFront roots) k (n, acc) = (0, (chain roots (n + 1) n).reverse ++ acc)
  | 0, n, _, _, h => absurd h (Nat.not_lt_zero _)
  | k + 1, n, acc, hn, h => by
    rcases d.cases hn with ⟨rfl, e⟩ | ⟨m, h', e, hm⟩
    · rw [chain0 d]
      have q : rMore roots (0, acc) = false := by simp [rMore, e]
      unfold runN
      rw [q, if_neg Bool.false_ne_true]
      rfl
    · have q : rMore roots (n, acc) = true := by simp [rMore, e]
      have q2 : rFront roots (n, acc) = (m, h' :: acc) := by simp [rFront, e]
      unfold runN chain
      rw [q, if_pos rfl, q2, e]
      dsimp only
      rw [runFront d k m _ (by omega) (by omega), chain_fuel d n m (by omega) hm, List.reverse_cons, List.append_assoc]
      rfl
theorem SInv.down {g : Gt} {sts : List Sta} {roots : Roots} (I : SInv g sts roots) : Down roots :=
  ⟨I.r0, fun i hi hl => by
    obtain ⟨n, h, q1, q2, _⟩ := I.rs i hi (by rw [← I.len]; exact hl)
    exact ⟨n, h, q1, q2⟩⟩
/-- the last state of a weaving -/
def walkP (g : Gt) (w : List Nat) : Sta := w.foldl (behindP g) (beginP g)
theorem walk_weav {g : Gt} {sts : List Sta} {roots : Roots} (I : SInv g sts roots) : ∀ (k n : Nat), n < sts.length → n < k → walkP g (chain roots k n).reverse = sts[n]?.getD ([], []) ∧ ∀ h ∈ chain roots k n, h < g.2.length
  | 0, n, _, h => absurd h (Nat.not_lt_zero _)
  | k + 1, n, hn, h => by
    by_cases e : n = 0
    · subst e
      rw [chain0 I.down, I.pos]
      exact ⟨rfl, fun h hh => by cases hh⟩
    · obtain ⟨m, h', w1, w2, w3, w4⟩ := I.rs n (by omega) hn
      obtain ⟨v1, v2⟩ := walk_weav I k m (by omega) (by omega)
      unfold chain
      rw [w1]
      dsimp only
      refine ⟨?_, fun x hx => ?_⟩
      · rw [List.reverse_cons, walkP, List.foldl_append]
        show behindP g (walkP g (chain roots k m).reverse) h' = _
        rw [v1, w4]
        rfl
      · rcases List.mem_cons.mp hx with rfl | hx
        · exact w3
        · exact v2 x hx
theorem weav_ok {g : Gt} {sts : List Sta} {roots : Roots} (I : SInv g sts roots) {n : Nat} (hn : n < sts.length) : walkP g (weav roots n) = sts[n]?.getD ([], []) ∧ ∀ h ∈ weav roots n, h < g.2.length := by
  obtain ⟨q1, q2⟩ := walk_weav I (n + 1) n hn (Nat.lt_succ_self n)
  exact ⟨q1, fun h hh => q2 h (List.mem_reverse.mp hh)⟩
/-- all states of a weaving -/
def playP (g : Gt) : Sta → List Nat → List Sta
  | s, [] => [s]
  | s, h :: w => s :: playP g (behindP g s h) w
theorem play_snoc (g : Gt) (h : Nat) : ∀ (w : List Nat) (s : Sta), playP g s (w ++ [h]) = playP g s w ++ [behindP g (w.foldl (behindP g) s) h]
  | [], s => rfl
  | a :: w, s => by
    show s :: playP g _ (w ++ [h]) = _
    rw [play_snoc g h w _]
    rfl
theorem play_len (g : Gt) : ∀ (w : List Nat) (s : Sta), (playP g s w).length = w.length + 1
  | [], s => rfl
  | a :: w, s => by
    show (playP g _ w).length + 1 = _
    rw [play_len g w]
    rfl
theorem play_last (g : Gt) : ∀ (w : List Nat) (s : Sta), (playP g s w).getLast? = some (w.foldl (behindP g) s)
  | [], s => rfl
  | h :: w, s => by
    have ih := play_last g w (behindP g s h)
    unfold playP
    rw [List.foldl_cons, ← ih]
    cases w <;> simp [playP]
end Ab

/-! Gates made. -/
namespace Ab
open PySem PySem.Spec PyProof.Rows L2
theorem inn_filter {l : List Sp'} {p : Nat} (h1 : l[p]? = some .inn) (h2 : ∀ (i : Nat) (x : Sp'), i ≠ p → l[i]? = some x → x.isIn = false) : (List.range l.length).filter (fun i => (l[i]?.getD (.put 0 0)).isIn) = [p] := by
  have hp : p < l.length := (List.getElem?_eq_some_iff.mp h1).1
  have nd : ((List.range l.length).filter (fun i => (l[i]?.getD (.put 0 0)).isIn)).Pairwise (· < ·) := List.pairwise_lt_range.filter _
  have hm : p ∈ (List.range l.length).filter (fun i => (l[i]?.getD (.put 0 0)).isIn) := List.mem_filter.mpr ⟨List.mem_range.mpr hp, by rw [h1]; rfl⟩
  have ha : ∀ x ∈ (List.range l.length).filter (fun i => (l[i]?.getD (.put 0 0)).isIn), x = p := fun x hx => by
    obtain ⟨q1, q2⟩ := List.mem_filter.mp hx
    have hl := List.mem_range.mp q1
    apply Classical.byContradiction
    intro ne
    have := h2 x _ ne (List.getElem?_eq_getElem hl)
    rw [List.getElem?_eq_getElem hl] at q2
    simp [this] at q2
  generalize (List.range l.length).filter (fun i => (l[i]?.getD (.put 0 0)).isIn) = z at *
  cases z with
  | nil => cases hm
  | cons a z =>
    have := ha a List.mem_cons_self
    subst this
    cases z with
    | nil => rfl
    | cons b z =>
      have hb := ha b (by simp)
      rw [List.pairwise_cons] at nd
      have := nd.1 b (by simp)
      omega
noncomputable abbrev F_isstep (K : PySem.W.Frag) : Fn := f_Gate_is_step K f_is_rising
noncomputable abbrev F_need (K : PySem.W.Frag) : Fn := f_Gate_need_hand K f_must (F_isstep K)
theorem e_need (K : PySem.W.Frag) {bx : List (Int × Int)} {hs : List Hand} {h : Hand} {i : Nat} (hi : hs[i]? = some h) (oh : OkHand bx h) :
    F_need K [.own 0, .dat (.int (i : Int))] [some (gC (He.ga K "Gate") bx hs)] = .ok (.dat .non) [some (gC (He.ga K "Gate") bx hs)] := by
  obtain ⟨p, p1, p2, p3, p4, p5⟩ := oh.ex
  have ea : atI (hs.map handD) (i : Int) = some (handD h) := by rw [atI_map, atI_nat, hi]; rfl
  have fh := fld_h (He.ga K "Gate") bx hs []
  have hl := oh.len
  generalize hM : [some (gC (He.ga K "Gate") bx hs)] = M
  rw [hM] at fh
  let ρ (x2 x3 : Option B) : Rho := [some (.own 0), some (.dat (.int (i : Int))), x2, x3, some (.dat (.int h.1)), some (.dat (.lst (h.2.map Sp'.d)))]
  obtain ⟨x2', q⟩ := for_chk K (hs := hs) oh (i : Int) none (some (.dat (.int h.1))) rfl (upto h.2.length) none (fun j hj => by have := upto_mem hj; omega)
  rw [hM] at q
  have s1 : sAsg (gT [4, 5]) (eBin vIx (eFld (He.ga K "Gate") "kept_hands" (eVar 0)) (eVar 1)) (rho0 6 [.own 0, .dat (.int (i : Int))]) M = .ok (.nx (ρ none none)) M := by
    simp [fh, ea, handD, ρ]
  have m24 := c_must (.dat (.str "steps")) (.dat (.int (i : Int))) (.dat (.int 0)) M rfl
  have min := c_must (.dat (.str "in")) (.dat (.int (i : Int))) (.dat (.int 0)) M rfl
  have mkn := c_must (.dat (.str "knock")) (.dat (.int (i : Int))) (.dat (.int 0)) M rfl
  have l24 : ((h.2.length : Int) ≤ 24) := by omega
  have l2 : ((2 : Int) ≤ (h.2.length : Int)) := by omega
  have fz : eFz (eLCR1 [2] (gN 2) (aCons (eApp vLen (aCons (eVar 5) aNil)) aNil) (tV (eBin vEq (eBin vIx (eVar 5) (eVar 2)) (eTup (aCons (eC (.str "in")) aNil)))) (eVar 2)) (ρ x2' none) M = .ok (.dat (.lst [natD p])) M := by
    have q := fz_rg (vs := [2]) (g := gN 2) (l := eApp vLen (aCons (eVar 5) aNil)) (t := tV (eBin vEq (eBin vIx (eVar 5) (eVar 2)) (eTup (aCons (eC (.str "in")) aNil)))) (e := eVar 2) (ρ := ρ x2' none) (M := M) h.2.length (fun i => (h.2[i]?.getD (.put 0 0)).isIn) natD (by simp [ρ]) (by rw [← hM]; rfl) (by omega) fun j hj c => by
      refine ⟨_, rfl, ?_, fun _ => rfl⟩
      have e' : atI (h.2.map Sp'.d) (j : Int) = some (h.2[j]).d := by rw [atI_map, atI_nat, List.getElem?_eq_getElem hj]; rfl
      simp [ρ, wipeR, e', eq_inn, List.getElem?_eq_getElem hj]
    rw [inn_filter p2 fun j x ne hx => by
      have := p5 j x ne hx
      cases x with
      | inn => cases this
      | put _ _ => rfl
      | go _ _ _ => rfl] at q
    exact q
  have t : t_Gate_need_hand K f_must (F_isstep K) (rho0 6 [.own 0, .dat (.int (i : Int))]) M = .ok (.nx (ρ x2' (some (.dat (.lst [natD p]))))) M := by
    unfold t_Gate_need_hand
    refine (seq_ok s1).trans ?_
    refine (seq_ok (ρ1 := ρ none none) (M1 := M) (by simp [ρ, l2, l24, m24])).trans ?_
    refine (seq_ok (ρ1 := ρ x2' none) (M1 := M) ?_).trans ?_
    · rw [forR1_int (n := (h.2.length : Int)) (by simp [ρ]) (bnd_nat (show h.2.length < 1000000 by omega)), rng_upto]
      exact q
    refine (seq_ok (ρ1 := ρ x2' (some (.dat (.lst [natD p])))) (M1 := M) (by simp only [x_set, fz, Res.bind_ok]; rfl)).trans ?_
    have pp : (0 : Int) < (p : Int) := by omega
    refine (seq_ok (ρ1 := ρ x2' (some (.dat (.lst [natD p])))) (M1 := M) (by simp [ρ, natD, p1, min])).trans ?_
    simp [ρ, natD, p3, p4, mkn]
  show finD 1 (outB (t_Gate_need_hand K f_must (F_isstep K) (rho0 6 [.own 0, .dat (.int (i : Int))]) M)) = _
  rw [t, ← hM]
  exact fin_gC _ _ _ _ _
theorem low_gC (n : Nat) (C : Addr) (bx : List (Int × Int)) (hs : List Hand) : lowC n (gC C bx hs) = true := rfl
theorem c_need (K : PySem.W.Frag) {bx : List (Int × Int)} {hs : List Hand} {h : Hand} {i : Nat} (hi : hs[i]? = some h) (oh : OkHand bx h) (Mr : Mem) :
    doCallA 2 1 (F_need K) [.own 0, .dat (.int (i : Int))] (some (gC (He.ga K "Gate") bx hs) :: Mr) = .ok (.dat .non) (some (gC (He.ga K "Gate") bx hs) :: Mr) :=
  call_c rfl rfl (fun _ => rfl) (e_need K hi oh) rfl rfl Mr
theorem s_nb : (Str.ofString "need_hand" == Str.ofString "kept_boxes") = false := by decide +kernel
theorem s_nh : (Str.ofString "need_hand" == Str.ofString "kept_hands") = false := by decide +kernel
theorem obj_nh (C : Addr) (bx : List (Int × Int)) (hs : List Hand) (Mr : Mem) : objB C (Str.ofString "need_hand") (.own 0) (some (gC C bx hs) :: Mr) = true := by
  simp [objB, gfs, List.lookup, s_nb, s_nh]
theorem put_b (b : B) : putB (Str.ofString "kept_boxes") b [] = [(Str.ofString "kept_boxes", b)] := rfl
theorem s_bh : (Str.ofString "kept_boxes" = Str.ofString "kept_hands") = False := by
  have : ¬ Str.ofString "kept_boxes" = Str.ofString "kept_hands" := by decide +kernel
  simp [this]
theorem put_h (b c : B) : putB (Str.ofString "kept_hands") b [(Str.ofString "kept_boxes", c)] = [(Str.ofString "kept_boxes", c), (Str.ofString "kept_hands", b)] := by
  simp [putB, s_bh]
theorem items_lst {α : Type} (xs : List α) (f : α → D) : items (.dat (.lst (xs.map f))) = some (xs.map fun x => .dat (f x)) := by
  show some ((xs.map f).map B.dat) = _
  rw [List.map_map]
  rfl
theorem items_tup {α : Type} (xs : List α) (f : α → D) : items (.dat (.tup (xs.map f))) = some (xs.map fun x => .dat (f x)) := by
  show some ((xs.map f).map B.dat) = _
  rw [List.map_map]
  rfl
theorem at_nat {α β : Type} (l : List α) (f : α → β) {i : Nat} (h : i < l.length) : atI (l.map f) (i : Int) = some (f l[i]) := by rw [atI_map, atI_nat, List.getElem?_eq_getElem h]; rfl
theorem stp_tup (x : Sp') (M : Mem) : vTup [.dat x.d] M = .ok (.dat x.d) M := by cases x <;> rfl
noncomputable abbrev F_ginit (K : PySem.W.Frag) : Fn := f_Gate_init f_must K (F_need K)
theorem e_ginit (K : PySem.W.Frag) {g : Gt} (G : Good g) :
    F_ginit K [.own 0, .dat (.lst (g.1.map boxD)), .dat (.lst (g.2.map handD))] [some (.ins (He.ga K "Gate") [])] = .ok (.dat .non) [some (gC (He.ga K "Gate") g.1 g.2)] := by
  let M0 : Mem := [some (.ins (He.ga K "Gate") [])]
  let M1 : Mem := [some (.ins (He.ga K "Gate") [(Str.ofString "kept_boxes", .dat (.lst (g.1.map boxD)))])]
  let M2 : Mem := [some (gC (He.ga K "Gate") g.1 g.2)]
  let ρ (x3 x4 x5 x6 : Option B) : Rho := [some (.own 0), some (.dat (.lst (g.1.map boxD))), some (.dat (.lst (g.2.map handD))), x3, x4, x5, x6, none, none, none, none]
  have b1 := G.boxes
  have h1 := G.hands
  have a1 : (1 : Int) ≤ (g.1.length : Int) := by omega
  have a2 : (g.1.length : Int) ≤ 12 := by omega
  have a3 : (1 : Int) ≤ (g.2.length : Int) := by omega
  have a4 : (g.2.length : Int) ≤ 4 := by omega
  have m1 := c_must (.dat (.str "boxes")) (.dat (.int 0)) (.dat (.int 0)) M0 rfl
  have m2 := c_must (.dat (.str "hands")) (.dat (.int 0)) (.dat (.int 0)) M0 rfl
  have t : ∃ ρf, t_Gate_init f_must K (F_need K) (rho0 11 [.own 0, .dat (.lst (g.1.map boxD)), .dat (.lst (g.2.map handD))]) M0 = .ok (.nx ρf) M2 := by
    unfold t_Gate_init
    -- boxes
    have f1 := forL_up (g := gN 3) (s := (sSeq (sAsg (gT [5, 6]) (eBin vIx (eVar 1) (eVar 3)))
      (sExpr (eApp (doCallA 4 0 f_must) (aCons (eCh3 vLe vLe vLe (eC (.int 0)) (eVar 5) (eVar 6) (eC (.int 9))) (aCons (eC (.str "box")) (aCons (eC (.int 0)) (aCons (eVar 3) aNil))))))))
      (fun _ ρ' M' => M' = M0 ∧ ∃ x3 x5 x6, ρ' = ρ x3 none x5 x6) g.1.length (ρ none none none none) M0 ⟨rfl, none, none, none, rfl⟩ (fun i hi ρ' M' r => by
        obtain ⟨rfl, x3, x5, x6, rfl⟩ := r
        have ok := G.box _ (List.getElem_mem hi)
        have mb := c_must (.dat (.str "box")) (.dat (.int 0)) (.dat (.int (i : Int))) M0 rfl
        have at1 := at_nat g.1 boxD hi
        refine ⟨_, ρ (some (.dat (.int (i : Int)))) none (some (.dat (.int (g.1[i]).1))) (some (.dat (.int (g.1[i]).2))), M0, rfl, ?_, rfl, _, _, _, rfl⟩
        simp [ρ, at1, boxD, ok.1, ok.2.1, ok.2.2, mb])
    obtain ⟨ρ1, M1', q1, rfl, x3, x5, x6, rfl⟩ := f1
    -- hands
    have f2 := forL_up (g := gN 4) (s := (sExpr (eMeth (He.ga K "Gate") "need_hand" 2 1 (F_need K) (eVar 0) (aCons (eVar 4) aNil))))
      (fun _ ρ' M' => M' = M2 ∧ ∃ x4, ρ' = ρ x3 x4 x5 x6) g.2.length (ρ x3 none x5 x6) M2 ⟨rfl, none, rfl⟩ (fun i hi ρ' M' r => by
        obtain ⟨rfl, x4, rfl⟩ := r
        have cn := c_need K (bx := g.1) (hs := g.2) (i := i) (List.getElem?_eq_getElem hi) (G.ok hi) []
        have ob := obj_nh (He.ga K "Gate") g.1 g.2 []
        refine ⟨_, ρ x3 (some (.dat (.int (i : Int)))) x5 x6, M2, rfl, ?_, rfl, _, rfl⟩
        simp only [M2]
        simp [ρ, ob, cn])
    obtain ⟨ρ2, M2', q2, rfl, x4, rfl⟩ := f2
    have kb : eFz (eLC [7] (gN 7) (eVar 1) tY (eApp vTup (aCons (eVar 7) aNil))) (ρ x3 none x5 x6) M0 = .ok (.dat (.lst (g.1.map boxD))) M0 :=
      fz_itY (fun b => .dat (boxD b)) boxD g.1 rfl (items_lst _ _) rfl (by omega) fun b _ c => ⟨_, rfl, by simp [ρ, wipeR, boxD]⟩
    have kh : eFz (eLC [8, 9] (gT [8, 9]) (eVar 2) tY (eTup (aCons (eVar 8) (aCons (eFz (eLC [10] (gN 10) (eVar 9) tY (eApp vTup (aCons (eVar 10) aNil)))) aNil)))) (ρ x3 none x5 x6) M1 = .ok (.dat (.lst (g.2.map handD))) M1 :=
      fz_itY (fun h => .dat (handD h)) handD g.2 rfl (items_lst _ _) rfl (by omega) fun h hh c => by
        have hlen := (G.hand h hh).len
        refine ⟨((ρ x3 none x5 x6).set 8 (some (.dat (.int h.1)))).set 9 (some (.dat (.lst (h.2.map Sp'.d)))), rfl, ?_⟩
        have q := fz_itY (vs := [10]) (g := gN 10) (l := eVar 9) (e := eApp vTup (aCons (eVar 10) aNil)) (ρ := ((ρ x3 none x5 x6).set 8 (some (.dat (.int h.1)))).set 9 (some (.dat (.lst (h.2.map Sp'.d))))) (M := M1 ++ [some (.lst (c.map .dat))]) (fun x => .dat (Sp'.d x)) Sp'.d h.2 rfl (items_lst _ _) (low_snoc (n := 1) rfl (by simp [M1]) c) (by omega) fun x _ c2 => ⟨_, rfl, by simp [ρ, wipeR, stp_tup]⟩
        have e8 : eVar 8 (((ρ x3 none x5 x6).set 8 (some (.dat (.int h.1)))).set 9 (some (.dat (.lst (h.2.map Sp'.d))))) (M1 ++ [some (.lst (c.map .dat))]) = .ok (.dat (.int h.1)) (M1 ++ [some (.lst (c.map .dat))]) := rfl
        rw [x_tup, x_cons, e8]
        dsimp only [Res.bind_ok]
        rw [x_cons, q]
        simp [handD]
    refine ⟨ρ x3 x4 x5 x6, ?_⟩
    refine (seq_ok (ρ1 := ρ none none none none) (M1 := M0) (by simp [ρ, a1, a2, m1])).trans ?_
    refine (seq_ok (ρ1 := ρ x3 none x5 x6) (M1 := M0) ?_).trans ?_
    · rw [forR1_nat (n := g.1.length) (by simp [ρ]) (by omega)]
      exact q1
    refine (seq_ok (ρ1 := ρ x3 none x5 x6) (M1 := M0) (by simp [ρ, a3, a4, m2])).trans ?_
    refine (seq_ok (ρ1 := ρ x3 none x5 x6) (M1 := M1) ?_).trans ?_
    · unfold sFld
      rw [kb]
      simp [ρ, M0, M1, put_b]
    refine (seq_ok (ρ1 := ρ x3 none x5 x6) (M1 := M2) ?_).trans ?_
    · unfold sFld
      rw [kh]
      simp [ρ, M1, M2, put_h, gfs]
    rw [forR1_nat (n := g.2.length) (by simp [ρ]) (by omega)]
    exact q2
  obtain ⟨ρf, t⟩ := t
  show finD 1 (outB (t_Gate_init f_must K (F_need K) (rho0 11 [.own 0, .dat (.lst (g.1.map boxD)), .dat (.lst (g.2.map handD))]) M0)) = _
  rw [t]
  exact fin_gC _ _ _ _ _
end Ab

/-! A gate: its methods. -/
namespace Ab
open PySem PySem.Spec PyProof.Rows L2
abbrev gobj (K : PySem.W.Frag) (g : Gt) : D := .obj (He.ga K "Gate") [(Str.ofString "kept_boxes", .lst (g.1.map boxD)), (Str.ofString "kept_hands", .lst (g.2.map handD))]
theorem e_gmake (K : PySem.W.Frag) {g : Gt} (G : Good g) (M : Mem) : doMake (He.ga K "Gate") 3 (F_ginit K) [.dat (.lst (g.1.map boxD)), .dat (.lst (g.2.map handD))] M = .ok (.dat (gobj K g)) M := by
  have q := e_ginit K G
  unfold doMake
  have e : optAll ([B.dat (.lst (g.1.map boxD)), .dat (.lst (g.2.map handD))].map (cv0 M)) = some [.dat (.lst (g.1.map boxD)), .dat (.lst (g.2.map handD))] := rfl
  have hl : ([B.dat (.lst (g.1.map boxD)), .dat (.lst (g.2.map handD))] : List B).length + 1 = 3 := rfl
  rw [if_pos hl, e]
  dsimp only
  rw [q]
  rfl
theorem y_lstD (ds : List D) (M : Mem) : vLstD [.dat (.lst ds)] M = .ok (.dat (.lst ds)) M := by simp [vLstD, els]
/-! ### the object's parts -/
theorem gf_b (K : PySem.W.Frag) (g : Gt) (M : Mem) : fldB (He.ga K "Gate") (Str.ofString "kept_boxes") (.dat (gobj K g)) M = some (.dat (.lst (g.1.map boxD))) := by
  simp [fldB, gobj, List.lookup]
theorem gf_h (K : PySem.W.Frag) (g : Gt) (M : Mem) : fldB (He.ga K "Gate") (Str.ofString "kept_hands") (.dat (gobj K g)) M = some (.dat (.lst (g.2.map handD))) := by
  simp [fldB, gobj, List.lookup, s_hb]
theorem og (K : PySem.W.Frag) (g : Gt) (m : Str) (M : Mem) (h1 : (m == Str.ofString "kept_boxes") = false) (h2 : (m == Str.ofString "kept_hands") = false) : objB (He.ga K "Gate") m (.dat (gobj K g)) M = true := by
  simp [objB, gobj, List.lookup, h1, h2]
theorem og_boxes (K : PySem.W.Frag) (g : Gt) (M : Mem) : objB (He.ga K "Gate") (Str.ofString "boxes") (.dat (gobj K g)) M = true := og K g _ M (by decide +kernel) (by decide +kernel)
theorem og_many (K : PySem.W.Frag) (g : Gt) (M : Mem) : objB (He.ga K "Gate") (Str.ofString "many") (.dat (gobj K g)) M = true := og K g _ M (by decide +kernel) (by decide +kernel)
theorem og_step (K : PySem.W.Frag) (g : Gt) (M : Mem) : objB (He.ga K "Gate") (Str.ofString "step_at") (.dat (gobj K g)) M = true := og K g _ M (by decide +kernel) (by decide +kernel)
theorem og_long (K : PySem.W.Frag) (g : Gt) (M : Mem) : objB (He.ga K "Gate") (Str.ofString "long") (.dat (gobj K g)) M = true := og K g _ M (by decide +kernel) (by decide +kernel)
theorem c_boxes (K : PySem.W.Frag) (g : Gt) (M : Mem) : doCallA 1 0 (f_Gate_boxes K) [.dat (gobj K g)] M = .ok (.dat (.lst (g.1.map boxD))) M := by
  refine call_0v rfl ?_ rfl
  have f := gf_b K g []
  unfold f_Gate_boxes t_Gate_boxes
  simp [f, y_lstD]
theorem c_many (K : PySem.W.Frag) (g : Gt) (M : Mem) : doCallA 1 0 (f_Gate_many K) [.dat (gobj K g)] M = .ok (.dat (.int (g.2.length : Int))) M := by
  refine call_0v rfl ?_ rfl
  have f := gf_h K g []
  unfold f_Gate_many t_Gate_many
  simp [f]
theorem at_hand {g : Gt} {h : Nat} (hh : h < g.2.length) : atI (g.2.map handD) (h : Int) = some (.tup [.int (g.2[h]).1, .lst ((progOf g h).map Sp'.d)]) := by
  rw [at_nat g.2 handD hh, prog_eq hh]
  rfl
/-! ### the first state -/
theorem y_rep (k : Nat) (h1 : 1 ≤ k) (h2 : k ≤ 1000) (M : Mem) : vMul (.dat (.tup [.int 0])) (.dat (.int (k : Int))) M = .ok (.dat (.tup (List.replicate k (.int 0)))) M := by
  have e : (List.replicate k [D.int 0]).flatten = List.replicate k (.int 0) := by
    clear h1 h2
    induction k with
    | zero => rfl
    | succ k ih => rw [List.replicate_succ, List.flatten_cons, ih]; rfl
  have a1 : (1 : Int) ≤ (k : Int) := by omega
  have a2 : (k : Int) ≤ 1000 := by omega
  simp [vMul, a1, a2, e]
theorem beg_D {g : Gt} (G : Good g) : staD (beginP g) = .tup [.tup (g.1.map fun b => .int b.1), .tup (List.replicate g.2.length (.int 0))] := by
  have e1 : (g.1.map fun b => b.1.toNat).map natD = g.1.map fun b => .int b.1 := by
    rw [List.map_map]
    exact List.map_congr_left fun b hb => by
      have := (G.box b hb).1
      show D.int ((b.1.toNat : Nat) : Int) = .int b.1
      rw [Int.toNat_of_nonneg this]
  have e2 : (g.2.map fun _ => 0).map natD = List.replicate g.2.length (.int 0) := by
    rw [List.map_map]
    exact List.map_const' ..
  unfold staD beginP
  rw [e1, e2]
end Ab

/-! A step done: the program's behind, the law's. -/
namespace Ab
open PySem PySem.Spec PyProof.Rows L2
theorem cut_to {α : Type} (xs : List α) {i : Nat} (h : i ≤ xs.length) : cut xs none (some (i : Int)) = xs.take i := by
  unfold cut
  rw [HT.sIx_none, HT.sIx_nat, Nat.min_eq_left h, List.drop_zero, Nat.sub_zero]
theorem cut_from {α : Type} (xs : List α) {i : Nat} (h : i ≤ xs.length) : cut xs (some (i : Int)) none = xs.drop i := by
  unfold cut
  rw [HT.sIx_none, HT.sIx_nat, Nat.min_eq_left h]
  exact List.take_of_length_le (by simp)
theorem cutset_D {α : Type} : ∀ (xs : List α) (i : Nat) (v : α), i < xs.length → xs.take i ++ (v :: xs.drop (i + 1)) = xs.set i v
  | x :: xs, 0, v, _ => rfl
  | x :: xs, i + 1, v, h => by
    have := cutset_D xs i v (Nat.lt_of_succ_lt_succ h)
    simp only [List.take_succ_cons, List.drop_succ_cons, List.set_cons_succ, List.cons_append]
    rw [this]
/-- a place of a tuple put anew, by slices -/
theorem e_cut {l : List D} {i : Nat} {v : D} {M : Mem} (h : i < l.length) (hz : l.length < 1000) :
    ((vAdd (.dat (.tup (cut l none (some (i : Int))))) (.dat (.tup [v])) M).bind fun x M1 => vAdd x (.dat (.tup (cut l (some ((i : Int) + 1)) none))) M1) = .ok (.dat (.tup (l.set i v))) M := by
  have e1 := cut_to l (i := i) (by omega)
  have e2 := cut_from l (i := i + 1) (by omega)
  have e3 : (((i + 1 : Nat)) : Int) = (i : Int) + 1 := by omega
  rw [e3] at e2
  have e4 := cutset_D l i v h
  have z1 : (l.take i).length + 1 ≤ SZ := by rw [SZ_val, List.length_take]; omega
  have z2 : (l.take i).length + 1 + (l.drop (i + 1)).length ≤ SZ := by rw [SZ_val, List.length_take, List.length_drop]; omega
  rw [e1, e2]
  unfold vAdd
  simp only [List.length_singleton, z1, if_true, Res.bind_ok, List.length_append, z2]
  rw [← e4, List.append_assoc]
  rfl
theorem st_nat (l : List Nat) (i v : Nat) : (l.map natD).set i (natD v) = (l.set i v).map natD := (List.map_set ..).symm
theorem y_in (i : Int) (ns : List Int) (M : Mem) : vInN false (.dat (.int i)) (.dat (.tup (ns.map .int))) M = .ok (.dat (.bl (ns.contains i))) M := by
  simp [vInN, seqD, asInts_map]
theorem s_ip : (Str.ofString "in" == Str.ofString "put") = false := by decide +kernel
theorem s_ig : (Str.ofString "in" == Str.ofString "go") = false := by decide +kernel
theorem s_pg : (Str.ofString "put" == Str.ofString "go") = false := by decide +kernel
theorem eq_ip (M : Mem) : vEq (.dat (.str "in")) (.dat (.str "put")) M = .ok (.dat (.bl false)) M := by simp [vEq, okD, ok_put, ok_in, s_ip]
theorem eq_ig (M : Mem) : vEq (.dat (.str "in")) (.dat (.str "go")) M = .ok (.dat (.bl false)) M := by simp [vEq, okD, ok_in, ok_go, s_ig]
theorem eq_pg (M : Mem) : vEq (.dat (.str "put")) (.dat (.str "go")) M = .ok (.dat (.bl false)) M := by simp [vEq, okD, ok_put, ok_go, s_pg]
theorem eq_gg (M : Mem) : vEq (.dat (.str "go")) (.dat (.str "go")) M = .ok (.dat (.bl true)) M := by simp [vEq, okD, ok_go]
/-- what stands in a state -/
structure StIx (g : Gt) (s : Sta) (h : Nat) : Prop where
  hh : h < g.2.length
  l1 : s.1.length = g.1.length
  l2 : s.2.length = g.2.length
theorem OkSt.ix {g : Gt} {s : Sta} (S : OkSt g s) {h : Nat} (hh : h < g.2.length) : StIx g s h := ⟨hh, by rw [S.1.len, dimB_len], by rw [S.2.len, dimH_len]⟩
theorem at_st {l : List Nat} {i : Nat} (h : i < l.length) : atI (l.map natD) (i : Int) = some (natD (l[i]?.getD 0)) := by
  rw [at_nat l natD h, List.getElem?_eq_getElem h]
  rfl
end Ab

/-! Lists of one's own. -/
namespace Ab
open PySem PySem.Spec PyProof.Rows L2
theorem y_lstOT (ds : List D) (M : Mem) : vLstO [.dat (.tup ds)] M = .ok (.own M.length) (M ++ [some (lstD ds)]) := by simp [vLstO, els, newL]
theorem y_lstOL (ds : List D) (M : Mem) : vLstO [.dat (.lst ds)] M = .ok (.own M.length) (M ++ [some (lstD ds)]) := by simp [vLstO, els, newL]
theorem y_tupO {k : Nat} {M : Mem} {ds : List D} (h : M[k]? = some (some (lstD ds))) : vTup [.own k] M = .ok (.dat (.tup ds)) M := by simp [vTup, isL, els, h]
theorem y_ixOD {k i : Nat} {M : Mem} {ds : List D} {d : D} (h : M[k]? = some (some (lstD ds))) (hd : ds[i]? = some d) : vIx (.own k) (.dat (.int (i : Int))) M = .ok (.dat d) M := by
  rw [y_ixO h, atI_nat, List.getElem?_map, hd]
  rfl
theorem sub_ok {o i e : Ev} {ρ : Rho} {M : Mem} {k n : Nat} {d : D} {ds : List D} (he : e ρ M = .ok (.dat d) M) (ho : o ρ M = .ok (.own k) M) (hi : i ρ M = .ok (.dat (.int (n : Int))) M) (hk : M[k]? = some (some (lstD ds))) (hn : n < ds.length) :
    sSub o i e ρ M = .ok (.nx ρ) (M.set k (some (lstD (ds.set n d)))) := by
  have ix : ixN ds.length (n : Int) = some n := ixN_nat hn
  simp only [x_sub, he, ho, hi, Res.bind_ok, hk, List.length_map, ix]
  unfold lstD
  rw [List.map_set]
end Ab

/-! Cells that a def hands back as they are. -/
namespace Ab
open PySem PySem.Spec PyProof.Rows L2
/-- values without views, cells below n only -/
def nlB (n : Nat) : B → Bool
  | .dat _ => true
  | .own k => decide (k < n)
  | _ => false
theorem mapC_fix {p : B → Bool} {g : B → B} (hg : ∀ b, p b = true → g b = b) : ∀ c : Cell, allC p c = true → mapC g c = c
  | .lst bs, h => by
    have h' : bs.all p = true := h
    rw [List.all_eq_true] at h'
    show Cell.lst (bs.map g) = .lst bs
    rw [List.map_congr_left (g := id) fun b hb => hg b (h' b hb), List.map_id]
  | .ins C fs, h => by
    have h' : (fs.map (·.2)).all p = true := h
    rw [List.all_eq_true] at h'
    show Cell.ins C (fs.map fun q => (q.1, g q.2)) = .ins C fs
    rw [List.map_congr_left (g := id) fun q hq => by rw [hg q.2 (h' _ (List.mem_map.mpr ⟨q, hq, rfl⟩))]; rfl, List.map_id]
  | .dct w kvs, h => by
    have h' : (kvs.map (·.2)).all p = true := h
    rw [List.all_eq_true] at h'
    show Cell.dct w (kvs.map fun q => (q.1, g q.2)) = .dct w kvs
    rw [List.map_congr_left (g := id) fun q hq => by rw [hg q.2 (h' _ (List.mem_map.mpr ⟨q, hq, rfl⟩))]; rfl, List.map_id]
  | .dk kvs, h => by
    have h' : (kvs.map (·.2)).all p = true := h
    rw [List.all_eq_true] at h'
    show Cell.dk (kvs.map fun q => (q.1, g q.2)) = .dk kvs
    rw [List.map_congr_left (g := id) fun q hq => by rw [hg q.2 (h' _ (List.mem_map.mpr ⟨q, hq, rfl⟩))]; rfl, List.map_id]
  | .lk ad od u c, h => congrArg (Cell.lk ad od u) (mapC_fix hg c h)
  | .tp bs, h => by
    have h' : bs.all p = true := h
    rw [List.all_eq_true] at h'
    show Cell.tp (bs.map g) = .tp bs
    rw [List.map_congr_left (g := id) fun b hb => hg b (h' b hb), List.map_id]
theorem allC_mono {p q : B → Bool} (h : ∀ b, p b = true → q b = true) : ∀ {c : Cell}, allC p c = true → allC q c = true
  | .lst bs, hc => by
    have h' : bs.all p = true := hc
    show bs.all q = true
    rw [List.all_eq_true] at *
    exact fun b hb => h b (h' b hb)
  | .ins C fs, hc => by
    have h' : (fs.map (·.2)).all p = true := hc
    show (fs.map (·.2)).all q = true
    rw [List.all_eq_true] at *
    exact fun b hb => h b (h' b hb)
  | .dct w kvs, hc => by
    have h' : (kvs.map (·.2)).all p = true := hc
    show (kvs.map (·.2)).all q = true
    rw [List.all_eq_true] at *
    exact fun b hb => h b (h' b hb)
  | .dk kvs, hc => by
    have h' : (kvs.map (·.2)).all p = true := hc
    show (kvs.map (·.2)).all q = true
    rw [List.all_eq_true] at *
    exact fun b hb => h b (h' b hb)
  | .lk ad od u c, hc => allC_mono h (c := c) hc
  | .tp bs, hc => by
    have h' : bs.all p = true := hc
    show bs.all q = true
    rw [List.all_eq_true] at *
    exact fun b hb => h b (h' b hb)
theorem nl_low {n : Nat} {b : B} (h : nlB n b = true) : lowB n b = true := by cases b <;> first | rfl | exact h | cases h
theorem nl_nv {n : Nat} {b : B} (h : nlB n b = true) : nvB b = true := by cases b <;> first | rfl | cases h
theorem nl_mono {n m : Nat} (hm : n ≤ m) {b : B} (h : nlB n b = true) : nlB m b = true := by
  cases b with
  | own k => have : k < n := of_decide_eq_true h; exact decide_eq_true (by omega)
  | dat d => rfl
  | vw d => cases h
  | ty t => cases h
theorem nl_sh {n m : Nat} (b : B) (h : nlB n b = true) : shB n m b = b := by
  cases b with
  | own k => have : k < n := of_decide_eq_true h; simp [shB, this]
  | dat d => rfl
  | vw d => cases h
  | ty t => cases h
theorem nl_sb {n : Nat} {d : D} (b : B) (h : nlB n b = true) : sbB n d b = b := by
  cases b with
  | own k => have : k < n := of_decide_eq_true h; simp [sbB]; omega
  | dat d => rfl
  | vw d => cases h
  | ty t => cases h
theorem nl_res {n : Nat} (M : Mem) (b : B) (h : nlB n b = true) : resB n M b = some b := by
  cases b with
  | own k => have : k < n := of_decide_eq_true h; simp [resB, resO, this]
  | dat d => rfl
  | vw d => cases h
  | ty t => cases h
/-- cells of that kind -/
def NL (n : Nat) (M : Mem) : Prop := ∀ o ∈ M, ∃ c, o = some c ∧ allC (nlB n) c = true
theorem NL.nil (n : Nat) : NL n [] := fun o h => by cases h
theorem NL.cons {n : Nat} {c : Cell} {M : Mem} (h : allC (nlB n) c = true) (r : NL n M) : NL n (some c :: M) := fun o ho => by
  rcases List.mem_cons.mp ho with rfl | ho
  · exact ⟨c, rfl, h⟩
  · exact r o ho
theorem NL.app {n : Nat} {M N : Mem} (h : NL n M) (r : NL n N) : NL n (M ++ N) := fun o ho => (List.mem_append.mp ho).elim (h o) (r o)
theorem nl_lstD (n : Nat) (ds : List D) : allC (nlB n) (lstD ds) = true := by
  show (ds.map B.dat).all (nlB n) = true
  rw [List.all_eq_true]
  intro b hb
  obtain ⟨d, _, rfl⟩ := List.mem_map.mp hb
  rfl
theorem NL.low {n : Nat} {M : Mem} (h : NL n M) : lowM n M = true := by
  unfold lowM
  rw [List.all_eq_true]
  intro o ho
  obtain ⟨c, rfl, q⟩ := h o ho
  exact allC_mono (fun b => nl_low) q
theorem NL.low_le {n m : Nat} {M : Mem} (h : NL n M) (hm : n ≤ m) : lowM m M = true := by
  unfold lowM
  rw [List.all_eq_true]
  intro o ho
  obtain ⟨c, rfl, q⟩ := h o ho
  exact allC_mono (fun b hb => nl_low (nl_mono hm hb)) q
theorem NL.mono {n m : Nat} {M : Mem} (h : NL n M) (hm : n ≤ m) : NL m M := fun o ho => by
  obtain ⟨c, rfl, q⟩ := h o ho
  exact ⟨c, rfl, allC_mono (fun b => nl_mono hm) q⟩
theorem NL.nv {n : Nat} {M : Mem} (h : NL n M) : M.all nvC = true := by
  rw [List.all_eq_true]
  intro o ho
  obtain ⟨c, rfl, q⟩ := h o ho
  exact allC_mono (fun b => nl_nv) q
theorem NL.sh {n : Nat} (m : Nat) {M : Mem} (h : NL n M) : M.map (shC n m) = M := by
  rw [List.map_congr_left (g := id) fun o ho => by
    obtain ⟨c, rfl, q⟩ := h o ho
    show some (mapC (shB n m) c) = some c
    rw [mapC_fix (fun b => nl_sh b) c q], List.map_id]
theorem NL.sb {n : Nat} (d : D) {M : Mem} (h : NL n M) : M.map (sbC n d) = M := by
  rw [List.map_congr_left (g := id) fun o ho => by
    obtain ⟨c, rfl, q⟩ := h o ho
    show some (mapC (sbB n d) c) = some c
    rw [mapC_fix (fun b => nl_sb b) c q], List.map_id]
theorem NL.res {n : Nat} (N : Mem) {M : Mem} (h : NL n M) : optAll (M.map (resC n N)) = some M := by
  have e : M.map (resC n N) = M.map some := List.map_congr_left fun o ho => by
    obtain ⟨c, rfl, q⟩ := h o ho
    have q1 : allC (fun b => (resB n N b).isSome) c = true := allC_mono (fun b hb => by rw [nl_res N b hb]; rfl) q
    have q2 : mapC (fun b => (resB n N b).getD b) c = c := mapC_fix (p := nlB n) (fun b hb => by rw [nl_res N b hb]; rfl) c q
    show (if allC (fun b => (resB n N b).isSome) c = true then some (some (mapC (fun b => (resB n N b).getD b) c)) else none) = _
    rw [if_pos q1, q2]
  rw [e]
  exact optAll_some M
/-- the end of a def that was handed n cells -/
theorem fin_nl {n : Nat} {M : Mem} (d : D) (h : NL n (M.take n)) : finD n (.ok (.dat d) M) = .ok (.dat d) (M.take n) := by
  unfold finD
  simp only [Res.bind_ok, h.res]
  rfl
/-- a def that is handed n cells, and data -/
theorem call_nl {fs : Fn} {d : D} {xs : List B} {ar n : Nat} {M M' : Mem} (h : fs (.own 0 :: xs) M = .ok (.dat d) M') (hn : 0 < n) (hl : M.length = n) (hl' : M'.length = n) (hM : NL n M) (hM' : NL n M') (hx : xs.all vd = true) (har : xs.length + 1 = ar) (Mr : Mem) :
    doCallA ar n fs (.own 0 :: xs) (M ++ Mr) = .ok (.dat d) (M' ++ Mr) := by
  have ht : (M ++ Mr).take n = M := by rw [← hl]; simp
  have hd : (M ++ Mr).drop n = Mr := by rw [← hl]; simp
  have ht' : M'.take n = M' := by rw [← hl']; simp
  have hd' : M'.drop n = [] := by rw [← hl']; simp
  unfold doCallA doCall
  have e : optAll ((B.own 0 :: xs).map (cvB n (M ++ Mr))) = some (.own 0 :: xs) := by
    have e0 : cvB n (M ++ Mr) (.own 0) = some (.own 0) := by
      show cvO n (M ++ Mr) 0 = _
      unfold cvO
      rw [if_pos hn]
    rw [List.map_cons, e0]
    unfold optAll
    rw [cv_vd hx]
  rw [if_pos (by rw [List.length_cons]; exact har), e]
  dsimp only
  rw [ht, if_pos ⟨hM.low, by rw [List.length_append]; omega⟩, h]
  dsimp only
  rw [if_pos ⟨rfl, hM'.nv, by omega⟩, ht', hd, hd', hM'.sh]
  simp [shB]
end Ab

/-! Loops: what is behind, what is ahead; cells thrown away. -/
namespace Ab
open PySem PySem.Spec PyProof.Rows L2
theorem forL_pre {α : Type} {g : Tg} {s : Es} (β : α → B) (R : List α → Rho → Mem → Prop) (xs : List α) (ρ : Rho) (M : Mem) (h0 : R [] ρ M)
    (h : ∀ pre x post, xs = pre ++ x :: post → ∀ ρ M, R pre ρ M → ∃ ρ1 ρ2 M2, g (β x) ρ = some ρ1 ∧ s ρ1 M = .ok (.nx ρ2) M2 ∧ R (pre ++ [x]) ρ2 M2) :
    ∃ ρ2 M2, forL g s (xs.map β) ρ M = .ok (.nx ρ2) M2 ∧ R xs ρ2 M2 := by
  have key : ∀ (post pre : List α) (ρ : Rho) (M : Mem), xs = pre ++ post → R pre ρ M → ∃ ρ2 M2, forL g s (post.map β) ρ M = .ok (.nx ρ2) M2 ∧ R xs ρ2 M2 := by
    intro post
    induction post with
    | nil =>
      intro pre ρ M e r
      rw [List.append_nil] at e
      subst e
      exact ⟨ρ, M, rfl, r⟩
    | cons x post ih =>
      intro pre ρ M e r
      obtain ⟨ρ1, ρ2, M2, q1, q2, q3⟩ := h pre x post e ρ M r
      obtain ⟨ρ3, M3, q4, q5⟩ := ih (pre ++ [x]) ρ2 M2 (by rw [e, List.append_assoc]; rfl) q3
      refine ⟨ρ3, M3, ?_, q5⟩
      rw [List.map_cons]
      unfold forL
      rw [q1]
      dsimp only
      rw [q2]
      exact q4
  exact key xs [] ρ M rfl h0
/-- cells from m on are thrown away -/
theorem gc_ok {m n : Nat} {s : Es} {ρ ρ' : Rho} {M N : Mem} (hm : n ≤ m) (hN : M.take m = N) (hl : NL m N) (hr : gcR m ρ = ρ') : sGc (fun _ _ => m) n s ρ M = s ρ' N := by
  have hg : gc m ρ M = some (ρ', N) := by
    unfold gc
    rw [hN, if_pos hl.low, hr]
  unfold sGc
  rw [if_pos hm, hg]
end Ab

/-! Gates and states, no map. -/
namespace Ab
open PySem PySem.Spec PyProof.Rows L2
theorem y_appD {M : Mem} {k : Nat} {ds : List D} {d : D} (h : M[k]? = some (some (lstD ds))) (hl : ds.length < 1000000) : vAppend (.own k) [.dat d] M = .ok (.dat .non) (M.set k (some (lstD (ds ++ [d])))) := by
  rw [y_app h (by rw [List.length_map, SZ_val]; omega)]
  unfold lstD
  rw [List.map_append]
  rfl
theorem state_at {sts : List Sta} {n : Nat} (h : n < sts.length) : (sts.map staD)[n]? = some (staD (sts[n]?.getD ([], []))) := by
  rw [List.getElem?_map, List.getElem?_eq_getElem h]
  rfl
theorem y_lenD {M : Mem} {k : Nat} {ds : List D} (h : M[k]? = some (some (lstD ds))) : vLen [.own k] M = .ok (.dat (natD ds.length)) M := by
  rw [y_lenO h, List.length_map]
theorem isLD {M : Mem} {k : Nat} {ds : List D} (h : M[k]? = some (some (lstD ds))) : isL (.own k) M = true := y_isL h
theorem atI_last {α : Type} {l : List α} {x : α} (h : l.getLast? = some x) : atI l (-1) = some x := by
  cases l with
  | nil => cases h
  | cons a l =>
    have e : ixN (a :: l).length (-1) = some l.length := by
      unfold ixN
      rw [if_neg (by omega), List.length_cons]
      simp
      omega
    unfold atI
    rw [e]
    rw [List.getLast?_eq_getElem?] at h
    simpa using h
theorem y_last {k : Nat} {M : Mem} {ds : List D} {d : D} (h : M[k]? = some (some (lstD ds))) (hd : ds.getLast? = some d) : vIx (.own k) (.dat (.int (-1))) M = .ok (.dat d) M := by
  rw [y_ixO h]
  have : (ds.map B.dat).getLast? = some (.dat d) := by rw [List.getLast?_map, hd]; rfl
  rw [atI_last this]
theorem play_sta (g : Gt) (w : List Nat) : ((playP g (beginP g) w).map staD).getLast? = some (staD (walkP g w)) := by
  rw [List.getLast?_map, play_last]
  rfl
theorem walk_ok {g : Gt} (G : Good g) : ∀ (w : List Nat), (∀ h ∈ w, h < g.2.length) → OkSt g (walkP g w) := by
  have key : ∀ (w : List Nat) (s : Sta), OkSt g s → (∀ h ∈ w, h < g.2.length) → OkSt g (w.foldl (behindP g) s) := by
    intro w
    induction w with
    | nil => exact fun s S _ => S
    | cons a w ih => exact fun s S h => ih _ (behind_ok G S (h a List.mem_cons_self)) fun x hx => h x (List.mem_cons_of_mem _ hx)
  exact fun w h => key w _ (begin_ok G) h
theorem call_own {fs : Fn} {ds : List D} {xs : List B} {ar : Nat} (hx : xs.all vd = true) (h : fs xs [] = .ok (.own 0) [some (lstD ds)]) (har : xs.length = ar) (M : Mem) : doCallA ar 0 fs xs M = .ok (.own M.length) (M ++ [some (lstD ds)]) := by
  have h' : fs xs (List.take 0 M) = .ok (.own 0) [some (lstD ds)] := h
  have hs : mapC (shB 0 M.length) (lstD ds) = lstD ds := mapC_fix (p := nlB 0) (fun b => nl_sh b) _ (nl_lstD 0 ds)
  have hn : nvC (some (lstD ds)) = true := allC_mono (fun b => nl_nv) (nl_lstD 0 ds)
  unfold doCallA doCall
  rw [if_pos har, cv_vd hx]
  dsimp only
  rw [if_pos ⟨rfl, Nat.zero_le _⟩, h']
  dsimp only
  rw [if_pos ⟨rfl, by simp [hn], Nat.zero_le _⟩]
  simp [shB, shC, hs]
end Ab

/-! What the laws begin with. -/
namespace Ab
open PySem PySem.Spec PyProof.Rows L2
theorem dl_eq (s : DI) : dl s = lstD (.int s.1 :: .int s.2.1 :: s.2.2.map .int) := by
  unfold dl lstD
  simp [ib, Function.comp_def]
theorem nl_dl (n : Nat) (s : DI) : allC (nlB n) (dl s) = true := by rw [dl_eq]; exact nl_lstD _ _
theorem view_lstD {m k n : Nat} {M : Mem} {ds : List D} (hm : m ≤ k) (h : M[k]? = some (some (lstD ds))) : viewN m M (n + 1) (.own k) = some (.lst ds) := by
  unfold viewN
  rw [if_pos hm, h]
  have e : optAll ((ds.map B.dat).map (viewN m M n)) = some ds := by
    rw [List.map_map]
    exact (congrArg optAll (List.map_congr_left fun d _ => by show viewN m M n (.dat d) = some d; cases n <;> rfl)).trans (optAll_some ds)
  show (optAll ((ds.map B.dat).map (viewN m M n))).map D.lst = _
  rw [e]
  rfl
theorem cv_own {k : Nat} {M : Mem} {d : D} (h : viewN 0 M 4 (.own k) = some d) : cvB 0 M (.own k) = some (.vw d) := by
  show cvO 0 M k = _
  unfold cvO
  rw [if_neg (Nat.not_lt_zero _), h]
  rfl
theorem okL_nat : ∀ (l : List Nat) (n : Nat), okL (l.map natD) n = true
  | [], _ => by unfold okL; rfl
  | a :: l, n => by
    rw [List.map_cons]
    unfold okL
    rw [okL_nat l n]
    cases n <;> simp [okD, natD]
theorem ok_sta (s : Sta) : okD (staD s) 8 = true := by
  unfold staD
  simp [okD, okL, okL_nat]
theorem ne_sta (s : Sta) (M : Mem) : vNe (.dat (staD s)) (.dat (staD s)) M = .ok (.dat (.bl false)) M := by
  have h1 := ok_sta s
  have h2 := eqD_self h1
  unfold vNe
  simp only [view_dat, h1, and_self, if_true, h2]
  rfl
end Ab

/-! What is alike; what is played. -/
namespace Ab
open PySem PySem.Spec PyProof.Rows L2
noncomputable def F_alike : Nat → Fn
  | 0 => fun _ _ => .stuck
  | n + 1 => f_law_alike (F_alike n)
/-- data of so many levels -/
def dep : D → Nat → Prop
  | .non, _ => True
  | .int _, _ => True
  | .str s, _ => PyData.strOk s = true
  | .tup ds, n + 1 => ds.length < 1000000 ∧ depL ds n
  | .lst ds, n + 1 => ds.length < 1000000 ∧ depL ds n
  | _, _ => False
where depL : List D → Nat → Prop
  | [], _ => True
  | d :: ds, n => dep d n ∧ depL ds n
theorem depL_get : ∀ {ds : List D} {n i : Nat} (h : i < ds.length), dep.depL ds n → dep (ds[i]) n
  | d :: ds, n, 0, _, h => by unfold dep.depL at h; exact h.1
  | d :: ds, n, i + 1, hi, h => by
    unfold dep.depL at h
    exact depL_get (Nat.lt_of_succ_lt_succ hi) h.2
theorem depL_map {α : Type} (f : α → D) (n : Nat) : ∀ (l : List α), (∀ x ∈ l, dep (f x) n) → dep.depL (l.map f) n
  | [], _ => by unfold dep.depL; trivial
  | a :: l, h => by
    rw [List.map_cons]
    unfold dep.depL
    exact ⟨h a List.mem_cons_self, depL_map f n l fun x hx => h x (List.mem_cons_of_mem _ hx)⟩
/-- a value that shows data -/
def Shows (d : D) (x : B) : Prop := x = .dat d ∨ x = .vw d
theorem Shows.vd {d : D} {x : B} (h : Shows d x) : vd x = true := by rcases h with rfl | rfl <;> rfl
theorem Shows.lo (d : D) : Shows d (lo d) := by
  unfold Ab.lo
  split
  · exact .inl rfl
  · exact .inr rfl
theorem Shows.ix {ds : List D} {x : B} {i : Nat} (h : Shows (.lst ds) x ∨ Shows (.tup ds) x) (hi : i < ds.length) (M : Mem) : ∃ y, vIx x (.dat (.int (i : Int))) M = .ok y M ∧ Shows (ds[i]) y := by
  have e : atI ds (i : Int) = some ds[i] := by rw [atI_nat, List.getElem?_eq_getElem hi]
  rcases h with (rfl | rfl) | (rfl | rfl)
  · exact ⟨_, by rw [y_ixL, e], .inl rfl⟩
  · exact ⟨_, by rw [y_ixVL, e], Shows.lo _⟩
  · exact ⟨_, by rw [y_ixT, e], .inl rfl⟩
  · exact ⟨_, by rw [y_ixVT, e], Shows.lo _⟩
theorem Shows.len {ds : List D} {x : B} (h : Shows (.lst ds) x ∨ Shows (.tup ds) x) (M : Mem) : vLen [x] M = .ok (.dat (.int (ds.length : Int))) M := by
  rcases h with (rfl | rfl) | (rfl | rfl) <;> simp
theorem Shows.non {d : D} {x : B} (h : Shows d x) : isNon x = isNon (.dat d) := by rcases h with rfl | rfl <;> cases d <;> rfl
theorem Shows.ty {d : D} {x : B} (h : Shows d x) (n : String) (M : Mem) : vIsT [x, .ty n] M = vIsT [.dat d, .ty n] M := by rcases h with rfl | rfl <;> rfl
theorem Shows.eq {d e : D} {x y : B} (h : Shows d x) (k : Shows e y) (M : Mem) : vEq x y M = vEq (.dat d) (.dat e) M := by
  rcases h with rfl | rfl <;> rcases k with rfl | rfl <;> simp [vEq]
section
variable (M : Mem) (ds : List D) (i : Int) (s : Str)
theorem ty_bi : vIsT [.dat (.int i), .ty "bool"] M = .ok (.dat (.bl false)) M := by
  have e : kitB "int" "bool" = some false := by decide +kernel
  simp [vIsT, tyB, tyName, e]
theorem ty_ii : vIsT [.dat (.int i), .ty "int"] M = .ok (.dat (.bl true)) M := by
  have e : kitB "int" "int" = some true := by decide +kernel
  simp [vIsT, tyB, tyName, e]
theorem ty_bs : vIsT [.dat (.str s), .ty "bool"] M = .ok (.dat (.bl false)) M := by
  have e : kitB "str" "bool" = some false := by decide +kernel
  simp [vIsT, tyB, tyName, e]
theorem ty_is : vIsT [.dat (.str s), .ty "int"] M = .ok (.dat (.bl false)) M := by
  have e : kitB "str" "int" = some false := by decide +kernel
  simp [vIsT, tyB, tyName, e]
theorem ty_ss : vIsT [.dat (.str s), .ty "str"] M = .ok (.dat (.bl true)) M := by
  have e : kitB "str" "str" = some true := by decide +kernel
  simp [vIsT, tyB, tyName, e]
theorem ty_bt : vIsT [.dat (.tup ds), .ty "bool"] M = .ok (.dat (.bl false)) M := by
  have e : kitB "tuple" "bool" = some false := by decide +kernel
  simp [vIsT, tyB, tyName, e]
theorem ty_it : vIsT [.dat (.tup ds), .ty "int"] M = .ok (.dat (.bl false)) M := by
  have e : kitB "tuple" "int" = some false := by decide +kernel
  simp [vIsT, tyB, tyName, e]
theorem ty_st : vIsT [.dat (.tup ds), .ty "str"] M = .ok (.dat (.bl false)) M := by
  have e : kitB "tuple" "str" = some false := by decide +kernel
  simp [vIsT, tyB, tyName, e]
theorem ty_tt : vIsT [.dat (.tup ds), .ty "tuple"] M = .ok (.dat (.bl true)) M := by
  have e : kitB "tuple" "tuple" = some true := by decide +kernel
  simp [vIsT, tyB, tyName, e]
theorem ty_lt : vIsT [.dat (.tup ds), .ty "list"] M = .ok (.dat (.bl false)) M := by
  have e : kitB "tuple" "list" = some false := by decide +kernel
  simp [vIsT, tyB, tyName, e]
theorem ty_bl : vIsT [.dat (.lst ds), .ty "bool"] M = .ok (.dat (.bl false)) M := by
  have e : kitB "list" "bool" = some false := by decide +kernel
  simp [vIsT, tyB, tyName, e]
theorem ty_il : vIsT [.dat (.lst ds), .ty "int"] M = .ok (.dat (.bl false)) M := by
  have e : kitB "list" "int" = some false := by decide +kernel
  simp [vIsT, tyB, tyName, e]
theorem ty_sl : vIsT [.dat (.lst ds), .ty "str"] M = .ok (.dat (.bl false)) M := by
  have e : kitB "list" "str" = some false := by decide +kernel
  simp [vIsT, tyB, tyName, e]
theorem ty_tl : vIsT [.dat (.lst ds), .ty "tuple"] M = .ok (.dat (.bl false)) M := by
  have e : kitB "list" "tuple" = some false := by decide +kernel
  simp [vIsT, tyB, tyName, e]
theorem ty_ll : vIsT [.dat (.lst ds), .ty "list"] M = .ok (.dat (.bl true)) M := by
  have e : kitB "list" "list" = some true := by decide +kernel
  simp [vIsT, tyB, tyName, e]
theorem ty_dt : vIsT [.dat (.tup ds), .ty "dict"] M = .ok (.dat (.bl false)) M := by
  have e : kitB "tuple" "dict" = some false := by decide +kernel
  simp [vIsT, tyB, tyName, e]
theorem ty_dl : vIsT [.dat (.lst ds), .ty "dict"] M = .ok (.dat (.bl false)) M := by
  have e : kitB "list" "dict" = some false := by decide +kernel
  simp [vIsT, tyB, tyName, e]
end
theorem ne_bl (a b : Bool) (M : Mem) : vNe (.dat (.bl a)) (.dat (.bl b)) M = .ok (.dat (.bl (!(a == b)))) M := by
  cases a <;> cases b <;> rfl
theorem e_alike : ∀ (n : Nat) (d : D), dep d n → ∀ x y, Shows d x → Shows d y → F_alike (n + 1) [x, y] [] = .ok (.dat (.bl true)) [] := by
  have e_non : ∀ (g : Fn) x y, Shows .non x → Shows .non y → finD 0 (outB (t_law_alike g [some x, some y, none, none] [])) = .ok (.dat (.bl true)) [] := fun g x y hx hy => by
    have nx : isNon x = some true := hx.non
    have ny : isNon y = some true := hy.non
    unfold t_law_alike
    simp [nx, ny]
  have e_int : ∀ (g : Fn) i x y, Shows (.int i) x → Shows (.int i) y → finD 0 (outB (t_law_alike g [some x, some y, none, none] [])) = .ok (.dat (.bl true)) [] := fun g i x y hx hy => by
    have nx : isNon x = some false := hx.non
    have ny : isNon y = some false := hy.non
    have tx := hx.ty
    have ty := hy.ty
    have eq := hx.eq hy
    unfold t_law_alike
    simp [nx, ny, tx, ty, ty_bi, ty_ii, eq]
  have e_str : ∀ (g : Fn) s x y, PyData.strOk s = true → Shows (.str s) x → Shows (.str s) y → finD 0 (outB (t_law_alike g [some x, some y, none, none] [])) = .ok (.dat (.bl true)) [] := fun g s x y ok hx hy => by
    have nx : isNon x = some false := hx.non
    have ny : isNon y = some false := hy.non
    have tx := hx.ty
    have ty := hy.ty
    have eq := hx.eq hy
    have vv : ∀ M, vEq (.dat (.str s)) (.dat (.str s)) M = .ok (.dat (.bl true)) M := fun M => by simp [vEq, okD, ok]
    unfold t_law_alike
    simp [nx, ny, tx, ty, ty_bs, ty_is, ty_ss, eq, vv]
  have e_seq : ∀ (n : Nat) (ds : List D) x y, ds.length < 1000000 → dep.depL ds n → (∀ (d : D), dep d n → ∀ x y, Shows d x → Shows d y → F_alike (n + 1) [x, y] [] = .ok (.dat (.bl true)) []) → (Shows (.lst ds) x ∧ Shows (.lst ds) y ∨ Shows (.tup ds) x ∧ Shows (.tup ds) y) → finD 0 (outB (t_law_alike (F_alike (n + 1)) [some x, some y, none, none] [])) = .ok (.dat (.bl true)) [] := fun n ds x y hl hd ih hxy => by
    have hx : Shows (.lst ds) x ∨ Shows (.tup ds) x := hxy.imp (·.1) (·.1)
    have hy : Shows (.lst ds) y ∨ Shows (.tup ds) y := hxy.imp (·.2) (·.2)
    have q := fz_rgY (vs := [2]) (g := gN 2) (l := eApp vLen (aCons (eVar 1) aNil)) (e := eApp (doCallA 2 0 (F_alike (n + 1))) (aCons (eBin vIx (eVar 0) (eVar 2)) (aCons (eBin vIx (eVar 1) (eVar 2)) aNil))) (ρ := [some x, some y, none, none]) (M := []) ds.length (fun _ => .bl true) (by
        have := Shows.len hy []
        simp [this]) rfl hl fun i hi c => by
          obtain ⟨x', ex, sx⟩ := Shows.ix hx hi ([] ++ [some (.lst (c.map .dat))])
          obtain ⟨y', ey, sy⟩ := Shows.ix hy hi ([] ++ [some (.lst (c.map .dat))])
          have cc : doCallA 2 0 (F_alike (n + 1)) [x', y'] ([] ++ [some (.lst (c.map .dat))]) = .ok (.dat (.bl true)) ([] ++ [some (.lst (c.map .dat))]) := call_0v (by simp [sx.vd, sy.vd]) (ih _ (depL_get hi hd) x' y' sx sy) rfl
          refine ⟨[some x, some y, some (.dat (.int (i : Int))), none], rfl, ?_⟩
          have v0 : eVar 0 [some x, some y, some (.dat (.int (i : Int))), none] ([] ++ [some (.lst (c.map .dat))]) = .ok x ([] ++ [some (.lst (c.map .dat))]) := rfl
          have v1 : eVar 1 [some x, some y, some (.dat (.int (i : Int))), none] ([] ++ [some (.lst (c.map .dat))]) = .ok y ([] ++ [some (.lst (c.map .dat))]) := rfl
          have v2 : eVar 2 [some x, some y, some (.dat (.int (i : Int))), none] ([] ++ [some (.lst (c.map .dat))]) = .ok (.dat (.int (i : Int))) ([] ++ [some (.lst (c.map .dat))]) := rfl
          rw [x_app, x_cons, x_bin, v0]
          simp only [Res.bind_ok, v2, ex, x_cons, x_bin, v1, ey, x_nil, cc]
    rw [List.map_const', List.length_range] at q
    have lx := Shows.len hx []
    have ly := Shows.len hy []
    have at_ := all_true ds.length []
    unfold t_law_alike
    generalize (eFz (eLCR1 [2] (gN 2) (aCons (eApp vLen (aCons (eVar 1) aNil)) aNil) tY (eApp (doCallA 2 0 (F_alike (n + 1))) (aCons (eBin vIx (eVar 0) (eVar 2)) (aCons (eBin vIx (eVar 1) (eVar 2)) aNil))))) = U at q
    rcases hxy with ⟨hx, hy⟩ | ⟨hx, hy⟩
    · have nx : isNon x = some false := hx.non
      have ny : isNon y = some false := hy.non
      have tx := hx.ty
      have ty := hy.ty
      simp [nx, ny, tx, ty, ty_bl, ty_il, ty_sl, ty_tl, ty_ll, ty_dl, ne_bl, lx, ly, q, at_]
    · have nx : isNon x = some false := hx.non
      have ny : isNon y = some false := hy.non
      have tx := hx.ty
      have ty := hy.ty
      simp [nx, ny, tx, ty, ty_bt, ty_it, ty_st, ty_tt, ty_lt, ty_dt, ne_bl, lx, ly, q, at_]
  intro n
  induction n with
  | zero =>
    intro d hd x y hx hy
    show finD 0 (outB (t_law_alike (F_alike 0) [some x, some y, none, none] [])) = _
    cases d with
    | non => exact e_non _ x y hx hy
    | int i => exact e_int _ i x y hx hy
    | str s => exact e_str _ s x y (by unfold dep at hd; exact hd) hx hy
    | bl b => unfold dep at hd; cases hd
    | tup ds => unfold dep at hd; cases hd
    | lst ds => unfold dep at hd; cases hd
    | scr K ns => unfold dep at hd; cases hd
    | obj C fs => unfold dep at hd; cases hd
    | any => unfold dep at hd; cases hd
    | ref a => unfold dep at hd; cases hd
    | kd kvs => unfold dep at hd; cases hd
    | nd w kvs => unfold dep at hd; cases hd
    | xc a dd fs => unfold dep at hd; cases hd
  | succ n ih =>
    intro d hd x y hx hy
    show finD 0 (outB (t_law_alike (F_alike (n + 1)) [some x, some y, none, none] [])) = _
    cases d with
    | non => exact e_non _ x y hx hy
    | int i => exact e_int _ i x y hx hy
    | str s => exact e_str _ s x y (by unfold dep at hd; exact hd) hx hy
    | tup ds =>
      unfold dep at hd
      exact e_seq n ds x y hd.1 hd.2 ih (.inr ⟨hx, hy⟩)
    | lst ds =>
      unfold dep at hd
      exact e_seq n ds x y hd.1 hd.2 ih (.inl ⟨hx, hy⟩)
    | bl b => unfold dep at hd; cases hd
    | scr K ns => unfold dep at hd; cases hd
    | obj C fs => unfold dep at hd; cases hd
    | any => unfold dep at hd; cases hd
    | ref a => unfold dep at hd; cases hd
    | kd kvs => unfold dep at hd; cases hd
    | nd w kvs => unfold dep at hd; cases hd
    | xc a dd fs => unfold dep at hd; cases hd
end Ab

/-! Alike. -/
namespace Ab
open PySem PySem.Spec PyProof.Rows L2
theorem dep_int (l : List Nat) (n : Nat) : dep.depL (l.map natD) n := depL_map natD n l fun x _ => by unfold dep; trivial
theorem dep_sta (s : Sta) (n : Nat) (h1 : s.1.length < 1000000) (h2 : s.2.length < 1000000) : dep (staD s) (n + 2) := by
  unfold staD dep
  refine ⟨by simp, ?_⟩
  unfold dep.depL
  refine ⟨?_, ?_⟩
  · unfold dep
    exact ⟨by rw [List.length_map]; exact h1, dep_int _ _⟩
  · unfold dep.depL
    refine ⟨?_, by unfold dep.depL; trivial⟩
    unfold dep
    exact ⟨by rw [List.length_map]; exact h2, dep_int _ _⟩
/-- a call that is alike -/
theorem c_alike {d : D} {x y x' y' : B} {M : Mem} (hd : dep d 3) (hx : cvB 0 M x = some x') (hy : cvB 0 M y = some y') (sx : Shows d x') (sy : Shows d y') : doCallA 2 0 (F_alike 4) [x, y] M = .ok (.dat (.bl true)) M :=
  call_0 (cs := [x', y']) (by rw [List.map_cons, List.map_cons, hx, hy]; rfl) (e_alike 3 d hd x' y' sx sy) rfl
theorem dep_nats (l : List Nat) (n : Nat) (h : l.length < 1000000) : dep (.lst (l.map natD)) (n + 1) := by
  unfold dep
  exact ⟨by rw [List.length_map]; exact h, dep_int _ _⟩
end Ab

/-! The law's gate made, its first state. -/
namespace Ab
open PySem PySem.Spec PyProof.Rows L2
noncomputable abbrev F_made (K : PySem.W.Frag) : Fn := f_law_made K (F_ginit K)
theorem e_made (K : PySem.W.Frag) {g : Gt} (G : Good g) : F_made K [.dat (gateD g)] [] = .ok (.dat (gobj K g)) [] := by
  have mk := e_gmake K G []
  have h1 := G.hands
  have kh : eFz (eLC [1, 2] (gT [1, 2]) (eBin vIx (eVar 0) (eC (.int 1))) tY (eTup (aCons (eVar 1) (aCons (eApp vLstD (aCons (eVar 2) aNil)) aNil)))) [some (.dat (gateD g)), none, none] [] = .ok (.dat (.lst (g.2.map handD))) [] :=
    fz_itY (fun h => .dat (handD h)) handD g.2 (by simp [gateD]) (items_lst _ _) rfl (by omega) fun h hh c => by
      refine ⟨[some (.dat (gateD g)), some (.dat (.int h.1)), some (.dat (.lst (h.2.map Sp'.d)))], rfl, ?_⟩
      simp [y_lstD, handD]
  show finD 0 (outB (t_law_made K (F_ginit K) (rho0 3 [.dat (gateD g)]) [])) = _
  have r0 : rho0 3 [.dat (gateD g)] = [some (.dat (gateD g)), none, none] := rfl
  have e0 : eApp vLstD (aCons (eBin vIx (eVar 0) (eC (.int 0))) aNil) [some (.dat (gateD g)), none, none] [] = .ok (.dat (.lst (g.1.map boxD))) [] := by
    simp [gateD, y_lstD]
  unfold t_law_made
  rw [r0, x_ret, x_app, x_cons, e0]
  dsimp only [Res.bind_ok]
  rw [x_cons, kh]
  simp only [x_nil, Res.bind_ok, mk, x_o2, fin_0]
end Ab

/-! A gate made, called. -/
namespace Ab
open PySem PySem.Spec PyProof.Rows L2
theorem c_made (K : PySem.W.Frag) {g : Gt} (G : Good g) (M : Mem) : doCallA 1 0 (F_made K) [.dat (gateD g)] M = .ok (.dat (gobj K g)) M := call_0v rfl (e_made K G) rfl
end Ab


/-! Written: the program's text, the law's rows. -/
namespace Ab
open PySem PySem.Spec PyProof.Rows L2 TL
theorem y_adds {a b : Str} (h : a.length + b.length ≤ 20000) (M : Mem) : vAdd (.dat (.str a)) (.dat (.str b)) M = .ok (.dat (.str (a ++ b))) M := by
  have : a.length + b.length ≤ SZ := by rw [SZ_val]; omega
  simp only [vAdd, this, if_true]
theorem app_len (a b : Str) : (a ++ b).length = a.length + b.length := by rw [len_tl, len_tl a, len_tl b, tl_append, List.length_append]
theorem vd_st (x : Sp') : True := trivial
theorem strs_dat (ys : List Str) : strsB (ys.map fun s => .dat (.str s)) = some ys := by
  unfold strsB
  rw [List.map_map]
  exact optAll_some ys
theorem y_join {a : Str} {ys : List Str} {y : B} {M : Mem} (h : els y M = some (ys.map fun s => .dat (.str s))) (hz : (ys.map (·.length)).sum + ys.length * a.length ≤ 1000000) : vJoin (.dat (.str a)) [y] M = .ok (.dat (.str (Txt.join a ys))) M := by
  unfold vJoin
  simp only [h, strs_dat]
  rw [if_pos (by omega)]
theorem joined_len {ns : List Int} (h : ∀ n ∈ ns, okN n) (hl : ns.length ≤ 10) : ((ns.map iS).map (·.length)).sum + (ns.map iS).length * (Str.ofString " ").length ≤ 30 ∧ (Txt.join " " (ns.map iS)).length ≤ 30 := by
  have key : ∀ l : List Str, (∀ x ∈ l, x.length ≤ 2) → (l.map (·.length)).sum ≤ l.length * 2 := by
    intro l
    induction l with
    | nil => simp
    | cons a l ih =>
      intro h
      have h1 := h a List.mem_cons_self
      have h2 := ih fun x hx => h x (List.mem_cons_of_mem _ hx)
      rw [List.map_cons, List.sum_cons, List.length_cons, Nat.add_mul]
      omega
  have hm : ∀ x ∈ ns.map iS, x.length ≤ 2 := fun x hx => by
    obtain ⟨n, hn, rfl⟩ := List.mem_map.mp hx
    exact iS_len (h n hn)
  have k1 := key _ hm
  have k2 := J_len hm
  have e : (Str.ofString " ").length = 1 := lit_len (by decide +kernel)
  rw [List.length_map] at k1 k2
  rw [e, List.length_map]
  omega
section
variable (M : Mem)
theorem l_put : (Str.ofString "put ").length = 4 := lit_len (by decide +kernel)
theorem l_go : (Str.ofString "go ").length = 3 := lit_len (by decide +kernel)
theorem l_to : (Str.ofString " to ").length = 4 := lit_len (by decide +kernel)
theorem l_if : (Str.ofString " if ").length = 4 := lit_len (by decide +kernel)
theorem l_sp : (Str.ofString " ").length = 1 := lit_len (by decide +kernel)
theorem l_box : (Str.ofString "box ").length = 4 := lit_len (by decide +kernel)
theorem l_hand : (Str.ofString "hand ").length = 5 := lit_len (by decide +kernel)
end
/-- str(a number) with words between -/
theorem add3 {p q : Str} {i j : Int} (hp : p.length ≤ 10) (hq : q.length ≤ 10) (hi : okN i) (hj : okN j) {ea eb : Ev} {ρ : Rho} {M : Mem} (ha : ea ρ M = .ok (.dat (.int i)) M) (hb : eb ρ M = .ok (.dat (.int j)) M) :
    eBin vAdd (eBin vAdd (eBin vAdd (eC (.str p)) (eApp vStrI (aCons ea aNil))) (eC (.str q))) (eApp vStrI (aCons eb aNil)) ρ M = .ok (.dat (.str (p ++ iS i ++ q ++ iS j))) M := by
  have l1 := iS_len hi
  have l2 := iS_len hj
  have a1 := y_adds (a := p) (b := iS i) (by omega) M
  have a2 := y_adds (a := p ++ iS i) (b := q) (by rw [app_len]; omega) M
  have a3 := y_adds (a := p ++ iS i ++ q) (b := iS j) (by rw [app_len, app_len]; omega) M
  have s1 := y_str hi.1 hi.2 M
  have s2 := y_str hj.1 hj.2 M
  simp only [x_bin, x_c, x_app, x_cons, ha, hb, x_nil, Res.bind_ok, s1, s2, a1, a2, a3]
theorem eq_str {a b : String} (h : (Str.ofString a == Str.ofString b) = false) (ha : PyData.strOk (Str.ofString a) = true) (hb : PyData.strOk (Str.ofString b) = true) (M : Mem) : vEq (.dat (.str a)) (.dat (.str b)) M = .ok (.dat (.bl false)) M := by
  simp [vEq, okD, ha, hb, h]
theorem eqS {a b : Str} (ha : PyData.strOk a = true) (hb : PyData.strOk b = true) (M : Mem) : vEq (.dat (.str a)) (.dat (.str b)) M = .ok (.dat (.bl (a == b))) M := by
  simp [vEq, okD, ha, hb]
theorem neS {a b : Str} (ha : PyData.strOk a = true) (hb : PyData.strOk b = true) (M : Mem) : vNe (.dat (.str a)) (.dat (.str b)) M = .ok (.dat (.bl (!(a == b)))) M := by
  simp [vNe, okD, ha, hb]
theorem eq_tup0 (l : List Int) (M : Mem) : vEq (.dat (.tup (l.map .int))) (.dat (.tup [])) M = .ok (.dat (.bl (l.isEmpty))) M := by
  have h := okL_ints l 7
  have e : okL [] 7 = true := by unfold okL; rfl
  unfold vEq
  simp only [view_dat, okD, h, e, and_self, if_true, eqD_tup]
  cases l <;> simp
theorem ne_tup0 (l : List Int) (M : Mem) : vNe (.dat (.tup (l.map .int))) (.dat (.tup [])) M = .ok (.dat (.bl (!l.isEmpty))) M := by
  have h := okL_ints l 7
  have e : okL [] 7 = true := by unfold okL; rfl
  unfold vNe
  simp only [view_dat, okD, h, e, and_self, if_true, eqD_tup]
  cases l <;> simp
end Ab

/-! Written: the program's text, the law's rows. -/
namespace Ab
open PySem PySem.Spec PyProof.Rows L2 TL
theorem ok_txt {x : String} (h : PyData.strOk (Str.ofString x) = true) : PyData.strOk (Str.ofString x) = true := h
theorem k_in : PyData.strOk (Str.ofString "in") = true := by decide +kernel
theorem k_put : PyData.strOk (Str.ofString "put") = true := by decide +kernel
theorem k_go : PyData.strOk (Str.ofString "go") = true := by decide +kernel
theorem n_pi : (Str.ofString "put" == Str.ofString "in") = false := by decide +kernel
theorem n_gi : (Str.ofString "go" == Str.ofString "in") = false := by decide +kernel
theorem n_gp : (Str.ofString "go" == Str.ofString "put") = false := by decide +kernel
theorem y_pi (M : Mem) : vEq (.dat (.str "put")) (.dat (.str "in")) M = .ok (.dat (.bl false)) M := eq_str n_pi k_put k_in M
theorem y_gi (M : Mem) : vEq (.dat (.str "go")) (.dat (.str "in")) M = .ok (.dat (.bl false)) M := eq_str n_gi k_go k_in M
theorem y_gp (M : Mem) : vEq (.dat (.str "go")) (.dat (.str "put")) M = .ok (.dat (.bl false)) M := eq_str n_gp k_go k_put M
theorem y_ii (M : Mem) : vEq (.dat (.str "in")) (.dat (.str "in")) M = .ok (.dat (.bl true)) M := by simp [vEq, okD, k_in]
theorem y_pp (M : Mem) : vEq (.dat (.str "put")) (.dat (.str "put")) M = .ok (.dat (.bl true)) M := by simp [vEq, okD, k_put]
/-- the numbers' texts -/
theorem fz_strs {e : Ev} {ρ : Rho} {M : Mem} {ns : List Int} (he : e ρ M = .ok (.dat (.tup (ns.map .int))) M) (hρ : ρ.length = 3) (hlow : lowM M.length M = true) (h : ∀ n ∈ ns, okN n) (hl : ns.length ≤ 10) :
    eFz (eLC [2] (gN 2) e tY (eApp vStrI (aCons (eVar 2) aNil))) ρ M = .ok (.dat (.lst (ns.map fun n => .str (iS n)))) M :=
  fz_itY (fun n => .dat (.int n)) (fun n => .str (iS n)) ns he (items_tup _ _) hlow (by omega) fun n hn c => by
    refine ⟨(wipeR ρ [2]).set 2 (some (.dat (.int n))), ?_, ?_⟩
    · rw [x_gn]
    · have e2 : ((wipeR ρ [2]).set 2 (some (.dat (.int n))))[2]? = some (some (.dat (.int n))) := List.getElem?_set_self (by simp [wipeR, hρ])
      have s := y_str (h n hn).1 (h n hn).2 (M ++ [some (.lst (c.map .dat))])
      simp only [x_app, x_cons, x_var, e2, x_nil, Res.bind_ok, s]
theorem go_len {b g : Int} (hb : okN b) (hg : okN g) : (goS b g).length ≤ 11 := by
  have l1 := iS_len hb
  have l2 := iS_len hg
  have a := l_go
  have c := l_to
  unfold goS
  rw [app_len, app_len, app_len]
  omega
/-- the numbers behind " if " -/
theorem if_text {e1 e2 : Ev} {ρ : Rho} {M : Mem} {b g : Int} {ns : List Int} (h1 : e1 ρ M = .ok (.dat (.str (goS b g))) M) (h2 : e2 ρ M = .ok (.dat (.lst (ns.map fun n => .str (iS n)))) M) (hb : okN b) (hg : okN g) (h : ∀ n ∈ ns, okN n) (hl : ns.length ≤ 10) :
    eBin vAdd (eBin vAdd e1 (eC (.str " if "))) (eMtS vJoin (eC (.str " ")) e2) ρ M = .ok (.dat (.str (goS b g ++ " if " ++ Txt.join " " (ns.map iS)))) M := by
  have lg := go_len hb hg
  have li := l_if
  obtain ⟨j1, j2⟩ := joined_len h hl
  have a1 := y_adds (a := goS b g) (b := " if ") (by omega) M
  have a2 := y_adds (a := goS b g ++ " if ") (b := Txt.join " " (ns.map iS)) (by rw [app_len]; omega) M
  have el : els (.dat (.lst (ns.map fun n => .str (iS n)))) M = some ((ns.map iS).map fun s => B.dat (.str s)) := by
    show some ((ns.map fun n => D.str (iS n)).map B.dat) = _
    rw [List.map_map, List.map_map]
    rfl
  have j := y_join (a := " ") (M := M) el (by omega)
  have ej : eMtS vJoin (eC (.str " ")) e2 ρ M = .ok (.dat (.str (Txt.join " " (ns.map iS)))) M := by
    unfold eMtS
    simp only [x_c, Res.bind_ok, isStrB, if_true, h2, j]
  rw [x_bin, x_bin, h1]
  simp only [Res.bind_ok, x_c, a1, ej, a2]
theorem e_step_text {x : Sp'} (h : okW x) : f_step_text [.dat x.d] [] = .ok (.dat (.str (stepS x))) [] := by
  show finD 0 (outB (t_step_text [some (.dat x.d), none, none] [])) = _
  have v0 : ∀ M, eVar 0 [some (.dat x.d), none, none] M = .ok (.dat x.d) M := fun _ => rfl
  cases x with
  | inn =>
    have c0 : eBin vIx (eVar 0) (eC (.int 0)) [some (.dat Sp'.inn.d), none, none] [] = .ok (.dat (.str "in")) [] := rfl
    unfold t_step_text
    simp only [x_seq, x_sif, x_tv, x_ret]
    rw [x_bin, c0]
    simp only [Res.bind_ok, x_c, y_ii, if_true]
    exact fin_0 _ _
  | put b v =>
    have ea : eBin vIx (eVar 0) (eC (.int 1)) [some (.dat (Sp'.put b v).d), none, none] [] = .ok (.dat (.int b)) [] := rfl
    have eb : eBin vIx (eVar 0) (eC (.int 2)) [some (.dat (Sp'.put b v).d), none, none] [] = .ok (.dat (.int v)) [] := rfl
    have q := add3 (p := "put ") (q := " ") (by have := l_put; omega) (by have := l_sp; omega) h.1 h.2 ea eb
    have c0 : eBin vIx (eVar 0) (eC (.int 0)) [some (.dat (Sp'.put b v).d), none, none] [] = .ok (.dat (.str "put")) [] := rfl
    unfold t_step_text
    simp only [x_seq, x_sif, x_tv, x_ret]
    rw [x_bin, c0]
    simp only [Res.bind_ok, x_c, y_pi, Bool.false_eq_true, if_false, x_snil]
    rw [x_bin, c0]
    simp only [Res.bind_ok, x_c, y_pp, if_true, q]
    exact fin_0 _ _
  | go b ns g =>
    let ρ (x : Option B) : Rho := [some (.dat (Sp'.go b ns g).d), x, none]
    have ea : eBin vIx (eVar 0) (eC (.int 1)) (ρ none) [] = .ok (.dat (.int b)) [] := rfl
    have eb : eBin vIx (eVar 0) (eC (.int 3)) (ρ none) [] = .ok (.dat (.int g)) [] := rfl
    have q := add3 (p := "go ") (q := " to ") (by have := l_go; omega) (by have := l_to; omega) h.1 h.2.1 ea eb
    have c0 : eBin vIx (eVar 0) (eC (.int 0)) (ρ none) [] = .ok (.dat (.str "go")) [] := rfl
    let X : Option B := some (.dat (.str (goS b g)))
    have c2 : eBin vIx (eVar 0) (eC (.int 2)) (ρ X) [] = .ok (.dat (.tup (ns.map .int))) [] := rfl
    have e0 : eTup aNil (ρ X) [] = .ok (.dat (.tup [])) [] := by simp
    have s1 : sSet 1 (eBin vAdd (eBin vAdd (eBin vAdd (eC (.str "go ")) (eApp vStrI (aCons (eBin vIx (eVar 0) (eC (.int 1))) aNil))) (eC (.str " to "))) (eApp vStrI (aCons (eBin vIx (eVar 0) (eC (.int 3))) aNil))) (ρ none) [] = .ok (.nx (ρ X)) [] := by
      rw [x_set, q]
      rfl
    show finD 0 (outB (t_step_text (ρ none) [])) = _
    unfold t_step_text
    rw [seq_ok (ρ1 := ρ none) (M1 := []) (by rw [x_sif, x_tv, x_bin, c0]; simp only [Res.bind_ok, x_c, y_gi]; rfl)]
    rw [seq_ok (ρ1 := ρ none) (M1 := []) (by rw [x_sif, x_tv, x_bin, c0]; simp only [Res.bind_ok, x_c, y_gp]; rfl)]
    rw [seq_ok s1]
    by_cases hn : ns = []
    · subst hn
      rw [seq_ret (b := .dat (.str (goS b g))) (M1 := []) (by
        rw [x_sif, x_tv, x_bin, c2]
        simp only [Res.bind_ok, e0]
        have t := eq_tup0 [] []
        rw [t]
        rfl)]
      exact fin_0 _ _
    · rw [seq_ok (ρ1 := ρ X) (M1 := []) (by
        rw [x_sif, x_tv, x_bin, c2]
        simp only [Res.bind_ok, e0]
        have t := eq_tup0 ns []
        have e : ns.isEmpty = false := by cases ns with
          | nil => exact absurd rfl hn
          | cons a l => rfl
        rw [t, e]
        rfl)]
      have f := fz_strs (ρ := ρ X) c2 rfl rfl h.2.2.1 h.2.2.2
      have i := if_text (e1 := eVar 1) (ρ := ρ X) (M := []) rfl f h.1 h.2.1 h.2.2.1 h.2.2.2
      rw [x_ret, i]
      have e : stepS (.go b ns g) = goS b g ++ " if " ++ Txt.join " " (ns.map iS) := by show (if ns = [] then _ else _) = _; rw [if_neg hn]
      rw [e]
      exact fin_0 _ _
theorem e_row {x : Sp'} (h : okW x) : f_law_row [.dat x.d] [] = .ok (.dat (.str (stepS x))) [] := by
  show finD 0 (outB (t_law_row [some (.dat x.d), none, none] [])) = _
  have v0 : ∀ M, eVar 0 [some (.dat x.d), none, none] M = .ok (.dat x.d) M := fun _ => rfl
  cases x with
  | inn =>
    have c0 : eBin vIx (eVar 0) (eC (.int 0)) [some (.dat Sp'.inn.d), none, none] [] = .ok (.dat (.str "in")) [] := rfl
    unfold t_law_row
    simp only [x_seq, x_sif, x_tv, x_ret]
    rw [x_bin, c0]
    simp only [Res.bind_ok, x_c, y_ii, if_true]
    exact fin_0 _ _
  | put b v =>
    have ea : eBin vIx (eVar 0) (eC (.int 1)) [some (.dat (Sp'.put b v).d), none, none] [] = .ok (.dat (.int b)) [] := rfl
    have eb : eBin vIx (eVar 0) (eC (.int 2)) [some (.dat (Sp'.put b v).d), none, none] [] = .ok (.dat (.int v)) [] := rfl
    have q := add3 (p := "put ") (q := " ") (by have := l_put; omega) (by have := l_sp; omega) h.1 h.2 ea eb
    have c0 : eBin vIx (eVar 0) (eC (.int 0)) [some (.dat (Sp'.put b v).d), none, none] [] = .ok (.dat (.str "put")) [] := rfl
    unfold t_law_row
    simp only [x_seq, x_sif, x_tv, x_ret]
    rw [x_bin, c0]
    simp only [Res.bind_ok, x_c, y_pi, Bool.false_eq_true, if_false, x_snil]
    rw [x_bin, c0]
    simp only [Res.bind_ok, x_c, y_pp, if_true, q]
    exact fin_0 _ _
  | go b ns g =>
    let ρ (x : Option B) : Rho := [some (.dat (Sp'.go b ns g).d), x, none]
    have ea : eBin vIx (eVar 0) (eC (.int 1)) (ρ none) [] = .ok (.dat (.int b)) [] := rfl
    have eb : eBin vIx (eVar 0) (eC (.int 3)) (ρ none) [] = .ok (.dat (.int g)) [] := rfl
    have q := add3 (p := "go ") (q := " to ") (by have := l_go; omega) (by have := l_to; omega) h.1 h.2.1 ea eb
    have c0 : eBin vIx (eVar 0) (eC (.int 0)) (ρ none) [] = .ok (.dat (.str "go")) [] := rfl
    let X : Option B := some (.dat (.str (goS b g)))
    have c2 : eBin vIx (eVar 0) (eC (.int 2)) (ρ X) [] = .ok (.dat (.tup (ns.map .int))) [] := rfl
    have e0 : eTup aNil (ρ X) [] = .ok (.dat (.tup [])) [] := by simp
    have s1 : sSet 1 (eBin vAdd (eBin vAdd (eBin vAdd (eC (.str "go ")) (eApp vStrI (aCons (eBin vIx (eVar 0) (eC (.int 1))) aNil))) (eC (.str " to "))) (eApp vStrI (aCons (eBin vIx (eVar 0) (eC (.int 3))) aNil))) (ρ none) [] = .ok (.nx (ρ X)) [] := by
      rw [x_set, q]
      rfl
    show finD 0 (outB (t_law_row (ρ none) [])) = _
    unfold t_law_row
    rw [seq_ok (ρ1 := ρ none) (M1 := []) (by rw [x_sif, x_tv, x_bin, c0]; simp only [Res.bind_ok, x_c, y_gi]; rfl)]
    rw [seq_ok (ρ1 := ρ none) (M1 := []) (by rw [x_sif, x_tv, x_bin, c0]; simp only [Res.bind_ok, x_c, y_gp]; rfl)]
    rw [seq_ok s1]
    by_cases hn : ns = []
    · subst hn
      rw [seq_ok (ρ1 := ρ X) (M1 := []) (by
        rw [x_sif, x_tv, x_bin, c2]
        simp only [Res.bind_ok, e0]
        have t := ne_tup0 [] []
        rw [t]
        rfl)]
      exact fin_0 _ _
    · have f := fz_strs (ρ := ρ X) c2 rfl rfl h.2.2.1 h.2.2.2
      have i := if_text (e1 := eVar 1) (ρ := ρ X) (M := []) rfl f h.1 h.2.1 h.2.2.1 h.2.2.2
      rw [seq_ok (ρ1 := ρ (some (.dat (.str (goS b g ++ " if " ++ Txt.join " " (ns.map iS)))))) (M1 := []) (by
        rw [x_sif, x_tv, x_bin, c2]
        simp only [Res.bind_ok, e0]
        have t := ne_tup0 ns []
        have e : ns.isEmpty = false := by cases ns with
          | nil => exact absurd rfl hn
          | cons a l => rfl
        rw [t, e]
        simp only [Res.bind_ok, Bool.not_false, if_true]
        rw [x_set, i]
        rfl)]
      have e : stepS (.go b ns g) = goS b g ++ " if " ++ Txt.join " " (ns.map iS) := by show (if ns = [] then _ else _) = _; rw [if_neg hn]
      rw [e]
      exact fin_0 _ _
end Ab

/-! Written: whole texts. -/
namespace Ab
open PySem PySem.Spec PyProof.Rows L2 TL
theorem lc_itY {α : Type} {vs : List Nat} {g : Tg} {l : Ev} {e : Ev} {ρ : Rho} {M : Mem} {x : B} (β : α → B) (f : α → D) (xs : List α) (hx : l ρ M = .ok x M) (hi : items x = some (xs.map β)) (hl : xs.length < 1000000)
    (h : ∀ x ∈ xs, ∀ c : List D, ∃ ρ', g (β x) (wipeR ρ vs) = some ρ' ∧ e ρ' (M ++ [some (.lst (c.map .dat))]) = .ok (.dat (f x)) (M ++ [some (.lst (c.map .dat))])) :
    eLC vs g l tY e ρ M = .ok (.own M.length) (M ++ [some (lstD (xs.map f))]) := by
  have q := lc_own (vs := vs) (g := g) (t := tY) (e := e) (ρ := ρ) (M := M) β (fun _ => true) (fun x => .dat (f x)) xs hl fun x hx zs => by
    have q := h x hx (zs.map f)
    rw [List.map_map] at q
    obtain ⟨ρ', h1, h2⟩ := q
    exact ⟨ρ', h1, rfl, fun _ => h2⟩
  rw [filter_tt] at q
  unfold eLC
  rw [hx]
  dsimp only [Res.bind_ok]
  rw [hi]
  dsimp only
  rw [q]
  unfold lstD
  rw [List.map_map]
  rfl
theorem y_extS {M : Mem} {k : Nat} {ds es : List D} (h : M[k]? = some (some (lstD ds))) (hz : ds.length + es.length < 1000000) : vExt (.own k) [.dat (.lst es)] M = .ok (.dat .non) (M.set k (some (lstD (ds ++ es)))) := by
  unfold vExt
  simp only [h, lsB]
  rw [if_pos (by rw [List.length_map, List.length_map, SZ_val]; omega)]
  unfold lstD
  rw [List.map_append]
theorem og_hands (K : PySem.W.Frag) (g : Gt) (M : Mem) : objB (He.ga K "Gate") (Str.ofString "hands") (.dat (gobj K g)) M = true := og K g _ M (by decide +kernel) (by decide +kernel)
theorem c_hands (K : PySem.W.Frag) {g : Gt} (hg : g.2.length < 1000000) (M : Mem) : doCallA 1 0 (f_Gate_hands K) [.dat (gobj K g)] M = .ok (.dat (.lst (g.2.map handD))) M := by
  refine call_0v rfl ?_ rfl
  have f := gf_h K g []
  have kh : eFz (eLC [1, 2] (gT [1, 2]) (eFld (He.ga K "Gate") "kept_hands" (eVar 0)) tY (eTup (aCons (eVar 1) (aCons (eApp vLstD (aCons (eVar 2) aNil)) aNil)))) [some (.dat (gobj K g)), none, none] [] = .ok (.dat (.lst (g.2.map handD))) [] :=
    fz_itY (fun h => .dat (handD h)) handD g.2 (by
      rw [x_fld, x_var]
      simp only [List.getElem?_cons_zero, Res.bind_ok, f]) (items_lst _ _) rfl hg fun h hh c => by
      refine ⟨[some (.dat (gobj K g)), some (.dat (.int h.1)), some (.dat (.lst (h.2.map Sp'.d)))], rfl, ?_⟩
      simp [y_lstD, handD]
  show finD 0 (outB (t_Gate_hands K [some (.dat (gobj K g)), none, none] [])) = _
  unfold t_Gate_hands
  rw [x_ret, kh]
  exact fin_0 _ _
/-- a hand's first row -/
theorem kn_text {e : Ev} {ρ : Rho} {M : Mem} {k : Int} (h : e ρ M = .ok (.dat (.int k)) M) (hk : okN k) : eBin vAdd (eC (.str "hand ")) (eApp vStrI (aCons e aNil)) ρ M = .ok (.dat (.str (knS k))) M := by
  have l := iS_len hk
  have lh := l_hand
  have s := y_str hk.1 hk.2 M
  have a := y_adds (a := "hand ") (b := iS k) (by omega) M
  simp only [x_bin, x_c, x_app, x_cons, h, x_nil, Res.bind_ok, s, a]
  rfl
noncomputable abbrev F_written (K : PySem.W.Frag) : Fn := f_written K (f_Gate_boxes K) f_step_text (f_Gate_hands K)
abbrev strsD (l : List Str) : List D := l.map .str
noncomputable abbrev t_wr : Es := (sSeq (sExpr (eMtL vAppend (eVar 1) (aCons (eBin vAdd (eC (.str "hand ")) (eApp vStrI (aCons (eVar 2) aNil))) aNil)))
  (sExpr (eMtL vExt (eVar 1) (aCons (eFz (eLC [6] (gN 6) (eVar 3) tY (eApp (doCallA 1 0 f_step_text) (aCons (eVar 6) aNil)))) aNil))))
theorem c_step_text {x : Sp'} (h : okW x) (M : Mem) : doCallA 1 0 f_step_text [.dat x.d] M = .ok (.dat (.str (stepS x))) M := call_0v rfl (e_step_text h) rfl
theorem c_row {x : Sp'} (h : okW x) (M : Mem) : doCallA 1 0 f_law_row [.dat x.d] M = .ok (.dat (.str (stepS x))) M := call_0v rfl (e_row h) rfl
theorem wr_loop {b0 : B} : ∀ (hs : List Hand) (rows : List Str) (x2 x3 : Option B), (∀ h ∈ hs, okN h.1 ∧ (∀ x ∈ h.2, okW x) ∧ h.2.length ≤ 24) → rows.length + 25 * hs.length < 1000 →
    ∃ y2 y3, forL (gT [2, 3]) t_wr (hs.map fun h => .dat (handD h)) [some b0, some (.own 0), x2, x3, none, none, none] [some (lstD (strsD rows))] = .ok (.nx [some b0, some (.own 0), y2, y3, none, none, none]) [some (lstD (strsD (rows ++ (hs.map handS).flatten)))]
  | [], rows, x2, x3, _, _ => ⟨x2, x3, by simp [forL]⟩
  | h :: hs, rows, x2, x3, ok, hl => by
    rw [List.length_cons] at hl
    obtain ⟨o1, o2, o3⟩ := ok h List.mem_cons_self
    obtain ⟨y2, y3, ih⟩ := wr_loop (b0 := b0) hs (rows ++ handS h) (some (.dat (.int h.1))) (some (.dat (.lst (h.2.map Sp'.d)))) (fun z hz => ok z (List.mem_cons_of_mem _ hz)) (by
      rw [List.length_append]
      show _ + (knS h.1 :: h.2.map stepS).length + _ < _
      rw [List.length_cons, List.length_map]
      omega)
    refine ⟨y2, y3, ?_⟩
    let ρ : Rho := [some b0, some (.own 0), some (.dat (.int h.1)), some (.dat (.lst (h.2.map Sp'.d))), none, none, none]
    have ga : gT [2, 3] (.dat (handD h)) [some b0, some (.own 0), x2, x3, none, none, none] = some ρ := rfl
    have k := kn_text (e := eVar 2) (ρ := ρ) (M := [some (lstD (strsD rows))]) rfl o1
    have a := y_appD (M := [some (lstD (strsD rows))]) (k := 0) (ds := strsD rows) (d := .str (knS h.1)) rfl (by rw [List.length_map]; omega)
    let M1 : Mem := [some (lstD (strsD rows ++ [.str (knS h.1)]))]
    have s1 : sExpr (eMtL vAppend (eVar 1) (aCons (eBin vAdd (eC (.str "hand ")) (eApp vStrI (aCons (eVar 2) aNil))) aNil)) ρ [some (lstD (strsD rows))] = .ok (.nx ρ) M1 := by
      have v1 : ∀ M, eVar 1 ρ M = .ok (.own 0) M := fun _ => rfl
      have il : isL (.own 0) [some (lstD (strsD rows))] = true := rfl
      rw [x_ex, x_mtL, v1]
      simp only [Res.bind_ok, il, if_true]
      rw [x_cons, k]
      simp only [Res.bind_ok, x_nil, a]
      rfl
    have f : eFz (eLC [6] (gN 6) (eVar 3) tY (eApp (doCallA 1 0 f_step_text) (aCons (eVar 6) aNil))) ρ M1 = .ok (.dat (.lst (h.2.map fun x => .str (stepS x)))) M1 :=
      fz_itY (fun x => .dat x.d) (fun x => .str (stepS x)) h.2 (x := .dat (.lst (h.2.map Sp'.d))) rfl (items_lst _ _) (low_snoc (M := []) rfl (Nat.zero_le _) _) (by omega) fun x hx c =>
        ⟨[some b0, some (.own 0), some (.dat (.int h.1)), some (.dat (.lst (h.2.map Sp'.d))), none, none, some (.dat x.d)], rfl, by
          have q := c_step_text (o2 x hx) (M1 ++ [some (.lst (c.map .dat))])
          have v6 : ∀ M, eVar 6 [some b0, some (.own 0), some (.dat (.int h.1)), some (.dat (.lst (h.2.map Sp'.d))), none, none, some (.dat x.d)] M = .ok (.dat x.d) M := fun _ => rfl
          simp only [x_app, x_cons, v6, x_nil, Res.bind_ok, q]⟩
    have ex := y_extS (M := M1) (k := 0) (ds := strsD rows ++ [.str (knS h.1)]) (es := h.2.map fun x => .str (stepS x)) rfl (by rw [List.length_append, List.length_map, List.length_map, List.length_singleton]; omega)
    have s2 : sExpr (eMtL vExt (eVar 1) (aCons (eFz (eLC [6] (gN 6) (eVar 3) tY (eApp (doCallA 1 0 f_step_text) (aCons (eVar 6) aNil)))) aNil)) ρ M1 = .ok (.nx ρ) [some (lstD (strsD (rows ++ handS h)))] := by
      have v1 : ∀ M, eVar 1 ρ M = .ok (.own 0) M := fun _ => rfl
      have il : isL (.own 0) M1 = true := rfl
      rw [x_ex, x_mtL, v1]
      simp only [Res.bind_ok, il, if_true]
      rw [x_cons, f]
      simp only [Res.bind_ok, x_nil, ex]
      have e : strsD rows ++ [.str (knS h.1)] ++ (h.2.map fun x => .str (stepS x)) = strsD (rows ++ handS h) := by
        unfold strsD handS
        rw [List.map_append, List.map_cons, List.map_map, List.append_assoc]
        rfl
      rw [e]
      rfl
    rw [List.map_cons, List.map_cons, List.flatten_cons, ← List.append_assoc]
    unfold forL
    rw [ga]
    dsimp only
    rw [show t_wr ρ [some (lstD (strsD rows))] = .ok (.nx ρ) [some (lstD (strsD (rows ++ handS h)))] from (seq_ok s1).trans s2]
    exact ih
theorem e_written (K : PySem.W.Frag) {g : Gt} (G : Good g) : F_written K [.dat (gobj K g)] [] = .ok (.dat (.str (textS g))) [] := by
  have b1 := G.boxes
  have h1 := G.hands
  have cb := c_boxes K g
  have ch := c_hands K (g := g) (by omega)
  have ob := og_boxes K g
  have oh := og_hands K g
  let ρ (x1 : Option B) : Rho := [some (.dat (gobj K g)), x1, none, none, none, none, none]
  have kb : eLC [4, 5] (gT [4, 5]) (eMeth (He.ga K "Gate") "boxes" 1 0 (f_Gate_boxes K) (eVar 0) aNil) tY (eBin vAdd (eBin vAdd (eBin vAdd (eC (.str "box ")) (eApp vStrI (aCons (eVar 4) aNil))) (eC (.str " "))) (eApp vStrI (aCons (eVar 5) aNil))) (ρ none) [] = .ok (.own 0) [some (lstD (g.1.map fun b => .str (boxS b)))] :=
    lc_itY (M := []) (fun b => .dat (boxD b)) (fun b => .str (boxS b)) g.1 (by simp [ρ, ob, cb]) (items_lst _ _) (by omega) fun b hb c =>
      ⟨[some (.dat (gobj K g)), none, none, none, some (.dat (.int b.1)), some (.dat (.int b.2)), none], rfl, by
        obtain ⟨o1, o2⟩ := ok_box G hb
        exact add3 (p := "box ") (q := " ") (by have := l_box; omega) (by have := l_sp; omega) o1 o2 rfl rfl⟩
  have s1 : sSet 1 (eLC [4, 5] (gT [4, 5]) (eMeth (He.ga K "Gate") "boxes" 1 0 (f_Gate_boxes K) (eVar 0) aNil) tY (eBin vAdd (eBin vAdd (eBin vAdd (eC (.str "box ")) (eApp vStrI (aCons (eVar 4) aNil))) (eC (.str " "))) (eApp vStrI (aCons (eVar 5) aNil)))) (ρ none) [] = .ok (.nx (ρ (some (.own 0)))) [some (lstD (strsD (g.1.map boxS)))] := by
    rw [x_set, kb]
    have e : (g.1.map fun b => D.str (boxS b)) = strsD (g.1.map boxS) := by unfold strsD; rw [List.map_map]; rfl
    rw [e]
    rfl
  obtain ⟨y2, y3, q⟩ := wr_loop (b0 := .dat (gobj K g)) g.2 (g.1.map boxS) none none (fun h hh => ok_hand G hh) (by rw [List.length_map]; omega)
  have s2 : sFor (gT [2, 3]) (eMeth (He.ga K "Gate") "hands" 1 0 (f_Gate_hands K) (eVar 0) aNil) t_wr (ρ (some (.own 0))) [some (lstD (strsD (g.1.map boxS)))] = .ok (.nx [some (.dat (gobj K g)), some (.own 0), y2, y3, none, none, none]) [some (lstD (strsD (linesS g)))] := by
    have v0 : ∀ M, eVar 0 (ρ (some (.own 0))) M = .ok (.dat (gobj K g)) M := fun _ => rfl
    have em : eMeth (He.ga K "Gate") "hands" 1 0 (f_Gate_hands K) (eVar 0) aNil (ρ (some (.own 0))) [some (lstD (strsD (g.1.map boxS)))] = .ok (.dat (.lst (g.2.map handD))) [some (lstD (strsD (g.1.map boxS)))] := by
      simp only [x_meth, v0, Res.bind_ok, oh, if_true, x_nil, ch]
    unfold sFor
    rw [em]
    simp only [Res.bind_ok, items_lst]
    exact q
  have sl := sum_len G
  have ll := lines_len G
  have e1 : (Str.ofString "\n").length = 1 := lit_len (by decide +kernel)
  have el : els (.own 0) [some (lstD (strsD (linesS g)))] = some ((linesS g).map fun s => B.dat (.str s)) := by
    show some ((strsD (linesS g)).map B.dat) = _
    unfold strsD
    rw [List.map_map]
    rfl
  have j := y_join (a := "\n") el (by rw [e1]; omega)
  show finD 0 (outB (t_written K (f_Gate_boxes K) f_step_text (f_Gate_hands K) (ρ none) [])) = _
  unfold t_written
  rw [seq_ok s1, seq_ok s2, x_ret]
  have ej : eMtS vJoin (eC (.str "\n")) (eVar 1) [some (.dat (gobj K g)), some (.own 0), y2, y3, none, none, none] [some (lstD (strsD (linesS g)))] = .ok (.dat (.str (textS g))) [some (lstD (strsD (linesS g)))] := by
    unfold eMtS
    rw [x_c]
    simp only [Res.bind_ok, isStrB, if_true, x_var, List.getElem?_cons_succ, List.getElem?_cons_zero]
    exact j
  rw [ej]
  exact fin_0 _ _
theorem c_written (K : PySem.W.Frag) {g : Gt} (G : Good g) (M : Mem) : doCallA 1 0 (F_written K) [.dat (gobj K g)] M = .ok (.dat (.str (textS g))) M := call_0v rfl (e_written K G) rfl
/-! ### the law's rows -/
noncomputable abbrev F_lines : Fn := f_law_lines f_law_row
noncomputable abbrev t_ln : Es := (sSet 1 (eBin vAdd (eBin vAdd (eVar 1) (eLst (aCons (eBin vAdd (eC (.str "hand ")) (eApp vStrI (aCons (eVar 2) aNil))) aNil))) (eFz (eLC [6] (gN 6) (eVar 3) tY (eApp (doCallA 1 0 f_law_row) (aCons (eVar 6) aNil))))))
theorem y_addl {a b : List D} (h : a.length + b.length < 1000000) (M : Mem) : vAdd (.dat (.lst a)) (.dat (.lst b)) M = .ok (.dat (.lst (a ++ b))) M := by
  have : a.length + b.length ≤ SZ := by rw [SZ_val]; omega
  simp only [vAdd, this, if_true]
theorem ln_loop {b0 : B} : ∀ (hs : List Hand) (rows : List Str) (x2 x3 : Option B), (∀ h ∈ hs, okN h.1 ∧ (∀ x ∈ h.2, okW x) ∧ h.2.length ≤ 24) → rows.length + 25 * hs.length < 1000 →
    ∃ y2 y3, forL (gT [2, 3]) t_ln (hs.map fun h => .dat (handD h)) [some b0, some (.dat (.lst (strsD rows))), x2, x3, none, none, none] [] = .ok (.nx [some b0, some (.dat (.lst (strsD (rows ++ (hs.map handS).flatten)))), y2, y3, none, none, none]) []
  | [], rows, x2, x3, _, _ => ⟨x2, x3, by simp [forL]⟩
  | h :: hs, rows, x2, x3, ok, hl => by
    rw [List.length_cons] at hl
    obtain ⟨o1, o2, o3⟩ := ok h List.mem_cons_self
    obtain ⟨y2, y3, ih⟩ := ln_loop (b0 := b0) hs (rows ++ handS h) (some (.dat (.int h.1))) (some (.dat (.lst (h.2.map Sp'.d)))) (fun z hz => ok z (List.mem_cons_of_mem _ hz)) (by
      rw [List.length_append]
      show _ + (knS h.1 :: h.2.map stepS).length + _ < _
      rw [List.length_cons, List.length_map]
      omega)
    refine ⟨y2, y3, ?_⟩
    let ρ : Rho := [some b0, some (.dat (.lst (strsD rows))), some (.dat (.int h.1)), some (.dat (.lst (h.2.map Sp'.d))), none, none, none]
    have ga : gT [2, 3] (.dat (handD h)) [some b0, some (.dat (.lst (strsD rows))), x2, x3, none, none, none] = some ρ := rfl
    have k := kn_text (e := eVar 2) (ρ := ρ) (M := []) rfl o1
    have f : eFz (eLC [6] (gN 6) (eVar 3) tY (eApp (doCallA 1 0 f_law_row) (aCons (eVar 6) aNil))) ρ [] = .ok (.dat (.lst (h.2.map fun x => .str (stepS x)))) [] :=
      fz_itY (fun x => .dat x.d) (fun x => .str (stepS x)) h.2 (x := .dat (.lst (h.2.map Sp'.d))) rfl (items_lst _ _) rfl (by omega) fun x hx c =>
        ⟨[some b0, some (.dat (.lst (strsD rows))), some (.dat (.int h.1)), some (.dat (.lst (h.2.map Sp'.d))), none, none, some (.dat x.d)], rfl, by
          have q := c_row (o2 x hx) ([] ++ [some (.lst (c.map .dat))])
          have v6 : ∀ M, eVar 6 [some b0, some (.dat (.lst (strsD rows))), some (.dat (.int h.1)), some (.dat (.lst (h.2.map Sp'.d))), none, none, some (.dat x.d)] M = .ok (.dat x.d) M := fun _ => rfl
          simp only [x_app, x_cons, v6, x_nil, Res.bind_ok, q]⟩
    have e1 : eLst (aCons (eBin vAdd (eC (.str "hand ")) (eApp vStrI (aCons (eVar 2) aNil))) aNil) ρ [] = .ok (.dat (.lst [.str (knS h.1)])) [] := by
      rw [x_lst, x_cons, k]
      simp only [Res.bind_ok, x_nil, dats_cons, dats_nil, Option.map_some]
      rw [if_pos (by rw [SZ_val]; simp)]
    have a1 := y_addl (a := strsD rows) (b := [.str (knS h.1)]) (by rw [List.length_map, List.length_singleton]; omega) []
    have a2 := y_addl (a := strsD rows ++ [.str (knS h.1)]) (b := h.2.map fun x => .str (stepS x)) (by rw [List.length_append, List.length_map, List.length_map, List.length_singleton]; omega) []
    have s2 : t_ln ρ [] = .ok (.nx [some b0, some (.dat (.lst (strsD (rows ++ handS h)))), some (.dat (.int h.1)), some (.dat (.lst (h.2.map Sp'.d))), none, none, none]) [] := by
      have v1 : ∀ M, eVar 1 ρ M = .ok (.dat (.lst (strsD rows))) M := fun _ => rfl
      show sSet 1 _ ρ [] = _
      rw [x_set, x_bin, x_bin, v1]
      simp only [Res.bind_ok]
      rw [e1]
      simp only [Res.bind_ok]
      rw [a1]
      simp only [Res.bind_ok]
      rw [f]
      simp only [Res.bind_ok]
      rw [a2]
      have e : strsD rows ++ [.str (knS h.1)] ++ (h.2.map fun x => .str (stepS x)) = strsD (rows ++ handS h) := by
        unfold strsD handS
        rw [List.map_append, List.map_cons, List.map_map, List.append_assoc]
        rfl
      rw [e]
      rfl
    rw [List.map_cons, List.map_cons, List.flatten_cons, ← List.append_assoc]
    unfold forL
    rw [ga]
    dsimp only
    rw [s2]
    exact ih
theorem e_lines {g : Gt} (G : Good g) : F_lines [.dat (gateD g)] [] = .ok (.dat (.lst (strsD (linesS g)))) [] := by
  have b1 := G.boxes
  have h1 := G.hands
  let ρ (x1 : Option B) : Rho := [some (.dat (gateD g)), x1, none, none, none, none, none]
  have kb : eFz (eLC [4, 5] (gT [4, 5]) (eBin vIx (eVar 0) (eC (.int 0))) tY (eBin vAdd (eBin vAdd (eBin vAdd (eC (.str "box ")) (eApp vStrI (aCons (eVar 4) aNil))) (eC (.str " "))) (eApp vStrI (aCons (eVar 5) aNil)))) (ρ none) [] = .ok (.dat (.lst (g.1.map fun b => .str (boxS b)))) [] :=
    fz_itY (M := []) (fun b => .dat (boxD b)) (fun b => .str (boxS b)) g.1 (x := .dat (.lst (g.1.map boxD))) rfl (items_lst _ _) rfl (by omega) fun b hb c =>
      ⟨[some (.dat (gateD g)), none, none, none, some (.dat (.int b.1)), some (.dat (.int b.2)), none], rfl, by
        obtain ⟨o1, o2⟩ := ok_box G hb
        exact add3 (p := "box ") (q := " ") (by have := l_box; omega) (by have := l_sp; omega) o1 o2 rfl rfl⟩
  have e : (g.1.map fun b => D.str (boxS b)) = strsD (g.1.map boxS) := by unfold strsD; rw [List.map_map]; rfl
  rw [e] at kb
  obtain ⟨y2, y3, q⟩ := ln_loop (b0 := .dat (gateD g)) g.2 (g.1.map boxS) none none (fun h hh => ok_hand G hh) (by rw [List.length_map]; omega)
  have s2 : sFor (gT [2, 3]) (eBin vIx (eVar 0) (eC (.int 1))) t_ln (ρ (some (.dat (.lst (strsD (g.1.map boxS)))))) [] = .ok (.nx [some (.dat (gateD g)), some (.dat (.lst (strsD (linesS g)))), y2, y3, none, none, none]) [] := by
    have em : eBin vIx (eVar 0) (eC (.int 1)) (ρ (some (.dat (.lst (strsD (g.1.map boxS)))))) [] = .ok (.dat (.lst (g.2.map handD))) [] := rfl
    unfold sFor
    rw [em]
    simp only [Res.bind_ok, items_lst]
    exact q
  show finD 0 (outB (t_law_lines f_law_row (ρ none) [])) = _
  unfold t_law_lines
  rw [seq_ok (ρ1 := ρ (some (.dat (.lst (strsD (g.1.map boxS)))))) (M1 := []) (by rw [x_set, kb]; rfl), seq_ok s2]
  exact fin_0 _ _
theorem c_lines {g : Gt} (G : Good g) (M : Mem) : doCallA 1 0 F_lines [.dat (gateD g)] M = .ok (.dat (.lst (strsD (linesS g)))) M := call_0v rfl (e_lines G) rfl
end Ab

/-! Words read: numbers, steps. -/
namespace Ab
open PySem PySem.Spec PyProof.Rows L2 TL
theorem iS_tl {i : Int} (h : okN i) : (i < 10 ∧ tl (iS i) = [48 + i.toNat]) ∨ (10 ≤ i ∧ tl (iS i) = [48 + i.toNat / 10, 48 + i.toNat % 10]) := by
  have e := tl_iS h.1
  have h2 := h.2
  have h1 := h.1
  by_cases z : i < 10
  · exact .inl ⟨z, by rw [e, numL_lt (by omega)]⟩
  · exact .inr ⟨by omega, by rw [e, numL_2 (by omega) (by omega)]⟩
theorem strOk_tl {x : Str} (h : ∀ c ∈ tl x, c < 128) : PyData.strOk x = true := by
  unfold PyData.strOk
  rw [← Array.all_toList, List.all_eq_true]
  intro c hc
  have := h c hc
  simp
  omega
theorem iS_sign {i : Int} (h : okN i) : ∀ c ∈ tl (iS i), 48 ≤ c ∧ c ≤ 57 := by
  rcases iS_tl h with ⟨z, e⟩ | ⟨z, e⟩ <;> rw [e] <;> intro c hc <;> have h1 := h.1 <;> have h2 := h.2
  · rw [List.mem_singleton.mp hc]; omega
  · simp only [List.mem_cons, List.not_mem_nil, or_false] at hc
    rcases hc with rfl | rfl <;> omega
theorem k_iS {i : Int} (h : okN i) : PyData.strOk (iS i) = true := strOk_tl fun c hc => by have := iS_sign h c hc; omega
theorem k_0 : PyData.strOk (Str.ofString "0") = true := by decide +kernel
theorem tl_0 : tl (Str.ofString "0") = [48] := by decide +kernel
theorem tl_F : tl (Str.ofString "0123456789") = [48, 49, 50, 51, 52, 53, 54, 55, 56, 57] := by decide +kernel
theorem int_iS {i : Int} (h : okN i) (M : Mem) : vIntS [.dat (.str (iS i))] M = .ok (.dat (.int i)) M := by
  have l := iS_len h
  have e : PySem.intText? (iS i) = some i := by
    obtain ⟨n, rfl⟩ := Int.eq_ofNat_of_zero_le h.1
    have l2 := l
    rw [len_tl, tl_iS h.1, Int.toNat_natCast] at l2
    exact int_num (by omega)
  unfold vIntS
  dsimp only
  rw [if_pos (by omega), e]
theorem sign_in {c : Nat} (h : 48 ≤ c ∧ c ≤ 57) (M : Mem) : vInT true (.dat (.str ⟨#[c]⟩)) (.dat (.str "0123456789")) M = .ok (.dat (.bl false)) M := by
  have hm : c ∈ tl (Str.ofString "0123456789") := by
    rw [tl_F]
    simp only [List.mem_cons, List.not_mem_nil, or_false]
    omega
  have e : decide (c ∈ (Str.ofString "0123456789").cps.toList) = true := decide_eq_true hm
  simp only [vInT, if_true, e]
  rfl
theorem signs_loop {b0 b1 : Option B} : ∀ (cs : List Nat) (x2 : Option B), (∀ c ∈ cs, 48 ≤ c ∧ c ≤ 57) →
    ∃ y2, forL (gN 2) (sIf (tV (eBin (vInT true) (eVar 2) (eC (.str "0123456789")))) sNever sNil) (cs.map fun c => .dat (.str ⟨#[c]⟩)) [b0, b1, x2] [] = .ok (.nx [b0, b1, y2]) []
  | [], x2, _ => ⟨x2, rfl⟩
  | c :: cs, x2, h => by
    obtain ⟨y2, ih⟩ := signs_loop (b0 := b0) (b1 := b1) cs (some (.dat (.str ⟨#[c]⟩))) fun z hz => h z (List.mem_cons_of_mem _ hz)
    refine ⟨y2, ?_⟩
    have q := sign_in (h c List.mem_cons_self) []
    rw [List.map_cons]
    unfold forL
    have g2 : gN 2 (.dat (.str ⟨#[c]⟩)) [b0, b1, x2] = some [b0, b1, some (.dat (.str ⟨#[c]⟩))] := rfl
    rw [g2]
    dsimp only
    have v2 : eVar 2 [b0, b1, some (.dat (.str ⟨#[c]⟩))] [] = .ok (.dat (.str ⟨#[c]⟩)) [] := rfl
    rw [x_sif, x_tv, x_bin, v2]
    simp only [Res.bind_ok, x_c, q, Bool.false_eq_true, if_false, x_snil]
    exact ih
theorem e_number_of {i : Int} (h : okN i) (a : Int) : f_number_of [.dat (.str (iS i)), .dat (.int a)] [] = .ok (.dat (.int i)) [] := by
  have h1 := h.1
  let ρ : Rho := [some (.dat (.str (iS i))), some (.dat (.int a)), none]
  have v0 : ∀ M, eVar 0 ρ M = .ok (.dat (.str (iS i))) M := fun _ => rfl
  have ln : vLen [.dat (.str (iS i))] [] = .ok (.dat (.int (iS i).length)) [] := by
    have := iS_len h
    unfold vLen
    dsimp only
    rw [if_pos (by rw [SZ_val]; omega)]
  have l1 : 1 ≤ (iS i).length ∧ (iS i).length ≤ 2 := by
    rw [len_tl]
    rcases iS_tl h with ⟨z, e⟩ | ⟨z, e⟩ <;> rw [e] <;> simp
  have d1 : decide ((1 : Int) ≤ ((iS i).length : Int)) = true := decide_eq_true (by omega)
  have d2 : decide (((iS i).length : Int) ≤ 2) = true := decide_eq_true (by omega)
  have le1 : ∀ M, vLe (.dat (.int 1)) (.dat (.int (iS i).length)) M = .ok (.dat (.bl (decide ((1 : Int) ≤ ((iS i).length : Int))))) M := fun _ => y_le ..
  have le2 : ∀ M, vLe (.dat (.int (iS i).length)) (.dat (.int 2)) M = .ok (.dat (.bl (decide (((iS i).length : Int) ≤ 2)))) M := fun _ => y_le ..
  have t1 : tNt (tV (eCh vLe vLe (eC (.int 1)) (eApp vLen (aCons (eVar 0) aNil)) (eC (.int 2)))) ρ [] = .ok false [] := by
    rw [x_tn, x_tv, x_ch, x_c]
    simp only [Res.bind_ok, x_app, x_cons, v0, x_nil, ln, le1, d1, x_c, le2, d2]
    rfl
  have t2 : tAn (tV (eBin vEq (eBin vIx (eVar 0) (eC (.int 0))) (eC (.str "0")))) (tV (eBin vNe (eVar 0) (eC (.str "0")))) ρ [] = .ok false [] := by
    have hz : (iS i).length ≤ SZ := by rw [SZ_val]; omega
    have ix : ∀ c l, tl (iS i) = c :: l → eBin vIx (eVar 0) (eC (.int 0)) ρ [] = .ok (.dat (.str ⟨#[c]⟩)) [] := fun c l e => by
      have ea : atI (iS i).cps.toList 0 = some c := by rw [show (iS i).cps.toList = c :: l from e]; exact at0
      rw [x_bin, v0]
      simp only [Res.bind_ok, x_c]
      unfold vIx
      simp only [hz, if_true, ea]
    have kc : ∀ c : Nat, c < 128 → PyData.strOk ⟨#[c]⟩ = true := fun c hc => strOk_tl fun d hd => by
      have : d = c := by simpa [TL.tl] using hd
      omega
    rcases iS_tl h with ⟨z, e⟩ | ⟨z, e⟩
    · have e1 := ix _ _ e
      have q := eqS (kc (48 + i.toNat) (by omega)) k_0 []
      rw [x_ta, x_tv, x_bin, e1]
      simp only [Res.bind_ok, x_c, q]
      by_cases h0 : i = 0
      · have e0 : iS i = "0" := ext_tl (by rw [e, tl_0, h0]; rfl)
        have n := neS (k_iS h) k_0 []
        have ee : (iS i == Str.ofString "0") = true := by rw [e0]; simp
        rw [ee] at n
        have c1 : ((⟨#[48 + i.toNat]⟩ : Str) == Str.ofString "0") = true := by
          have : (⟨#[48 + i.toNat]⟩ : Str) = Str.ofString "0" := ext_tl (by rw [tl_0, h0]; rfl)
          rw [this]; simp
        rw [c1]
        simp only [if_true, x_tv, x_bin, v0, Res.bind_ok, x_c, n]
        rfl
      · have c1 : ((⟨#[48 + i.toNat]⟩ : Str) == Str.ofString "0") = false := by
          apply beq_eq_false_iff_ne.mpr
          intro z
          have := congrArg tl z
          rw [tl_0] at this
          have : 48 + i.toNat = 48 := by simpa [TL.tl] using this
          omega
        rw [c1]
        simp
    · have e1 := ix _ _ e
      have h2 := h.2
      have q := eqS (kc (48 + i.toNat / 10) (by omega)) k_0 []
      have c1 : ((⟨#[48 + i.toNat / 10]⟩ : Str) == Str.ofString "0") = false := by
        apply beq_eq_false_iff_ne.mpr
        intro z
        have := congrArg tl z
        rw [tl_0] at this
        have : 48 + i.toNat / 10 = 48 := by simpa [TL.tl] using this
        omega
      rw [x_ta, x_tv, x_bin, e1]
      simp only [Res.bind_ok, x_c, q, c1]
      simp
  have s1 : sIf (tOrr (tNt (tV (eCh vLe vLe (eC (.int 1)) (eApp vLen (aCons (eVar 0) aNil)) (eC (.int 2))))) (tAn (tV (eBin vEq (eBin vIx (eVar 0) (eC (.int 0))) (eC (.str "0")))) (tV (eBin vNe (eVar 0) (eC (.str "0")))))) sNever sNil ρ [] = .ok (.nx ρ) [] := by
    rw [x_sif, x_to, t1]
    simp only [Res.bind_ok, Bool.false_eq_true, if_false, t2, x_snil]
  obtain ⟨y2, q⟩ := signs_loop (b0 := some (.dat (.str (iS i)))) (b1 := some (.dat (.int a))) (tl (iS i)) none (iS_sign h)
  have s2 : sForT (gN 2) (eVar 0) (sIf (tV (eBin (vInT true) (eVar 2) (eC (.str "0123456789")))) sNever sNil) ρ [] = .ok (.nx [some (.dat (.str (iS i))), some (.dat (.int a)), y2]) [] := by
    unfold sForT
    rw [v0]
    simp only [Res.bind_ok]
    exact q
  show finD 0 (outB (t_number_of ρ [])) = _
  unfold t_number_of
  rw [seq_ok s1, seq_ok s2, x_ret, x_app, x_cons]
  have w0 : eVar 0 [some (.dat (.str (iS i))), some (.dat (.int a)), y2] [] = .ok (.dat (.str (iS i))) [] := rfl
  have ii := int_iS h []
  rw [w0]
  simp only [Res.bind_ok, x_nil, ii]
  exact fin_0 _ _
theorem c_number_of {i : Int} (h : okN i) (a : Int) (M : Mem) : doCallA 2 0 f_number_of [.dat (.str (iS i)), .dat (.int a)] M = .ok (.dat (.int i)) M := call_0v rfl (e_number_of h a) rfl
noncomputable abbrev F_numbers : Fn := f_numbers_of f_number_of
theorem e_numbers {ns : List Int} (h : ∀ n ∈ ns, okN n) (hl : ns.length < 1000) (a : Int) : F_numbers [.dat (.lst (ns.map fun n => .str (iS n))), .dat (.int a)] [] = .ok (.dat (.tup (ns.map .int))) [] := by
  let ρ : Rho := [some (.dat (.lst (ns.map fun n => .str (iS n)))), some (.dat (.int a)), none]
  have f : eFz (eLC [2] (gN 2) (eVar 0) tY (eApp (doCallA 2 0 f_number_of) (aCons (eVar 2) (aCons (eVar 1) aNil)))) ρ [] = .ok (.dat (.lst (ns.map .int))) [] :=
    fz_itY (fun n => .dat (.str (iS n))) (fun n => .int n) ns (x := .dat (.lst (ns.map fun n => .str (iS n)))) rfl (items_lst _ _) rfl (by omega) fun n hn c =>
      ⟨[some (.dat (.lst (ns.map fun n => .str (iS n)))), some (.dat (.int a)), some (.dat (.str (iS n)))], rfl, by
        have q := c_number_of (h n hn) a ([] ++ [some (.lst (c.map .dat))])
        have v2 : ∀ M, eVar 2 [some (.dat (.lst (ns.map fun n => .str (iS n)))), some (.dat (.int a)), some (.dat (.str (iS n)))] M = .ok (.dat (.str (iS n))) M := fun _ => rfl
        have v1 : ∀ M, eVar 1 [some (.dat (.lst (ns.map fun n => .str (iS n)))), some (.dat (.int a)), some (.dat (.str (iS n)))] M = .ok (.dat (.int a)) M := fun _ => rfl
        simp only [x_app, x_cons, v2, v1, x_nil, Res.bind_ok, q]⟩
  show finD 0 (outB (t_numbers_of f_number_of ρ [])) = _
  unfold t_numbers_of
  rw [x_ret, x_app, x_cons, f]
  simp only [Res.bind_ok, x_nil, y_tupL]
  exact fin_0 _ _
theorem c_numbers {ns : List Int} (h : ∀ n ∈ ns, okN n) (hl : ns.length < 1000) (a : Int) (M : Mem) : doCallA 2 0 F_numbers [.dat (.lst (ns.map fun n => .str (iS n))), .dat (.int a)] M = .ok (.dat (.tup (ns.map .int))) M := call_0v rfl (e_numbers h hl a) rfl
end Ab

/-! Words read: steps. -/
namespace Ab
open PySem PySem.Spec PyProof.Rows L2 TL
noncomputable abbrev F_stepof : Fn := f_step_of F_numbers f_number_of
theorem strsD_ok {l : List Str} (h : ∀ x ∈ l, PyData.strOk x = true) (n : Nat) : okL (strsD l) n = true := by
  induction l with
  | nil => unfold strsD okL; rfl
  | cons a l ih =>
    unfold strsD
    rw [List.map_cons]
    unfold okL
    have h1 := h a List.mem_cons_self
    have h2 := ih fun x hx => h x (List.mem_cons_of_mem _ hx)
    unfold strsD at h2
    rw [h2]
    cases n <;> simp [okD, h1]
theorem ok_words {x : Sp'} (h : okW x) : ∀ w ∈ stepW x, PyData.strOk w = true := by
  intro w hw
  cases x with
  | inn =>
    simp only [stepW, List.mem_cons, List.not_mem_nil, or_false] at hw
    subst hw
    exact k_in
  | put b v =>
    simp only [stepW, List.mem_cons, List.not_mem_nil, or_false] at hw
    rcases hw with rfl | rfl | rfl
    · exact k_put
    · exact k_iS h.1
    · exact k_iS h.2
  | go b ns g =>
    simp only [stepW, List.mem_cons] at hw
    rcases hw with rfl | rfl | rfl | rfl | hp
    · exact k_go
    · exact k_iS h.1
    · show PyData.strOk (Str.ofString "to") = true; decide +kernel
    · exact k_iS h.2.1
    · split at hp
      · cases hp
      · rcases List.mem_cons.mp hp with rfl | hp
        · show PyData.strOk (Str.ofString "if") = true; decide +kernel
        · obtain ⟨n, hn, rfl⟩ := List.mem_map.mp hp
          exact k_iS (h.2.2.1 n hn)
theorem eq_inl {l : List Str} (h : ∀ x ∈ l, PyData.strOk x = true) (M : Mem) : vEq (.dat (.lst (strsD l))) (.dat (.lst [.str "in"])) M = .ok (.dat (.bl (eqL (strsD l) [.str "in"]))) M := by
  have h1 := strsD_ok h 7
  have h2 : okL [.str "in"] 7 = true := by unfold okL okL; simp [okD, k_in]
  unfold vEq
  simp only [view_dat, okD, h1, h2, and_self, if_true, eqD_lst]
theorem el_in (ρ : Rho) (M : Mem) : eLst (aCons (eC (.str "in")) aNil) ρ M = .ok (.dat (.lst [.str "in"])) M := by
  rw [x_lst, x_cons, x_c]
  simp only [Res.bind_ok, x_nil, dats_cons, dats_nil, Option.map_some]
  rw [if_pos (by rw [SZ_val]; simp)]
theorem k_to : PyData.strOk (Str.ofString "to") = true := by decide +kernel
theorem k_if : PyData.strOk (Str.ofString "if") = true := by decide +kernel
theorem ne_self {a : Str} (h : PyData.strOk a = true) (M : Mem) : vNe (.dat (.str a)) (.dat (.str a)) M = .ok (.dat (.bl false)) M := by
  rw [neS h h]
  simp
theorem c_cut {l : List D} {i : Nat} (h : i ≤ l.length) {e : Ev} {ρ : Rho} {M : Mem} (he : e ρ M = .ok (.dat (.lst l)) M) : eSl e (oSome (eC (.int (i : Int)))) oNone ρ M = .ok (.dat (.lst (l.drop i))) M := by
  have c := cut_from l h
  unfold eSl
  rw [he]
  simp only [Res.bind_ok]
  have o : oSome (eC (.int (i : Int))) ρ M = .ok (some (i : Int)) M := rfl
  rw [o]
  simp only [Res.bind_ok]
  have o2 : oNone ρ M = .ok none M := rfl
  rw [o2]
  simp only [Res.bind_ok, vSl, c]
theorem y_lenS (l : List D) (M : Mem) : vLen [.dat (.lst l)] M = .ok (.dat (.int (l.length : Int))) M := y_lenL ..
theorem e_stepof {x : Sp'} (h : okW x) (a : Int) : F_stepof [.dat (.lst (strsD (stepW x))), .dat (.int a)] [] = .ok (.dat x.d) [] := by
  let ρ : Rho := [some (.dat (.lst (strsD (stepW x)))), some (.dat (.int a))]
  have v0 : ∀ M, eVar 0 ρ M = .ok (.dat (.lst (strsD (stepW x)))) M := fun _ => rfl
  have v1 : ∀ M, eVar 1 ρ M = .ok (.dat (.int a)) M := fun _ => rfl
  have q := eq_inl (ok_words h) []
  have ei : ∀ M, eLst (aCons (eC (.str "in")) aNil) ρ M = .ok (.dat (.lst [.str "in"])) M := fun M => el_in ρ M
  show finD 0 (outB (t_step_of F_numbers f_number_of ρ [])) = _
  have first : ∀ c, eqL (strsD (stepW x)) [.str "in"] = c → tV (eBin vEq (eVar 0) (eLst (aCons (eC (.str "in")) aNil))) ρ [] = .ok c [] := fun c e => by
    rw [x_tv, x_bin, v0]
    simp only [Res.bind_ok, ei, q, e]
  unfold t_step_of
  cases x with
  | inn =>
    have e := first true (by show eqL [.str "in"] [.str "in"] = true; simp)
    rw [seq_ret (b := .dat (Sp'.inn).d) (M1 := []) (by
      rw [x_sif, e]
      simp only [Res.bind_ok, if_true, x_ret]
      rw [x_tup, x_cons, x_c]
      simp only [Res.bind_ok, x_nil, dats_cons, dats_nil, Option.map_some]
      rw [if_pos (by rw [SZ_val]; simp)]
      rfl)]
    exact fin_0 _ _
  | put b v =>
    have e := first false (by show eqL [.str "put", .str (iS b), .str (iS v)] [.str "in"] = false; simp [n_pi])
    have c0 : eBin vIx (eVar 0) (eC (.int 0)) ρ [] = .ok (.dat (.str "put")) [] := rfl
    have ln : eApp vLen (aCons (eVar 0) aNil) ρ [] = .ok (.dat (.int 3)) [] := by
      rw [x_app, x_cons, v0]
      simp only [Res.bind_ok, x_nil]
      exact y_lenS _ _
    have sl := c_cut (l := strsD (stepW (.put b v))) (i := 1) (by show 1 ≤ 3; omega) (e := eVar 0) (ρ := ρ) (M := []) rfl
    have dr : (strsD (stepW (.put b v))).drop 1 = [b, v].map fun n => .str (iS n) := rfl
    rw [dr] at sl
    have cn := c_numbers (ns := [b, v]) (by
      intro n hn
      simp only [List.mem_cons, List.not_mem_nil, or_false] at hn
      rcases hn with rfl | rfl
      · exact h.1
      · exact h.2) (by simp) a []
    have e1 : eTup (aCons (eC (.str "put")) aNil) ρ [] = .ok (.dat (.tup [.str "put"])) [] := by
      rw [x_tup, x_cons, x_c]
      simp only [Res.bind_ok, x_nil, dats_cons, dats_nil, Option.map_some]
      rw [if_pos (by rw [SZ_val]; simp)]
    have ad : vAdd (.dat (.tup [.str "put"])) (.dat (.tup ([b, v].map .int))) [] = .ok (.dat (Sp'.put b v).d) [] := by
      have z : ([D.str "put"]).length + ([b, v].map D.int).length ≤ SZ := by rw [SZ_val]; simp
      simp only [vAdd, z, if_true]
      rfl
    rw [seq_ok (ρ1 := ρ) (M1 := []) (by rw [x_sif, e]; rfl)]
    rw [seq_ret (b := .dat (Sp'.put b v).d) (M1 := []) (by
      rw [x_sif, x_ta, x_tv, x_bin, c0]
      simp only [Res.bind_ok, x_c, y_pp, if_true]
      rw [x_tv, x_bin, ln]
      simp only [Res.bind_ok, x_c, y_eqI]
      have z : ((3 : Int) == 3) = true := rfl
      simp only [z, if_true]
      rw [x_ret, x_bin, e1]
      simp only [Res.bind_ok]
      rw [x_app, x_cons]
      have sl' : eSl (eVar 0) (oSome (eC (.int 1))) oNone ρ [] = .ok (.dat (.lst ([b, v].map fun n => .str (iS n)))) [] := sl
      rw [sl']
      simp only [Res.bind_ok, x_cons, v1, x_nil, cn, ad])]
    exact fin_0 _ _
  | go b ns g =>
    have e := first false (by show eqL (.str "go" :: .str (iS b) :: _) [.str "in"] = false; simp [n_gi])
    have cN : ∀ (i : Nat) (w : Str), (stepW (.go b ns g))[i]? = some w → eBin vIx (eVar 0) (eC (.int (i : Int))) ρ [] = .ok (.dat (.str w)) [] := fun i w hw => by
      rw [x_bin, v0]
      simp only [Res.bind_ok, x_c]
      rw [y_ixL]
      have : atI (strsD (stepW (.go b ns g))) (i : Int) = some (.str w) := by
        rw [atI_nat]
        unfold strsD
        rw [List.getElem?_map, hw]
        rfl
      rw [this]
    have c0 : eBin vIx (eVar 0) (eC (.int 0)) ρ [] = .ok (.dat (.str "go")) [] := cN 0 "go" rfl
    have c1 : eBin vIx (eVar 0) (eC (.int 1)) ρ [] = .ok (.dat (.str (iS b))) [] := cN 1 (iS b) rfl
    have c2 : eBin vIx (eVar 0) (eC (.int 2)) ρ [] = .ok (.dat (.str "to")) [] := cN 2 "to" rfl
    have c3 : eBin vIx (eVar 0) (eC (.int 3)) ρ [] = .ok (.dat (.str (iS g))) [] := cN 3 (iS g) rfl
    generalize hL : (strsD (stepW (.go b ns g))).length = L
    have ln : eApp vLen (aCons (eVar 0) aNil) ρ [] = .ok (.dat (.int (L : Int))) [] := by
      rw [x_app, x_cons, v0]
      simp only [Res.bind_ok, x_nil]
      rw [y_lenS, hL]
    have lL : L = 4 ∧ ns = [] ∨ 6 ≤ L ∧ ns ≠ [] := by
      rw [← hL]
      show (List.map D.str (_ :: _ :: _ :: _ :: (if ns = [] then [] else "if" :: ns.map iS))).length = 4 ∧ _ ∨ 6 ≤ (List.map D.str (_ :: _ :: _ :: _ :: (if ns = [] then [] else "if" :: ns.map iS))).length ∧ _
      by_cases hn : ns = []
      · rw [if_pos hn]
        exact .inl ⟨rfl, hn⟩
      · rw [if_neg hn]
        have : 0 < ns.length := List.length_pos_iff.mpr hn
        refine .inr ⟨?_, hn⟩
        simp only [List.length_map, List.length_cons]
        omega
    have n1 := c_number_of h.1 a []
    have n3 := c_number_of h.2.1 a []
    have cn := c_numbers h.2.2.1 (by have := h.2.2.2; omega) a []
    have sl : eSl (eVar 0) (oSome (eC (.int 5))) oNone ρ [] = .ok (.dat (.lst (ns.map fun n => .str (iS n)))) [] := by
      rcases lL with ⟨l4, hn⟩ | ⟨l6, hn⟩
      · subst hn
        rfl
      · have q := c_cut (l := strsD (stepW (.go b ns g))) (i := 5) (by omega) (e := eVar 0) (ρ := ρ) (M := []) rfl
        have dr : (strsD (stepW (.go b ns g))).drop 5 = ns.map fun n => .str (iS n) := by
          show (List.map D.str (_ :: _ :: _ :: _ :: (if ns = [] then [] else "if" :: ns.map iS))).drop 5 = _
          rw [if_neg hn]
          simp only [List.map_cons, List.drop_succ_cons, List.drop_zero, List.map_map]
          rfl
        rw [dr] at q
        exact q
    rw [seq_ok (ρ1 := ρ) (M1 := []) (by rw [x_sif, e]; rfl)]
    rw [seq_ok (ρ1 := ρ) (M1 := []) (by
      rw [x_sif, x_ta, x_tv, x_bin, c0]
      simp only [Res.bind_ok, x_c, y_gp]
      rfl)]
    have b1 : sIf (tOrr (tV (eBin vNe (eBin vIx (eVar 0) (eC (.int 0))) (eC (.str "go")))) (tOrr (tV (eBin vLt (eApp vLen (aCons (eVar 0) aNil)) (eC (.int 4)))) (tOrr (tV (eBin vNe (eBin vIx (eVar 0) (eC (.int 2))) (eC (.str "to")))) (tV (eBin vEq (eApp vLen (aCons (eVar 0) aNil)) (eC (.int 5))))))) sNever sNil ρ [] = .ok (.nx ρ) [] := by
      have s0 := ne_self k_go []
      have s2 := ne_self k_to []
      have d4 : decide ((L : Int) < 4) = false := decide_eq_false (by omega)
      have d5 : ((L : Int) == 5) = false := beq_eq_false_iff_ne.mpr (by omega)
      rw [x_sif, x_to, x_tv, x_bin, c0]
      simp only [Res.bind_ok, x_c, s0, Bool.false_eq_true, if_false]
      rw [x_to, x_tv, x_bin, ln]
      simp only [Res.bind_ok, x_c, y_lt, d4, Bool.false_eq_true, if_false]
      rw [x_to, x_tv, x_bin, c2]
      simp only [Res.bind_ok, x_c, s2, Bool.false_eq_true, if_false]
      rw [x_tv, x_bin, ln]
      simp only [Res.bind_ok, x_c, y_eqI, d5, Bool.false_eq_true, if_false, x_snil]
    have b2 : sIf (tAn (tV (eBin vGt (eApp vLen (aCons (eVar 0) aNil)) (eC (.int 4)))) (tV (eBin vNe (eBin vIx (eVar 0) (eC (.int 4))) (eC (.str "if"))))) sNever sNil ρ [] = .ok (.nx ρ) [] := by
      rw [x_sif, x_ta, x_tv, x_bin, ln]
      simp only [Res.bind_ok, x_c, y_gt]
      rcases lL with ⟨l4, hn⟩ | ⟨l6, hn⟩
      · have d4 : decide ((4 : Int) < (L : Int)) = false := decide_eq_false (by omega)
        simp only [d4, Bool.false_eq_true, if_false, Res.bind_ok, x_snil]
      · have d4 : decide ((4 : Int) < (L : Int)) = true := decide_eq_true (by omega)
        have c4 : eBin vIx (eVar 0) (eC (.int 4)) ρ [] = .ok (.dat (.str "if")) [] := by
          rw [x_bin, v0]
          simp only [Res.bind_ok, x_c]
          rw [y_ixL]
          have : atI (strsD (stepW (.go b ns g))) 4 = some (.str "if") := by
            show atI (List.map D.str (_ :: _ :: _ :: _ :: (if ns = [] then [] else "if" :: ns.map iS))) ((4 : Nat) : Int) = _
            rw [if_neg hn, atI_nat]
            rfl
          rw [this]
        have s4 := ne_self k_if []
        simp only [d4, if_true]
        rw [x_tv, x_bin, c4]
        simp only [Res.bind_ok, x_c, s4, Bool.false_eq_true, if_false, x_snil]
    rw [seq_ok b1, seq_ok b2, x_ret, x_tup, x_cons, x_c]
    simp only [Res.bind_ok]
    rw [x_cons, x_app, x_cons, c1]
    simp only [Res.bind_ok, x_cons, v1, x_nil, n1]
    rw [x_app, x_cons, sl]
    simp only [Res.bind_ok, x_cons, v1, x_nil, cn]
    rw [x_app, x_cons, c3]
    simp only [Res.bind_ok, x_cons, v1, x_nil, n3, dats_cons, dats_nil, Option.map_some]
    rw [if_pos (by rw [SZ_val]; simp)]
    exact fin_0 _ _
theorem c_stepof {x : Sp'} (h : okW x) (a : Int) (M : Mem) : doCallA 2 0 F_stepof [.dat (.lst (strsD (stepW x))), .dat (.int a)] M = .ok (.dat x.d) M := call_0v rfl (e_stepof h a) rfl
end Ab

/-! A text read: the cells, one row. -/
namespace Ab
open PySem PySem.Spec PyProof.Rows L2 TL
inductive Ln where
  | box (b : Int × Int) | kn (k : Int) | st (x : Sp')
def Ln.s : Ln → Str
  | .box b => boxS b
  | .kn k => knS k
  | .st x => stepS x
def Ln.w : Ln → List Str
  | .box b => boxW b
  | .kn k => knW k
  | .st x => stepW x
def Ln.ok : Ln → Prop
  | .box b => okN b.1 ∧ okN b.2
  | .kn k => okN k
  | .st x => okW x
def handLn (h : Hand) : List Ln := .kn h.1 :: h.2.map .st
def lnOf (g : Gt) : List Ln := g.1.map .box ++ (g.2.map handLn).flatten
theorem lines_ln (g : Gt) : linesS g = (lnOf g).map Ln.s := by
  unfold linesS lnOf
  rw [List.map_append, List.map_map, List.map_flatten, List.map_map]
  congr 2
  apply List.map_congr_left
  intro h _
  show knS h.1 :: h.2.map stepS = Ln.s (.kn h.1) :: (h.2.map Ln.st).map Ln.s
  rw [List.map_map]
  rfl
theorem ln_all {g : Gt} (G : Good g) : ∀ l ∈ lnOf g, l.ok := by
  intro l hl
  unfold lnOf at hl
  rcases List.mem_append.mp hl with hl | hl
  · obtain ⟨b, hb, rfl⟩ := List.mem_map.mp hl
    exact ok_box G hb
  · obtain ⟨q, hq, hl⟩ := List.mem_flatten.mp hl
    obtain ⟨h, hh, rfl⟩ := List.mem_map.mp hq
    obtain ⟨o1, o2, _⟩ := ok_hand G hh
    rcases List.mem_cons.mp hl with rfl | hl
    · exact o1
    · obtain ⟨x, hx, rfl⟩ := List.mem_map.mp hl
      exact o2 x hx
theorem ln_split {l : Ln} (h : l.ok) : Txt.split l.s " " = l.w ∧ l.s.length ≤ 100 := by
  cases l with
  | box b => exact ⟨by show Txt.split (boxS b) " " = _; rw [box_J]; exact split_sp (by simp [boxW]) (box_free h.1 h.2), boxS_len h.1 h.2⟩
  | kn k => exact ⟨by show Txt.split (knS k) " " = _; rw [kn_J]; exact split_sp (by simp [knW]) (kn_free h), knS_len h⟩
  | st x => exact ⟨by show Txt.split (stepS x) " " = _; rw [step_J]; exact split_sp (by cases x <;> simp [stepW]) (step_free h), stepS_len h⟩
/-! ### the state -/
def stepR : Gt → Ln → Option Gt
  | (bx, hs), .box b => if hs = [] then some (bx ++ [b], []) else none
  | (bx, hs), .kn k => some (bx, hs ++ [(k, [])])
  | (bx, hs), .st x => match hs.getLast? with
    | some h => some (bx, hs.dropLast ++ [(h.1, h.2 ++ [x])])
    | none => none
def runR : List Ln → Gt → Option Gt
  | [], s => some s
  | l :: ls, s => match stepR s l with
    | some s' => runR ls s'
    | none => none
theorem run_app : ∀ (l1 l2 : List Ln) (s s1 : Gt), runR l1 s = some s1 → runR (l1 ++ l2) s = runR l2 s1
  | [], _, _, _, h => by cases h; rfl
  | l :: l1, l2, s, s1, h => by
    unfold runR at h
    rw [List.cons_append]
    show (match stepR s l with | some s' => runR (l1 ++ l2) s' | none => none) = _
    cases q : stepR s l with
    | none => rw [q] at h; cases h
    | some s' =>
      rw [q] at h
      exact run_app l1 l2 s' s1 h
theorem run_boxes : ∀ (bs bx : List (Int × Int)), runR (bs.map .box) (bx, []) = some (bx ++ bs, [])
  | [], bx => by rw [List.append_nil]; rfl
  | b :: bs, bx => by
    have ih := run_boxes bs (bx ++ [b])
    rw [List.append_assoc] at ih
    exact ih
theorem run_steps : ∀ (xs : List Sp') (bx : List (Int × Int)) (hs : List Hand) (k : Int) (st : List Sp'), runR (xs.map .st) (bx, hs ++ [(k, st)]) = some (bx, hs ++ [(k, st ++ xs)])
  | [], bx, hs, k, st => by rw [List.append_nil]; rfl
  | x :: xs, bx, hs, k, st => by
    have ih := run_steps xs bx hs k (st ++ [x])
    rw [List.append_assoc] at ih
    have e : stepR (bx, hs ++ [(k, st)]) (.st x) = some (bx, hs ++ [(k, st ++ [x])]) := by
      show (match (hs ++ [(k, st)]).getLast? with
        | some h => some (bx, (hs ++ [(k, st)]).dropLast ++ [(h.1, h.2 ++ [x])])
        | none => none) = _
      rw [List.getLast?_concat, List.dropLast_concat]
    rw [List.map_cons]
    unfold runR
    rw [e]
    exact ih
theorem run_hands : ∀ (hs : List Hand) (bx : List (Int × Int)) (hs0 : List Hand), runR (hs.map handLn).flatten (bx, hs0) = some (bx, hs0 ++ hs)
  | [], bx, hs0 => by rw [List.append_nil]; rfl
  | h :: hs, bx, hs0 => by
    rw [List.map_cons, List.flatten_cons]
    have e : runR (handLn h) (bx, hs0) = some (bx, hs0 ++ [h]) := run_steps h.2 bx hs0 h.1 []
    rw [run_app _ _ _ _ e, run_hands hs bx (hs0 ++ [h]), List.append_assoc]
    rfl
theorem run_all (g : Gt) : runR (lnOf g) ([], []) = some g := by
  unfold lnOf
  rw [run_app _ _ _ _ (run_boxes g.1 []), run_hands]
  rfl
/-! ### its cells -/
def cellsH : Nat → List Hand → Mem
  | _, [] => []
  | j, h :: hs => some (lstD (h.2.map Sp'.d)) :: some (.tp [.dat (.int h.1), .own (2 + 2 * j)]) :: cellsH (j + 1) hs
abbrev ownsH (n : Nat) : List B := (List.range n).map fun j => .own (3 + 2 * j)
def memR (s : Gt) : Mem := some (lstD (s.1.map boxD)) :: some (.lst (ownsH s.2.length)) :: cellsH 0 s.2
theorem cells_len : ∀ (j : Nat) (hs : List Hand), (cellsH j hs).length = 2 * hs.length
  | _, [] => rfl
  | j, h :: hs => by
    unfold cellsH
    rw [List.length_cons, List.length_cons, cells_len (j + 1) hs, List.length_cons]
    omega
theorem cells_snoc : ∀ (j : Nat) (hs : List Hand) (h : Hand), cellsH j (hs ++ [h]) = cellsH j hs ++ [some (lstD (h.2.map Sp'.d)), some (.tp [.dat (.int h.1), .own (2 + 2 * (j + hs.length))])]
  | j, [], h => by simp [cellsH]
  | j, a :: hs, h => by
    have ih := cells_snoc (j + 1) hs h
    rw [List.cons_append]
    unfold cellsH
    rw [ih, List.length_cons]
    have e : j + 1 + hs.length = j + (hs.length + 1) := by omega
    rw [e]
    rfl
theorem cells_get : ∀ (j : Nat) (hs : List Hand) (i : Nat) (h : Hand), hs[i]? = some h → (cellsH j hs)[2 * i]? = some (some (lstD (h.2.map Sp'.d))) ∧ (cellsH j hs)[2 * i + 1]? = some (some (.tp [.dat (.int h.1), .own (2 + 2 * (j + i))]))
  | j, [], i, h, e => by cases e
  | j, a :: hs, 0, h, e => by
    cases e
    exact ⟨rfl, rfl⟩
  | j, a :: hs, i + 1, h, e => by
    obtain ⟨q1, q2⟩ := cells_get (j + 1) hs i h e
    have e1 : 2 * (i + 1) = 2 * i + 1 + 1 := by omega
    have e2 : j + 1 + i = j + (i + 1) := by omega
    rw [e2] at q2
    rw [e1]
    exact ⟨q1, q2⟩
theorem memR_len (s : Gt) : (memR s).length = 2 + 2 * s.2.length := by
  unfold memR
  rw [List.length_cons, List.length_cons, cells_len]
  omega
theorem memR_get (s : Gt) {i : Nat} {h : Hand} (e : s.2[i]? = some h) : (memR s)[2 + 2 * i]? = some (some (lstD (h.2.map Sp'.d))) ∧ (memR s)[3 + 2 * i]? = some (some (.tp [.dat (.int h.1), .own (2 + 2 * i)])) := by
  obtain ⟨q1, q2⟩ := cells_get 0 s.2 i h e
  rw [Nat.zero_add] at q2
  have e1 : 2 + 2 * i = 2 * i + 1 + 1 := by omega
  have e2 : 3 + 2 * i = 2 * i + 1 + 1 + 1 := by omega
  rw [e1] at q2 ⊢
  rw [e2]
  exact ⟨q1, q2⟩
theorem low_cells {n : Nat} : ∀ (j : Nat) (hs : List Hand), 2 + 2 * (j + hs.length) ≤ n → lowM n (cellsH j hs) = true
  | _, [], _ => rfl
  | j, h :: hs, e => by
    rw [List.length_cons] at e
    have ih := low_cells (n := n) (j + 1) hs (by omega)
    unfold cellsH lowM
    unfold lowM at ih
    rw [List.all_cons, List.all_cons, ih]
    have h1 : lowC n (lstD (h.2.map Sp'.d)) = true := low_dat n _
    have h2 : lowC n (.tp [.dat (.int h.1), .own (2 + 2 * j)]) = true := by
      unfold lowC allC
      have : decide (2 + 2 * j < n) = true := decide_eq_true (by omega)
      simp [lowB, this]
    simp [h1, h2]
theorem low_owns {n k : Nat} (h : 2 + 2 * k ≤ n) : lowC n (.lst (ownsH k)) = true := by
  unfold lowC allC
  rw [List.all_eq_true]
  intro b hb
  obtain ⟨j, hj, rfl⟩ := List.mem_map.mp hb
  have := List.mem_range.mp hj
  exact decide_eq_true (by omega)
theorem low_memR (s : Gt) : lowM (memR s).length (memR s) = true := by
  rw [memR_len]
  have h1 : lowC (2 + 2 * s.2.length) (lstD (s.1.map boxD)) = true := low_dat _ _
  have h2 := low_owns (n := 2 + 2 * s.2.length) (k := s.2.length) (Nat.le_refl _)
  have h3 := low_cells (n := 2 + 2 * s.2.length) 0 s.2 (by omega)
  unfold memR
  unfold lowM at h3 ⊢
  rw [List.all_cons, List.all_cons, h3]
  dsimp only
  rw [h1, h2]
  rfl
/-! ### looked through -/
theorem ok_st5 (x : Sp') (n : Nat) : okD x.d (n + 2) = true := by
  cases x with
  | inn => simp [Sp'.d, okD, okL, ok_in]
  | put b v => simp [Sp'.d, okD, okL, ok_put]
  | go b ns g => simp [Sp'.d, okD, okL, ok_go, okL_ints]
theorem okL_all {ds : List D} {n : Nat} (h : ∀ d ∈ ds, okD d n = true) : okL ds n = true := by
  induction ds with
  | nil => unfold okL; rfl
  | cons d ds ih =>
    unfold okL
    rw [h d List.mem_cons_self, ih fun x hx => h x (List.mem_cons_of_mem _ hx)]
    rfl
theorem ok_handD (h : Hand) (n : Nat) : okD (handD h) (n + 4) = true := by
  unfold handD
  have q : okL (h.2.map Sp'.d) (n + 2) = true := okL_all fun d hd => by
    obtain ⟨x, _, rfl⟩ := List.mem_map.mp hd
    exact ok_st5 x n
  simp [okD, okL, q]
theorem ok_hands (hs : List Hand) : okD (.lst (hs.map handD)) 8 = true := by
  have q : okL (hs.map handD) 7 = true := okL_all fun d hd => by
    obtain ⟨x, _, rfl⟩ := List.mem_map.mp hd
    exact ok_handD x 3
  simp [okD, q]
theorem optAll_eq {α β : Type} {f : α → Option β} {g : α → β} : ∀ {l : List α}, (∀ a ∈ l, f a = some (g a)) → optAll (l.map f) = some (l.map g)
  | [], _ => rfl
  | a :: l, h => by
    rw [List.map_cons, h a List.mem_cons_self]
    unfold optAll
    rw [optAll_eq fun b hb => h b (List.mem_cons_of_mem _ hb)]
    rfl
theorem range_getD (hs : List Hand) : (List.range hs.length).map (fun j => handD (hs[j]?.getD (0, []))) = hs.map handD := by
  apply List.ext_getElem?
  intro i
  rw [List.getElem?_map, List.getElem?_map]
  by_cases h : i < hs.length
  · rw [List.getElem?_range h, List.getElem?_eq_getElem h]
    simp [List.getElem?_eq_getElem h]
  · rw [List.getElem?_eq_none (by rw [List.length_range]; omega), List.getElem?_eq_none (by omega)]
    rfl
theorem view_hands (s : Gt) : view (memR s) 4 (.own 1) = some (.lst (s.2.map handD)) := by
  have one : ∀ b ∈ ownsH s.2.length, ∀ j, b = .own (3 + 2 * j) → j < s.2.length → viewN 0 (memR s) 3 b = some (handD (s.2[j]?.getD (0, []))) := by
    rintro b _ j rfl hj
    obtain ⟨g1, g2⟩ := memR_get s (List.getElem?_eq_getElem hj)
    have v1 := view_lstD (m := 0) (n := 1) (Nat.zero_le _) g1
    unfold viewN
    rw [if_pos (Nat.zero_le _), g2]
    dsimp only
    rw [List.map_cons, List.map_cons, List.map_nil, v1]
    have v0 : viewN 0 (memR s) 2 (.dat (.int s.2[j].1)) = some (.int s.2[j].1) := rfl
    rw [v0, List.getElem?_eq_getElem hj]
    rfl
  have g1 : (memR s)[1]? = some (some (.lst (ownsH s.2.length))) := rfl
  show viewN 0 (memR s) 4 (.own 1) = _
  unfold viewN
  rw [if_pos (Nat.zero_le _), g1]
  dsimp only
  rw [← range_getD]
  have e : (ownsH s.2.length).map (viewN 0 (memR s) 3) = (List.range s.2.length).map fun j => viewN 0 (memR s) 3 (.own (3 + 2 * j)) := by rw [List.map_map]; rfl
  rw [e, optAll_eq (g := fun j => handD (s.2[j]?.getD (0, []))) fun j hj => by
    have := List.mem_range.mp hj
    exact one _ (List.mem_map.mpr ⟨j, hj, rfl⟩) j rfl this]
  rfl
theorem eq_hands (s : Gt) : vEq (.own 1) (.dat (.lst [])) (memR s) = .ok (.dat (.bl s.2.isEmpty)) (memR s) := by
  have v := view_hands s
  have o := ok_hands s.2
  have o2 : okD (.lst []) 8 = true := by unfold okD okL; rfl
  unfold vEq
  rw [v]
  simp only [view_dat, o, o2, and_self, if_true, eqD_lst]
  cases s.2 <;> simp
/-- what the text's cells are as data -/
theorem fz_handsR (s : Gt) : fzN 0 (memR s) 4 (.own 1) = some (.lst (s.2.map handD)) := by
  have g1 : (memR s)[1]? = some (some (.lst (ownsH s.2.length))) := rfl
  unfold fzN
  rw [if_pos (Nat.zero_le _), g1]
  dsimp only
  rw [← range_getD]
  have e : (ownsH s.2.length).map (fzN 0 (memR s) 3) = (List.range s.2.length).map fun j => fzN 0 (memR s) 3 (.own (3 + 2 * j)) := by rw [List.map_map]; rfl
  rw [e, optAll_eq (g := fun j => handD (s.2[j]?.getD (0, []))) fun j hj => by
    have hj := List.mem_range.mp hj
    obtain ⟨g1, g2⟩ := memR_get s (List.getElem?_eq_getElem hj)
    have v1 : fzN 0 (memR s) 2 (.own (2 + 2 * j)) = some (.lst (s.2[j].2.map Sp'.d)) := by
      unfold fzN
      rw [if_pos (Nat.zero_le _), g1]
      have e : optAll (((s.2[j].2.map Sp'.d).map B.dat).map (fzN 0 (memR s) 1)) = some (s.2[j].2.map Sp'.d) := by
        rw [List.map_map]
        exact (congrArg optAll (List.map_congr_left fun d _ => rfl)).trans (optAll_some _)
      show (optAll (((s.2[j].2.map Sp'.d).map B.dat).map (fzN 0 (memR s) 1))).map D.lst = _
      rw [e]
      rfl
    unfold fzN
    rw [if_pos (Nat.zero_le _), g2]
    dsimp only
    rw [List.map_cons, List.map_cons, List.map_nil, v1]
    have v0 : fzN 0 (memR s) 2 (.dat (.int s.2[j].1)) = some (.int s.2[j].1) := rfl
    rw [v0, List.getElem?_eq_getElem hj]
    rfl]
  rfl
theorem fz_boxesR (s : Gt) : fzN 0 (memR s) 4 (.own 0) = some (.lst (s.1.map boxD)) := by
  have g1 : (memR s)[0]? = some (some (lstD (s.1.map boxD))) := rfl
  have e : optAll (((s.1.map boxD).map B.dat).map (fzN 0 (memR s) 3)) = some (s.1.map boxD) := by
    rw [List.map_map]
    exact (congrArg optAll (List.map_congr_left fun d _ => rfl)).trans (optAll_some _)
  unfold fzN
  rw [if_pos (Nat.zero_le _), g1]
  show (optAll (((s.1.map boxD).map B.dat).map (fzN 0 (memR s) 3))).map D.lst = _
  rw [e]
  rfl
end Ab

/-! A text read. -/
namespace Ab
open PySem PySem.Spec PyProof.Rows L2 TL
noncomputable abbrev t_rdA : Es := (sSet 5 (eFz (eMtS vSplit (eBin vIx (eVar 3) (eVar 4)) (eC (.str " ")))))
noncomputable abbrev t_rdB : Es := (sIf (tAn (tV (eBin vEq (eBin vIx (eVar 5) (eC (.int 0))) (eC (.str "box")))) (tAn (tV (eBin vEq (eApp vLen (aCons (eVar 5) aNil)) (eC (.int 3)))) (tV (eBin vEq (eVar 2) (eLst aNil)))))
  (sExpr (eMtL vAppend (eVar 1) (aCons (eApp (doCallA 2 0 F_numbers) (aCons (eSl (eVar 5) (oSome (eC (.int 1))) oNone) (aCons (eVar 4) aNil))) aNil)))
  (sIf (tAn (tV (eBin vEq (eBin vIx (eVar 5) (eC (.int 0))) (eC (.str "hand")))) (tV (eBin vEq (eApp vLen (aCons (eVar 5) aNil)) (eC (.int 2)))))
  (sExpr (eMtL vAppend (eVar 2) (aCons (eTupO (aCons (eApp (doCallA 2 0 f_number_of) (aCons (eBin vIx (eVar 5) (eC (.int 1))) (aCons (eVar 4) aNil))) (aCons (eLstO aNil) aNil))) aNil)))
  (sIf (tV (eBin vEq (eVar 2) (eLst aNil)))
  sNever
  (sExpr (eMtL vAppend (eBin vIxT (eBin vIx (eVar 2) (eUn vNeg (eC (.int 1)))) (eC (.int 1))) (aCons (eApp (doCallA 2 0 F_stepof) (aCons (eVar 5) (aCons (eVar 4) aNil))) aNil))))))
abbrev rhoR (b0 b3 : B) (x4 x5 : Option B) : Rho := [some b0, some (.own 0), some (.own 1), some b3, x4, x5]
theorem fz_newO {e : Ev} {ρ : Rho} {M : Mem} {ds : List D} (he : e ρ M = .ok (.own M.length) (M ++ [some (lstD ds)])) (hlow : lowM M.length M = true) : eFz e ρ M = .ok (.dat (.lst ds)) M := by
  rw [x_fz, he]
  simp only [Res.bind_ok]
  exact fz_last hlow ds
theorem rd_words {b0 : B} {rows : List Str} {i : Nat} {l : Ln} (x5 : Option B) (s : Gt) (hi : rows[i]? = some l.s) (h : l.ok) :
    t_rdA (rhoR b0 (.dat (.lst (strsD rows))) (some (.dat (.int (i : Int)))) x5) (memR s) = .ok (.nx (rhoR b0 (.dat (.lst (strsD rows))) (some (.dat (.int (i : Int)))) (some (.dat (.lst (strsD l.w)))))) (memR s) := by
  obtain ⟨sp, ln⟩ := ln_split h
  let ρ := rhoR b0 (.dat (.lst (strsD rows))) (some (.dat (.int (i : Int)))) x5
  have e1 : eBin vIx (eVar 3) (eVar 4) ρ (memR s) = .ok (.dat (.str l.s)) (memR s) := by
    have v3 : eVar 3 ρ (memR s) = .ok (.dat (.lst (strsD rows))) (memR s) := rfl
    have v4 : eVar 4 ρ (memR s) = .ok (.dat (.int (i : Int))) (memR s) := rfl
    have a : atI (strsD rows) (i : Int) = some (.str l.s) := by
      rw [atI_nat]
      unfold strsD
      rw [List.getElem?_map, hi]
      rfl
    rw [x_bin, v3]
    simp only [Res.bind_ok, v4]
    rw [y_ixL, a]
  have e2 : eMtS vSplit (eBin vIx (eVar 3) (eVar 4)) (eC (.str " ")) ρ (memR s) = .ok (.own (memR s).length) (memR s ++ [some (lstD (strsD l.w))]) := by
    have c : ((Str.ofString " ").length == 0) = false ∧ l.s.length + 2 ≤ SZ := ⟨by rw [l_sp]; rfl, by rw [SZ_val]; omega⟩
    unfold eMtS
    rw [e1]
    simp only [Res.bind_ok, isStrB, if_true, x_c]
    unfold vSplit
    dsimp only
    rw [if_pos c, sp]
    unfold newL lstD strsD
    rw [List.map_map]
    rfl
  have f := fz_newO e2 (low_memR s)
  show sSet 5 _ ρ (memR s) = _
  rw [x_set, f]
  rfl
theorem k_box : PyData.strOk (Str.ofString "box") = true := by decide +kernel
theorem k_hand : PyData.strOk (Str.ofString "hand") = true := by decide +kernel
theorem n_hb : (Str.ofString "hand" == Str.ofString "box") = false := by decide +kernel
theorem n_ib : (Str.ofString "in" == Str.ofString "box") = false := by decide +kernel
theorem n_pb : (Str.ofString "put" == Str.ofString "box") = false := by decide +kernel
theorem n_gb : (Str.ofString "go" == Str.ofString "box") = false := by decide +kernel
theorem n_ih : (Str.ofString "in" == Str.ofString "hand") = false := by decide +kernel
theorem n_ph : (Str.ofString "put" == Str.ofString "hand") = false := by decide +kernel
theorem n_gh : (Str.ofString "go" == Str.ofString "hand") = false := by decide +kernel
theorem eq_self' {a : Str} (h : PyData.strOk a = true) (M : Mem) : vEq (.dat (.str a)) (.dat (.str a)) M = .ok (.dat (.bl true)) M := by
  rw [eqS h h]
  simp
theorem word0 {x : Sp'} : ∃ w, (stepW x)[0]? = some w ∧ PyData.strOk w = true ∧ (w == Str.ofString "box") = false ∧ (w == Str.ofString "hand") = false := by
  cases x with
  | inn => exact ⟨"in", rfl, k_in, n_ib, n_ih⟩
  | put b v => exact ⟨"put", rfl, k_put, n_pb, n_ph⟩
  | go b ns g => exact ⟨"go", rfl, k_go, n_gb, n_gh⟩
theorem ix_word {ρ : Rho} {M : Mem} {ws : List Str} {w : Str} {i : Nat} (h5 : ρ[5]? = some (some (.dat (.lst (strsD ws))))) (hw : ws[i]? = some w) : eBin vIx (eVar 5) (eC (.int (i : Int))) ρ M = .ok (.dat (.str w)) M := by
  have a : atI (strsD ws) (i : Int) = some (.str w) := by
    rw [atI_nat]
    unfold strsD
    rw [List.getElem?_map, hw]
    rfl
  rw [x_bin, x_var, h5]
  simp only [Res.bind_ok, x_c]
  rw [y_ixL, a]
theorem el_nil (ρ : Rho) (M : Mem) : eLst aNil ρ M = .ok (.dat (.lst [])) M := by
  rw [x_lst, x_nil]
  simp only [Res.bind_ok, dats_nil]
  rw [if_pos (by rw [SZ_val]; simp)]
theorem rd_row {b0 b3 : B} {i : Nat} {l : Ln} {s s' : Gt} (h : l.ok) (hs : stepR s l = some s') (hz : s.1.length < 1000 ∧ s.2.length < 1000 ∧ ∀ h ∈ s.2, h.2.length < 1000) :
    t_rdB (rhoR b0 b3 (some (.dat (.int (i : Int)))) (some (.dat (.lst (strsD l.w))))) (memR s) = .ok (.nx (rhoR b0 b3 (some (.dat (.int (i : Int)))) (some (.dat (.lst (strsD l.w)))))) (memR s') := by
  obtain ⟨bx, hs0⟩ := s
  obtain ⟨z1, z2, z3⟩ := hz
  let ρ := rhoR b0 b3 (some (.dat (.int (i : Int)))) (some (.dat (.lst (strsD l.w))))
  have v1 : ∀ M, eVar 1 ρ M = .ok (.own 0) M := fun _ => rfl
  have v2 : ∀ M, eVar 2 ρ M = .ok (.own 1) M := fun _ => rfl
  have v4 : ∀ M, eVar 4 ρ M = .ok (.dat (.int (i : Int))) M := fun _ => rfl
  have v5 : ∀ M, eVar 5 ρ M = .ok (.dat (.lst (strsD l.w))) M := fun _ => rfl
  have en : ∀ M, eLst aNil ρ M = .ok (.dat (.lst [])) M := fun M => el_nil ρ M
  have ln : ∀ M, eApp vLen (aCons (eVar 5) aNil) ρ M = .ok (.dat (.int ((strsD l.w).length : Int))) M := fun M => by
    rw [x_app, x_cons, v5]
    simp only [Res.bind_ok, x_nil]
    exact y_lenS _ _
  have wd : ∀ (j : Nat) (w : Str), l.w[j]? = some w → ∀ M, eBin vIx (eVar 5) (eC (.int (j : Int))) ρ M = .ok (.dat (.str w)) M := fun j w hw M => ix_word (i := j) rfl hw
  show t_rdB ρ (memR (bx, hs0)) = .ok (.nx ρ) _
  cases l with
  | box b =>
    unfold stepR at hs
    simp only at hs
    split at hs
    · rename_i he
      subst he
      cases hs
      have w0 : eBin vIx (eVar 5) (eC (.int 0)) ρ (memR (bx, [])) = .ok (.dat (.str "box")) (memR (bx, [])) := wd 0 "box" rfl _
      have q0 := eq_self' k_box (memR (bx, []))
      have eh : vEq (.own 1) (.dat (.lst [])) (memR (bx, [])) = .ok (.dat (.bl true)) (memR (bx, [])) := eq_hands (bx, [])
      have l3 : eApp vLen (aCons (eVar 5) aNil) ρ (memR (bx, [])) = .ok (.dat (.int 3)) (memR (bx, [])) := ln _
      have t : tAn (tV (eBin vEq (eBin vIx (eVar 5) (eC (.int 0))) (eC (.str "box")))) (tAn (tV (eBin vEq (eApp vLen (aCons (eVar 5) aNil)) (eC (.int 3)))) (tV (eBin vEq (eVar 2) (eLst aNil)))) ρ (memR (bx, [])) = .ok true (memR (bx, [])) := by
        rw [x_ta, x_tv, x_bin, w0]
        simp only [Res.bind_ok, x_c, q0, if_true]
        rw [x_ta, x_tv, x_bin, l3]
        simp only [Res.bind_ok, x_c, y_eqI]
        have z : ((3 : Int) == 3) = true := rfl
        simp only [z, if_true]
        rw [x_tv, x_bin, v2]
        simp only [Res.bind_ok, en, eh]
      have sl : eSl (eVar 5) (oSome (eC (.int 1))) oNone ρ (memR (bx, [])) = .ok (.dat (.lst ([b.1, b.2].map fun n => .str (iS n)))) (memR (bx, [])) := c_cut (l := strsD (boxW b)) (i := 1) (by show 1 ≤ 3; omega) (e := eVar 5) rfl
      have cn := c_numbers (ns := [b.1, b.2]) (by
        intro n hn
        simp only [List.mem_cons, List.not_mem_nil, or_false] at hn
        rcases hn with rfl | rfl
        · exact h.1
        · exact h.2) (by simp) (i : Int) (memR (bx, []))
      have il : isL (.own 0) (memR (bx, [])) = true := rfl
      have ap := y_appD (M := memR (bx, [])) (k := 0) (ds := bx.map boxD) (d := boxD b) rfl (by rw [List.length_map]; exact Nat.lt_of_lt_of_le z1 (by decide))
      have hM : (memR (bx, [])).set 0 (some (lstD (bx.map boxD ++ [boxD b]))) = memR (bx ++ [b], []) := by
        have e : bx.map boxD ++ [boxD b] = (bx ++ [b]).map boxD := by rw [List.map_append]; rfl
        rw [e]
        rfl
      rw [hM] at ap
      show sIf _ _ _ ρ (memR (bx, [])) = _
      rw [x_sif, t]
      simp only [Res.bind_ok, if_true]
      rw [x_ex, x_mtL, v1]
      simp only [Res.bind_ok, il, if_true]
      rw [x_cons, x_app, x_cons, sl]
      simp only [Res.bind_ok, x_cons, v4, x_nil, cn]
      have ap' : vAppend (.own 0) [.dat (.tup ([b.1, b.2].map .int))] (memR (bx, [])) = .ok (.dat .non) (memR (bx ++ [b], [])) := ap
      simp only [ap', Res.bind_ok]
    · cases hs
  | kn k =>
    cases hs
    have h : okN k := h
    let M0 := memR (bx, hs0)
    have w0 : eBin vIx (eVar 5) (eC (.int 0)) ρ M0 = .ok (.dat (.str "hand")) M0 := wd 0 "hand" rfl _
    have w1 : eBin vIx (eVar 5) (eC (.int 1)) ρ M0 = .ok (.dat (.str (iS k))) M0 := wd 1 (iS k) rfl _
    have q0 := eq_str n_hb k_hand k_box M0
    have q1 := eq_self' k_hand M0
    have l2 : eApp vLen (aCons (eVar 5) aNil) ρ M0 = .ok (.dat (.int 2)) M0 := ln _
    have t : tAn (tV (eBin vEq (eBin vIx (eVar 5) (eC (.int 0))) (eC (.str "box")))) (tAn (tV (eBin vEq (eApp vLen (aCons (eVar 5) aNil)) (eC (.int 3)))) (tV (eBin vEq (eVar 2) (eLst aNil)))) ρ M0 = .ok false M0 := by
      rw [x_ta, x_tv, x_bin, w0]
      simp only [Res.bind_ok, x_c, q0, Bool.false_eq_true, if_false]
    have t2 : tAn (tV (eBin vEq (eBin vIx (eVar 5) (eC (.int 0))) (eC (.str "hand")))) (tV (eBin vEq (eApp vLen (aCons (eVar 5) aNil)) (eC (.int 2)))) ρ M0 = .ok true M0 := by
      rw [x_ta, x_tv, x_bin, w0]
      simp only [Res.bind_ok, x_c, q1, if_true]
      rw [x_tv, x_bin, l2]
      simp only [Res.bind_ok, x_c, y_eqI]
      rfl
    have n1 := c_number_of h (i : Int) M0
    have lm := memR_len (bx, hs0)
    let M1 : Mem := M0 ++ [some (lstD [])]
    let M2 : Mem := M1 ++ [some (.tp [.dat (.int k), .own M0.length])]
    have et : eTupO (aCons (eApp (doCallA 2 0 f_number_of) (aCons (eBin vIx (eVar 5) (eC (.int 1))) (aCons (eVar 4) aNil))) (aCons (eLstO aNil) aNil)) ρ M0 = .ok (.own M1.length) M2 := by
      have z : ([B.dat (.int k), .own M0.length]).length ≤ SZ := by rw [SZ_val]; simp
      have z0 : ([] : List B).length ≤ SZ := by rw [SZ_val]; simp
      show eApp _ _ ρ M0 = _
      rw [x_app, x_cons, x_app, x_cons, w1]
      simp only [Res.bind_ok, x_cons, v4, x_nil, n1]
      rw [x_lstO, x_nil]
      simp only [Res.bind_ok]
      rw [if_pos z0]
      unfold newL
      simp only [Res.bind_ok]
      rw [if_pos z]
      rfl
    have g1 : M2[1]? = some (some (.lst (ownsH hs0.length))) := rfl
    have ap := y_app g1 (by rw [List.length_map, List.length_range, SZ_val]; exact Nat.lt_of_lt_of_le z2 (by decide)) (y := .own M1.length)
    have hM : M2.set 1 (some (.lst (ownsH hs0.length ++ [.own M1.length]))) = memR (bx, hs0 ++ [(k, [])]) := by
      have e1 : M1.length = 3 + 2 * hs0.length := by
        show (memR (bx, hs0) ++ [some (lstD [])]).length = _
        rw [List.length_append, memR_len, List.length_singleton]
        show 2 + 2 * hs0.length + 1 = _
        omega
      have e2 : ownsH hs0.length ++ [.own M1.length] = ownsH (hs0 ++ [(k, [])]).length := by
        rw [e1, List.length_append, List.length_singleton]
        unfold ownsH
        rw [List.range_succ, List.map_append]
        rfl
      have e3 : M0.length = 2 + 2 * (0 + hs0.length) := by
        show (memR (bx, hs0)).length = _
        rw [memR_len, Nat.zero_add]
      rw [e2]
      show some _ :: some _ :: ((cellsH 0 hs0 ++ [some (lstD [])]) ++ [some (.tp [.dat (.int k), .own M0.length])]) = some _ :: some _ :: cellsH 0 (hs0 ++ [(k, [])])
      rw [cells_snoc, e3, List.append_assoc]
      rfl
    rw [hM] at ap
    have il : isL (.own 1) M0 = true := rfl
    have st : sExpr (eMtL vAppend (eVar 2) (aCons (eTupO (aCons (eApp (doCallA 2 0 f_number_of) (aCons (eBin vIx (eVar 5) (eC (.int 1))) (aCons (eVar 4) aNil))) (aCons (eLstO aNil) aNil))) aNil)) ρ M0 = .ok (.nx ρ) (memR (bx, hs0 ++ [(k, [])])) := by
      rw [x_ex, x_mtL, v2]
      simp only [Res.bind_ok, il, if_true]
      rw [x_cons, et]
      simp only [Res.bind_ok, x_nil, ap]
    show sIf _ _ _ ρ M0 = _
    rw [x_sif, t]
    simp only [Res.bind_ok, Bool.false_eq_true, if_false]
    rw [x_sif, t2]
    simp only [Res.bind_ok, if_true]
    exact st
  | st x =>
    have hs' : (match hs0.getLast? with
      | some h => some (bx, hs0.dropLast ++ [(h.1, h.2 ++ [x])])
      | none => none) = some s' := hs
    have hx : okW x := h
    cases hq : hs0.getLast? with
    | none => rw [hq] at hs'; cases hs'
    | some hd =>
      rw [hq] at hs'
      cases hs'
      obtain ⟨hs1, rfl⟩ : ∃ hs1, hs0 = hs1 ++ [hd] := ⟨hs0.dropLast, by
        have ne : hs0 ≠ [] := fun e => by rw [e] at hq; cases hq
        have := List.dropLast_concat_getLast ne
        rw [List.getLast?_eq_some_getLast ne] at hq
        cases hq
        exact this.symm⟩
      obtain ⟨k, st⟩ := hd
      rw [List.dropLast_concat]
      let M0 := memR (bx, hs1 ++ [(k, st)])
      obtain ⟨w, ww, kw, nb, nh⟩ := word0 (x := x)
      have w0 : eBin vIx (eVar 5) (eC (.int 0)) ρ M0 = .ok (.dat (.str w)) M0 := wd 0 w ww _
      have q0 := eqS kw k_box M0
      rw [nb] at q0
      have q1 := eqS kw k_hand M0
      rw [nh] at q1
      have t : tAn (tV (eBin vEq (eBin vIx (eVar 5) (eC (.int 0))) (eC (.str "box")))) (tAn (tV (eBin vEq (eApp vLen (aCons (eVar 5) aNil)) (eC (.int 3)))) (tV (eBin vEq (eVar 2) (eLst aNil)))) ρ M0 = .ok false M0 := by
        rw [x_ta, x_tv, x_bin, w0]
        simp only [Res.bind_ok, x_c, q0, Bool.false_eq_true, if_false]
      have t2 : tAn (tV (eBin vEq (eBin vIx (eVar 5) (eC (.int 0))) (eC (.str "hand")))) (tV (eBin vEq (eApp vLen (aCons (eVar 5) aNil)) (eC (.int 2)))) ρ M0 = .ok false M0 := by
        rw [x_ta, x_tv, x_bin, w0]
        simp only [Res.bind_ok, x_c, q1, Bool.false_eq_true, if_false]
      have eh : vEq (.own 1) (.dat (.lst [])) M0 = .ok (.dat (.bl false)) M0 := by
        have q := eq_hands (bx, hs1 ++ [(k, st)])
        have e : (hs1 ++ [(k, st)]).isEmpty = false := by cases hs1 <;> rfl
        rw [e] at q
        exact q
      have t3 : tV (eBin vEq (eVar 2) (eLst aNil)) ρ M0 = .ok false M0 := by
        rw [x_tv, x_bin, v2]
        simp only [Res.bind_ok, en, eh]
      have cs := c_stepof hx (i : Int) M0
      obtain ⟨g1, g2⟩ := memR_get (bx, hs1 ++ [(k, st)]) (i := hs1.length) (h := (k, st)) (by simp)
      have il1 : isL (.own 1) M0 = true := rfl
      have gl : M0[1]? = some (some (.lst (ownsH (hs1 ++ [(k, st)]).length))) := rfl
      have al : atI (ownsH (hs1 ++ [(k, st)]).length) (-1) = some (.own (3 + 2 * hs1.length)) := by
        apply atI_last
        rw [List.length_append, List.length_singleton]
        unfold ownsH
        rw [List.range_succ, List.map_append, List.map_cons, List.map_nil, List.getLast?_concat]
      have eo : eBin vIxT (eBin vIx (eVar 2) (eUn vNeg (eC (.int 1)))) (eC (.int 1)) ρ M0 = .ok (.own (2 + 2 * hs1.length)) M0 := by
        have n1 : eUn vNeg (eC (.int 1)) ρ M0 = .ok (.dat (.int (-1))) M0 := rfl
        rw [x_bin, x_bin, v2]
        simp only [Res.bind_ok, n1]
        rw [y_ixO gl, al]
        simp only [Res.bind_ok, x_c]
        unfold vIxT
        dsimp only
        rw [g2]
        dsimp only
        rw [at1]
      have il : isL (.own (2 + 2 * hs1.length)) M0 = true := y_isL g1
      have ap := y_appD (d := x.d) g1 (by rw [List.length_map]; exact Nat.lt_of_lt_of_le (z3 (k, st) (by simp)) (by decide))
      have hM : M0.set (2 + 2 * hs1.length) (some (lstD (st.map Sp'.d ++ [x.d]))) = memR (bx, hs1 ++ [(k, st ++ [x])]) := by
        have e : st.map Sp'.d ++ [x.d] = (st ++ [x]).map Sp'.d := by rw [List.map_append]; rfl
        have c0 := cells_len 0 hs1
        rw [e]
        show (some (lstD (bx.map boxD)) :: some (.lst (ownsH (hs1 ++ [(k, st)]).length)) :: cellsH 0 (hs1 ++ [(k, st)])).set (2 + 2 * hs1.length) _ = some (lstD (bx.map boxD)) :: some (.lst (ownsH (hs1 ++ [(k, st ++ [x])]).length)) :: cellsH 0 (hs1 ++ [(k, st ++ [x])])
        rw [cells_snoc, cells_snoc, List.length_append, List.length_append]
        have e2 : 2 + 2 * hs1.length = (2 * hs1.length + 1) + 1 := by omega
        rw [e2, List.set_cons_succ, List.set_cons_succ, List.set_append_right _ _ (by omega), c0, Nat.sub_self]
        rfl
      rw [hM] at ap
      show sIf _ _ _ ρ M0 = _
      rw [x_sif, t]
      simp only [Res.bind_ok, Bool.false_eq_true, if_false]
      rw [x_sif, t2]
      simp only [Res.bind_ok, Bool.false_eq_true, if_false]
      rw [x_sif, t3]
      simp only [Res.bind_ok, Bool.false_eq_true, if_false]
      rw [x_ex, x_mtL, eo]
      simp only [Res.bind_ok, il, if_true]
      rw [x_cons, x_app, x_cons, v5]
      simp only [Res.bind_ok, x_cons, v4, x_nil]
      have cs' : doCallA 2 0 F_stepof [.dat (.lst (strsD (Ln.st x).w)), .dat (.int (i : Int))] M0 = .ok (.dat x.d) M0 := cs
      have ap' : vAppend (.own (2 + 2 * hs1.length)) [.dat x.d] M0 = .ok (.dat .non) (memR (bx, hs1 ++ [(k, st ++ [x])])) := ap
      simp only [cs', Res.bind_ok, ap']
theorem step_sz {l : Ln} {s s' : Gt} {n : Nat} (hs : stepR s l = some s') (hz : s.1.length ≤ n ∧ s.2.length ≤ n ∧ ∀ h ∈ s.2, h.2.length ≤ n) : s'.1.length ≤ n + 1 ∧ s'.2.length ≤ n + 1 ∧ ∀ h ∈ s'.2, h.2.length ≤ n + 1 := by
  obtain ⟨bx, hs0⟩ := s
  obtain ⟨z1, z2, z3⟩ := hz
  cases l with
  | box b =>
    unfold stepR at hs
    simp only at hs
    split at hs
    · cases hs
      refine ⟨by show (bx ++ [b]).length ≤ _; rw [List.length_append, List.length_singleton]; exact Nat.succ_le_succ z1, by simp, by simp⟩
    · cases hs
  | kn k =>
    cases hs
    refine ⟨Nat.le_succ_of_le z1, by show (hs0 ++ [(k, [])]).length ≤ _; rw [List.length_append, List.length_singleton]; exact Nat.succ_le_succ z2, fun h hh => ?_⟩
    rcases List.mem_append.mp hh with hh | hh
    · exact Nat.le_succ_of_le (z3 h hh)
    · rw [List.mem_singleton.mp hh]; simp
  | st x =>
    have hs' : (match hs0.getLast? with
      | some h => some (bx, hs0.dropLast ++ [(h.1, h.2 ++ [x])])
      | none => none) = some s' := hs
    cases hq : hs0.getLast? with
    | none => rw [hq] at hs'; cases hs'
    | some hd =>
      rw [hq] at hs'
      cases hs'
      have hm : hd ∈ hs0 := List.mem_of_getLast? hq
      have l1 : 0 < hs0.length := List.length_pos_of_mem hm
      refine ⟨Nat.le_succ_of_le z1, ?_, fun h hh => ?_⟩
      · show (hs0.dropLast ++ [(hd.1, hd.2 ++ [x])]).length ≤ _
        have z2 : hs0.length ≤ n := z2
        rw [List.length_append, List.length_dropLast, List.length_singleton]
        omega
      · rcases List.mem_append.mp hh with hh | hh
        · exact Nat.le_succ_of_le (z3 h ((List.dropLast_sublist _).subset hh))
        · rw [List.mem_singleton.mp hh]
          show (hd.2 ++ [x]).length ≤ _
          rw [List.length_append, List.length_singleton]
          exact Nat.succ_le_succ (z3 hd hm)
theorem rd_loop {b0 : B} {rows : List Str} : ∀ (ls : List Ln) (a : Nat) (s s' : Gt) (x4 x5 : Option B), (∀ l ∈ ls, l.ok) → (∀ (j : Nat) (l : Ln), ls[j]? = some l → rows[a + j]? = some l.s) → runR ls s = some s' → (s.1.length ≤ a ∧ s.2.length ≤ a ∧ ∀ h ∈ s.2, h.2.length ≤ a) → a + ls.length < 1000 →
    ∃ y4 y5, forL (gN 4) (sSeq t_rdA t_rdB) ((List.range' a ls.length).map fun (i : Nat) => B.dat (.int (i : Int))) (rhoR b0 (.dat (.lst (strsD rows))) x4 x5) (memR s) = .ok (.nx (rhoR b0 (.dat (.lst (strsD rows))) y4 y5)) (memR s')
  | [], a, s, s', x4, x5, _, _, hr, _, _ => by
    cases hr
    exact ⟨x4, x5, rfl⟩
  | l :: ls, a, s, s', x4, x5, ok, hrow, hr, hz, ha => by
    rw [List.length_cons] at ha
    unfold runR at hr
    cases q : stepR s l with
    | none => rw [q] at hr; cases hr
    | some s1 =>
      rw [q] at hr
      have hl := ok l List.mem_cons_self
      have w := rd_words (b0 := b0) (rows := rows) (i := a) x5 s (hrow 0 l rfl) hl
      have r := rd_row (b0 := b0) (b3 := .dat (.lst (strsD rows))) (i := a) hl q ⟨by omega, by omega, fun h hh => by have := hz.2.2 h hh; omega⟩
      obtain ⟨y4, y5, ih⟩ := rd_loop (b0 := b0) (rows := rows) ls (a + 1) s1 s' (some (.dat (.int (a : Int)))) (some (.dat (.lst (strsD l.w)))) (fun z hzz => ok z (List.mem_cons_of_mem _ hzz)) (fun j z e => by
        have := hrow (j + 1) z e
        rw [← this]
        congr 1
        omega) hr (step_sz q hz) (by omega)
      refine ⟨y4, y5, ?_⟩
      rw [List.length_cons, List.range'_succ, List.map_cons]
      unfold forL
      have g4 : gN 4 (.dat (.int (a : Int))) (rhoR b0 (.dat (.lst (strsD rows))) x4 x5) = some (rhoR b0 (.dat (.lst (strsD rows))) (some (.dat (.int (a : Int)))) x5) := rfl
      rw [g4]
      dsimp only
      rw [seq_ok w, r]
      exact ih
noncomputable abbrev F_read (K : PySem.W.Frag) : Fn := f_read F_numbers f_number_of F_stepof K (F_ginit K)
theorem e_read (K : PySem.W.Frag) {g : Gt} (G : Good g) : F_read K [.dat (.str (textS g))] [] = .ok (.dat (gobj K g)) [] := by
  have ll := lines_len G
  have tlen := text_len G
  have sp := split_text G
  let b0 : B := .dat (.str (textS g))
  let b3 : B := .dat (.lst (strsD (linesS g)))
  let ρ (x1 x2 x3 : Option B) : Rho := [some b0, x1, x2, x3, none, none]
  have s1 : sSet 1 (eLstO aNil) (ρ none none none) [] = .ok (.nx (ρ (some (.own 0)) none none)) [some (.lst [])] := rfl
  have s2 : sSet 2 (eLstO aNil) (ρ (some (.own 0)) none none) [some (.lst [])] = .ok (.nx (ρ (some (.own 0)) (some (.own 1)) none)) (memR ([], [])) := rfl
  have es : eMtS vSplit (eVar 0) (eC (.str "\n")) (ρ (some (.own 0)) (some (.own 1)) none) (memR ([], [])) = .ok (.own (memR ([], [])).length) (memR ([], []) ++ [some (lstD (strsD (linesS g)))]) := by
    have c : ((Str.ofString "\n").length == 0) = false ∧ (textS g).length + 2 ≤ SZ := ⟨by rw [lit_len (n := 1) (by decide +kernel)]; rfl, by rw [SZ_val]; omega⟩
    have v0 : eVar 0 (ρ (some (.own 0)) (some (.own 1)) none) (memR ([], [])) = .ok b0 (memR ([], [])) := rfl
    unfold eMtS
    rw [v0]
    simp only [Res.bind_ok, isStrB, if_true, x_c, b0]
    unfold vSplit
    dsimp only
    rw [if_pos c, sp]
    unfold newL lstD strsD
    rw [List.map_map]
    rfl
  have f := fz_newO es (low_memR ([], []))
  have s3 : sSet 3 (eFz (eMtS vSplit (eVar 0) (eC (.str "\n")))) (ρ (some (.own 0)) (some (.own 1)) none) (memR ([], [])) = .ok (.nx (rhoR b0 b3 none none)) (memR ([], [])) := by
    rw [x_set, f]
    rfl
  have lls : (lnOf g).length = (linesS g).length := by rw [lines_ln, List.length_map]
  obtain ⟨y4, y5, q⟩ := rd_loop (b0 := b0) (rows := linesS g) (lnOf g) 0 ([], []) g none none (ln_all G) (fun j l e => by rw [Nat.zero_add, lines_ln, List.getElem?_map, e]; rfl) (run_all g) ⟨by simp, by simp, by simp⟩ (by omega)
  have s4 : sForR1 (gN 4) (aCons (eApp vLen (aCons (eVar 3) aNil)) aNil) (sSeq t_rdA t_rdB) (rhoR b0 b3 none none) (memR ([], [])) = .ok (.nx (rhoR b0 b3 y4 y5)) (memR g) := by
    rw [forR1_nat (n := (lnOf g).length) (by
      have v3 : eVar 3 (rhoR b0 b3 none none) (memR ([], [])) = .ok b3 (memR ([], [])) := rfl
      rw [x_app, x_cons, v3]
      simp only [Res.bind_ok, x_nil, b3]
      rw [y_lenS, List.length_map, lls]) (by omega), List.range_eq_range']
    exact q
  have mk := e_gmake K G []
  have fin : ∀ z4 z5 : Option B, (∀ b, z4 = some b → lowB 0 b = true) → True := fun _ _ _ => trivial
  have s5 : sFzA 0 (sRet (eApp (doMake (He.ga K "Gate") 3 (F_ginit K)) (aCons (eVar 1) (aCons (eVar 2) aNil)))) (rhoR b0 b3 y4 y5) (memR g) = .ok (.ret (.dat (gobj K g))) [] := by
    have f0 := fz_boxesR g
    have f1 := fz_handsR g
    have l0 : lowB 0 (.own 0) = false := rfl
    have l1 : lowB 0 (.own 1) = false := rfl
    have e : fzR 0 (memR g) (rhoR b0 b3 y4 y5) = some b0 :: some (.dat (.lst (g.1.map boxD))) :: some (.dat (.lst (g.2.map handD))) :: (fzR 0 (memR g) [some b3, y4, y5]) := by
      unfold fzR
      simp only [List.map_cons, Option.bind_some, l0, l1, Bool.false_eq_true, if_false, f0, f1, Option.map_some]
      rfl
    have hl : lowM 0 ((memR g).take 0) = true := rfl
    unfold sFzA
    rw [if_pos hl, e, List.take_zero]
    generalize fzR 0 (memR g) [some b3, y4, y5] = r
    have v1 : eVar 1 (some b0 :: some (.dat (.lst (g.1.map boxD))) :: some (.dat (.lst (g.2.map handD))) :: r) [] = .ok (.dat (.lst (g.1.map boxD))) [] := rfl
    have v2 : eVar 2 (some b0 :: some (.dat (.lst (g.1.map boxD))) :: some (.dat (.lst (g.2.map handD))) :: r) [] = .ok (.dat (.lst (g.2.map handD))) [] := rfl
    rw [x_ret, x_app, x_cons, v1]
    simp only [Res.bind_ok, x_cons, v2, x_nil, mk]
  show finD 0 (outB (t_read F_numbers f_number_of F_stepof K (F_ginit K) (ρ none none none) [])) = _
  unfold t_read
  rw [seq_ok s1, seq_ok s2, seq_ok s3, seq_ok s4, s5]
  exact fin_0 _ _
theorem c_read (K : PySem.W.Frag) {g : Gt} (G : Good g) (M : Mem) : doCallA 1 0 (F_read K) [.dat (.str (textS g))] M = .ok (.dat (gobj K g)) M := call_0v rfl (e_read K G) rfl
end Ab

/-! The law's step. -/
namespace Ab
open PySem PySem.Spec PyProof.Rows L2
noncomputable abbrev F_step : Fn := f_law_step f_law_off
theorem e_step {bx : List (Int × Int)} {many : Int} (s : DI) (hb : bx ≠ []) (hl : bx.length < 1000) (hm : ∀ b ∈ bx, 0 ≤ b.2 ∧ b.2 ≤ 9) (h2 : 2 ≤ many) (h3 : many < 1000) :
    F_step [.own 0, .dat (.lst (bx.map boxD)), .dat (.int many)] [some (dl s)] = .ok (.dat (stepI bx many s).1.d) [some (dl (stepI bx many s).2)] := by
  have hbl : 0 < bx.length := List.length_pos_iff.mpr hb
  have o1 := c_off bx.length s [] (by omega) (by omega)
  have r1 := offI_lt (m := bx.length) (by omega) s
  have hk : (offI bx.length s).1 = ((offI bx.length s).1.toNat : Int) := by omega
  have hlt : (offI bx.length s).1.toNat < bx.length := by omega
  have hix : atI (bx.map boxD) (offI bx.length s).1 = some (boxD bx[(offI bx.length s).1.toNat]) := by
    refine (congrArg (atI _) hk).trans ?_
    rw [atI_nat, List.getElem?_map, List.getElem?_eq_getElem hlt]
    rfl
  have hg : bx[(offI bx.length s).1.toNat]?.getD (0, 0) = bx[(offI bx.length s).1.toNat] := by rw [List.getElem?_eq_getElem hlt]; rfl
  generalize hbe : bx[(offI bx.length s).1.toNat] = bb at hix hg
  have hbb := hm bb (by rw [← hbe]; exact List.getElem_mem hlt)
  generalize hs1 : (offI bx.length s).2 = s1 at o1
  have st : stepI bx many s = (if (offI 2 s1).1 = 0 then (.put (offI bx.length s).1 (offI (bb.2 + 1) (offI 2 s1).2).1, (offI (bb.2 + 1) (offI 2 s1).2).2)
    else (.go (offI bx.length s).1 (if (offI 8 (draws (upto (bb.2 + 1)) (offI 2 s1).2).2).1 = 0 then upto (bb.2 + 1) else (draws (upto (bb.2 + 1)) (offI 2 s1).2).1) (1 + (offI (many - 1) (offI 8 (draws (upto (bb.2 + 1)) (offI 2 s1).2).2).2).1), (offI (many - 1) (offI 8 (draws (upto (bb.2 + 1)) (offI 2 s1).2).2).2).2)) := by
    unfold stepI
    simp only [hg, hs1]
  rw [st]
  generalize hv : (offI bx.length s).1 = v at *
  have hv' : atI [D.int bb.1, D.int bb.2] 1 = some (.int bb.2) := rfl
  unfold F_step f_law_step t_law_step
  by_cases hz : (offI 2 s1).1 = 0
  · have c2 := c_off (bb.2 + 1) (offI 2 s1).2 [] (by omega) (by omega)
    simp [o1, hix, boxD, c_off2, hz, c2, Sp'.d, fin_dl]
  · have hlc : eLCR1 [6] (gN 6) (aCons (eBin vAdd (eVar 4) (eC (D.int 1))) aNil) (tV (eBin vEq (eApp (doCallA 2 1 f_law_off) (aCons (eVar 0) (aCons (eC (D.int 2)) aNil))) (eC (D.int 0)))) (eVar 6)
        [some (.own 0), some (.dat (.lst (bx.map boxD))), some (.dat (.int many)), some (.dat (.int v)), some (.dat (.int bb.2)), none, none] [some (dl (offI 2 s1).2)] =
        .ok (.own 1) [some (dl (draws (upto (bb.2 + 1)) (offI 2 s1).2).2), some (.lst ((draws (upto (bb.2 + 1)) (offI 2 s1).2).1.map ib))] := by
      have hbn : bnd (bb.2 + 1) = true := by
        simp only [bnd_eq, Bool.and_eq_true, decide_eq_true_eq]
        omega
      have q := lcL_draws 6 (by decide) [some (.own 0), some (.dat (.lst (bx.map boxD))), some (.dat (.int many)), some (.dat (.int v)), some (.dat (.int bb.2)), none, none] [] rfl (by simp) (upto (bb.2 + 1)) [] (offI 2 s1).2 (by rw [upto_len, SZ_val]; simp; omega)
      simp [eLCR1, rngOf1, hbn, rng_upto, lcAll, wipeR]
      simp at q
      rw [q]
      rfl
    have c8 := c_off8 (draws (upto (bb.2 + 1)) (offI 2 s1).2).2 []
    have cm := c_off (many - 1) (offI 8 (draws (upto (bb.2 + 1)) (offI 2 s1).2).2).2 [] (by omega) (by omega)
    have hf : fzN 1 [some (dl (draws (upto (bb.2 + 1)) (offI 2 s1).2).2), some (.lst ((draws (upto (bb.2 + 1)) (offI 2 s1).2).1.map ib))] 4 (.own 1) = some (.lst ((draws (upto (bb.2 + 1)) (offI 2 s1).2).1.map .int)) := fz_new (by rw [List.map_map]; rfl)
    have hok : okRg 0 (bb.2 + 1) = true := by
      unfold okRg
      simp only [bnd_eq, Bool.and_eq_true, decide_eq_true_eq]
      omega
    have hbo : atI [D.int bb.1, D.int bb.2] 1 = some (.int bb.2) := rfl
    by_cases hy : (offI 8 (draws (upto (bb.2 + 1)) (offI 2 s1).2).2).1 = 0
    · simp [o1, hix, boxD, c_off2, hz, hlc, hf, lowM, low_dl, c8, cm, hy, hok, rgD_upto, Sp'.d, fin_dl]
    · simp [o1, hix, boxD, c_off2, hz, hlc, hf, lowM, low_dl, c8, cm, hy, hok, rgD_upto, Sp'.d, fin_dl]
end Ab

/-! Programs drawn. -/
namespace Ab
open PySem PySem.Spec PyProof.Rows L2
theorem c_step {bx : List (Int × Int)} {many : Int} (s : DI) (Mr : Mem) (hb : BoxOk bx) (h2 : 2 ≤ many) (h3 : many < 1000) : doCallA 3 1 F_step [.own 0, .dat (.lst (bx.map boxD)), .dat (.int many)] (some (dl s) :: Mr) = .ok (.dat (stepI bx many s).1.d) (some (dl (stepI bx many s).2) :: Mr) :=
  call_d (xs := [.dat (.lst (bx.map boxD)), .dat (.int many)]) (e_step s hb.1 hb.2.1 hb.2.2 h2 h3) rfl rfl Mr
theorem lcL_steps {bx : List (Int × Int)} {many : Int} (hb : BoxOk bx) (h2 : 2 ≤ many) (h3 : many < 1000) (ρ : Rho) (h0 : ρ[0]? = some (some (.own 0))) (h1 : ρ[1]? = some (some (.dat (.lst (bx.map boxD))))) (h4 : ρ[3]? = some (some (.dat (.int many)))) : ∀ (l : List B) (acc : List Sp') (s : DI), acc.length + l.length < 10000 →
    lcL 1 (gN 6) tY (eApp (doCallA 3 1 F_step) (aCons (eVar 0) (aCons (eVar 1) (aCons (eVar 3) aNil)))) ρ l [some (dl s), some (.lst (acc.map stB))] =
      .ok () [some (dl (nsteps bx many l.length s).2), some (.lst ((acc ++ (nsteps bx many l.length s).1).map stB))]
  | [], acc, s, h => by simp [lcL, nsteps]
  | b :: l, acc, s, h => by
    rw [List.length_cons] at h
    have e0 : (ρ.set 6 (some b))[0]? = some (some (.own 0)) := by rw [List.getElem?_set_ne (by decide)]; exact h0
    have e1 : (ρ.set 6 (some b))[1]? = some (some (.dat (.lst (bx.map boxD)))) := by rw [List.getElem?_set_ne (by decide)]; exact h1
    have e3 : (ρ.set 6 (some b))[3]? = some (some (.dat (.int many))) := by rw [List.getElem?_set_ne (by decide)]; exact h4
    have c := c_step s [some (.lst (acc.map stB))] hb h2 h3
    have ih := lcL_steps hb h2 h3 ρ h0 h1 h4 l (acc ++ [(stepI bx many s).1]) (stepI bx many s).2 (by rw [List.length_append, List.length_singleton]; omega)
    have hlen : (acc.map stB).length < SZ := by rw [List.length_map, SZ_val]; omega
    unfold lcL
    simp only [x_gn, x_ty1, x_app, x_cons, x_var, e0, e1, e3, x_nil, Res.bind_ok, c, if_true, List.getElem?_cons_succ, List.getElem?_cons_zero, hlen, List.set_cons_succ, List.set_cons_zero]
    rw [List.map_append] at ih
    rw [List.append_assoc] at ih
    exact ih
theorem e_program {bx : List (Int × Int)} {most : Int} (s : DI) (hb : BoxOk bx) (h2 : 2 ≤ most) (h3 : most < 100) :
    f_law_program f_law_off F_step [.own 0, .dat (.lst (bx.map boxD)), .dat (.int most)] [some (dl s)] =
      .ok (.dat (.tup [.int (progI bx most s).1.1, .lst ((progI bx most s).1.2.map Sp'.d)])) [some (dl (progI bx most s).2)] := by
  have c1 := c_off (most - 1) s [] (by omega) (by omega)
  have r1 := offI_lt (m := most - 1) (by omega) s
  unfold progI
  simp only
  generalize ha : offI (most - 1) s = a at c1 r1
  have c2 := c_off (2 + a.1 - 1) a.2 [] (by omega) (by omega)
  have r2 := offI_lt (m := 2 + a.1 - 1) (by omega) a.2
  generalize hbb : offI (2 + a.1 - 1) a.2 = b at c2 r2
  have q := lcL_steps hb (many := 2 + a.1) (by omega) (by omega) [some (.own 0), some (.dat (.lst (bx.map boxD))), some (.dat (.int most)), some (.dat (.int (2 + a.1))), some (.dat (.int (1 + b.1))), none, none] rfl rfl rfl (rng 0 (2 + a.1)) [] b.2 (by rw [rng_len]; simp; omega)
  have hlen : (rng 0 (2 + a.1)).length = (2 + a.1).toNat := by rw [rng_len, Int.sub_zero]
  rw [hlen] at q
  have hq := nsteps_len bx (2 + a.1) (2 + a.1).toNat b.2
  generalize hqq : nsteps bx (2 + a.1) (2 + a.1).toNat b.2 = qq at q hq
  have c3 := c_off (1 + b.1) qq.2 [none] (by omega) (by omega)
  have hlc : eLCR1 [6] (gN 6) (aCons (eVar 3) aNil) tY (eApp (doCallA 3 1 F_step) (aCons (eVar 0) (aCons (eVar 1) (aCons (eVar 3) aNil))))
      [some (.own 0), some (.dat (.lst (bx.map boxD))), some (.dat (.int most)), some (.dat (.int (2 + a.1))), some (.dat (.int (1 + b.1))), none, none] [some (dl b.2)] =
      .ok (.own 1) [some (dl qq.2), some (.lst (qq.1.map stB))] := by
    have hbn : bnd (2 + a.1) = true := by
      simp only [bnd_eq, Bool.and_eq_true, decide_eq_true_eq]
      omega
    simp [eLCR1, rngOf1, hbn, lcAll, wipeR]
    simp at q
    rw [q]
    rfl
  have hix : ixN qq.1.length (1 + b.1) = some (1 + b.1).toNat := by
    have e : 1 + b.1 = ((1 + b.1).toNat : Int) := by omega
    refine (congrArg (ixN _) e).trans (ixN_nat ?_)
    omega
  unfold f_law_program t_law_program
  have hs : (qq.1.map stB).set (1 + b.1).toNat (.dat (.tup [.str "in"])) = ((qq.1.map Sp'.d).set (1 + b.1).toNat Sp'.inn.d).map .dat := by
    rw [List.map_set, List.map_map]
    rfl
  simp [c1, c2, hlc, hix]
  rw [x_frz (k := 1) ((qq.1.map Sp'.d).set (1 + b.1).toNat Sp'.inn.d) rfl (Nat.le_refl _) rfl hs]
  simp [sb_ne, sb_dl, c3, fin_dl, List.map_set]
end Ab

namespace Ab
open PySem PySem.Spec PyProof.Rows L2
noncomputable abbrev F_prog : Fn := f_law_program f_law_off F_step
abbrev handB (h : Hand) : B := .dat (handD h)
theorem c_prog {bx : List (Int × Int)} {most : Int} (s : DI) (Mr : Mem) (hb : BoxOk bx) (h2 : 2 ≤ most) (h3 : most < 100) : doCallA 3 1 F_prog [.own 0, .dat (.lst (bx.map boxD)), .dat (.int most)] (some (dl s) :: Mr) = .ok (.dat (handD (progI bx most s).1)) (some (dl (progI bx most s).2) :: Mr) :=
  call_d (xs := [.dat (.lst (bx.map boxD)), .dat (.int most)]) (e_program s hb h2 h3) rfl rfl Mr
theorem lcL_progs (j : Nat) {bx : List (Int × Int)} {m : Int} {e : Ev} {ρ : Rho} (hb : BoxOk bx) (h2 : 2 ≤ m) (h3 : m ≤ 24) (pre : Mem) (he : ∀ (b : B) (s : DI) (Mr : Mem), e (ρ.set j (some b)) (some (dl s) :: Mr) = .ok (handB (progI bx m s).1) (some (dl (progI bx m s).2) :: Mr)) :
    ∀ (l : List B) (acc : List Hand) (s : DI), acc.length + l.length < 1000 → ∃ (s' : DI) (hs : List Hand), lcL (pre.length + 1) (gN j) tY e ρ l (some (dl s) :: (pre ++ [some (.lst (acc.map handB))])) = .ok () (some (dl s') :: (pre ++ [some (.lst ((acc ++ hs).map handB))])) ∧ hs.length = l.length ∧ ∀ h ∈ hs, OkHand bx h ∧ (h.2.length : Int) ≤ m
  | [], acc, s, h => ⟨s, [], by simp [lcL], rfl, fun h hh => by cases hh⟩
  | b :: l, acc, s, h => by
    rw [List.length_cons] at h
    have ok := progI_ok s hb h2 h3
    have e1 := he b s (pre ++ [some (.lst (acc.map handB))])
    generalize hp : progI bx m s = p at ok e1
    obtain ⟨s', hs, q1, q2, q3⟩ := lcL_progs j hb h2 h3 pre he l (acc ++ [p.1]) p.2 (by rw [List.length_append, List.length_singleton]; omega)
    refine ⟨s', p.1 :: hs, ?_, by rw [List.length_cons, List.length_cons, q2], fun x hx => ?_⟩
    · have g : (some (dl p.2) :: (pre ++ [some (Cell.lst (acc.map handB))]))[pre.length + 1]? = some (some (.lst (acc.map handB))) := by simp
      have st : (some (dl p.2) :: (pre ++ [some (Cell.lst (acc.map handB))])).set (pre.length + 1) (some (.lst (acc.map handB ++ [handB p.1]))) = some (dl p.2) :: (pre ++ [some (.lst (acc.map handB ++ [handB p.1]))]) := by simp
      have hl : (acc.map handB).length < SZ := by rw [List.length_map, SZ_val]; omega
      unfold lcL
      simp only [x_gn, x_ty1, Res.bind_ok, if_true, e1, g, hl, st]
      rw [List.map_append, List.append_assoc] at q1
      exact q1
    · rcases List.mem_cons.mp hx with rfl | hx
      · exact ok
      · exact q3 x hx
end Ab

/-! Hands drawn, frozen. -/
namespace Ab
open PySem PySem.Spec PyProof.Rows L2
/-- hands drawn, frozen -/
theorem fz_progsJ (j : Nat) {bx : List (Int × Int)} {m n : Int} {e : Ev} {ne : Ev} {ρ : Rho} (hb : BoxOk bx) (h2 : 2 ≤ m) (h3 : m ≤ 24) (n0 : 0 ≤ n) (n1 : n < 100) (pre : Mem) (hpre : lowM (pre.length + 1) pre = true)
    (he : ∀ (b : B) (s : DI) (Mr : Mem), e (ρ.set j (some b)) (some (dl s) :: Mr) = .ok (handB (progI bx m s).1) (some (dl (progI bx m s).2) :: Mr)) (s : DI) (hn : ne ρ (some (dl s) :: pre) = .ok (.dat (.int n)) (some (dl s) :: pre)) :
    ∃ (s' : DI) (hs : List Hand), eFz (eLCR1 [j] (gN j) (aCons ne aNil) tY e) ρ (some (dl s) :: pre) = .ok (.dat (.lst (hs.map handD))) (some (dl s') :: pre) ∧ (hs.length : Int) = n ∧ ∀ h ∈ hs, OkHand bx h ∧ (h.2.length : Int) ≤ m := by
  obtain ⟨s', hs, q1, q2, q3⟩ := lcL_progs j (ρ := wipeR ρ [j]) hb h2 h3 pre (fun b s Mr => by rw [show (wipeR ρ [j]).set j (some b) = ρ.set j (some b) by simp [wipeR]]; exact he b s Mr) (rng 0 n) [] s (by rw [rng_len]; simp; omega)
  refine ⟨s', hs, ?_, by rw [q2, rng_len]; omega, q3⟩
  have hlen : (some (dl s) :: pre).length = pre.length + 1 := rfl
  have hl : eLCR1 [j] (gN j) (aCons ne aNil) tY e ρ (some (dl s) :: pre) = .ok (.own (pre.length + 1)) (some (dl s') :: (pre ++ [some (.lst (hs.map handB))])) := by
    unfold eLCR1
    simp only [x_cons, hn, x_nil, Res.bind_ok, rngOf1, bnd_ok n0 (by omega), if_true]
    unfold lcAll
    rw [hlen]
    have q1' : lcL (pre.length + 1) (gN j) tY e (wipeR ρ [j]) (rng 0 n) (some (dl s) :: pre ++ [some (.lst [])]) = .ok () (some (dl s') :: (pre ++ [some (.lst (hs.map handB))])) := q1
    rw [q1']
    rfl
  have hf : fzN (pre.length + 1) (some (dl s') :: (pre ++ [some (.lst (hs.map handB))])) 4 (.own (pre.length + 1)) = some (.lst (hs.map handD)) := by
    have q := fz_end (M := some (dl s') :: pre) (k := pre.length + 1) rfl (hs.map handD)
    rw [List.map_map] at q
    exact q
  have ht : (some (dl s') :: (pre ++ [some (Cell.lst (hs.map handB))])).take (pre.length + 1) = some (dl s') :: pre := by simp
  have hlow : lowM (pre.length + 1) (some (dl s') :: pre) = true := by
    unfold lowM at hpre ⊢
    rw [List.all_cons, hpre]
    simp [low_dl]
  rw [x_fz, hl]
  simp only [Res.bind_ok, hlen, hf, ht, hlow, if_true]
theorem fz_progs {bx : List (Int × Int)} {m n : Int} {e : Ev} {ne : Ev} {ρ : Rho} (hb : BoxOk bx) (h2 : 2 ≤ m) (h3 : m ≤ 24) (n0 : 0 ≤ n) (n1 : n < 100) (pre : Mem) (hpre : lowM (pre.length + 1) pre = true)
    (he : ∀ (b : B) (s : DI) (Mr : Mem), e (ρ.set 6 (some b)) (some (dl s) :: Mr) = .ok (handB (progI bx m s).1) (some (dl (progI bx m s).2) :: Mr)) (s : DI) (hn : ne ρ (some (dl s) :: pre) = .ok (.dat (.int n)) (some (dl s) :: pre)) :
    ∃ (s' : DI) (hs : List Hand), eFz (eLCR1 [6] (gN 6) (aCons ne aNil) tY e) ρ (some (dl s) :: pre) = .ok (.dat (.lst (hs.map handD))) (some (dl s') :: pre) ∧ (hs.length : Int) = n ∧ ∀ h ∈ hs, OkHand bx h ∧ (h.2.length : Int) ≤ m :=
  fz_progsJ 6 hb h2 h3 n0 n1 pre hpre he s hn
end Ab

namespace Ab
open PySem PySem.Spec PyProof.Rows L2
noncomputable abbrev t_boxes : Es := (sSeq (sSet 8 (eApp (doCallA 2 1 f_law_off) (aCons (eVar 0) (aCons (eBin vIx (eLst (aCons (eC (.int 3)) (aCons (eC (.int 3)) (aCons (eC (.int 3)) (aCons (eC (.int 2)) (aCons (eC (.int 3)) aNil)))))) (eVar 2)) aNil))))
  (sExpr (eMtL vAppend (eVar 3) (aCons (eTup (aCons (eApp (doCallA 2 1 f_law_off) (aCons (eVar 0) (aCons (eBin vAdd (eVar 8) (eC (.int 1))) aNil))) (aCons (eVar 8) aNil))) aNil))))
abbrev boxB (b : Int × Int) : B := .dat (boxD b)
structure RhoB (ρ : Rho) (many : Int) : Prop where
  len : ρ.length = 11
  h0 : ρ[0]? = some (some (.own 0))
  h2 : ρ[2]? = some (some (.dat (.int many)))
  h3 : ρ[3]? = some (some (.own 1))
theorem RhoB.set {ρ : Rho} {many : Int} (h : RhoB ρ many) {i : Nat} (x : Option B) (hi : 4 ≤ i) : RhoB (ρ.set i x) many := by
  refine ⟨by rw [List.length_set]; exact h.len, ?_, ?_, ?_⟩
  · rw [List.getElem?_set_ne (by omega)]; exact h.h0
  · rw [List.getElem?_set_ne (by omega)]; exact h.h2
  · rw [List.getElem?_set_ne (by omega)]; exact h.h3
theorem for_boxes {many k : Int} (hK : atI [D.int 3, D.int 3, D.int 3, D.int 2, D.int 3] many = some (.int k)) (k1 : 1 ≤ k) (k2 : k ≤ 3) : ∀ (l : List B) (ρ : Rho) (s : DI) (bs : List (Int × Int)), RhoB ρ many → bs.length + l.length < 1000 →
    ∃ (ρ' : Rho) (s' : DI) (new : List (Int × Int)), forL (gN 5) t_boxes l ρ [some (dl s), some (.lst (bs.map boxB))] = .ok (.nx ρ') [some (dl s'), some (.lst ((bs ++ new).map boxB))] ∧ RhoB ρ' many ∧ new.length = l.length ∧ ∀ b ∈ new, 0 ≤ b.1 ∧ b.1 ≤ b.2 ∧ b.2 < k
  | [], ρ, s, bs, h, _ => ⟨ρ, s, [], by simp [forL], h, rfl, fun b hb => by cases hb⟩
  | x :: l, ρ, s, bs, h, hl => by
    rw [List.length_cons] at hl
    have h5 := h.set (some x) (i := 5) (by omega)
    have r1 := offI_lt (m := k) (by omega) s
    have c1 := c_off k s [some (.lst (bs.map boxB))] (by omega) (by omega)
    generalize hv : offI k s = v at r1 c1
    have h8 := h5.set (some (.dat (.int v.1))) (i := 8) (by omega)
    have e8 : ((ρ.set 5 (some x)).set 8 (some (.dat (.int v.1))))[8]? = some (some (.dat (.int v.1))) := List.getElem?_set_self (by rw [List.length_set, h.len]; decide)
    have r2 := offI_lt (m := v.1 + 1) (by omega) v.2
    have c2 := c_off (v.1 + 1) v.2 [some (.lst (bs.map boxB))] (by omega) (by omega)
    generalize hu : offI (v.1 + 1) v.2 = u at r2 c2
    obtain ⟨ρ', s', new, q1, q2, q3, q4⟩ := for_boxes hK k1 k2 l ((ρ.set 5 (some x)).set 8 (some (.dat (.int v.1)))) u.2 (bs ++ [(u.1, v.1)]) h8 (by rw [List.length_append, List.length_singleton]; omega)
    refine ⟨ρ', s', (u.1, v.1) :: new, ?_, q2, by rw [List.length_cons, List.length_cons, q3], fun b hb => ?_⟩
    · have iL : isL (.own 1) [some (dl v.2), some (.lst (bs.map boxB))] = true := rfl
      have ap : vAppend (.own 1) [.dat (.tup [.int u.1, .int v.1])] [some (dl u.2), some (.lst (bs.map boxB))] = .ok (.dat .non) [some (dl u.2), some (.lst (bs.map boxB ++ [boxB (u.1, v.1)]))] := y_app rfl (by rw [List.length_map, SZ_val]; omega)
      unfold forL
      simp [h5.h0, h5.h2, h8.h0, h8.h3, e8, hK, c1, c2, iL, ap]
      simp at q1
      exact q1
    · rcases List.mem_cons.mp hb with rfl | hb
      · exact ⟨r2.1, by show u.1 ≤ v.1; omega, r1.2⟩
      · exact q4 b hb
end Ab

namespace Ab
open PySem PySem.Spec PyProof.Rows L2
noncomputable abbrev e_pr1 : Ev := (eApp (doCallA 3 1 F_prog) (aCons (eVar 0) (aCons (eVar 3) (aCons (eBin vIx (eLst (aCons (eC (.int 6)) (aCons (eC (.int 6)) (aCons (eC (.int 6)) (aCons (eC (.int 5)) (aCons (eC (.int 3)) aNil)))))) (eVar 2)) aNil))))
noncomputable abbrev t_way1 : Es := (sSeq (sSet 3 (eLstO aNil))
  (sSeq (sForR1 (gN 5) (aCons (eBin vAdd (eC (.int 1)) (eApp (doCallA 2 1 f_law_off) (aCons (eVar 0) (aCons (eBin vIx (eLst (aCons (eC (.int 3)) (aCons (eC (.int 3)) (aCons (eC (.int 3)) (aCons (eC (.int 2)) (aCons (eC (.int 1)) aNil)))))) (eVar 2)) aNil)))) aNil) t_boxes)
  (sFz 1 3 (sRet (eTup (aCons (eVar 3) (aCons (eFz (eLCR1 [6] (gN 6) (aCons (eVar 2) aNil) tY e_pr1)) aNil)))))))
theorem size_le {bx : List (Int × Int)} {hs : List Hand} {a b c d : Nat} (h1 : ∀ x ∈ bx, (x.2 + 1).toNat ≤ a) (l1 : bx.length ≤ b) (h2 : ∀ h ∈ hs, h.2.length ≤ c) (l2 : hs.length ≤ d) (a1 : 1 ≤ a) (c1 : 1 ≤ c) (h : a ^ b * c ^ d ≤ 5000) : sizeG (bx, hs) ≤ 5000 := by
  unfold sizeG
  have p1 := prodL_le (c := a) (l := bx.map fun b => (b.2 + 1).toNat) (fun x hx => by
    obtain ⟨y, hy, rfl⟩ := List.mem_map.mp hx
    exact h1 y hy)
  have p2 := prodL_le (c := c) (l := hs.map fun h => h.2.length) (fun x hx => by
    obtain ⟨y, hy, rfl⟩ := List.mem_map.mp hx
    exact h2 y hy)
  rw [List.length_map] at p1 p2
  exact Nat.le_trans (Nat.mul_le_mul (Nat.le_trans p1 (Nat.pow_le_pow_right a1 l1)) (Nat.le_trans p2 (Nat.pow_le_pow_right c1 l2))) h
theorem e_way1 {way many kb k mp : Int} (s : DI) (hkb : atI [D.int 3, D.int 3, D.int 3, D.int 2, D.int 1] many = some (.int kb)) (hk : atI [D.int 3, D.int 3, D.int 3, D.int 2, D.int 3] many = some (.int k)) (hmp : atI [D.int 6, D.int 6, D.int 6, D.int 5, D.int 3] many = some (.int mp))
    (b1 : 1 ≤ kb ∧ kb ≤ 3) (b2 : 1 ≤ k ∧ k ≤ 3) (b3 : 2 ≤ mp ∧ mp ≤ 6) (b4 : 1 ≤ many ∧ many ≤ 4) (hs : k.toNat ^ kb.toNat * mp.toNat ^ many.toNat ≤ 5000) :
    ∃ (g : Gt) (s' : DI), t_way1 [some (.own 0), some (.dat (.int way)), some (.dat (.int many)), none, none, none, none, none, none, none, none] [some (dl s)] = .ok (.ret (.dat (gateD g))) [some (dl s'), none] ∧ GoodS g := by
  have r1 := offI_lt (m := kb) (by omega) s
  have c1 := c_off kb s [some (.lst [])] (by omega) (by omega)
  generalize hv : offI kb s = v at r1 c1
  have hrl : (rng 0 (1 + v.1)).length = (1 + v.1).toNat := by rw [rng_len, Int.sub_zero]
  obtain ⟨ρ', s1, bx, q1, q2, q3, q4⟩ := for_boxes hk b2.1 b2.2 (rng 0 (1 + v.1)) [some (.own 0), some (.dat (.int way)), some (.dat (.int many)), some (.own 1), none, none, none, none, none, none, none] v.2 [] ⟨rfl, rfl, rfl, rfl⟩ (by rw [hrl]; simp; omega)
  rw [hrl] at q3
  have hb : BoxOk bx := ⟨fun e => by rw [e] at q3; simp at q3; omega, by omega, fun b hb => by have := q4 b hb; omega⟩
  have hbm : (bx.map boxB) = (bx.map boxD).map .dat := by rw [List.map_map]; rfl
  let ρ2 := ρ'.map fun o => o.map (sbB 1 (.lst (bx.map boxD)))
  have g0 : ρ2[0]? = some (some (.own 0)) := by
    show (ρ'.map _)[0]? = _
    rw [List.getElem?_map, q2.h0]
    rfl
  have g2 : ρ2[2]? = some (some (.dat (.int many))) := by
    show (ρ'.map _)[2]? = _
    rw [List.getElem?_map, q2.h2]
    rfl
  have g3 : ρ2[3]? = some (some (.dat (.lst (bx.map boxD)))) := by
    show (ρ'.map _)[3]? = _
    rw [List.getElem?_map, q2.h3]
    rfl
  obtain ⟨s2, hs', w1, w2, w3⟩ := fz_progs (m := mp) (n := many) (e := e_pr1) (ne := eVar 2) (ρ := ρ2) hb b3.1 (by omega) (by omega) (by omega) [none] rfl (fun b s Mr => by
    have f0 : (ρ2.set 6 (some b))[0]? = some (some (.own 0)) := by rw [List.getElem?_set_ne (by decide)]; exact g0
    have f2 : (ρ2.set 6 (some b))[2]? = some (some (.dat (.int many))) := by rw [List.getElem?_set_ne (by decide)]; exact g2
    have f3 : (ρ2.set 6 (some b))[3]? = some (some (.dat (.lst (bx.map boxD)))) := by rw [List.getElem?_set_ne (by decide)]; exact g3
    simp [f0, f2, f3, hmp, c_prog s Mr hb b3.1 (by omega)]) s1 (by simp [g2])
  refine ⟨(bx, hs'), s2, ?_, ⟨by show 1 ≤ bx.length ∧ bx.length ≤ 12; omega, fun b hb => by have := q4 b hb; omega, by show 1 ≤ hs'.length ∧ hs'.length ≤ 4; omega, fun h hh => (w3 h hh).1, size_le (fun x hx => by have := q4 x hx; omega) (b := kb.toNat) (by omega) (fun h hh => by have := (w3 h hh).2; omega) (d := many.toNat) (by omega) (by omega) (by omega) hs, bx_le (a := 3) (b := kb.toNat) (fun x hx => by have := q4 x hx; omega) (show bx.length ≤ kb.toNat by omega) (by decide) (Nat.le_trans (Nat.pow_le_pow_right (by decide) (show kb.toNat ≤ 3 by omega)) (by decide))⟩⟩
  have e1 : rngOf1 [.dat (.int (1 + v.1))] = some (rng 0 (1 + v.1)) := by
    have hbn : bnd (1 + v.1) = true := bnd_ok (by omega) (by omega)
    simp [rngOf1, hbn]
  simp only [x_seq]
  have st : sSet 3 (eLstO aNil) [some (.own 0), some (.dat (.int way)), some (.dat (.int many)), none, none, none, none, none, none, none, none] [some (dl s)] = .ok (.nx [some (.own 0), some (.dat (.int way)), some (.dat (.int many)), some (.own 1), none, none, none, none, none, none, none]) [some (dl s), some (.lst [])] := rfl
  rw [st]
  simp only [Res.bind_ok]
  have q1' : forL (gN 5) t_boxes (rng 0 (1 + v.1)) [some (.own 0), some (.dat (.int way)), some (.dat (.int many)), some (.own 1), none, none, none, none, none, none, none] [some (dl v.2), some (.lst [])] = .ok (.nx ρ') [some (dl s1), some (.lst (bx.map boxB))] := q1
  have sf : sForR1 (gN 5) (aCons (eBin vAdd (eC (.int 1)) (eApp (doCallA 2 1 f_law_off) (aCons (eVar 0) (aCons (eBin vIx (eLst (aCons (eC (.int 3)) (aCons (eC (.int 3)) (aCons (eC (.int 3)) (aCons (eC (.int 2)) (aCons (eC (.int 1)) aNil)))))) (eVar 2)) aNil)))) aNil) t_boxes [some (.own 0), some (.dat (.int way)), some (.dat (.int many)), some (.own 1), none, none, none, none, none, none, none] [some (dl s), some (.lst [])] = .ok (.nx ρ') [some (dl s1), some (.lst (bx.map boxB))] := by
    rw [x_forR1]
    simp [-x_forR1, hkb, c1, e1, q1', -x_seq]
  rw [sf]
  simp only [Res.bind_ok]
  rw [x_frz (k := 1) (bx.map boxD) q2.h3 (Nat.le_refl _) rfl hbm]
  have hM : ([some (dl s1), some (Cell.lst (bx.map boxB))].map (sbC 1 (.lst (bx.map boxD)))).set 1 none = [some (dl s1), none] := by
    simp [sb_dl]
  rw [hM]
  show sRet _ ρ2 _ = _
  simp [-x_fz, g3, w1, gateD]
end Ab

namespace Ab
open PySem PySem.Spec PyProof.Rows L2
noncomputable abbrev t_way2 : Es := (sSeq (sSet 3 (eLst (aCons (eTup (aCons (eC (.int 0)) (aCons (eApp (doCallA 2 1 f_law_off) (aCons (eVar 0) (aCons (eBin vIx (eLst (aCons (eC (.int 3)) (aCons (eC (.int 10)) aNil))) (eApp vInt (aCons (eBin vEq (eApp (doCallA 2 1 f_law_off) (aCons (eVar 0) (aCons (eC (.int 3)) aNil))) (eC (.int 0))) aNil))) aNil))) aNil))) aNil)))
  (sRet (eTup (aCons (eVar 3) (aCons (eFz (eLCR1 [6] (gN 6) (aCons (eC (.int 2)) aNil) tY (eApp (doCallA 3 1 F_prog) (aCons (eVar 0) (aCons (eVar 3) (aCons (eC (.int 6)) aNil)))))) aNil)))))
theorem e_way2 {way : Int} (s : DI) : ∃ (g : Gt) (s' : DI), t_way2 [some (.own 0), some (.dat (.int way)), none, none, none, none, none, none, none, none, none] [some (dl s)] = .ok (.ret (.dat (gateD g))) [some (dl s')] ∧ GoodS g := by
  have c1 := c_off 3 s [] (by omega) (by omega)
  generalize hv : offI 3 s = v at c1
  have hx : ∃ k : Int, (k = 3 ∨ k = 10) ∧ atI [D.int 3, D.int 10] (if v.1 = 0 then 1 else 0) = some (.int k) := by
    by_cases h : v.1 = 0
    · exact ⟨10, .inr rfl, by rw [if_pos h]; rfl⟩
    · exact ⟨3, .inl rfl, by rw [if_neg h]; rfl⟩
  obtain ⟨k, hk, hx⟩ := hx
  have r2 := offI_lt (m := k) (by omega) v.2
  have c2 := c_off k v.2 [] (by omega) (by omega)
  generalize hu : offI k v.2 = u at r2 c2
  have hb : BoxOk [(0, u.1)] := ⟨by simp, by simp, fun b hb => by
    have : b = (0, u.1) := by simpa using hb
    subst this
    show 0 ≤ u.1 ∧ u.1 ≤ 9
    omega⟩
  let ρ2 : Rho := [some (.own 0), some (.dat (.int way)), none, some (.dat (.lst ([(0, u.1)].map boxD))), none, none, none, none, none, none, none]
  obtain ⟨s2, hs', w1, w2, w3⟩ := fz_progs (m := 6) (n := 2) (e := (eApp (doCallA 3 1 F_prog) (aCons (eVar 0) (aCons (eVar 3) (aCons (eC (.int 6)) aNil))))) (ne := eC (.int 2)) (ρ := ρ2) hb (by omega) (by omega) (by omega) (by omega) [] rfl (fun b s Mr => by
    have f0 : (ρ2.set 6 (some b))[0]? = some (some (.own 0)) := rfl
    have f3 : (ρ2.set 6 (some b))[3]? = some (some (.dat (.lst ([(0, u.1)].map boxD)))) := rfl
    have c := c_prog s Mr hb (most := 6) (by omega) (by omega)
    simp only [x_app, x_cons, x_var, f0, f3, x_c, x_nil, Res.bind_ok, c]) u.2 rfl
  refine ⟨([(0, u.1)], hs'), s2, ?_, ⟨by simp, fun b hb => ?_, by show 1 ≤ hs'.length ∧ hs'.length ≤ 4; omega, fun h hh => (w3 h hh).1, size_le (a := 10) (b := 1) (c := 6) (d := 2) (fun x hx => ?_) (by simp) (fun h hh => by have := (w3 h hh).2; omega) (by omega) (by omega) (by omega) (by decide), bx_le (a := 10) (b := 1) (fun x hx => by
    have : x = (0, u.1) := by simpa using hx
    subst this
    show (u.1 + 1).toNat ≤ 10
    omega) (by simp) (by decide) (by decide)⟩⟩
  · have st : sSet 3 (eLst (aCons (eTup (aCons (eC (.int 0)) (aCons (eApp (doCallA 2 1 f_law_off) (aCons (eVar 0) (aCons (eBin vIx (eLst (aCons (eC (.int 3)) (aCons (eC (.int 10)) aNil))) (eApp vInt (aCons (eBin vEq (eApp (doCallA 2 1 f_law_off) (aCons (eVar 0) (aCons (eC (.int 3)) aNil))) (eC (.int 0))) aNil))) aNil))) aNil))) aNil)) [some (.own 0), some (.dat (.int way)), none, none, none, none, none, none, none, none, none] [some (dl s)] = .ok (.nx ρ2) [some (dl u.2)] := by
      simp [c1, vInt, hx, c2, ρ2, boxD]
    unfold t_way2
    rw [x_seq, st]
    simp only [Res.bind_ok]
    have g3 : ρ2[3]? = some (some (.dat (.lst ([(0, u.1)].map boxD)))) := rfl
    simp [-x_fz, g3, w1, gateD]
  · have : b = (0, u.1) := by simpa using hb
    subst this
    show 0 ≤ (0 : Int) ∧ 0 ≤ u.1 ∧ u.1 ≤ 9
    omega
  · have : x = (0, u.1) := by simpa using hx
    subst this
    show (u.1 + 1).toNat ≤ 10
    omega
end Ab

namespace Ab
open PySem PySem.Spec PyProof.Rows L2
theorem e_pair (side : Int) : f_law_pair [.dat (.int side)] [] = .ok (.dat (handD (pairH side))) [] := by
  unfold f_law_pair t_law_pair
  simp [handD, pairH, Sp'.d, vAdd]
theorem e_cnt1 : f_law_counter [.dat (.int 1)] [] = .ok (.dat (gateD (cntG 1))) [] := by rfl
theorem e_cnt5 : f_law_counter [.dat (.int 5)] [] = .ok (.dat (gateD (cntG 5))) [] := by rfl
theorem e_bit02 : f_law_bits [.dat (.int 0), .dat (.int 2)] [] = .ok (.dat (handD (bitH 0 2))) [] := by rfl
theorem e_bit23 : f_law_bits [.dat (.int 2), .dat (.int 3)] [] = .ok (.dat (handD (bitH 2 3))) [] := by rfl
end Ab

namespace Ab
open PySem PySem.Spec PyProof.Rows L2
theorem e_cnt (n : Nat) (h1 : 1 ≤ n) (h2 : n ≤ 5) : f_law_counter [.dat (.int n)] [] = .ok (.dat (gateD (cntG n))) [] := by
  have h : n = 1 ∨ n = 2 ∨ n = 3 ∨ n = 4 ∨ n = 5 := by omega
  rcases h with rfl | rfl | rfl | rfl | rfl <;> rfl
theorem c_cnt {v : Int} (h1 : 1 ≤ v) (h2 : v ≤ 5) (M : Mem) : doCallA 1 0 f_law_counter [.dat (.int v)] M = .ok (.dat (gateD (cntG v.toNat))) M := by
  refine call_0v rfl ?_ rfl
  have e : v = (v.toNat : Int) := by omega
  have q := e_cnt v.toNat (by omega) (by omega)
  rw [← e] at q
  exact q
def pairG : Gt := (List.replicate 3 (0, 1), [pairH 0, pairH 1])
def bitG (many : Nat) : Gt := (List.replicate many (0, 1), (List.range many).map fun h => bitH h many)
theorem good_pair : GoodS pairG := goodB_ok (ps := [4, 4]) (by decide +kernel)
theorem good_bit2 : GoodS (bitG 2) := goodB_ok (ps := [2, 6]) (by decide +kernel)
theorem good_bit3 : GoodS (bitG 3) := goodB_ok (ps := [3, 7, 11]) (by decide +kernel)
theorem prodL_set {l : List Nat} {i a : Nat} (h : l[i]? = some a) : l.set i a = l := by
  apply List.ext_getElem?
  intro j
  by_cases e : i = j
  · subst e
    rw [List.getElem?_set_self (List.getElem?_eq_some_iff.mp h).1, h]
  · rw [List.getElem?_set_ne e]
/-- one step drawn anew -/
theorem good_set {g : Gt} (G : GoodS g) {i j : Nat} {h : Hand} {x : Sp'} (hi : g.2[i]? = some h) (hj : h.2[j]? ≠ some .inn) (hx : OkStep g.1 h.2.length x) : GoodS (g.1, g.2.set i (h.1, h.2.set j x)) := by
  have il : i < g.2.length := (List.getElem?_eq_some_iff.mp hi).1
  refine ⟨G.boxes, G.box, by show 1 ≤ (g.2.set i _).length ∧ (g.2.set i _).length ≤ 4; rw [List.length_set]; exact G.hands, fun y hy => ?_, ?_, G.bx⟩
  · obtain ⟨k, hk⟩ := List.mem_iff_getElem?.mp (show y ∈ g.2.set i (h.1, h.2.set j x) from hy)
    by_cases e : i = k
    · subst e
      rw [List.getElem?_set_self il] at hk
      cases hk
      have oh := G.hand h (List.mem_of_getElem? hi)
      obtain ⟨p, p1, p2, p3, p4, p5⟩ := oh.ex
      have pj : j ≠ p := fun z => hj (by rw [z]; exact p2)
      refine ⟨by show 2 ≤ (h.2.set j x).length ∧ (h.2.set j x).length ≤ 24; rw [List.length_set]; exact oh.len, p, p1, ?_, p3, p4, fun k z kp kz => ?_⟩
      · show (h.2.set j x)[p]? = _
        rw [List.getElem?_set_ne pj]
        exact p2
      · show OkStep g.1 ((h.2.set j x).length) z
        rw [List.length_set]
        have kz' : (h.2.set j x)[k]? = some z := kz
        by_cases e : j = k
        · subst e
          have jl : j < h.2.length := by
            have := (List.getElem?_eq_some_iff.mp kz').1
            rw [List.length_set] at this
            exact this
          rw [List.getElem?_set_self jl] at kz'
          cases kz'
          exact hx
        · rw [List.getElem?_set_ne e] at kz'
          exact p5 k z kp kz'
    · rw [List.getElem?_set_ne e] at hk
      exact G.hand y (List.mem_of_getElem? hk)
  · have e : sizeG (g.1, g.2.set i (h.1, h.2.set j x)) = sizeG g := by
      unfold sizeG
      have e2 : (g.2.set i (h.1, h.2.set j x)).map (fun h => h.2.length) = g.2.map fun h => h.2.length := by
        rw [List.map_set]
        refine prodL_set ?_
        rw [List.getElem?_map, hi]
        simp
      rw [e2]
    rw [e]
    exact G.size
end Ab

namespace Ab
open PySem PySem.Spec PyProof.Rows L2
theorem c_pair (side : Int) (M : Mem) : doCallA 1 0 f_law_pair [.dat (.int side)] M = .ok (.dat (handD (pairH side))) M := call_0v rfl (e_pair side) rfl
theorem e_bit (h many : Nat) (hh : h < many) (hm : many = 2 ∨ many = 3) : f_law_bits [.dat (.int h), .dat (.int many)] [] = .ok (.dat (handD (bitH h many))) [] := by
  have q : (h = 0 ∧ many = 2) ∨ (h = 1 ∧ many = 2) ∨ (h = 0 ∧ many = 3) ∨ (h = 1 ∧ many = 3) ∨ (h = 2 ∧ many = 3) := by omega
  rcases q with ⟨rfl, rfl⟩ | ⟨rfl, rfl⟩ | ⟨rfl, rfl⟩ | ⟨rfl, rfl⟩ | ⟨rfl, rfl⟩ <;> rfl
theorem c_bit02 (M : Mem) : doCallA 2 0 f_law_bits [.dat (.int 0), .dat (.int 2)] M = .ok (.dat (handD (bitH 0 2))) M := call_0v rfl (e_bit 0 2 (by decide) (by decide)) rfl
theorem c_bit12 (M : Mem) : doCallA 2 0 f_law_bits [.dat (.int 1), .dat (.int 2)] M = .ok (.dat (handD (bitH 1 2))) M := call_0v rfl (e_bit 1 2 (by decide) (by decide)) rfl
theorem c_bit03 (M : Mem) : doCallA 2 0 f_law_bits [.dat (.int 0), .dat (.int 3)] M = .ok (.dat (handD (bitH 0 3))) M := call_0v rfl (e_bit 0 3 (by decide) (by decide)) rfl
theorem c_bit13 (M : Mem) : doCallA 2 0 f_law_bits [.dat (.int 1), .dat (.int 3)] M = .ok (.dat (handD (bitH 1 3))) M := call_0v rfl (e_bit 1 3 (by decide) (by decide)) rfl
theorem c_bit23 (M : Mem) : doCallA 2 0 f_law_bits [.dat (.int 2), .dat (.int 3)] M = .ok (.dat (handD (bitH 2 3))) M := call_0v rfl (e_bit 2 3 (by decide) (by decide)) rfl
noncomputable abbrev e_h34 : Ev := (eBin vIx (eLst (aCons (eApp (doCallA 1 0 f_law_pair) (aCons (eBin vMod (eVar 6) (eC (.int 2))) aNil)) (aCons (eApp (doCallA 2 0 f_law_bits) (aCons (eVar 6) (aCons (eVar 2) aNil))) aNil))) (eApp vInt (aCons (eBin vEq (eVar 1) (eC (.int 4))) aNil)))
abbrev rho34 (way many : Int) (bx : List (Int × Int)) : Rho := [some (.own 0), some (.dat (.int way)), some (.dat (.int many)), some (.dat (.lst (bx.map boxD))), none, none, none, none, none, none, none]
theorem h3 (bx : List (Int × Int)) (s : DI) : eFz (eLCR1 [6] (gN 6) (aCons (eVar 2) aNil) tY e_h34) (rho34 3 2 bx) [some (dl s)] = .ok (.dat (.lst (pairG.2.map handD))) [some (dl s)] := by
  have r : rng 0 2 = [.dat (.int 0), .dat (.int 1)] := rfl
  have hf := fz_end (M := [some (dl s)]) (k := 1) rfl [handD (pairH 0), handD (pairH 1)]
  simp at hf
  have b2 : bnd 2 = true := rfl
  simp [eLCR1, rngOf1, b2, r, lcAll, wipeR, lcL, y_mod, c_pair, c_bit02, c_bit12, vInt, noX, hf, lowM, low_dl, pairG]
theorem h42 (bx : List (Int × Int)) (s : DI) : eFz (eLCR1 [6] (gN 6) (aCons (eVar 2) aNil) tY e_h34) (rho34 4 2 bx) [some (dl s)] = .ok (.dat (.lst ((bitG 2).2.map handD))) [some (dl s)] := by
  have r : rng 0 2 = [.dat (.int 0), .dat (.int 1)] := rfl
  have hf := fz_end (M := [some (dl s)]) (k := 1) rfl [handD (bitH 0 2), handD (bitH 1 2)]
  simp at hf
  have b2 : bnd 2 = true := rfl
  have l : (bitG 2).2 = [bitH 0 2, bitH 1 2] := rfl
  simp [eLCR1, rngOf1, b2, r, lcAll, wipeR, lcL, y_mod, c_pair, c_bit02, c_bit12, vInt, noX, hf, lowM, low_dl, l]
theorem h43 (bx : List (Int × Int)) (s : DI) : eFz (eLCR1 [6] (gN 6) (aCons (eVar 2) aNil) tY e_h34) (rho34 4 3 bx) [some (dl s)] = .ok (.dat (.lst ((bitG 3).2.map handD))) [some (dl s)] := by
  have r : rng 0 3 = [.dat (.int 0), .dat (.int 1), .dat (.int 2)] := rfl
  have hf := fz_end (M := [some (dl s)]) (k := 1) rfl [handD (bitH 0 3), handD (bitH 1 3), handD (bitH 2 3)]
  simp at hf
  have b2 : bnd 3 = true := rfl
  have l : (bitG 3).2 = [bitH 0 3, bitH 1 3, bitH 2 3] := rfl
  simp [eLCR1, rngOf1, b2, r, lcAll, wipeR, lcL, y_mod, c_pair, c_bit03, c_bit13, c_bit23, vInt, noX, hf, lowM, low_dl, l]
end Ab

namespace Ab
open PySem PySem.Spec PyProof.Rows L2
noncomputable abbrev t_mod : Es := (sSeq (sIf (tV (eBin vEq (eApp (doCallA 2 1 f_law_off) (aCons (eVar 0) (aCons (eC (.int 2)) aNil))) (eC (.int 0))))
  (sSeq (sSet 6 (eApp (doCallA 2 1 f_law_off) (aCons (eVar 0) (aCons (eVar 2) aNil))))
  (sSeq (sAsg (gT [9, 10]) (eBin vIx (eVar 4) (eVar 6)))
  (sSeq (sSet 7 (eApp (doCallA 2 1 f_law_off) (aCons (eVar 0) (aCons (eApp vLen (aCons (eVar 10) aNil)) aNil))))
  (sSeq (sIf (tV (eBin vNe (eBin vIx (eVar 10) (eVar 7)) (eTup (aCons (eC (.str "in")) aNil))))
  (sSet 10 (eBin vAdd (eBin vAdd (eSl (eVar 10) oNone (oSome (eVar 7))) (eLst (aCons (eApp (doCallA 3 1 F_step) (aCons (eVar 0) (aCons (eVar 3) (aCons (eApp vLen (aCons (eVar 10) aNil)) aNil)))) aNil))) (eSl (eVar 10) (oSome (eBin vAdd (eVar 7) (eC (.int 1)))) oNone)))
  sNil)
  (sSet 4 (eBin vAdd (eBin vAdd (eSl (eVar 4) oNone (oSome (eVar 6))) (eLst (aCons (eTup (aCons (eVar 9) (aCons (eVar 10) aNil))) aNil))) (eSl (eVar 4) (oSome (eBin vAdd (eVar 6) (eC (.int 1)))) oNone)))))))
  sNil)
  (sRet (eTup (aCons (eVar 3) (aCons (eVar 4) aNil)))))
theorem e_mod {g : Gt} (G : GoodS g) (way : Int) (s : DI) : ∃ (g' : Gt) (s' : DI), t_mod [some (.own 0), some (.dat (.int way)), some (.dat (.int g.2.length)), some (.dat (.lst (g.1.map boxD))), some (.dat (.lst (g.2.map handD))), none, none, none, none, none, none] [some (dl s)] = .ok (.ret (.dat (gateD g'))) [some (dl s')] ∧ GoodS g' := by
  generalize hz : offI 2 s = z
  have c2 := c_off2 s []
  rw [hz] at c2
  by_cases h0 : z.1 = 0
  · have r6 := offI_lt (m := g.2.length) (by have := G.hands; omega) z.2
    have c6 := c_off g.2.length z.2 [] (by have := G.hands; omega) (by have := G.hands; omega)
    generalize hv : offI g.2.length z.2 = v at r6 c6
    obtain ⟨hi, ei⟩ := at_int g.2 r6.1 r6.2
    have ei' : atI (g.2.map handD) v.1 = some (handD g.2[v.1.toNat]) := by rw [atI_map, ei]; rfl
    generalize hh : g.2[v.1.toNat] = h at ei'
    have hg : g.2[v.1.toNat]? = some h := by rw [List.getElem?_eq_getElem hi, hh]
    have oh := G.hand h (List.mem_of_getElem? hg)
    have hl := oh.len
    have r7 := offI_lt (m := h.2.length) (by omega) v.2
    have c7 := c_off h.2.length v.2 [] (by omega) (by omega)
    generalize hu : offI h.2.length v.2 = u at r7 c7
    obtain ⟨hj, ej⟩ := at_int h.2 r7.1 r7.2
    have ej' : atI (h.2.map Sp'.d) u.1 = some (h.2[u.1.toNat]).d := by rw [atI_map, ej]; rfl
    generalize hx : h.2[u.1.toNat] = x at ej'
    have hgx : h.2[u.1.toNat]? = some x := by rw [List.getElem?_eq_getElem hj, hx]
    have hB : BoxOk g.1 := ⟨fun e => by have := G.boxes; rw [e] at this; simp at this, by have := G.boxes; omega, fun b hb => by have := G.box b hb; omega⟩
    have hc1 : ∀ st : List Sp', st.length = h.2.length → cut (st.map Sp'.d) none (some u.1) = (st.map Sp'.d).take u.1.toNat := fun st e => cut_take _ r7.1 (by rw [List.length_map, e]; omega)
    have hc2 : ∀ st : List Sp', st.length = h.2.length → cut (st.map Sp'.d) (some (u.1 + 1)) none = (st.map Sp'.d).drop (u.1.toNat + 1) := fun st e => by
      rw [cut_drop _ (by omega) (by rw [List.length_map, e]; omega)]
      congr 1
      omega
    have hc3 : cut (g.2.map handD) none (some v.1) = (g.2.map handD).take v.1.toNat := cut_take _ r6.1 (by rw [List.length_map]; omega)
    have hc4 : cut (g.2.map handD) (some (v.1 + 1)) none = (g.2.map handD).drop (v.1.toNat + 1) := by
      rw [cut_drop _ (by omega) (by rw [List.length_map]; omega)]
      congr 1
      omega
    have ne := ne_inn x
    have hset : ∀ y : Hand, (g.2.map handD).take v.1.toNat ++ (handD y :: (g.2.map handD).drop (v.1.toNat + 1)) = (g.2.set v.1.toNat y).map handD := fun y => by
      rw [List.map_set, ← set_cut (g.2.map handD) (by rw [List.length_map]; exact hi) (handD y)]
      simp
    have hgl := G.hands
    by_cases hin : x.isIn = true
    · refine ⟨(g.1, g.2.set v.1.toNat h), u.2, ?_, ?_⟩
      · unfold t_mod
        have a1 := fun M => add_take (l := g.2.map handD) (by rw [List.length_map]; omega) v.1.toNat (handD h) M
        have a2 := fun M => add_drop (l := g.2.map handD) (by rw [List.length_map]; omega) v.1.toNat (v.1.toNat + 1) (handD h) M
        have a3 := hset h
        simp only [handD] at a1 a2 a3 ei' hc3 hc4
        simp [c2, h0, c6, ei', handD, c7, ej', ne, hin, vSl, hc3, hc4, gateD, a1, a2]
        rw [List.map_set] at a3
        exact a3
      · have e : (g.1, g.2.set v.1.toNat h) = g := by
          have : g.2.set v.1.toNat h = g.2 := by
            apply List.ext_getElem?
            intro k
            by_cases ek : v.1.toNat = k
            · subst ek
              rw [List.getElem?_set_self hi, hg]
            · rw [List.getElem?_set_ne ek]
          rw [this]
        rw [e]
        exact G
    · have hin' : x.isIn = false := by simpa using hin
      have cs := c_step (bx := g.1) (many := h.2.length) u.2 [] hB (by omega) (by omega)
      have os := stepI_ok (bx := g.1) (many := h.2.length) u.2 hB (by omega)
      generalize hst : stepI g.1 h.2.length u.2 = st at cs os
      refine ⟨(g.1, g.2.set v.1.toNat (h.1, h.2.set u.1.toNat st.1)), st.2, ?_, good_set G hg (fun z => ?_) os⟩
      · have b1 := fun M => add_take (l := h.2.map Sp'.d) (by rw [List.length_map]; omega) u.1.toNat st.1.d M
        have b2 := fun M => add_drop (l := h.2.map Sp'.d) (by rw [List.length_map]; omega) u.1.toNat (u.1.toNat + 1) st.1.d M
        have b3 : (h.2.map Sp'.d).take u.1.toNat ++ [st.1.d] ++ (h.2.map Sp'.d).drop (u.1.toNat + 1) = (h.2.set u.1.toNat st.1).map Sp'.d := by
          rw [List.map_set]
          exact set_cut _ (by rw [List.length_map]; exact hj) _
        have a1 := fun M => add_take (l := g.2.map handD) (by rw [List.length_map]; omega) v.1.toNat (handD (h.1, h.2.set u.1.toNat st.1)) M
        have a2 := fun M => add_drop (l := g.2.map handD) (by rw [List.length_map]; omega) v.1.toNat (v.1.toNat + 1) (handD (h.1, h.2.set u.1.toNat st.1)) M
        have a3 := hset (h.1, h.2.set u.1.toNat st.1)
        rw [b3] at b2
        simp only [handD] at a1 a2 a3 ei' hc3 hc4
        simp only [List.map_set] at a1 a2 a3 b2
        simp [c2, h0, c6, ei', handD, c7, ej', ne, hin', vSl, hc1 h.2 rfl, hc2 h.2 rfl, hc3, hc4, gateD, cs, b1, b2, a1, a2]
        simp only [handD, List.map_set] at a3
        exact a3
      · rw [hgx] at z
        cases z
        cases hin'
  · refine ⟨g, z.2, ?_, G⟩
    unfold t_mod
    simp [c2, h0, gateD]
end Ab

namespace Ab
open PySem PySem.Spec PyProof.Rows L2
noncomputable abbrev F_gate : Fn := f_law_gate f_law_off f_law_counter F_prog f_law_pair f_law_bits F_step
theorem gate_eq : t_law_gate f_law_off f_law_counter F_prog f_law_pair f_law_bits F_step =
  (sSeq (sIf (tV (eBin vEq (eApp (doCallA 2 1 f_law_off) (aCons (eVar 0) (aCons (eC (.int 14)) aNil))) (eC (.int 0))))
  (sRet (eApp (doCallA 1 0 f_law_counter) (aCons (eBin vAdd (eC (.int 1)) (eApp (doCallA 2 1 f_law_off) (aCons (eVar 0) (aCons (eC (.int 5)) aNil)))) aNil)))
  sNil)
  (sSeq (sSet 1 (eApp (doCallA 2 1 f_law_off) (aCons (eVar 0) (aCons (eC (.int 5)) aNil))))
  (sSeq (sIf (tV (eBin vLt (eVar 1) (eC (.int 2))))
  (sSeq (sSet 2 (eBin vIx (eLst (aCons (eC (.int 2)) (aCons (eC (.int 1)) (aCons (eC (.int 3)) (aCons (eC (.int 4)) aNil))))) (eApp (doCallA 2 1 f_law_off) (aCons (eVar 0) (aCons (eC (.int 4)) aNil))))) t_way1)
  sNil)
  (sSeq (sIf (tV (eBin vEq (eVar 1) (eC (.int 2)))) t_way2 sNil)
  (sSeq (sSet 2 (eBin vAdd (eC (.int 2)) (eApp vInt (aCons (eAnd (eBin vEq (eVar 1) (eC (.int 4))) (eBin vEq (eApp (doCallA 2 1 f_law_off) (aCons (eVar 0) (aCons (eC (.int 3)) aNil))) (eC (.int 0)))) aNil))))
  (sSeq (sSet 3 (eBin vMul (eLst (aCons (eTup (aCons (eC (.int 0)) (aCons (eC (.int 1)) aNil))) aNil)) (eBin vIx (eLst (aCons (eC (.int 3)) (aCons (eVar 2) aNil))) (eApp vInt (aCons (eBin vEq (eVar 1) (eC (.int 4))) aNil)))))
  (sSeq (sSet 4 (eFz (eLCR1 [6] (gN 6) (aCons (eVar 2) aNil) tY e_h34))) t_mod))))))) := rfl
abbrev rhoN : Rho := [some (.own 0), none, none, none, none, none, none, none, none, none, none]
theorem gate_start (s : DI) (g : Gt) (s' : DI) (M : Mem) (h : t_law_gate f_law_off f_law_counter F_prog f_law_pair f_law_bits F_step rhoN [some (dl s)] = .ok (.ret (.dat (gateD g))) (some (dl s') :: M)) : F_gate [.own 0] [some (dl s)] = .ok (.dat (gateD g)) [some (dl s')] := by
  show finD 1 (outB (t_law_gate f_law_off f_law_counter F_prog f_law_pair f_law_bits F_step rhoN [some (dl s)])) = _
  rw [h]
  exact fin_dl _ _ _
theorem e_gate (s : DI) : ∃ (g : Gt) (s' : DI), F_gate [.own 0] [some (dl s)] = .ok (.dat (gateD g)) [some (dl s')] ∧ GoodS g := by
  have c14 := c_off 14 s [] (by decide) (by decide)
  generalize hz : offI 14 s = z at c14
  have r5 := offI_lt (m := 5) (by decide) z.2
  have c5 := c_off 5 z.2 [] (by decide) (by decide)
  generalize hv : offI 5 z.2 = v at r5 c5
  by_cases h0 : z.1 = 0
  · refine ⟨cntG (1 + v.1).toNat, v.2, gate_start _ _ _ [] ?_, good_cnt _ (by omega) (by omega)⟩
    rw [gate_eq]
    simp [c14, h0, c5, c_cnt (v := 1 + v.1) (by omega) (by omega)]
  · by_cases h1 : v.1 < 2
    · have r4 := offI_lt (m := 4) (by decide) v.2
      have c4 := c_off 4 v.2 [] (by decide) (by decide)
      generalize hw : offI 4 v.2 = w at r4 c4
      have hx : ∃ many kb k mp : Int, atI [D.int 2, D.int 1, D.int 3, D.int 4] w.1 = some (.int many) ∧ atI [D.int 3, D.int 3, D.int 3, D.int 2, D.int 1] many = some (.int kb) ∧ atI [D.int 3, D.int 3, D.int 3, D.int 2, D.int 3] many = some (.int k) ∧ atI [D.int 6, D.int 6, D.int 6, D.int 5, D.int 3] many = some (.int mp) ∧ (1 ≤ kb ∧ kb ≤ 3) ∧ (1 ≤ k ∧ k ≤ 3) ∧ (2 ≤ mp ∧ mp ≤ 6) ∧ (1 ≤ many ∧ many ≤ 4) ∧ k.toNat ^ kb.toNat * mp.toNat ^ many.toNat ≤ 5000 := by
        have q : w.1 = 0 ∨ w.1 = 1 ∨ w.1 = 2 ∨ w.1 = 3 := by omega
        rcases q with e | e | e | e <;> rw [e]
        · exact ⟨2, 3, 3, 6, rfl, rfl, rfl, rfl, by decide, by decide, by decide, by decide, by decide⟩
        · exact ⟨1, 3, 3, 6, rfl, rfl, rfl, rfl, by decide, by decide, by decide, by decide, by decide⟩
        · exact ⟨3, 2, 2, 5, rfl, rfl, rfl, rfl, by decide, by decide, by decide, by decide, by decide⟩
        · exact ⟨4, 1, 3, 3, rfl, rfl, rfl, rfl, by decide, by decide, by decide, by decide, by decide⟩
      obtain ⟨many, kb, k, mp, x1, x2, x3, x4, x5, x6, x7, x8, x9⟩ := hx
      obtain ⟨g, s', q1, q2⟩ := e_way1 (way := v.1) w.2 x2 x3 x4 x5 x6 x7 x8 x9
      refine ⟨g, s', gate_start _ _ _ [none] ?_, q2⟩
      rw [gate_eq]
      generalize t_way1 = T at q1
      simp [c14, h0, c5, h1, c4, x1, q1]
    · by_cases h2 : v.1 = 2
      · obtain ⟨g, s', q1, q2⟩ := e_way2 (way := v.1) v.2
        refine ⟨g, s', gate_start _ _ _ [] ?_, q2⟩
        rw [gate_eq]
        generalize t_way2 = T at q1
        rw [h2] at q1
        simp [c14, h0, c5, h2, q1]
      · by_cases h3' : v.1 = 3
        · obtain ⟨g, s', q1, q2⟩ := e_mod good_pair 3 v.2
          refine ⟨g, s', gate_start _ _ _ [] ?_, q2⟩
          have q3 := h3 pairG.1 v.2
          unfold rho34 at q3
          rw [gate_eq]
          generalize t_mod = T at q1
          generalize (eFz (eLCR1 [6] (gN 6) (aCons (eVar 2) aNil) tY e_h34)) = U at q3
          have m3 : ∀ M, vMul (.dat (.lst [.tup [.int 0, .int 1]])) (.dat (.int 3)) M = .ok (.dat (.lst (pairG.1.map boxD))) M := fun _ => rfl
          have ll : pairG.2.length = 2 := rfl
          rw [ll] at q1
          generalize pairG.1.map boxD = bb at *
          generalize pairG.2.map handD = hh at *
          simp [c14, h0, c5, h3', vInt, m3]
          simp at q1
          rw [q3]
          simp [q1]
        · have h4 : v.1 = 4 := by omega
          have c3 := c_off 3 v.2 [] (by decide) (by decide)
          generalize hy : offI 3 v.2 = y at c3
          by_cases h5 : y.1 = 0
          · skip
            obtain ⟨g, s', q1, q2⟩ := e_mod good_bit3 4 y.2
            refine ⟨g, s', gate_start _ _ _ [] ?_, q2⟩
            have q3 := h43 (bitG 3).1 y.2
            unfold rho34 at q3
            rw [gate_eq]
            generalize t_mod = T at q1
            generalize (eFz (eLCR1 [6] (gN 6) (aCons (eVar 2) aNil) tY e_h34)) = U at q3
            have m3 : ∀ M, vMul (.dat (.lst [.tup [.int 0, .int 1]])) (.dat (.int 3)) M = .ok (.dat (.lst ((bitG 3).1.map boxD))) M := fun _ => rfl
            have ll : (bitG 3).2.length = 3 := rfl
            rw [ll] at q1
            generalize (bitG 3).1.map boxD = bb at *
            generalize (bitG 3).2.map handD = hh at *
            simp [c14, h0, c5, h4, vInt, c3, h5, m3]
            simp at q1
            rw [q3]
            simp [q1]
          · skip
            obtain ⟨g, s', q1, q2⟩ := e_mod good_bit2 4 y.2
            refine ⟨g, s', gate_start _ _ _ [] ?_, q2⟩
            have q3 := h42 (bitG 2).1 y.2
            unfold rho34 at q3
            rw [gate_eq]
            generalize t_mod = T at q1
            generalize (eFz (eLCR1 [6] (gN 6) (aCons (eVar 2) aNil) tY e_h34)) = U at q3
            have m3 : ∀ M, vMul (.dat (.lst [.tup [.int 0, .int 1]])) (.dat (.int 2)) M = .ok (.dat (.lst ((bitG 2).1.map boxD))) M := fun _ => rfl
            have ll : (bitG 2).2.length = 2 := rfl
            rw [ll] at q1
            generalize (bitG 2).1.map boxD = bb at *
            generalize (bitG 2).2.map handD = hh at *
            simp [c14, h0, c5, h4, vInt, c3, h5, m3]
            simp at q1
            rw [q3]
            simp [q1]
end Ab

/-! The wide gates of a law. -/
namespace Ab
open PySem PySem.Spec PyProof.Rows L2
noncomputable abbrev F_wide : Fn := f_law_wide_gate f_law_off F_gate F_prog
noncomputable abbrev t_boxesW : Es := (sSeq (sSet 3 (eApp (doCallA 2 1 f_law_off) (aCons (eVar 0) (aCons (eC (.int 10)) aNil))))
  (sExpr (eMtL vAppend (eVar 1) (aCons (eTup (aCons (eApp (doCallA 2 1 f_law_off) (aCons (eVar 0) (aCons (eBin vAdd (eVar 3) (eC (.int 1))) aNil))) (aCons (eVar 3) aNil))) aNil))))
structure RhoW (ρ : Rho) : Prop where
  len : ρ.length = 5
  h0 : ρ[0]? = some (some (.own 0))
  h1 : ρ[1]? = some (some (.own 1))
theorem RhoW.set {ρ : Rho} (h : RhoW ρ) {i : Nat} (x : Option B) (hi : 2 ≤ i) : RhoW (ρ.set i x) := by
  refine ⟨by rw [List.length_set]; exact h.len, ?_, ?_⟩
  · rw [List.getElem?_set_ne (by omega)]; exact h.h0
  · rw [List.getElem?_set_ne (by omega)]; exact h.h1
theorem for_boxesW : ∀ (l : List B) (ρ : Rho) (s : DI) (bs : List (Int × Int)), RhoW ρ → bs.length + l.length < 1000 →
    ∃ (ρ' : Rho) (s' : DI) (new : List (Int × Int)), forL (gN 2) t_boxesW l ρ [some (dl s), some (.lst (bs.map boxB))] = .ok (.nx ρ') [some (dl s'), some (.lst ((bs ++ new).map boxB))] ∧ RhoW ρ' ∧ new.length = l.length ∧ ∀ b ∈ new, 0 ≤ b.1 ∧ b.1 ≤ b.2 ∧ b.2 < 10
  | [], ρ, s, bs, h, _ => ⟨ρ, s, [], by simp [forL], h, rfl, fun b hb => by cases hb⟩
  | x :: l, ρ, s, bs, h, hl => by
    rw [List.length_cons] at hl
    have h5 := h.set (some x) (i := 2) (by omega)
    have r1 := offI_lt (m := 10) (by omega) s
    have c1 := c_off 10 s [some (.lst (bs.map boxB))] (by omega) (by omega)
    generalize hv : offI 10 s = v at r1 c1
    have h8 := h5.set (some (.dat (.int v.1))) (i := 3) (by omega)
    have e8 : ((ρ.set 2 (some x)).set 3 (some (.dat (.int v.1))))[3]? = some (some (.dat (.int v.1))) := List.getElem?_set_self (by rw [List.length_set, h.len]; decide)
    have r2 := offI_lt (m := v.1 + 1) (by omega) v.2
    have c2 := c_off (v.1 + 1) v.2 [some (.lst (bs.map boxB))] (by omega) (by omega)
    generalize hu : offI (v.1 + 1) v.2 = u at r2 c2
    obtain ⟨ρ', s', new, q1, q2, q3, q4⟩ := for_boxesW l ((ρ.set 2 (some x)).set 3 (some (.dat (.int v.1)))) u.2 (bs ++ [(u.1, v.1)]) h8 (by rw [List.length_append, List.length_singleton]; omega)
    refine ⟨ρ', s', (u.1, v.1) :: new, ?_, q2, by rw [List.length_cons, List.length_cons, q3], fun b hb => ?_⟩
    · have iL : isL (.own 1) [some (dl v.2), some (.lst (bs.map boxB))] = true := rfl
      have ap : vAppend (.own 1) [.dat (.tup [.int u.1, .int v.1])] [some (dl u.2), some (.lst (bs.map boxB))] = .ok (.dat .non) [some (dl u.2), some (.lst (bs.map boxB ++ [boxB (u.1, v.1)]))] := y_app rfl (by rw [List.length_map, SZ_val]; omega)
      unfold forL
      simp [h5.h0, h5.h1, h8.h0, h8.h1, e8, c1, c2, iL, ap]
      simp at q1
      exact q1
    · rcases List.mem_cons.mp hb with rfl | hb
      · exact ⟨r2.1, by show u.1 ≤ v.1; omega, r1.2⟩
      · exact q4 b hb
noncomputable abbrev e_prW : Ev := (eApp (doCallA 3 1 F_prog) (aCons (eVar 0) (aCons (eVar 1) (aCons (eC (.int 24)) aNil))))
noncomputable abbrev t_wide : Es := (sSeq (sSet 1 (eLstO aNil))
  (sSeq (sForR1 (gN 2) (aCons (eBin vAdd (eC (.int 1)) (eApp (doCallA 2 1 f_law_off) (aCons (eVar 0) (aCons (eC (.int 12)) aNil)))) aNil) t_boxesW)
  (sFz 1 1 (sRet (eTup (aCons (eVar 1) (aCons (eFz (eLCR1 [4] (gN 4) (aCons (eBin vAdd (eC (.int 1)) (eApp (doCallA 2 1 f_law_off) (aCons (eVar 0) (aCons (eC (.int 2)) aNil)))) aNil) tY e_prW)) aNil)))))))
theorem wide_eq : t_law_wide_gate f_law_off F_gate F_prog =
  (sSeq (sIf (tV (eBin vEq (eApp (doCallA 2 1 f_law_off) (aCons (eVar 0) (aCons (eC (.int 2)) aNil))) (eC (.int 0))))
  (sRet (eApp (doCallA 1 1 F_gate) (aCons (eVar 0) aNil)))
  sNil) t_wide) := rfl
theorem wide2 (s : DI) : ∃ (g : Gt) (s' : DI), t_wide [some (.own 0), none, none, none, none] [some (dl s)] = .ok (.ret (.dat (gateD g))) [some (dl s'), none] ∧ Good g := by
  have r1 := offI_lt (m := 12) (by omega) s
  have c1 := c_off 12 s [some (.lst [])] (by omega) (by omega)
  generalize hv : offI 12 s = v at r1 c1
  have hrl : (rng 0 (1 + v.1)).length = (1 + v.1).toNat := by rw [rng_len, Int.sub_zero]
  obtain ⟨ρ', s1, bx, q1, q2, q3, q4⟩ := for_boxesW (rng 0 (1 + v.1)) [some (.own 0), some (.own 1), none, none, none] v.2 [] ⟨rfl, rfl, rfl⟩ (by rw [hrl]; simp; omega)
  rw [hrl] at q3
  have hb : BoxOk bx := ⟨fun e => by rw [e] at q3; simp at q3; omega, by omega, fun b hb => by have := q4 b hb; omega⟩
  have hbm : (bx.map boxB) = (bx.map boxD).map .dat := by rw [List.map_map]; rfl
  let ρ2 := ρ'.map fun o => o.map (sbB 1 (.lst (bx.map boxD)))
  have g0 : ρ2[0]? = some (some (.own 0)) := by
    show (ρ'.map _)[0]? = _
    rw [List.getElem?_map, q2.h0]
    rfl
  have g1 : ρ2[1]? = some (some (.dat (.lst (bx.map boxD)))) := by
    show (ρ'.map _)[1]? = _
    rw [List.getElem?_map, q2.h1]
    rfl
  have r2 := offI_lt (m := 2) (by omega) s1
  have c2 := c_off 2 s1 [none] (by omega) (by omega)
  generalize hu : offI 2 s1 = u at r2 c2
  have pr : ∀ (b : B) (s : DI) (Mr : Mem), e_prW (ρ2.set 4 (some b)) (some (dl s) :: Mr) = .ok (handB (progI bx 24 s).1) (some (dl (progI bx 24 s).2) :: Mr) := fun b s Mr => by
    have f0 : (ρ2.set 4 (some b))[0]? = some (some (.own 0)) := by rw [List.getElem?_set_ne (by decide)]; exact g0
    have f1 : (ρ2.set 4 (some b))[1]? = some (some (.dat (.lst (bx.map boxD)))) := by rw [List.getElem?_set_ne (by decide)]; exact g1
    have c := c_prog s Mr hb (most := 24) (by omega) (by omega)
    simp only [x_app, x_cons, x_var, f0, f1, x_c, x_nil, Res.bind_ok, c]
  obtain ⟨s2, hs', w1, w2, w3⟩ := fz_progsJ 4 (m := 24) (n := 1 + u.1) (e := e_prW) (ne := eC (.int (1 + u.1))) (ρ := ρ2) hb (by omega) (by omega) (by omega) (by omega) [none] rfl pr u.2 rfl
  refine ⟨(bx, hs'), s2, ?_, ⟨by show 1 ≤ bx.length ∧ bx.length ≤ 12; omega, fun b hb => by have := q4 b hb; omega, by show 1 ≤ hs'.length ∧ hs'.length ≤ 4; omega, fun h hh => (w3 h hh).1⟩⟩
  have e1 : rngOf1 [.dat (.int (1 + v.1))] = some (rng 0 (1 + v.1)) := by
    have hbn : bnd (1 + v.1) = true := bnd_ok (by omega) (by omega)
    simp [rngOf1, hbn]
  unfold t_wide
  simp only [x_seq]
  have st : sSet 1 (eLstO aNil) [some (.own 0), none, none, none, none] [some (dl s)] = .ok (.nx [some (.own 0), some (.own 1), none, none, none]) [some (dl s), some (.lst [])] := rfl
  rw [st]
  simp only [Res.bind_ok]
  have q1' : forL (gN 2) t_boxesW (rng 0 (1 + v.1)) [some (.own 0), some (.own 1), none, none, none] [some (dl v.2), some (.lst [])] = .ok (.nx ρ') [some (dl s1), some (.lst (bx.map boxB))] := q1
  have sf : sForR1 (gN 2) (aCons (eBin vAdd (eC (.int 1)) (eApp (doCallA 2 1 f_law_off) (aCons (eVar 0) (aCons (eC (.int 12)) aNil)))) aNil) t_boxesW [some (.own 0), some (.own 1), none, none, none] [some (dl s), some (.lst [])] = .ok (.nx ρ') [some (dl s1), some (.lst (bx.map boxB))] := by
    rw [x_forR1]
    simp [-x_forR1, c1, e1, q1', -x_seq]
  rw [sf]
  simp only [Res.bind_ok]
  rw [x_frz (k := 1) (bx.map boxD) q2.h1 (Nat.le_refl _) rfl hbm]
  have hM : ([some (dl s1), some (Cell.lst (bx.map boxB))].map (sbC 1 (.lst (bx.map boxD)))).set 1 none = [some (dl s1), none] := by
    simp [sb_dl]
  rw [hM]
  have wz : eFz (eLCR1 [4] (gN 4) (aCons (eBin vAdd (eC (.int 1)) (eApp (doCallA 2 1 f_law_off) (aCons (eVar 0) (aCons (eC (.int 2)) aNil)))) aNil) tY e_prW) ρ2 [some (dl s1), none] = .ok (.dat (.lst (hs'.map handD))) [some (dl s2), none] := by
    have z : eLCR1 [4] (gN 4) (aCons (eBin vAdd (eC (.int 1)) (eApp (doCallA 2 1 f_law_off) (aCons (eVar 0) (aCons (eC (.int 2)) aNil)))) aNil) tY e_prW ρ2 [some (dl s1), none] = eLCR1 [4] (gN 4) (aCons (eC (.int (1 + u.1))) aNil) tY e_prW ρ2 [some (dl u.2), none] := by
      unfold eLCR1
      simp only [x_cons, x_bin, x_c, x_app, x_var, x_nil, g0, c2, Res.bind_ok, y_add]
    rw [x_fz, z, ← w1, x_fz]
    rfl
  show sRet _ ρ2 _ = _
  generalize e_prW = EP at wz
  simp [-x_fz, g1, wz, gateD]
theorem e_wide (s : DI) : ∃ (g : Gt) (s' : DI), F_wide [.own 0] [some (dl s)] = .ok (.dat (gateD g)) [some (dl s')] ∧ Good g := by
  have c0 := c_off 2 s [] (by decide) (by decide)
  generalize hz : offI 2 s = z at c0
  have fin : ∀ (g : Gt) (s' : DI) (M : Mem), t_law_wide_gate f_law_off F_gate F_prog [some (.own 0), none, none, none, none] [some (dl s)] = .ok (.ret (.dat (gateD g))) (some (dl s') :: M) → F_wide [.own 0] [some (dl s)] = .ok (.dat (gateD g)) [some (dl s')] := fun g s' M h => by
    show finD 1 (outB (t_law_wide_gate f_law_off F_gate F_prog [some (.own 0), none, none, none, none] [some (dl s)])) = _
    rw [h]
    exact fin_dl _ _ _
  by_cases h0 : z.1 = 0
  · obtain ⟨g, s', q1, q2⟩ := e_gate z.2
    have c := call_d (ar := 1) (xs := []) q1 rfl rfl []
    refine ⟨g, s', fin g s' [] ?_, q2.w⟩
    rw [wide_eq]
    generalize t_wide = T
    generalize F_gate = FG at c
    simp [c0, h0, c]
  · obtain ⟨g, s', q1, q2⟩ := wide2 z.2
    refine ⟨g, s', fin g s' [none] ?_, q2⟩
    rw [wide_eq]
    generalize t_wide = T at q1
    simp [c0, h0, q1]
end Ab

/-! The law written_and_read. -/
namespace Ab
open PySem PySem.Spec PyProof.Rows L2 TL
noncomputable abbrev F_law (K : PySem.W.Frag) (w : World) : Fn := f_law (f_law_dice K) F_wide F_gate F_lines (F_made K) (F_written K) (F_alike 7) (F_read K) K (f_Gate_boxes K) (f_Gate_hands K)
theorem law_startD (K : PySem.W.Frag) (ns : List Int) (hn : ns.length ≤ 63) : ∃ (s s' s'' : DI) (g g' : Gt), Good g ∧ Good g' ∧
    doCallA 2 0 (f_law_dice K) [.dat (.scr K ns), .dat (.int 0)] [] = .ok (.own 0) [some (dl s)] ∧ (∀ Mr, doCallA 1 1 F_wide [.own 0] (some (dl s) :: Mr) = .ok (.dat (gateD g)) (some (dl s') :: Mr)) ∧ ∀ Mr, doCallA 1 1 F_gate [.own 0] (some (dl s') :: Mr) = .ok (.dat (gateD g')) (some (dl s'') :: Mr) := by
  obtain ⟨s, hd⟩ := e_dice K ns hn
  obtain ⟨g, s', hg, G⟩ := e_wide s
  obtain ⟨g', s'', hg', G'⟩ := e_gate s'
  refine ⟨s, s', s'', g, g', G, G'.w, ?_, fun Mr => call_d (xs := []) hg rfl rfl Mr, fun Mr => call_d (xs := []) hg' rfl rfl Mr⟩
  rw [dl_eq] at hd ⊢
  exact call_own rfl hd rfl []
theorem c_alikeN {n : Nat} {d : D} {x y x' y' : B} {M : Mem} (hd : dep d n) (hx : cvB 0 M x = some x') (hy : cvB 0 M y = some y') (sx : Shows d x') (sy : Shows d y') : doCallA 2 0 (F_alike (n + 1)) [x, y] M = .ok (.dat (.bl true)) M :=
  call_0 (cs := [x', y']) (by rw [List.map_cons, List.map_cons, hx, hy]; rfl) (e_alike n d hd x' y' sx sy) rfl
theorem depL_all {ds : List D} {n : Nat} (h : ∀ d ∈ ds, dep d n) : dep.depL ds n := by
  induction ds with
  | nil => unfold dep.depL; trivial
  | cons d ds ih =>
    unfold dep.depL
    exact ⟨h d List.mem_cons_self, ih fun x hx => h x (List.mem_cons_of_mem _ hx)⟩
theorem dep_i (i : Int) (n : Nat) : dep (.int i) n := by unfold dep; trivial
theorem dep_s {s : Str} (h : PyData.strOk s = true) (n : Nat) : dep (.str s) n := by unfold dep; exact h
theorem dep_t {ds : List D} {n : Nat} (hl : ds.length < 1000000) (h : dep.depL ds n) : dep (.tup ds) (n + 1) := by unfold dep; exact ⟨hl, h⟩
theorem dep_l {ds : List D} {n : Nat} (hl : ds.length < 1000000) (h : dep.depL ds n) : dep (.lst ds) (n + 1) := by unfold dep; exact ⟨hl, h⟩
theorem dep_step {x : Sp'} (h : okW x) (n : Nat) : dep x.d (n + 2) := by
  cases x with
  | inn => exact dep_t (by simp) (depL_all fun d hd => by
      rw [List.mem_singleton.mp hd]
      exact dep_s k_in _)
  | put b v => exact dep_t (by simp) (depL_all fun d hd => by
      simp only [List.mem_cons, List.not_mem_nil, or_false] at hd
      rcases hd with rfl | rfl | rfl
      · exact dep_s k_put _
      · exact dep_i _ _
      · exact dep_i _ _)
  | go b ns g => exact dep_t (by simp) (depL_all fun d hd => by
      simp only [List.mem_cons, List.not_mem_nil, or_false] at hd
      rcases hd with rfl | rfl | rfl | rfl
      · exact dep_s k_go _
      · exact dep_i _ _
      · exact dep_t (by rw [List.length_map]; have := h.2.2.2; omega) (depL_all fun d hd => by
          obtain ⟨i, _, rfl⟩ := List.mem_map.mp hd
          exact dep_i _ _)
      · exact dep_i _ _)
theorem dep_hand {h : Hand} (o : ∀ x ∈ h.2, okW x) (l : h.2.length < 1000000) (n : Nat) : dep (handD h) (n + 4) := dep_t (by simp) (depL_all fun d hd => by
  simp only [List.mem_cons, List.not_mem_nil, or_false] at hd
  rcases hd with rfl | rfl
  · exact dep_i _ _
  · exact dep_l (by rw [List.length_map]; exact l) (depL_all fun d hd => by
      obtain ⟨x, hx, rfl⟩ := List.mem_map.mp hd
      exact dep_step (o x hx) _))
theorem dep_both {g : Gt} (G : Good g) : dep (.lst [.lst (g.1.map boxD), .lst (g.2.map handD)]) 6 := by
  have h1 := G.boxes
  have h2 := G.hands
  refine dep_l (by simp) (depL_all fun d hd => ?_)
  simp only [List.mem_cons, List.not_mem_nil, or_false] at hd
  rcases hd with rfl | rfl
  · refine dep_l (by rw [List.length_map]; omega) (depL_all fun d hd => ?_)
    obtain ⟨b, hb, rfl⟩ := List.mem_map.mp hd
    refine dep_t (by simp) (depL_all fun d hd => ?_)
    simp only [List.mem_cons, List.not_mem_nil, or_false] at hd
    rcases hd with rfl | rfl <;> exact dep_i _ _
  · refine dep_l (by rw [List.length_map]; omega) (depL_all fun d hd => ?_)
    obtain ⟨h, hh, rfl⟩ := List.mem_map.mp hd
    obtain ⟨o1, o2, o3⟩ := ok_hand G hh
    exact dep_hand o2 (by omega) 0
theorem tl_mem_lt {x : Str} (h : PyData.strOk x = true) : ∀ c ∈ tl x, c < 0x110000 := by
  unfold PyData.strOk at h
  rw [← Array.all_toList, List.all_eq_true] at h
  intro c hc
  have := h c hc
  simpa using this
theorem k_text {g : Gt} (G : Good g) : PyData.strOk (textS g) = true := by
  unfold PyData.strOk
  rw [← Array.all_toList, List.all_eq_true]
  intro c hc
  have hc : c ∈ tl (textS g) := hc
  unfold textS at hc
  rw [tl_J, tl_nl] at hc
  have one : ∀ l : Ln, l.ok → ∀ c ∈ tl l.s, c < 0x110000 := by
    intro l hl c hc
    have J : l.s = Txt.join " " l.w := by cases l with
      | box b => exact box_J b
      | kn k => exact kn_J k
      | st x => exact step_J x
    have W : ∀ w ∈ l.w, PyData.strOk w = true := by cases l with
      | box b =>
        intro w hw
        have hw : w ∈ boxW b := hw
        simp only [boxW, List.mem_cons, List.not_mem_nil, or_false] at hw
        rcases hw with rfl | rfl | rfl
        · exact k_box
        · exact k_iS hl.1
        · exact k_iS hl.2
      | kn k =>
        intro w hw
        have hw : w ∈ knW k := hw
        simp only [knW, List.mem_cons, List.not_mem_nil, or_false] at hw
        rcases hw with rfl | rfl
        · exact k_hand
        · exact k_iS hl
      | st x => exact ok_words hl
    rw [J, tl_J, tl_sp] at hc
    rcases joinL_mem hc with z | ⟨p, hp, z⟩
    · rw [List.mem_singleton.mp z]; decide
    · obtain ⟨w, hw, rfl⟩ := List.mem_map.mp hp
      exact tl_mem_lt (W w hw) c z
  have : c < 0x110000 := by
    rcases joinL_mem hc with z | ⟨p, hp, z⟩
    · rw [List.mem_singleton.mp z]; decide
    · rw [lines_ln, List.map_map] at hp
      obtain ⟨l, hl, rfl⟩ := List.mem_map.mp hp
      exact one l (ln_all G l hl) c z
  simpa using this
theorem e_law (K : PySem.W.Frag) (w : World) (ns : List Int) (hn : ns.length ≤ 63) : F_law K w [.dat (.scr K ns)] [] = .ok (.dat (.bl true)) [] := by
  obtain ⟨s, s', s'', g, g', G, G', cd, cg, cg'⟩ := law_startD K ns hn
  let M : Mem := [some (dl s'')]
  let r0 (x1 x2 x3 : Option B) : Rho := [some (.dat (.scr K ns)), x1, x2, x3, none, none, none]
  let ρ (x4 x5 x6 : Option B) : Rho := [some (.dat (.scr K ns)), some (.own 0), some (.dat (gateD g)), some (.dat (gateD g')), x4, x5, x6]
  have a1 : sSet 1 (eApp (doCallA 2 0 (f_law_dice K)) (aCons (eVar 0) (aCons (eC (.int 0)) aNil))) (r0 none none none) [] = .ok (.nx (r0 (some (.own 0)) none none)) [some (dl s)] := by
    have v : ∀ N, eVar 0 (r0 none none none) N = .ok (.dat (.scr K ns)) N := fun N => rfl
    simp only [x_set, x_app, x_cons, v, x_c, x_nil, Res.bind_ok, cd]
    rfl
  have a2 : sSet 2 (eApp (doCallA 1 1 F_wide) (aCons (eVar 1) aNil)) (r0 (some (.own 0)) none none) [some (dl s)] = .ok (.nx (r0 (some (.own 0)) (some (.dat (gateD g))) none)) [some (dl s')] := by
    have v : ∀ N, eVar 1 (r0 (some (.own 0)) none none) N = .ok (.own 0) N := fun N => rfl
    simp only [x_set, x_app, x_cons, v, x_nil, Res.bind_ok, cg]
    rfl
  have a3 : sSet 3 (eApp (doCallA 1 1 F_gate) (aCons (eVar 1) aNil)) (r0 (some (.own 0)) (some (.dat (gateD g))) none) [some (dl s')] = .ok (.nx (ρ none none none)) M := by
    have v : ∀ N, eVar 1 (r0 (some (.own 0)) (some (.dat (gateD g))) none) N = .ok (.own 0) N := fun N => rfl
    simp only [x_set, x_app, x_cons, v, x_nil, Res.bind_ok, cg']
    rfl
  let body : Es := (sSeq (sSet 5 (eMtS vJoin (eC (.str "\n")) (eApp (doCallA 1 0 F_lines) (aCons (eVar 4) aNil))))
  (sSeq (sIf (tNt (tV (eApp (doCallA 2 0 (F_alike 7)) (aCons (eApp (doCallA 1 0 (F_written K)) (aCons (eApp (doCallA 1 0 (F_made K)) (aCons (eVar 4) aNil)) aNil)) (aCons (eVar 5) aNil)))))
  (sRet (eC (.bl false)))
  sNil)
  (sSeq (sSet 6 (eApp (doCallA 1 0 (F_read K)) (aCons (eVar 5) aNil)))
  (sIf (tOrr (tNt (tV (eApp (doCallA 2 0 (F_alike 7)) (aCons (eLst (aCons (eMeth (He.ga K "Gate") "boxes" 1 0 (f_Gate_boxes K) (eVar 6) aNil) (aCons (eMeth (He.ga K "Gate") "hands" 1 0 (f_Gate_hands K) (eVar 6) aNil) aNil))) (aCons (eLst (aCons (eBin vIx (eVar 4) (eC (.int 0))) (aCons (eBin vIx (eVar 4) (eC (.int 1))) aNil))) aNil))))) (tV (eBin vNe (eApp (doCallA 1 0 (F_written K)) (aCons (eVar 6) aNil)) (eVar 5))))
  (sRet (eC (.bl false)))
  sNil))))
  have turn : ∀ (g0 : Gt), Good g0 → ∀ x5 x6, ∃ y5 y6, body (ρ (some (.dat (gateD g0))) x5 x6) M = .ok (.nx (ρ (some (.dat (gateD g0))) y5 y6)) M := by
    intro g0 G0 x5 x6
    let X4 : Option B := some (.dat (gateD g0))
    let X5 : Option B := some (.dat (.str (textS g0)))
    let X6 : Option B := some (.dat (gobj K g0))
    have sl := sum_len G0
    have ll := lines_len G0
    have e1 : (Str.ofString "\n").length = 1 := lit_len (by decide +kernel)
    have el : els (.dat (.lst (strsD (linesS g0)))) M = some ((linesS g0).map fun s => B.dat (.str s)) := by
      show some ((strsD (linesS g0)).map B.dat) = _
      unfold strsD
      rw [List.map_map]
      rfl
    have j := y_join (a := "\n") el (by rw [e1]; omega)
    have b1 : sSet 5 (eMtS vJoin (eC (.str "\n")) (eApp (doCallA 1 0 F_lines) (aCons (eVar 4) aNil))) (ρ X4 x5 x6) M = .ok (.nx (ρ X4 X5 x6)) M := by
      have v4 : eVar 4 (ρ X4 x5 x6) M = .ok (.dat (gateD g0)) M := rfl
      have cl := c_lines G0 M
      have ej : eMtS vJoin (eC (.str "\n")) (eApp (doCallA 1 0 F_lines) (aCons (eVar 4) aNil)) (ρ X4 x5 x6) M = .ok (.dat (.str (textS g0))) M := by
        unfold eMtS
        rw [x_c]
        simp only [Res.bind_ok, isStrB, if_true]
        rw [x_app, x_cons, v4]
        simp only [Res.bind_ok, x_nil, cl]
        exact j
      rw [x_set, ej]
      rfl
    have kt := k_text G0
    have ca := c_alikeN (n := 6) (d := .str (textS g0)) (M := M) (dep_s kt 6) (x := .dat (.str (textS g0))) (y := .dat (.str (textS g0))) rfl rfl (.inl rfl) (.inl rfl)
    have cw := c_written K G0 M
    have cm := c_made K G0 M
    have b2 : sIf (tNt (tV (eApp (doCallA 2 0 (F_alike 7)) (aCons (eApp (doCallA 1 0 (F_written K)) (aCons (eApp (doCallA 1 0 (F_made K)) (aCons (eVar 4) aNil)) aNil)) (aCons (eVar 5) aNil))))) (sRet (eC (.bl false))) sNil (ρ X4 X5 x6) M = .ok (.nx (ρ X4 X5 x6)) M := by
      have v4 : eVar 4 (ρ X4 X5 x6) M = .ok (.dat (gateD g0)) M := rfl
      have v5 : eVar 5 (ρ X4 X5 x6) M = .ok (.dat (.str (textS g0))) M := rfl
      rw [x_sif, x_tn, x_tv, x_app, x_cons, x_app, x_cons, x_app, x_cons, v4]
      simp only [Res.bind_ok, x_nil, cm, cw]
      rw [x_cons, v5]
      simp only [Res.bind_ok, x_nil, ca]
      rfl
    have cr := c_read K G0 M
    have b3 : sSet 6 (eApp (doCallA 1 0 (F_read K)) (aCons (eVar 5) aNil)) (ρ X4 X5 x6) M = .ok (.nx (ρ X4 X5 X6)) M := by
      have v5 : eVar 5 (ρ X4 X5 x6) M = .ok (.dat (.str (textS g0))) M := rfl
      rw [x_set, x_app, x_cons, v5]
      simp only [Res.bind_ok, x_nil, cr]
      rfl
    have cb := c_boxes K g0 M
    have ch := c_hands K (g := g0) (by have := G0.hands; omega) M
    have ob := og_boxes K g0 M
    have oh := og_hands K g0 M
    have zz : ([D.lst (g0.1.map boxD), D.lst (g0.2.map handD)]).length ≤ SZ := by rw [SZ_val]; simp
    have ca2 := c_alikeN (n := 6) (M := M) (dep_both G0) (x := .dat (.lst [.lst (g0.1.map boxD), .lst (g0.2.map handD)])) (y := .dat (.lst [.lst (g0.1.map boxD), .lst (g0.2.map handD)])) rfl rfl (.inl rfl) (.inl rfl)
    have b4 : (sIf (tOrr (tNt (tV (eApp (doCallA 2 0 (F_alike 7)) (aCons (eLst (aCons (eMeth (He.ga K "Gate") "boxes" 1 0 (f_Gate_boxes K) (eVar 6) aNil) (aCons (eMeth (He.ga K "Gate") "hands" 1 0 (f_Gate_hands K) (eVar 6) aNil) aNil))) (aCons (eLst (aCons (eBin vIx (eVar 4) (eC (.int 0))) (aCons (eBin vIx (eVar 4) (eC (.int 1))) aNil))) aNil))))) (tV (eBin vNe (eApp (doCallA 1 0 (F_written K)) (aCons (eVar 6) aNil)) (eVar 5)))) (sRet (eC (.bl false))) sNil) (ρ X4 X5 X6) M = .ok (.nx (ρ X4 X5 X6)) M := by
      have v4 : eVar 4 (ρ X4 X5 X6) M = .ok (.dat (gateD g0)) M := rfl
      have v5 : eVar 5 (ρ X4 X5 X6) M = .ok (.dat (.str (textS g0))) M := rfl
      have v6 : eVar 6 (ρ X4 X5 X6) M = .ok (.dat (gobj K g0)) M := rfl
      have l1 : eLst (aCons (eMeth (He.ga K "Gate") "boxes" 1 0 (f_Gate_boxes K) (eVar 6) aNil) (aCons (eMeth (He.ga K "Gate") "hands" 1 0 (f_Gate_hands K) (eVar 6) aNil) aNil)) (ρ X4 X5 X6) M = .ok (.dat (.lst [.lst (g0.1.map boxD), .lst (g0.2.map handD)])) M := by
        rw [x_lst, x_cons, x_meth, v6]
        simp only [Res.bind_ok, ob, if_true, x_nil, cb]
        rw [x_cons, x_meth, v6]
        simp only [Res.bind_ok, oh, if_true, x_nil, ch, dats_cons, dats_nil, Option.map_some]
        rw [if_pos zz]
      have l2 : eLst (aCons (eBin vIx (eVar 4) (eC (.int 0))) (aCons (eBin vIx (eVar 4) (eC (.int 1))) aNil)) (ρ X4 X5 X6) M = .ok (.dat (.lst [.lst (g0.1.map boxD), .lst (g0.2.map handD)])) M := by
        have i0 : eBin vIx (eVar 4) (eC (.int 0)) (ρ X4 X5 X6) M = .ok (.dat (.lst (g0.1.map boxD))) M := rfl
        have i1 : eBin vIx (eVar 4) (eC (.int 1)) (ρ X4 X5 X6) M = .ok (.dat (.lst (g0.2.map handD))) M := rfl
        rw [x_lst, x_cons, i0]
        simp only [Res.bind_ok]
        rw [x_cons, i1]
        simp only [Res.bind_ok, x_nil, dats_cons, dats_nil, Option.map_some]
        rw [if_pos zz]
      have n := ne_self kt M
      rw [x_sif, x_to, x_tn, x_tv, x_app, x_cons, l1]
      simp only [Res.bind_ok]
      rw [x_cons, l2]
      simp only [Res.bind_ok, x_nil, ca2, Bool.not_true, Bool.false_eq_true, if_false]
      rw [x_tv, x_bin, x_app, x_cons, v6]
      simp only [Res.bind_ok, x_nil, cw, v5, n, Bool.false_eq_true, if_false, x_snil]
    exact ⟨X5, X6, (seq_ok b1).trans ((seq_ok b2).trans ((seq_ok b3).trans b4))⟩
  have gz : ([gateD g, gateD g', gateD g]).length ≤ SZ := by rw [SZ_val]; simp
  have li : eLst (aCons (eVar 2) (aCons (eVar 3) (aCons (eVar 2) aNil))) (ρ none none none) M = .ok (.dat (.lst [gateD g, gateD g', gateD g])) M := by
    have v2 : ∀ N, eVar 2 (ρ none none none) N = .ok (.dat (gateD g)) N := fun N => rfl
    have v3 : ∀ N, eVar 3 (ρ none none none) N = .ok (.dat (gateD g')) N := fun N => rfl
    simp only [x_lst, x_cons, v2, v3, x_nil, Res.bind_ok, dats_cons, dats_nil, Option.map_some]
    rw [if_pos gz]
  have a4 : ∃ y4 y5 y6, sFor (gN 4) (eLst (aCons (eVar 2) (aCons (eVar 3) (aCons (eVar 2) aNil)))) body (ρ none none none) M = .ok (.nx (ρ y4 y5 y6)) M := by
    obtain ⟨p5, p6, t1⟩ := turn g G none none
    obtain ⟨q5, q6, t2⟩ := turn g' G' p5 p6
    obtain ⟨r5, r6, t3⟩ := turn g G q5 q6
    refine ⟨some (.dat (gateD g)), r5, r6, ?_⟩
    unfold sFor
    rw [li]
    simp only [Res.bind_ok]
    show forL (gN 4) body [.dat (gateD g), .dat (gateD g'), .dat (gateD g)] (ρ none none none) M = _
    have g1 : ∀ x4 x5 x6 (d : D), gN 4 (.dat d) (ρ x4 x5 x6) = some (ρ (some (.dat d)) x5 x6) := fun _ _ _ _ => rfl
    unfold forL
    rw [g1]
    dsimp only
    rw [t1]
    simp only [Res.bind_ok]
    unfold forL
    rw [g1]
    dsimp only
    rw [t2]
    simp only [Res.bind_ok]
    unfold forL
    rw [g1]
    dsimp only
    rw [t3]
    rfl
  obtain ⟨y4, y5, y6, a4⟩ := a4
  show finD 0 (outB (t_law (f_law_dice K) F_wide F_gate F_lines (F_made K) (F_written K) (F_alike 7) (F_read K) K (f_Gate_boxes K) (f_Gate_hands K) (r0 none none none) [])) = _
  unfold t_law
  rw [seq_ok a1, seq_ok a2, seq_ok a3]
  refine (congrArg (fun r => finD 0 (outB r)) (seq_ok a4)).trans ?_
  exact fin_0 _ _
end Ab

namespace Ab
open PySem PySem.Spec PyProof.Rows L2
def d_law_dice : He.DefD := ⟨("_law_dice", none), "_law_dice", "_law_dice", defArgs s_law_dice, defBody s_law_dice, defScope s_law_dice, [], []⟩
def d_law_off : He.DefD := ⟨("_law_off", none), "_law_off", "_law_off", defArgs s_law_off, defBody s_law_off, defScope s_law_off, [], []⟩
def d_law_alike : He.DefD := ⟨("_law_alike", none), "_law_alike", "_law_alike", defArgs s_law_alike, defBody s_law_alike, defScope s_law_alike, [], []⟩
def d_law_step : He.DefD := ⟨("_law_step", none), "_law_step", "_law_step", defArgs s_law_step, defBody s_law_step, defScope s_law_step, [], []⟩
def d_law_program : He.DefD := ⟨("_law_program", none), "_law_program", "_law_program", defArgs s_law_program, defBody s_law_program, defScope s_law_program, [], []⟩
def d_law_pair : He.DefD := ⟨("_law_pair", none), "_law_pair", "_law_pair", defArgs s_law_pair, defBody s_law_pair, defScope s_law_pair, [], []⟩
def d_law_bits : He.DefD := ⟨("_law_bits", none), "_law_bits", "_law_bits", defArgs s_law_bits, defBody s_law_bits, defScope s_law_bits, [], []⟩
def d_law_counter : He.DefD := ⟨("_law_counter", none), "_law_counter", "_law_counter", defArgs s_law_counter, defBody s_law_counter, defScope s_law_counter, [], []⟩
def d_law_gate : He.DefD := ⟨("_law_gate", none), "_law_gate", "_law_gate", defArgs s_law_gate, defBody s_law_gate, defScope s_law_gate, [], []⟩
def d_must : He.DefD := ⟨("must", none), "must", "must", defArgs s_must, defBody s_must, defScope s_must, [], []⟩
def d_is_rising : He.DefD := ⟨("is_rising", none), "is_rising", "is_rising", defArgs s_is_rising, defBody s_is_rising, defScope s_is_rising, [], []⟩
def d_Gate_is_step : He.DefD := ⟨("Gate", some "is_step"), "is_step", "Gate.is_step", defArgs s_Gate_is_step, defBody s_Gate_is_step, defScope s_Gate_is_step, [], []⟩
def d_Gate_need_hand : He.DefD := ⟨("Gate", some "need_hand"), "need_hand", "Gate.need_hand", defArgs s_Gate_need_hand, defBody s_Gate_need_hand, defScope s_Gate_need_hand, [], []⟩
def d_Gate_init : He.DefD := ⟨("Gate", some "__init__"), "__init__", "Gate.__init__", defArgs s_Gate_init, defBody s_Gate_init, defScope s_Gate_init, [], []⟩
def d_Gate_boxes : He.DefD := ⟨("Gate", some "boxes"), "boxes", "Gate.boxes", defArgs s_Gate_boxes, defBody s_Gate_boxes, defScope s_Gate_boxes, [], []⟩
def d_Gate_hands : He.DefD := ⟨("Gate", some "hands"), "hands", "Gate.hands", defArgs s_Gate_hands, defBody s_Gate_hands, defScope s_Gate_hands, [], []⟩
def d_Gate_many : He.DefD := ⟨("Gate", some "many"), "many", "Gate.many", defArgs s_Gate_many, defBody s_Gate_many, defScope s_Gate_many, [], []⟩
def d_step_text : He.DefD := ⟨("step_text", none), "step_text", "step_text", defArgs s_step_text, defBody s_step_text, defScope s_step_text, [], []⟩
def d_written : He.DefD := ⟨("written", none), "written", "written", defArgs s_written, defBody s_written, defScope s_written, [], []⟩
def d_number_of : He.DefD := ⟨("number_of", none), "number_of", "number_of", defArgs s_number_of, defBody s_number_of, defScope s_number_of, [], []⟩
def d_numbers_of : He.DefD := ⟨("numbers_of", none), "numbers_of", "numbers_of", defArgs s_numbers_of, defBody s_numbers_of, defScope s_numbers_of, [], []⟩
def d_step_of : He.DefD := ⟨("step_of", none), "step_of", "step_of", defArgs s_step_of, defBody s_step_of, defScope s_step_of, [], []⟩
def d_read : He.DefD := ⟨("read", none), "read", "read", defArgs s_read, defBody s_read, defScope s_read, [], []⟩
def d_law_made : He.DefD := ⟨("_law_made", none), "_law_made", "_law_made", defArgs s_law_made, defBody s_law_made, defScope s_law_made, [], []⟩
def d_law_row : He.DefD := ⟨("_law_row", none), "_law_row", "_law_row", defArgs s_law_row, defBody s_law_row, defScope s_law_row, [], []⟩
def d_law_lines : He.DefD := ⟨("_law_lines", none), "_law_lines", "_law_lines", defArgs s_law_lines, defBody s_law_lines, defScope s_law_lines, [], []⟩
def d_law_wide_gate : He.DefD := ⟨("_law_wide_gate", none), "_law_wide_gate", "_law_wide_gate", defArgs s_law_wide_gate, defBody s_law_wide_gate, defScope s_law_wide_gate, [], []⟩
def d_law : He.DefD := ⟨("law", none), "law", "law", defArgs s_law, defBody s_law, defScope s_law, [], []⟩
def fn : List He.DefD := [d_law_dice, d_law_off, d_law_alike, d_law_step, d_law_program, d_law_pair, d_law_bits, d_law_counter, d_law_gate, d_must, d_is_rising, d_Gate_is_step, d_Gate_need_hand, d_Gate_init, d_Gate_boxes, d_Gate_hands, d_Gate_many, d_step_text, d_written, d_number_of, d_numbers_of, d_step_of, d_read, d_law_made, d_law_row, d_law_lines, d_law_wide_gate, d_law]
def fa : List He.Fa := [.glo "law", .free "abs", .glo "_law_dice", .free "len", .glo "_law_off", .free "bool", .free "isinstance", .free "int", .free "str", .free "dict", .free "tuple", .free "list", .free "range", .free "all", .glo "_law_alike", .glo "_law_step", .glo "_law_program", .glo "_law_pair", .glo "_law_bits", .glo "_law_counter", .glo "_law_gate", .glo "must", .free "sorted", .free "set", .glo "is_rising", .cls "Gate", .noat "Gate" "kept_boxes", .meth "Gate" "is_step", .noat "Gate" "kept_hands", .int "LEAST_STEPS" 2, .int "MOST_STEPS" 24, .meth "Gate" "need_hand", .int "MOST_BOXES" 12, .int "MOST_NUMBER" 9, .int "MOST_HANDS" 4, .mkr "Gate", .glo "Gate", .meth "Gate" "boxes", .meth "Gate" "hands", .meth "Gate" "many", .glo "step_text", .glo "written", .str "FIGURES" "0123456789", .glo "number_of", .glo "numbers_of", .glo "step_of", .glo "read", .glo "_law_made", .glo "_law_row", .glo "_law_lines", .glo "_law_wide_gate"]
theorem has_law_dice {P : Program} {w : World} {K : PySem.W.Frag} {h : Heap} {mg : Str → Option Value} {base : Heap} {k : Nat} {fs : Fn} (X : K.In h) (G : h.Ns mainGlobals mg) (c : He.SaysD fa fn K) (hf : ∀ bs M, fs bs M = .stuck ∨ f_law_dice K bs M = fs bs M) : Has P w K mg base "_law_dice" (k + 1) ["_law_script", "_law_k"] 0 fs := by
  obtain ⟨fd, F⟩ := c.def_ 0 (d := d_law_dice) rfl
  exact ⟨_, fd, (ok_law_dice (He.free_ok X G (c.fact 1 (f := .free "abs") rfl)) F hf), He.glo_ok X G (c.fact 2 (f := .glo "_law_dice") rfl), F.kp, (F.bindsN fun _ _ _ _ _ _ us hl => match us, hl with | [_, _], _ => rfl)⟩
theorem has_law_off {P : Program} {w : World} {K : PySem.W.Frag} {h : Heap} {mg : Str → Option Value} {base : Heap} {k : Nat} {fs : Fn} (X : K.In h) (G : h.Ns mainGlobals mg) (c : He.SaysD fa fn K) (hf : ∀ bs M, fs bs M = .stuck ∨ f_law_off bs M = fs bs M) : Has P w K mg base "_law_off" (k + 1) ["_law_d", "_law_most"] 1 fs := by
  obtain ⟨fd, F⟩ := c.def_ 1 (d := d_law_off) rfl
  exact ⟨_, fd, (ok_law_off (He.free_ok X G (c.fact 3 (f := .free "len") rfl)) F hf), He.glo_ok X G (c.fact 4 (f := .glo "_law_off") rfl), F.kp, (F.bindsN fun _ _ _ _ _ _ us hl => match us, hl with | [_, _], _ => rfl)⟩
theorem has_law_alike {P : Program} {w : World} {K : PySem.W.Frag} {h : Heap} {mg : Str → Option Value} {base : Heap} {k : Nat} {g_law_alike : Fn} {fs : Fn} (X : K.In h) (G : h.Ns mainGlobals mg) (c : He.SaysD fa fn K) (h_law_alike : Has P w K mg base "_law_alike" k ["_law_found", "_law_due"] 0 g_law_alike) (hf : ∀ bs M, fs bs M = .stuck ∨ f_law_alike g_law_alike bs M = fs bs M) : Has P w K mg base "_law_alike" (k + 1) ["_law_found", "_law_due"] 0 fs := by
  obtain ⟨fd, F⟩ := c.def_ 2 (d := d_law_alike) rfl
  exact ⟨_, fd, (ok_law_alike (He.free_ok X G (c.fact 5 (f := .free "bool") rfl)) (He.free_ok X G (c.fact 6 (f := .free "isinstance") rfl)) (He.free_ok X G (c.fact 7 (f := .free "int") rfl)) (He.free_ok X G (c.fact 8 (f := .free "str") rfl)) (He.free_ok X G (c.fact 9 (f := .free "dict") rfl)) (He.free_ok X G (c.fact 10 (f := .free "tuple") rfl)) (He.free_ok X G (c.fact 11 (f := .free "list") rfl)) (He.free_ok X G (c.fact 3 (f := .free "len") rfl)) h_law_alike (He.free_ok X G (c.fact 12 (f := .free "range") rfl)) (He.free_ok X G (c.fact 13 (f := .free "all") rfl)) F hf), He.glo_ok X G (c.fact 14 (f := .glo "_law_alike") rfl), F.kp, (F.bindsN fun _ _ _ _ _ _ us hl => match us, hl with | [_, _], _ => rfl)⟩
theorem has_law_step {P : Program} {w : World} {K : PySem.W.Frag} {h : Heap} {mg : Str → Option Value} {base : Heap} {k : Nat} {g_law_off : Fn} {fs : Fn} (X : K.In h) (G : h.Ns mainGlobals mg) (c : He.SaysD fa fn K) (h_law_off : Has P w K mg base "_law_off" k ["_law_d", "_law_most"] 1 g_law_off) (hf : ∀ bs M, fs bs M = .stuck ∨ f_law_step g_law_off bs M = fs bs M) : Has P w K mg base "_law_step" (k + 1) ["_law_d", "_law_boxes", "_law_many"] 1 fs := by
  obtain ⟨fd, F⟩ := c.def_ 3 (d := d_law_step) rfl
  exact ⟨_, fd, (ok_law_step (He.free_ok X G (c.fact 3 (f := .free "len") rfl)) h_law_off (He.free_ok X G (c.fact 12 (f := .free "range") rfl)) (He.free_ok X G (c.fact 10 (f := .free "tuple") rfl)) F hf), He.glo_ok X G (c.fact 15 (f := .glo "_law_step") rfl), F.kp, (F.bindsN fun _ _ _ _ _ _ us hl => match us, hl with | [_, _, _], _ => rfl)⟩
theorem has_law_program {P : Program} {w : World} {K : PySem.W.Frag} {h : Heap} {mg : Str → Option Value} {base : Heap} {k : Nat} {g_law_off : Fn} {g_law_step : Fn} {fs : Fn} (X : K.In h) (G : h.Ns mainGlobals mg) (c : He.SaysD fa fn K) (h_law_off : Has P w K mg base "_law_off" k ["_law_d", "_law_most"] 1 g_law_off) (h_law_step : Has P w K mg base "_law_step" k ["_law_d", "_law_boxes", "_law_many"] 1 g_law_step) (hf : ∀ bs M, fs bs M = .stuck ∨ f_law_program g_law_off g_law_step bs M = fs bs M) : Has P w K mg base "_law_program" (k + 1) ["_law_d", "_law_boxes", "_law_most"] 1 fs := by
  obtain ⟨fd, F⟩ := c.def_ 4 (d := d_law_program) rfl
  exact ⟨_, fd, (ok_law_program h_law_off h_law_step (He.free_ok X G (c.fact 12 (f := .free "range") rfl)) F hf), He.glo_ok X G (c.fact 16 (f := .glo "_law_program") rfl), F.kp, (F.bindsN fun _ _ _ _ _ _ us hl => match us, hl with | [_, _, _], _ => rfl)⟩
theorem has_law_pair {P : Program} {w : World} {K : PySem.W.Frag} {h : Heap} {mg : Str → Option Value} {base : Heap} {k : Nat} {fs : Fn} (X : K.In h) (G : h.Ns mainGlobals mg) (c : He.SaysD fa fn K) (hf : ∀ bs M, fs bs M = .stuck ∨ f_law_pair bs M = fs bs M) : Has P w K mg base "_law_pair" (k + 1) ["_law_side"] 0 fs := by
  obtain ⟨fd, F⟩ := c.def_ 5 (d := d_law_pair) rfl
  exact ⟨_, fd, (ok_law_pair  F hf), He.glo_ok X G (c.fact 17 (f := .glo "_law_pair") rfl), F.kp, (F.bindsN fun _ _ _ _ _ _ us hl => match us, hl with | [_], _ => rfl)⟩
theorem has_law_bits {P : Program} {w : World} {K : PySem.W.Frag} {h : Heap} {mg : Str → Option Value} {base : Heap} {k : Nat} {fs : Fn} (X : K.In h) (G : h.Ns mainGlobals mg) (c : He.SaysD fa fn K) (hf : ∀ bs M, fs bs M = .stuck ∨ f_law_bits bs M = fs bs M) : Has P w K mg base "_law_bits" (k + 1) ["_law_hand", "_law_many"] 0 fs := by
  obtain ⟨fd, F⟩ := c.def_ 6 (d := d_law_bits) rfl
  exact ⟨_, fd, (ok_law_bits (He.free_ok X G (c.fact 3 (f := .free "len") rfl)) (He.free_ok X G (c.fact 12 (f := .free "range") rfl)) F hf), He.glo_ok X G (c.fact 18 (f := .glo "_law_bits") rfl), F.kp, (F.bindsN fun _ _ _ _ _ _ us hl => match us, hl with | [_, _], _ => rfl)⟩
theorem has_law_counter {P : Program} {w : World} {K : PySem.W.Frag} {h : Heap} {mg : Str → Option Value} {base : Heap} {k : Nat} {fs : Fn} (X : K.In h) (G : h.Ns mainGlobals mg) (c : He.SaysD fa fn K) (hf : ∀ bs M, fs bs M = .stuck ∨ f_law_counter bs M = fs bs M) : Has P w K mg base "_law_counter" (k + 1) ["_law_many"] 0 fs := by
  obtain ⟨fd, F⟩ := c.def_ 7 (d := d_law_counter) rfl
  exact ⟨_, fd, (ok_law_counter (He.free_ok X G (c.fact 3 (f := .free "len") rfl)) (He.free_ok X G (c.fact 12 (f := .free "range") rfl)) F hf), He.glo_ok X G (c.fact 19 (f := .glo "_law_counter") rfl), F.kp, (F.bindsN fun _ _ _ _ _ _ us hl => match us, hl with | [_], _ => rfl)⟩
theorem has_law_gate {P : Program} {w : World} {K : PySem.W.Frag} {h : Heap} {mg : Str → Option Value} {base : Heap} {k : Nat} {g_law_off : Fn} {g_law_counter : Fn} {g_law_program : Fn} {g_law_pair : Fn} {g_law_bits : Fn} {g_law_step : Fn} {fs : Fn} (X : K.In h) (G : h.Ns mainGlobals mg) (c : He.SaysD fa fn K) (h_law_off : Has P w K mg base "_law_off" k ["_law_d", "_law_most"] 1 g_law_off) (h_law_counter : Has P w K mg base "_law_counter" k ["_law_many"] 0 g_law_counter) (h_law_program : Has P w K mg base "_law_program" k ["_law_d", "_law_boxes", "_law_most"] 1 g_law_program) (h_law_pair : Has P w K mg base "_law_pair" k ["_law_side"] 0 g_law_pair) (h_law_bits : Has P w K mg base "_law_bits" k ["_law_hand", "_law_many"] 0 g_law_bits) (h_law_step : Has P w K mg base "_law_step" k ["_law_d", "_law_boxes", "_law_many"] 1 g_law_step) (hf : ∀ bs M, fs bs M = .stuck ∨ f_law_gate g_law_off g_law_counter g_law_program g_law_pair g_law_bits g_law_step bs M = fs bs M) : Has P w K mg base "_law_gate" (k + 1) ["_law_d"] 1 fs := by
  obtain ⟨fd, F⟩ := c.def_ 8 (d := d_law_gate) rfl
  exact ⟨_, fd, (ok_law_gate h_law_off h_law_counter (He.free_ok X G (c.fact 12 (f := .free "range") rfl)) h_law_program (He.free_ok X G (c.fact 7 (f := .free "int") rfl)) h_law_pair h_law_bits (He.free_ok X G (c.fact 3 (f := .free "len") rfl)) h_law_step F hf), He.glo_ok X G (c.fact 20 (f := .glo "_law_gate") rfl), F.kp, (F.bindsN fun _ _ _ _ _ _ us hl => match us, hl with | [_], _ => rfl)⟩
theorem has_must {P : Program} {w : World} {K : PySem.W.Frag} {h : Heap} {mg : Str → Option Value} {base : Heap} {k : Nat} {fs : Fn} (X : K.In h) (G : h.Ns mainGlobals mg) (c : He.SaysD fa fn K) (hf : ∀ bs M, fs bs M = .stuck ∨ f_must bs M = fs bs M) : Has P w K mg base "must" (k + 1) ["good", "why", "hand", "step"] 0 fs := by
  obtain ⟨fd, F⟩ := c.def_ 9 (d := d_must) rfl
  exact ⟨_, fd, (ok_must  F hf), He.glo_ok X G (c.fact 21 (f := .glo "must") rfl), F.kp, (F.bindsN fun _ _ _ _ _ _ us hl => match us, hl with | [_, _, _, _], _ => rfl)⟩
theorem has_is_rising {P : Program} {w : World} {K : PySem.W.Frag} {h : Heap} {mg : Str → Option Value} {base : Heap} {k : Nat} {fs : Fn} (X : K.In h) (G : h.Ns mainGlobals mg) (c : He.SaysD fa fn K) (hf : ∀ bs M, fs bs M = .stuck ∨ f_is_rising bs M = fs bs M) : Has P w K mg base "is_rising" (k + 1) ["numbers"] 0 fs := by
  obtain ⟨fd, F⟩ := c.def_ 10 (d := d_is_rising) rfl
  exact ⟨_, fd, (ok_is_rising (He.free_ok X G (c.fact 22 (f := .free "sorted") rfl)) (He.free_ok X G (c.fact 23 (f := .free "set") rfl)) (He.free_ok X G (c.fact 10 (f := .free "tuple") rfl)) F hf), He.glo_ok X G (c.fact 24 (f := .glo "is_rising") rfl), F.kp, (F.bindsN fun _ _ _ _ _ _ us hl => match us, hl with | [_], _ => rfl)⟩
theorem has_Gate_is_step {P : Program} {w : World} {K : PySem.W.Frag} {h : Heap} {mg : Str → Option Value} {base : Heap} {k : Nat} {g_is_rising : Fn} {fs : Fn} (X : K.In h) (G : h.Ns mainGlobals mg) (c : He.SaysD fa fn K) (h_is_rising : Has P w K mg base "is_rising" k ["numbers"] 0 g_is_rising) (hf : ∀ bs M, fs bs M = .stuck ∨ f_Gate_is_step K g_is_rising bs M = fs bs M) : HasM P w K mg base (He.ga K "Gate") "is_step" (k + 1) ["self", "step", "many"] 1 fs := by
  obtain ⟨fd, F⟩ := c.def_ 11 (d := d_Gate_is_step) rfl
  exact ⟨_, fd, (ok_Gate_is_step (He.free_ok X G (c.fact 3 (f := .free "len") rfl)) (He.cls_ok (c.fact 25 (f := .cls "Gate") rfl)) (He.noat_ok (c.fact 26 (f := .noat "Gate" "kept_boxes") rfl)) h_is_rising (He.free_ok X G (c.fact 13 (f := .free "all") rfl)) F hf), He.meth_ok (c.fact 27 (f := .meth "Gate" "is_step") rfl), He.cls_ok (c.fact 25 (f := .cls "Gate") rfl), (F.bindsN fun _ _ _ _ _ _ us hl => match us, hl with | [_, _, _], _ => rfl)⟩
theorem has_Gate_need_hand {P : Program} {w : World} {K : PySem.W.Frag} {h : Heap} {mg : Str → Option Value} {base : Heap} {k : Nat} {g_must : Fn} {g_Gate_is_step : Fn} {fs : Fn} (X : K.In h) (G : h.Ns mainGlobals mg) (c : He.SaysD fa fn K) (h_must : Has P w K mg base "must" k ["good", "why", "hand", "step"] 0 g_must) (h_Gate_is_step : HasM P w K mg base (He.ga K "Gate") "is_step" k ["self", "step", "many"] 1 g_Gate_is_step) (hf : ∀ bs M, fs bs M = .stuck ∨ f_Gate_need_hand K g_must g_Gate_is_step bs M = fs bs M) : HasM P w K mg base (He.ga K "Gate") "need_hand" (k + 1) ["self", "hand"] 1 fs := by
  obtain ⟨fd, F⟩ := c.def_ 12 (d := d_Gate_need_hand) rfl
  exact ⟨_, fd, (ok_Gate_need_hand (He.cls_ok (c.fact 25 (f := .cls "Gate") rfl)) (He.noat_ok (c.fact 28 (f := .noat "Gate" "kept_hands") rfl)) (He.int_ok X G (c.fact 29 (f := .int "LEAST_STEPS" 2) rfl)) (He.free_ok X G (c.fact 3 (f := .free "len") rfl)) (He.int_ok X G (c.fact 30 (f := .int "MOST_STEPS" 24) rfl)) h_must h_Gate_is_step (He.free_ok X G (c.fact 12 (f := .free "range") rfl)) F hf), He.meth_ok (c.fact 31 (f := .meth "Gate" "need_hand") rfl), He.cls_ok (c.fact 25 (f := .cls "Gate") rfl), (F.bindsN fun _ _ _ _ _ _ us hl => match us, hl with | [_, _], _ => rfl)⟩
theorem has_Gate_init {P : Program} {w : World} {K : PySem.W.Frag} {h : Heap} {mg : Str → Option Value} {base : Heap} {k : Nat} {g_must : Fn} {g_Gate_need_hand : Fn} {fs : Fn} (X : K.In h) (G : h.Ns mainGlobals mg) (c : He.SaysD fa fn K) (h_must : Has P w K mg base "must" k ["good", "why", "hand", "step"] 0 g_must) (h_Gate_need_hand : HasM P w K mg base (He.ga K "Gate") "need_hand" k ["self", "hand"] 1 g_Gate_need_hand) (hf : ∀ bs M, fs bs M = .stuck ∨ f_Gate_init g_must K g_Gate_need_hand bs M = fs bs M) : HasK P w K mg base "Gate" (He.ga K "Gate") (k + 1) ["self", "boxes", "hands"] fs := by
  obtain ⟨fd, F⟩ := c.def_ 13 (d := d_Gate_init) rfl
  exact ⟨_, fd, (ok_Gate_init (He.free_ok X G (c.fact 3 (f := .free "len") rfl)) (He.int_ok X G (c.fact 32 (f := .int "MOST_BOXES" 12) rfl)) h_must (He.int_ok X G (c.fact 33 (f := .int "MOST_NUMBER" 9) rfl)) (He.free_ok X G (c.fact 12 (f := .free "range") rfl)) (He.int_ok X G (c.fact 34 (f := .int "MOST_HANDS" 4) rfl)) (He.free_ok X G (c.fact 10 (f := .free "tuple") rfl)) (He.cls_ok (c.fact 25 (f := .cls "Gate") rfl)) (He.noat_ok (c.fact 26 (f := .noat "Gate" "kept_boxes") rfl)) (He.noat_ok (c.fact 28 (f := .noat "Gate" "kept_hands") rfl)) h_Gate_need_hand F hf), He.glo_ok X G (c.fact 36 (f := .glo "Gate") rfl), He.mkr_ok (c.fact 35 (f := .mkr "Gate") rfl), (F.bindsN fun _ _ _ _ _ _ us hl => match us, hl with | [_, _, _], _ => rfl)⟩
theorem has_Gate_boxes {P : Program} {w : World} {K : PySem.W.Frag} {h : Heap} {mg : Str → Option Value} {base : Heap} {k : Nat} {fs : Fn} (X : K.In h) (G : h.Ns mainGlobals mg) (c : He.SaysD fa fn K) (hf : ∀ bs M, fs bs M = .stuck ∨ f_Gate_boxes K bs M = fs bs M) : HasM P w K mg base (He.ga K "Gate") "boxes" (k + 1) ["self"] 0 fs := by
  obtain ⟨fd, F⟩ := c.def_ 14 (d := d_Gate_boxes) rfl
  exact ⟨_, fd, (ok_Gate_boxes (He.cls_ok (c.fact 25 (f := .cls "Gate") rfl)) (He.noat_ok (c.fact 26 (f := .noat "Gate" "kept_boxes") rfl)) (He.free_ok X G (c.fact 11 (f := .free "list") rfl)) F hf), He.meth_ok (c.fact 37 (f := .meth "Gate" "boxes") rfl), He.cls_ok (c.fact 25 (f := .cls "Gate") rfl), (F.bindsN fun _ _ _ _ _ _ us hl => match us, hl with | [_], _ => rfl)⟩
theorem has_Gate_hands {P : Program} {w : World} {K : PySem.W.Frag} {h : Heap} {mg : Str → Option Value} {base : Heap} {k : Nat} {fs : Fn} (X : K.In h) (G : h.Ns mainGlobals mg) (c : He.SaysD fa fn K) (hf : ∀ bs M, fs bs M = .stuck ∨ f_Gate_hands K bs M = fs bs M) : HasM P w K mg base (He.ga K "Gate") "hands" (k + 1) ["self"] 0 fs := by
  obtain ⟨fd, F⟩ := c.def_ 15 (d := d_Gate_hands) rfl
  exact ⟨_, fd, (ok_Gate_hands (He.free_ok X G (c.fact 11 (f := .free "list") rfl)) (He.cls_ok (c.fact 25 (f := .cls "Gate") rfl)) (He.noat_ok (c.fact 28 (f := .noat "Gate" "kept_hands") rfl)) F hf), He.meth_ok (c.fact 38 (f := .meth "Gate" "hands") rfl), He.cls_ok (c.fact 25 (f := .cls "Gate") rfl), (F.bindsN fun _ _ _ _ _ _ us hl => match us, hl with | [_], _ => rfl)⟩
theorem has_Gate_many {P : Program} {w : World} {K : PySem.W.Frag} {h : Heap} {mg : Str → Option Value} {base : Heap} {k : Nat} {fs : Fn} (X : K.In h) (G : h.Ns mainGlobals mg) (c : He.SaysD fa fn K) (hf : ∀ bs M, fs bs M = .stuck ∨ f_Gate_many K bs M = fs bs M) : HasM P w K mg base (He.ga K "Gate") "many" (k + 1) ["self"] 0 fs := by
  obtain ⟨fd, F⟩ := c.def_ 16 (d := d_Gate_many) rfl
  exact ⟨_, fd, (ok_Gate_many (He.cls_ok (c.fact 25 (f := .cls "Gate") rfl)) (He.noat_ok (c.fact 28 (f := .noat "Gate" "kept_hands") rfl)) (He.free_ok X G (c.fact 3 (f := .free "len") rfl)) F hf), He.meth_ok (c.fact 39 (f := .meth "Gate" "many") rfl), He.cls_ok (c.fact 25 (f := .cls "Gate") rfl), (F.bindsN fun _ _ _ _ _ _ us hl => match us, hl with | [_], _ => rfl)⟩
theorem has_step_text {P : Program} {w : World} {K : PySem.W.Frag} {h : Heap} {mg : Str → Option Value} {base : Heap} {k : Nat} {fs : Fn} (X : K.In h) (G : h.Ns mainGlobals mg) (c : He.SaysD fa fn K) (hf : ∀ bs M, fs bs M = .stuck ∨ f_step_text bs M = fs bs M) : Has P w K mg base "step_text" (k + 1) ["step"] 0 fs := by
  obtain ⟨fd, F⟩ := c.def_ 17 (d := d_step_text) rfl
  exact ⟨_, fd, (ok_step_text (He.free_ok X G (c.fact 8 (f := .free "str") rfl)) F hf), He.glo_ok X G (c.fact 40 (f := .glo "step_text") rfl), F.kp, (F.bindsN fun _ _ _ _ _ _ us hl => match us, hl with | [_], _ => rfl)⟩
theorem has_written {P : Program} {w : World} {K : PySem.W.Frag} {h : Heap} {mg : Str → Option Value} {base : Heap} {k : Nat} {g_Gate_boxes : Fn} {g_step_text : Fn} {g_Gate_hands : Fn} {fs : Fn} (X : K.In h) (G : h.Ns mainGlobals mg) (c : He.SaysD fa fn K) (h_Gate_boxes : HasM P w K mg base (He.ga K "Gate") "boxes" k ["self"] 0 g_Gate_boxes) (h_step_text : Has P w K mg base "step_text" k ["step"] 0 g_step_text) (h_Gate_hands : HasM P w K mg base (He.ga K "Gate") "hands" k ["self"] 0 g_Gate_hands) (hf : ∀ bs M, fs bs M = .stuck ∨ f_written K g_Gate_boxes g_step_text g_Gate_hands bs M = fs bs M) : Has P w K mg base "written" (k + 1) ["gate"] 0 fs := by
  obtain ⟨fd, F⟩ := c.def_ 18 (d := d_written) rfl
  exact ⟨_, fd, (ok_written (He.free_ok X G (c.fact 8 (f := .free "str") rfl)) h_Gate_boxes h_step_text h_Gate_hands F hf), He.glo_ok X G (c.fact 41 (f := .glo "written") rfl), F.kp, (F.bindsN fun _ _ _ _ _ _ us hl => match us, hl with | [_], _ => rfl)⟩
theorem has_number_of {P : Program} {w : World} {K : PySem.W.Frag} {h : Heap} {mg : Str → Option Value} {base : Heap} {k : Nat} {fs : Fn} (X : K.In h) (G : h.Ns mainGlobals mg) (c : He.SaysD fa fn K) (hf : ∀ bs M, fs bs M = .stuck ∨ f_number_of bs M = fs bs M) : Has P w K mg base "number_of" (k + 1) ["word", "at"] 0 fs := by
  obtain ⟨fd, F⟩ := c.def_ 19 (d := d_number_of) rfl
  exact ⟨_, fd, (ok_number_of (He.free_ok X G (c.fact 3 (f := .free "len") rfl)) (He.str_ok X G (c.fact 42 (f := .str "FIGURES" "0123456789") rfl)) (He.free_ok X G (c.fact 7 (f := .free "int") rfl)) F hf), He.glo_ok X G (c.fact 43 (f := .glo "number_of") rfl), F.kp, (F.bindsN fun _ _ _ _ _ _ us hl => match us, hl with | [_, _], _ => rfl)⟩
theorem has_numbers_of {P : Program} {w : World} {K : PySem.W.Frag} {h : Heap} {mg : Str → Option Value} {base : Heap} {k : Nat} {g_number_of : Fn} {fs : Fn} (X : K.In h) (G : h.Ns mainGlobals mg) (c : He.SaysD fa fn K) (h_number_of : Has P w K mg base "number_of" k ["word", "at"] 0 g_number_of) (hf : ∀ bs M, fs bs M = .stuck ∨ f_numbers_of g_number_of bs M = fs bs M) : Has P w K mg base "numbers_of" (k + 1) ["words", "at"] 0 fs := by
  obtain ⟨fd, F⟩ := c.def_ 20 (d := d_numbers_of) rfl
  exact ⟨_, fd, (ok_numbers_of h_number_of (He.free_ok X G (c.fact 10 (f := .free "tuple") rfl)) F hf), He.glo_ok X G (c.fact 44 (f := .glo "numbers_of") rfl), F.kp, (F.bindsN fun _ _ _ _ _ _ us hl => match us, hl with | [_, _], _ => rfl)⟩
theorem has_step_of {P : Program} {w : World} {K : PySem.W.Frag} {h : Heap} {mg : Str → Option Value} {base : Heap} {k : Nat} {g_numbers_of : Fn} {g_number_of : Fn} {fs : Fn} (X : K.In h) (G : h.Ns mainGlobals mg) (c : He.SaysD fa fn K) (h_numbers_of : Has P w K mg base "numbers_of" k ["words", "at"] 0 g_numbers_of) (h_number_of : Has P w K mg base "number_of" k ["word", "at"] 0 g_number_of) (hf : ∀ bs M, fs bs M = .stuck ∨ f_step_of g_numbers_of g_number_of bs M = fs bs M) : Has P w K mg base "step_of" (k + 1) ["words", "at"] 0 fs := by
  obtain ⟨fd, F⟩ := c.def_ 21 (d := d_step_of) rfl
  exact ⟨_, fd, (ok_step_of (He.free_ok X G (c.fact 3 (f := .free "len") rfl)) h_numbers_of h_number_of F hf), He.glo_ok X G (c.fact 45 (f := .glo "step_of") rfl), F.kp, (F.bindsN fun _ _ _ _ _ _ us hl => match us, hl with | [_, _], _ => rfl)⟩
theorem has_read {P : Program} {w : World} {K : PySem.W.Frag} {h : Heap} {mg : Str → Option Value} {base : Heap} {k : Nat} {g_numbers_of : Fn} {g_number_of : Fn} {g_step_of : Fn} {g_Gate : Fn} {fs : Fn} (X : K.In h) (G : h.Ns mainGlobals mg) (c : He.SaysD fa fn K) (h_numbers_of : Has P w K mg base "numbers_of" k ["words", "at"] 0 g_numbers_of) (h_number_of : Has P w K mg base "number_of" k ["word", "at"] 0 g_number_of) (h_step_of : Has P w K mg base "step_of" k ["words", "at"] 0 g_step_of) (h_Gate : HasK P w K mg base "Gate" (He.ga K "Gate") k ["self", "boxes", "hands"] g_Gate) (hf : ∀ bs M, fs bs M = .stuck ∨ f_read g_numbers_of g_number_of g_step_of K g_Gate bs M = fs bs M) : Has P w K mg base "read" (k + 2) ["text"] 0 fs := by
  obtain ⟨fd, F⟩ := c.def_ 22 (d := d_read) rfl
  exact ⟨_, fd, (ok_read (He.free_ok X G (c.fact 3 (f := .free "len") rfl)) h_numbers_of h_number_of h_step_of (He.free_ok X G (c.fact 12 (f := .free "range") rfl)) h_Gate F hf), He.glo_ok X G (c.fact 46 (f := .glo "read") rfl), F.kp, (F.bindsN fun _ _ _ _ _ _ us hl => match us, hl with | [_], _ => rfl)⟩
theorem has_law_made {P : Program} {w : World} {K : PySem.W.Frag} {h : Heap} {mg : Str → Option Value} {base : Heap} {k : Nat} {g_Gate : Fn} {fs : Fn} (X : K.In h) (G : h.Ns mainGlobals mg) (c : He.SaysD fa fn K) (h_Gate : HasK P w K mg base "Gate" (He.ga K "Gate") k ["self", "boxes", "hands"] g_Gate) (hf : ∀ bs M, fs bs M = .stuck ∨ f_law_made K g_Gate bs M = fs bs M) : Has P w K mg base "_law_made" (k + 2) ["_law_t"] 0 fs := by
  obtain ⟨fd, F⟩ := c.def_ 23 (d := d_law_made) rfl
  exact ⟨_, fd, (ok_law_made (He.free_ok X G (c.fact 11 (f := .free "list") rfl)) h_Gate F hf), He.glo_ok X G (c.fact 47 (f := .glo "_law_made") rfl), F.kp, (F.bindsN fun _ _ _ _ _ _ us hl => match us, hl with | [_], _ => rfl)⟩
theorem has_law_row {P : Program} {w : World} {K : PySem.W.Frag} {h : Heap} {mg : Str → Option Value} {base : Heap} {k : Nat} {fs : Fn} (X : K.In h) (G : h.Ns mainGlobals mg) (c : He.SaysD fa fn K) (hf : ∀ bs M, fs bs M = .stuck ∨ f_law_row bs M = fs bs M) : Has P w K mg base "_law_row" (k + 1) ["_law_step_here"] 0 fs := by
  obtain ⟨fd, F⟩ := c.def_ 24 (d := d_law_row) rfl
  exact ⟨_, fd, (ok_law_row (He.free_ok X G (c.fact 8 (f := .free "str") rfl)) F hf), He.glo_ok X G (c.fact 48 (f := .glo "_law_row") rfl), F.kp, (F.bindsN fun _ _ _ _ _ _ us hl => match us, hl with | [_], _ => rfl)⟩
theorem has_law_lines {P : Program} {w : World} {K : PySem.W.Frag} {h : Heap} {mg : Str → Option Value} {base : Heap} {k : Nat} {g_law_row : Fn} {fs : Fn} (X : K.In h) (G : h.Ns mainGlobals mg) (c : He.SaysD fa fn K) (h_law_row : Has P w K mg base "_law_row" k ["_law_step_here"] 0 g_law_row) (hf : ∀ bs M, fs bs M = .stuck ∨ f_law_lines g_law_row bs M = fs bs M) : Has P w K mg base "_law_lines" (k + 1) ["_law_t"] 0 fs := by
  obtain ⟨fd, F⟩ := c.def_ 25 (d := d_law_lines) rfl
  exact ⟨_, fd, (ok_law_lines (He.free_ok X G (c.fact 8 (f := .free "str") rfl)) h_law_row F hf), He.glo_ok X G (c.fact 49 (f := .glo "_law_lines") rfl), F.kp, (F.bindsN fun _ _ _ _ _ _ us hl => match us, hl with | [_], _ => rfl)⟩
theorem has_law_wide_gate {P : Program} {w : World} {K : PySem.W.Frag} {h : Heap} {mg : Str → Option Value} {base : Heap} {k : Nat} {g_law_off : Fn} {g_law_gate : Fn} {g_law_program : Fn} {fs : Fn} (X : K.In h) (G : h.Ns mainGlobals mg) (c : He.SaysD fa fn K) (h_law_off : Has P w K mg base "_law_off" k ["_law_d", "_law_most"] 1 g_law_off) (h_law_gate : Has P w K mg base "_law_gate" k ["_law_d"] 1 g_law_gate) (h_law_program : Has P w K mg base "_law_program" k ["_law_d", "_law_boxes", "_law_most"] 1 g_law_program) (hf : ∀ bs M, fs bs M = .stuck ∨ f_law_wide_gate g_law_off g_law_gate g_law_program bs M = fs bs M) : Has P w K mg base "_law_wide_gate" (k + 1) ["_law_d"] 1 fs := by
  obtain ⟨fd, F⟩ := c.def_ 26 (d := d_law_wide_gate) rfl
  exact ⟨_, fd, (ok_law_wide_gate h_law_off h_law_gate (He.free_ok X G (c.fact 12 (f := .free "range") rfl)) h_law_program F hf), He.glo_ok X G (c.fact 50 (f := .glo "_law_wide_gate") rfl), F.kp, (F.bindsN fun _ _ _ _ _ _ us hl => match us, hl with | [_], _ => rfl)⟩
theorem has_law {P : Program} {w : World} {K : PySem.W.Frag} {h : Heap} {mg : Str → Option Value} {base : Heap} {k : Nat} {g_law_dice : Fn} {g_law_wide_gate : Fn} {g_law_gate : Fn} {g_law_lines : Fn} {g_law_made : Fn} {g_written : Fn} {g_law_alike : Fn} {g_read : Fn} {g_Gate_boxes : Fn} {g_Gate_hands : Fn} {fs : Fn} (X : K.In h) (G : h.Ns mainGlobals mg) (c : He.SaysD fa fn K) (h_law_dice : Has P w K mg base "_law_dice" k ["_law_script", "_law_k"] 0 g_law_dice) (h_law_wide_gate : Has P w K mg base "_law_wide_gate" k ["_law_d"] 1 g_law_wide_gate) (h_law_gate : Has P w K mg base "_law_gate" k ["_law_d"] 1 g_law_gate) (h_law_lines : Has P w K mg base "_law_lines" k ["_law_t"] 0 g_law_lines) (h_law_made : Has P w K mg base "_law_made" k ["_law_t"] 0 g_law_made) (h_written : Has P w K mg base "written" k ["gate"] 0 g_written) (h_law_alike : Has P w K mg base "_law_alike" k ["_law_found", "_law_due"] 0 g_law_alike) (h_read : Has P w K mg base "read" k ["text"] 0 g_read) (h_Gate_boxes : HasM P w K mg base (He.ga K "Gate") "boxes" k ["self"] 0 g_Gate_boxes) (h_Gate_hands : HasM P w K mg base (He.ga K "Gate") "hands" k ["self"] 0 g_Gate_hands) (hf : ∀ bs M, fs bs M = .stuck ∨ f_law g_law_dice g_law_wide_gate g_law_gate g_law_lines g_law_made g_written g_law_alike g_read K g_Gate_boxes g_Gate_hands bs M = fs bs M) (e : mg "law" = some (.ref (He.ga K "law"))) : ∃ fd : FuncData, (∀ (s : Shared) (v : Value), BindsTo s fd ⟨[v], []⟩ [("_law_script", v)]) ∧ FnOk P w K mg base CX0 (k + 1) (He.ga K "law") fd ["_law_script"] (spF AX0 1 0 fs) := by
  obtain ⟨fd, F⟩ := c.def_ 27 (d := d_law) rfl
  exact ⟨fd, fun s v => FunD.bindsA (ps := ["_law_script"]) F (fun _ _ _ _ _ _ us hl => match us, hl with | [_], _ => rfl) s [v] rfl, (ok_law h_law_dice h_law_wide_gate h_law_gate h_law_lines h_law_made h_written h_law_alike h_read h_Gate_boxes h_Gate_hands F hf)⟩
/-! ### the head -/
abbrev R : PySem.W.OpenRow := PySem.W.OpenLaw.row PySem.Challenge.rw_gatehands_k18_whole_written_and_read
abbrev hk : PySem.W.Hook := He.hookD 4 fa fn
def ob (s : PySem.W.SharedT) : He.AlD := He.obsDG 4 fa fn (HandSHeadRun.getT s)
theorem ob_eq (s : PySem.W.SharedT) : ob s = hk.obs s.abs := He.obsDG_eq (HandSHeadRun.getT_eq s)
def loose : List Str := (["_wall", "__name__", "GateError", "BadGate", "BadText", "MOST_BOXES", "MOST_HANDS", "LEAST_STEPS", "MOST_STEPS", "MOST_NUMBER", "must", "is_rising", "Gate", "FIGURES", "step_text", "written", "number_of", "numbers_of", "step_of", "read", "_law_dice", "_law_off", "_law_alike", "_law_step", "_law_program", "_law_pair", "_law_bits", "_law_counter", "_law_gate", "_law_made"] : List Str) ++ (["_law_row", "_law_lines", "_law_wide_gate"] : List Str)
theorem run (w : World) : HandSHeadRun.RunEq R (PySem.W.view R.prog [36]) hk ob 6000 loose w := by
  intro os
  kernel_rfl
end Ab

/-! Promises: weaker room; the promise of nothing; the law's promise. -/
namespace Ab
open PySem PySem.Spec PyProof.Rows L2
section
variable {P : Program} {w : World} {K : PySem.W.Frag} {mg : Str → Option Value} {base : Heap}
theorem Has.mono {x : Str} {j k : Nat} {ps : List Str} {n : Nat} {fs : Fn} (h : Has P w K mg base x j ps n fs) (l : j ≤ k) : Has P w K mg base x k ps n fs := by
  obtain ⟨f, fd, F, r⟩ := h.ex
  exact ⟨f, fd, F.mono l, r⟩
theorem HasM.mono {C : Addr} {m : Str} {j k : Nat} {ps : List Str} {n : Nat} {fs : Fn} (h : HasM P w K mg base C m j ps n fs) (l : j ≤ k) : HasM P w K mg base C m k ps n fs := by
  obtain ⟨f, fd, F, r⟩ := h.ex
  exact ⟨f, fd, F.mono l, r⟩
theorem HasK.mono {x : Str} {C : Addr} {j k : Nat} {ps : List Str} {fs : Fn} (h : HasK P w K mg base x C j ps fs) (l : j ≤ k) : HasK P w K mg base x C k ps fs := by
  obtain ⟨f, fd, F, r⟩ := h.ex
  exact ⟨f, fd, F.mono l, r⟩
theorem fn_stuck {k ar n : Nat} {f : Addr} {fd : FuncData} {ps : List Str} (h : ps.length = ar) : FnOk P w K mg base CX0 k f fd ps (spF AX0 ar n fun _ _ => .stuck) :=
  ⟨fun vs H Q E q => q.1.trans h.symm, fun A outer s H args us vs Q E _ _ _ _ q => by
    obtain ⟨_, S, as, bs, M, _, _, _, q⟩ := q
    exact q.elim⟩
end
theorem spF_law {K : PySem.W.Frag} {H : Hp} {a : Addr} {ns : List Int} {f : Fn} (hf : f [.dat (.scr K ns)] [] = .ok (.dat (.bl true)) []) (hO : Only H) (hS : SqL K H a (ns.map V.int)) : spF AX0 1 0 f [.ref a] H (fun v _ => v = .bl true) fun _ _ _ => False := by
  have d : Den H (fun b => False ∨ some b ∈ ([] : As)) (.ref a) (.scr K ns) := by
    rcases hS with (h | ⟨o, h⟩) | lit
    · rcases hO a with q | ⟨o, xs, q⟩
      · rw [q] at h; cases h
      · rw [q] at h; cases h
    · exact .frz h (by simp)
    · exact .kls fun H' => Or.inr lit
  refine ⟨rfl, fun _ => False, [], [.dat (.scr K ns)], [], rfl, ⟨rfl, fun k c h => (by cases h), fun i j a h _ => (by cases h), fun a h => (by cases h), fun a h => (by cases h), fun a h => h.elim⟩, .cons d .nil, ?_⟩
  rw [hf]
  intro v as' H' c t n k r
  have r' : Den H' _ v (.bl true) := r
  cases r'
  rfl
end Ab

namespace Ab
open PySem PySem.Spec PyProof.Rows L2
noncomputable abbrev cl_law_dice (K : PySem.W.Frag) (w : World) : Fn := f_law_dice K
noncomputable abbrev cl_law_off (K : PySem.W.Frag) (w : World) : Fn := f_law_off
noncomputable abbrev cl_law_step (K : PySem.W.Frag) (w : World) : Fn := f_law_step (cl_law_off K w)
noncomputable abbrev cl_law_program (K : PySem.W.Frag) (w : World) : Fn := f_law_program (cl_law_off K w) (cl_law_step K w)
noncomputable abbrev cl_law_pair (K : PySem.W.Frag) (w : World) : Fn := f_law_pair
noncomputable abbrev cl_law_bits (K : PySem.W.Frag) (w : World) : Fn := f_law_bits
noncomputable abbrev cl_law_counter (K : PySem.W.Frag) (w : World) : Fn := f_law_counter
noncomputable abbrev cl_law_gate (K : PySem.W.Frag) (w : World) : Fn := f_law_gate (cl_law_off K w) (cl_law_counter K w) (cl_law_program K w) (cl_law_pair K w) (cl_law_bits K w) (cl_law_step K w)
noncomputable abbrev cl_must (K : PySem.W.Frag) (w : World) : Fn := f_must
noncomputable abbrev cl_is_rising (K : PySem.W.Frag) (w : World) : Fn := f_is_rising
noncomputable abbrev cl_Gate_is_step (K : PySem.W.Frag) (w : World) : Fn := f_Gate_is_step K (cl_is_rising K w)
noncomputable abbrev cl_Gate_need_hand (K : PySem.W.Frag) (w : World) : Fn := f_Gate_need_hand K (cl_must K w) (cl_Gate_is_step K w)
noncomputable abbrev cl_Gate_init (K : PySem.W.Frag) (w : World) : Fn := f_Gate_init (cl_must K w) K (cl_Gate_need_hand K w)
noncomputable abbrev cl_Gate_boxes (K : PySem.W.Frag) (w : World) : Fn := f_Gate_boxes K
noncomputable abbrev cl_Gate_hands (K : PySem.W.Frag) (w : World) : Fn := f_Gate_hands K
noncomputable abbrev cl_Gate_many (K : PySem.W.Frag) (w : World) : Fn := f_Gate_many K
noncomputable abbrev cl_step_text (K : PySem.W.Frag) (w : World) : Fn := f_step_text
noncomputable abbrev cl_written (K : PySem.W.Frag) (w : World) : Fn := f_written K (cl_Gate_boxes K w) (cl_step_text K w) (cl_Gate_hands K w)
noncomputable abbrev cl_number_of (K : PySem.W.Frag) (w : World) : Fn := f_number_of
noncomputable abbrev cl_numbers_of (K : PySem.W.Frag) (w : World) : Fn := f_numbers_of (cl_number_of K w)
noncomputable abbrev cl_step_of (K : PySem.W.Frag) (w : World) : Fn := f_step_of (cl_numbers_of K w) (cl_number_of K w)
noncomputable abbrev cl_read (K : PySem.W.Frag) (w : World) : Fn := f_read (cl_numbers_of K w) (cl_number_of K w) (cl_step_of K w) K (cl_Gate_init K w)
noncomputable abbrev cl_law_made (K : PySem.W.Frag) (w : World) : Fn := f_law_made K (cl_Gate_init K w)
noncomputable abbrev cl_law_row (K : PySem.W.Frag) (w : World) : Fn := f_law_row
noncomputable abbrev cl_law_lines (K : PySem.W.Frag) (w : World) : Fn := f_law_lines (cl_law_row K w)
noncomputable abbrev cl_law_wide_gate (K : PySem.W.Frag) (w : World) : Fn := f_law_wide_gate (cl_law_off K w) (cl_law_gate K w) (cl_law_program K w)
noncomputable abbrev cl_law (K : PySem.W.Frag) (w : World) : Fn := f_law (cl_law_dice K w) (cl_law_wide_gate K w) (cl_law_gate K w) (cl_law_lines K w) (cl_law_made K w) (cl_written K w) (F_alike 7) (cl_read K w) K (cl_Gate_boxes K w) (cl_Gate_hands K w)
theorem closed {P : Program} {w : World} {K : PySem.W.Frag} {h : Heap} {mg : Str → Option Value} {f : Addr} (X : K.In h) (G : h.Ns mainGlobals mg) (hfa : mg ("law" : Str) = some (.ref f)) (c : He.SaysD fa fn K) :
    ∃ fd : FuncData, (∀ (s : Shared) (v : Value), BindsTo s fd ⟨[v], []⟩ [("_law_script", v)]) ∧ ∀ base : Heap, FnOk P w K mg base CX0 8 f fd ["_law_script"] (spF AX0 1 0 (cl_law K w)) := by
  obtain ⟨fd, F⟩ := c.def_ 27 (d := d_law) rfl
  have e := hfa.symm.trans (He.glo_ok X G (c.fact 0 (f := .glo "law") rfl))
  cases e
  refine ⟨fd, fun s v => FunD.bindsA (ps := ["_law_script"]) F (fun _ _ _ _ _ _ us hl => match us, hl with | [_], _ => rfl) s [v] rfl, fun base => ?_⟩
  · skip
    have h_law_dice := has_law_dice (P := P) (w := w) (base := base) (k := 0) (fs := cl_law_dice K w) X G c (fun _ _ => .inr rfl)
    have h_law_off := has_law_off (P := P) (w := w) (base := base) (k := 0) (fs := cl_law_off K w) X G c (fun _ _ => .inr rfl)
    have h_law_alike_0 : Has P w K mg base "_law_alike" 0 ["_law_found", "_law_due"] 0 (F_alike 0) := by
      obtain ⟨fd, F⟩ := c.def_ 2 (d := d_law_alike) rfl
      exact ⟨_, fd, fn_stuck rfl, He.glo_ok X G (c.fact 14 (f := .glo "_law_alike") rfl), F.kp, (F.bindsN fun _ _ _ _ _ _ us hl => match us, hl with | [_, _], _ => rfl)⟩
    have h_law_alike_1 := has_law_alike (P := P) (w := w) (base := base) (k := 0) (fs := F_alike 1) X G c (h_law_alike_0.mono (by decide)) (fun _ _ => .inr rfl)
    have h_law_alike_2 := has_law_alike (P := P) (w := w) (base := base) (k := 1) (fs := F_alike 2) X G c (h_law_alike_1.mono (by decide)) (fun _ _ => .inr rfl)
    have h_law_alike_3 := has_law_alike (P := P) (w := w) (base := base) (k := 2) (fs := F_alike 3) X G c (h_law_alike_2.mono (by decide)) (fun _ _ => .inr rfl)
    have h_law_alike_4 := has_law_alike (P := P) (w := w) (base := base) (k := 3) (fs := F_alike 4) X G c (h_law_alike_3.mono (by decide)) (fun _ _ => .inr rfl)
    have h_law_alike_5 := has_law_alike (P := P) (w := w) (base := base) (k := 4) (fs := F_alike 5) X G c (h_law_alike_4.mono (by decide)) (fun _ _ => .inr rfl)
    have h_law_alike_6 := has_law_alike (P := P) (w := w) (base := base) (k := 5) (fs := F_alike 6) X G c (h_law_alike_5.mono (by decide)) (fun _ _ => .inr rfl)
    have h_law_alike_7 := has_law_alike (P := P) (w := w) (base := base) (k := 6) (fs := F_alike 7) X G c (h_law_alike_6.mono (by decide)) (fun _ _ => .inr rfl)
    have h_law_alike := h_law_alike_7
    have h_law_step := has_law_step (P := P) (w := w) (base := base) (k := 1) (fs := cl_law_step K w) X G c (h_law_off.mono (by decide)) (fun _ _ => .inr rfl)
    have h_law_program := has_law_program (P := P) (w := w) (base := base) (k := 2) (fs := cl_law_program K w) X G c (h_law_off.mono (by decide)) (h_law_step.mono (by decide)) (fun _ _ => .inr rfl)
    have h_law_pair := has_law_pair (P := P) (w := w) (base := base) (k := 0) (fs := cl_law_pair K w) X G c (fun _ _ => .inr rfl)
    have h_law_bits := has_law_bits (P := P) (w := w) (base := base) (k := 0) (fs := cl_law_bits K w) X G c (fun _ _ => .inr rfl)
    have h_law_counter := has_law_counter (P := P) (w := w) (base := base) (k := 0) (fs := cl_law_counter K w) X G c (fun _ _ => .inr rfl)
    have h_law_gate := has_law_gate (P := P) (w := w) (base := base) (k := 3) (fs := cl_law_gate K w) X G c (h_law_off.mono (by decide)) (h_law_counter.mono (by decide)) (h_law_program.mono (by decide)) (h_law_pair.mono (by decide)) (h_law_bits.mono (by decide)) (h_law_step.mono (by decide)) (fun _ _ => .inr rfl)
    have h_must := has_must (P := P) (w := w) (base := base) (k := 0) (fs := cl_must K w) X G c (fun _ _ => .inr rfl)
    have h_is_rising := has_is_rising (P := P) (w := w) (base := base) (k := 0) (fs := cl_is_rising K w) X G c (fun _ _ => .inr rfl)
    have h_Gate_is_step := has_Gate_is_step (P := P) (w := w) (base := base) (k := 1) (fs := cl_Gate_is_step K w) X G c (h_is_rising.mono (by decide)) (fun _ _ => .inr rfl)
    have h_Gate_need_hand := has_Gate_need_hand (P := P) (w := w) (base := base) (k := 2) (fs := cl_Gate_need_hand K w) X G c (h_must.mono (by decide)) (h_Gate_is_step.mono (by decide)) (fun _ _ => .inr rfl)
    have h_Gate_init := has_Gate_init (P := P) (w := w) (base := base) (k := 3) (fs := cl_Gate_init K w) X G c (h_must.mono (by decide)) (h_Gate_need_hand.mono (by decide)) (fun _ _ => .inr rfl)
    have h_Gate_boxes := has_Gate_boxes (P := P) (w := w) (base := base) (k := 0) (fs := cl_Gate_boxes K w) X G c (fun _ _ => .inr rfl)
    have h_Gate_hands := has_Gate_hands (P := P) (w := w) (base := base) (k := 0) (fs := cl_Gate_hands K w) X G c (fun _ _ => .inr rfl)
    have h_Gate_many := has_Gate_many (P := P) (w := w) (base := base) (k := 0) (fs := cl_Gate_many K w) X G c (fun _ _ => .inr rfl)
    have h_step_text := has_step_text (P := P) (w := w) (base := base) (k := 0) (fs := cl_step_text K w) X G c (fun _ _ => .inr rfl)
    have h_written := has_written (P := P) (w := w) (base := base) (k := 1) (fs := cl_written K w) X G c (h_Gate_boxes.mono (by decide)) (h_step_text.mono (by decide)) (h_Gate_hands.mono (by decide)) (fun _ _ => .inr rfl)
    have h_number_of := has_number_of (P := P) (w := w) (base := base) (k := 0) (fs := cl_number_of K w) X G c (fun _ _ => .inr rfl)
    have h_numbers_of := has_numbers_of (P := P) (w := w) (base := base) (k := 1) (fs := cl_numbers_of K w) X G c (h_number_of.mono (by decide)) (fun _ _ => .inr rfl)
    have h_step_of := has_step_of (P := P) (w := w) (base := base) (k := 2) (fs := cl_step_of K w) X G c (h_numbers_of.mono (by decide)) (h_number_of.mono (by decide)) (fun _ _ => .inr rfl)
    have h_read := has_read (P := P) (w := w) (base := base) (k := 4) (fs := cl_read K w) X G c (h_numbers_of.mono (by decide)) (h_number_of.mono (by decide)) (h_step_of.mono (by decide)) (h_Gate_init.mono (by decide)) (fun _ _ => .inr rfl)
    have h_law_made := has_law_made (P := P) (w := w) (base := base) (k := 4) (fs := cl_law_made K w) X G c (h_Gate_init.mono (by decide)) (fun _ _ => .inr rfl)
    have h_law_row := has_law_row (P := P) (w := w) (base := base) (k := 0) (fs := cl_law_row K w) X G c (fun _ _ => .inr rfl)
    have h_law_lines := has_law_lines (P := P) (w := w) (base := base) (k := 1) (fs := cl_law_lines K w) X G c (h_law_row.mono (by decide)) (fun _ _ => .inr rfl)
    have h_law_wide_gate := has_law_wide_gate (P := P) (w := w) (base := base) (k := 4) (fs := cl_law_wide_gate K w) X G c (h_law_off.mono (by decide)) (h_law_gate.mono (by decide)) (h_law_program.mono (by decide)) (fun _ _ => .inr rfl)
    exact ok_law (k := 7) (fs := cl_law K w) (h_law_dice.mono (by decide)) (h_law_wide_gate.mono (by decide)) (h_law_gate.mono (by decide)) (h_law_lines.mono (by decide)) (h_law_made.mono (by decide)) (h_written.mono (by decide)) (h_law_alike.mono (by decide)) (h_read.mono (by decide)) (h_Gate_boxes.mono (by decide)) (h_Gate_hands.mono (by decide)) F (fun _ _ => .inr rfl)
end Ab
open PySem PySem.W PySem.Calls PyProof.Rows
theorem PySem.Challenge.cw_gatehands_k18_whole_written_and_read_holds : PySem.Challenge.rw_gatehands_k18_whole_written_and_read.Holds := by
  w_on; o_law
  refine HandSHeadRun.head_any (r := OpenLaw.row PySem.Challenge.rw_gatehands_k18_whole_written_and_read) (q := view (OpenLaw.row PySem.Challenge.rw_gatehands_k18_whole_written_and_read).prog [36]) (H := Ab.hk) (ob := Ab.ob) (M := 6000) (loose := Ab.loose) (d := HandSHeadRun.topDef (OpenLaw.row PySem.Challenge.rw_gatehands_k18_whole_written_and_read).prog 36) (kwd := []) Ab.ob_eq
    (by kernel_rfl) (fun s => by kernel_rfl) Ab.run (by kernel_rfl) (by kernel_rfl) (by kernel_rfl) (by rfl) (by first | assumption | decide +kernel) (by decide +kernel) ⟨rfl, rfl, rfl, rfl, rfl, by decide +kernel⟩ ?hw ?hc
  case hw => w_witness2
  case hc =>
    refine L2.walk_ofE (l := PySem.Challenge.rw_gatehands_k18_whole_written_and_read) (n := 63) (k := 8) (x := "_law_script") (CX := L2.CX0) rfl (by decide) (by kernel_rfl) ⟨rfl, by decide, by decide⟩ ?F (fun _ _ _ _ z => z)
    intro w mg fa h Y G hmg0
    obtain ⟨K, KX, cx⟩ := Y
    have c := cx
    have hmg : mg ("law" : PySem.Str) = some (.ref fa) := by
      have e : (HandSHeadRun.topDef (OpenLaw.row PySem.Challenge.rw_gatehands_k18_whole_written_and_read).prog 36).name = ("law" : PySem.Str) := by kernel_rfl
      rw [← e]
      exact hmg0
    obtain ⟨fd, hb, hF⟩ := Ab.closed (P := (PySem.Challenge.rw_gatehands_k18_whole_written_and_read).prog) (w := w) KX G hmg c
    exact ⟨K, fd, _, KX, hb, fun H a ns hl hO hS => Ab.spF_law (Ab.e_law K w ns hl) hO hS, fun base _ _ => hF base⟩

